import PyProof.Rows.All
import Wide.All
import OpenK.AllK
import Wide.FinOn
import HandS.ForMost
import PyProof.ReprReads
import PyProof.ReprRoads
import HandS.ExcInit
import KE.KExcSuper
import HandS.Words
import KE.GoesEnum
import KE.GoesMore
import HandS.Property
import HandS.IsInst
import HandS.FStr
import KE.KOpsOwn
import OpenK.KMeth
import PyProof.InstNe
import HandS.Codes
import HandS.DictComp
import HandS.Conv
import HandS.TupLen
import HandS.More
import HandS.Flow
import HandS.Defaults
import HandS.Zip
import PyProof.Rows.RegFStrParts
import HandS.Exc
import HandS.ExcOwn
import HandS.ExcIs
import HandS.WordsExc
import KE.KExcIs
import HandS.ExcField
import HandS.ExcValue
import HandS.ListEq
import HandS.Dict
import PyProof.ReprBulk
import PyProof.StrLawsRepr
import PyProof.EqAt
import PyProof.NeKinds
import PyProof.ListStr
import PyProof.StrBlock2
import HandS.Set
import HandS.SetTxt0
import HandS.SetTxtIn
import PyProof.StrWalks
import PySem.Challenge.RW_builttexts_k11_errors_and_kinds
import HandS.Walk
import HandS.Style
import KE.KDictKeyed
set_option Elab.async false
set_option linter.all false
set_option maxRecDepth 100000
set_option maxHeartbeats 16000000
/-! repr of data, and defs that are called where no repr runs (guards told as empty) -/
namespace Rg
open PySem PySem.Spec PyProof.Rows L2

/-- a promise of a def for callers around whom no repr is under way -/
structure GFn (P : Program) (w : World) (K : PySem.W.Frag) (mg : Str → Option Value) (base : Heap)
    (CX : CXT) (k : Nat) (f : Addr) (fd : FuncData) (ps : List Str) (sp : Sp) : Prop where
  len : ∀ vs H Q E, sp vs H Q E → vs.length = ps.length
  run : ∀ (A : Around) (outer : List Env) (s : Shared) (H : Hp) (args : Args) (us : List Value) (vs : List V)
    (Q : VK) (E : XK), Room k A → A.guards = some [] → Env0 P w K mg base A outer s H →
    BindsTo s fd args (ps.zip us) → Vals vs us → sp vs H Q E →
    codeAny (model P w) A (.call (.ref f) args) (CR CX outer P w H s Q E) s

section
variable {P : Program} {w : World} {K : PySem.W.Frag} {mg : Str → Option Value} {base : Heap} {CX : CXT}
  {k : Nat} {f : Addr} {fd : FuncData} {ps : List Str} {sp : Sp}

theorem gfn_of_fnOk (F : FnOk P w K mg base CX k f fd ps sp) : GFn P w K mg base CX k f fd ps sp :=
  ⟨F.len, fun A outer s H args us vs Q E hr _ e0 hb r q => F.run A outer s H args us vs Q E hr e0 hb r q⟩

theorem deeper_guards {A : Around} (env : Env) (h : A.guards = some []) : (A.deeper env).guards = some [] := h

theorem gfn_of {name qual : Str} {params : Arguments} {body : List Stmt} {scope : Scope}
    {dV kV doc pm cdv ct oc : Value} {an od : Option Addr} {osl : Array (Option Value)} {N : List Str}
    (lk : K.lookup f = some ⟨oc, od, .func (PySem.W.fnOf name qual params body scope dV kV doc pm an cdv ct), osl⟩)
    (hcd : PySem.W.codeIn K cdv qual = true) (S : FnScope N ps scope)
    (len : ∀ vs H Q E, sp vs H Q E → vs.length = ps.length)
    (hbody : ∀ (A : Around) (outer : List Env) (s : Shared) (H : Hp) (vs : List V) (Q : VK) (E : XK),
      Room k (A.deeper (envOfC qual scope s.heap.objs.size f cdv)) →
      (A.deeper (envOfC qual scope s.heap.objs.size f cdv)).guards = some [] → sp vs H Q E →
      ∃ t, PSs (cxOf CX P w K mg base N qual scope f cdv A outer s H E) body t ∧
        t { nx := fun _ H' => Q .non H', rt := Q } (start N vs) H) :
    GFn P w K mg base CX (k + 1) f (PySem.W.fnOf name qual params body scope dV kV doc pm an cdv ct) ps sp := by
  refine ⟨len, ?_⟩
  intro A outer s H args us vs Q E hr hg e0 hb r hsp
  have hlen := len _ _ _ _ hsp
  have kin : K.In s.heap := e0.mod.kin.keeps (fun b o e => (e0.bs b o e).1)
  have nolim : s.heap.NoLimit := e0.mod.nolimit.keeps (fun b o e => (e0.bs b o e).1)
  have kinds : ∀ y ∈ ps.zip us, scope.names.lookup y.1 = some .local ∨
      (scope.names.lookup y.1 = some .cell ∧
        ((cellsFrom (s.heap.objs.size + 1) scope.names []).lookup y.1).isSome = true) := by
    rintro ⟨n, v⟩ hy
    rcases S.par n (List.of_mem_zip hy).1 with z | z
    · exact .inl z
    · exact .inr ⟨z, PySem.W.cellsFrom_some _ _ _ (.inl z)⟩
  refine codeAny_call_function hr.depth (kin _ _ lk) rfl S.co S.gen rfl
    (PySem.W.codeRec_of kin hcd) (hb _ _ _ _ ?_)
  refine wpAny_newFunctionEnv_cells S.kind kinds ?_
  intro env he s1 x
  subst he
  refine ⟨nolim.keeps x.toInCall.keep, codeAny_func ?_⟩
  obtain ⟨t, ht, hq⟩ := hbody A outer s H vs Q E (hr.deeper _) (deeper_guards _ hg) hsp
  have I0 : Inv (cxOf CX P w K mg base N qual scope f cdv A outer s H E) [] (start N vs) H s1 :=
    inv_start S hr.hd e0 hlen r x
  refine wpAny_mono (ht.run [] s1 (start N vs) H _ I0 hq) ?_ (fun _ _ z => z)
  intro fl s' hs
  cases fl with
  | ret u =>
    obtain ⟨v, σ', H', J, rv, q⟩ := hs
    exact ⟨v, H', J.os, J.bare, J.base, J.hok, rv, q⟩
  | next =>
    obtain ⟨σ', H', J, q⟩ := hs
    exact ⟨V.non, H', J.os, J.bare, J.base, J.hok, rfl, q⟩
  | brk =>
    obtain ⟨_, _, _, q⟩ := hs
    exact q.elim
  | cont =>
    obtain ⟨_, _, _, q⟩ := hs
    exact q.elim

/-- the body's walk of a def of the text, nothing raised -/
theorem fun_okG {x qual : Str} {st : Stmt} {N : List Str} (F : Fun K x qual st f fd)
    (S : FnScope N ps (defScope st)) (len : ∀ vs H Q E, sp vs H Q E → vs.length = ps.length)
    (hbody : ∀ (cdv : Value) (A : Around) (outer : List Env) (s : Shared) (H : Hp) (vs : List V) (Q : VK) (E : XK),
      Room k (A.deeper (envOfC qual (defScope st) s.heap.objs.size f cdv)) →
      (A.deeper (envOfC qual (defScope st) s.heap.objs.size f cdv)).guards = some [] → sp vs H Q E →
      ∃ t, PSs (cxOf CX0 P w K mg base N qual (defScope st) f cdv A outer s H E).nox (defBody st) t ∧
        t { nx := fun _ H' => Q .non H', rt := Q } (start N vs) H) :
    GFn P w K mg base CX0 (k + 1) f fd ps sp := by
  obtain ⟨oc, od, kV, doc, pm, an, cdv, ct, osl, rfl, lk, hcd⟩ := F.ex
  refine gfn_of lk hcd S len ?_
  intro A outer s H vs Q E hr hg hsp
  obtain ⟨t, h, q⟩ := hbody cdv A outer s H vs Q E hr hg hsp
  exact ⟨t, h.nox, q⟩
end

section
variable {X : Cx} {CX : CXT} {k : Nat} {f : Addr} {fd : FuncData} {ps : List Str} {sp : Sp} {dvs : List V}
  {ds : List Value} {E : XK} {x : Str} {p pos : Pos} {e : Expr} {es : List Expr} {t : TA}

theorem run_gfn {pins : List (Addr × Obj)} {σ : L2.St} {H : Hp} {s : Shared} {Q : VK} {us : List Value} {vs : List V}
    (F : GFn X.prog X.w X.K X.mg X.base CX k f fd ps sp) (hr : Room k X.A) (hg : X.A.guards = some [])
    (hb : Binds X.K fd ps ds) (hd : Vals dvs ds) (hx : Passes CX X E)
    (I : Inv X pins σ H s) (r : Vals vs us) (h : sp (vs ++ dvs) H Q E) :
    wpAny (model X.prog X.w) X.A (call (.ref f) us) (EP X pins σ Q) X.xe s := by
  have rr : Vals (vs ++ dvs) (us ++ ds) := r.append hd
  have hl : (us ++ ds).length = ps.length := by
    rw [← rr.length]
    exact F.len _ _ _ _ h
  refine wpAny_call (codeAny_mono (F.run X.A X.stack s H ⟨us, []⟩ (us ++ ds) (vs ++ dvs) Q E hr hg I.env0
    (hb s us I.kIn hl) rr h) ?_)
  intro r s' hq
  cases r with
  | error z => exact hx pins σ H s z s' I hq
  | ok fl =>
    cases fl with
    | ret u => exact I.after hq
    | next => exact hq.elim
    | brk => exact hq.elim
    | cont => exact hq.elim

theorem pe_callG (F : GFn X.prog X.w X.K X.mg X.base CX k f fd ps sp) (hr : Room k X.A)
    (hgu : X.A.guards = some []) (hg : Gl X x) (hm : X.mg x = some (.ref f))
    (hk : PySem.W.keepIn X.K (.ref f) = true) (hb : Binds X.K fd ps ds) (hd : Vals dvs ds) (hx : Passes CX X E)
    (ha : PA X (e :: es) t) (hdb : (x == ("__debug__" : Str)) = false := by decide)
    (he : starEach (e :: es) X.env = (false, eval e X.env) :: starEach es X.env := by rfl)
    (hpl : (backTo pos (starEach es X.env)).any (·.1) = false := by rfl) :
    PE X (.Call (.Name x p) (e :: es) [] pos) (tCall sp dvs E t) := by
  refine ⟨?_⟩
  intro pins s σ H Q I h
  refine wpAny_Call_Name_kw (ld_glob I hg hm ?_ hdb)
  refine PySem.W.callWith_K (h₀ := X.base) I.ok.mod.kin hk (thn (ha.run pos pins s σ H _ I h) ?_) he hpl
  rintro us s1 ⟨vs, H1, I1, r, q⟩
  exact ⟨I1.kIn, run_gfn F hr hgu hb hd hx I1 r q⟩
end

/-! ### the law's end with guards -/
theorem law_callG {P : Program} {w : World} {K : PySem.W.Frag} {mg mb : Str → Option Value} {CX : CXT} {k : Nat}
    {fa a : Addr} {fd : FuncData} {x : Str} {sp : Sp} {s1 : Shared} {vs : List Value} {ns : List Int}
    (KX : K.In s1.heap) (hns : s1.heap.Ns mainGlobals mg) (hb : s1.heap.Ns builtinsNs mb)
    (hbb : ∀ x : Str, x ≠ "__name__" → mb x = bootBuiltins x) (hlim : s1.heap.NoLimit) (hg : s1.gens = #[])
    (ha : s1.heap.get? a = some { cls := .type "list", data := .seq vs.toArray }) (hi : IntsAre vs ns)
    (hl : ns.length ≤ sizeLine) (hr : Room k callerA)
    (F : ∀ base : Heap, K.In base → base.Ns mainGlobals mg → GFn P w K mg base CX k fa fd [x] sp)
    (hbind : ∀ (s : Shared) (u : Value), BindsTo s fd ⟨[u], []⟩ [(x, u)])
    (hsp : ∀ H : Hp, Only H → SqL K H a (ns.map V.int) → sp [.ref a] H (fun v _ => v = .bl true) fun _ _ _ => False)
    (hCX : ∀ H e s', CX [] H s1 (fun _ _ _ => False) e s' → False) :
    codeAny (model P w) callerA (.call (.ref fa) ⟨[.ref a], []⟩)
      (fun r s' => r = .ok (.ret (.bool true)) ∧ OldK s1.heap s'.heap ∧ s'.os = s1.os ∧ AllBare s'.gens) s1 := by
  have rv := vals_ints hi
  have lenV := hi.length
  have core : ∀ H : Hp, Only H → SqL K H a (ns.map V.int) → HOk P w H s1.heap → (∀ b, H b ≠ none → b = a) →
      (H a ≠ none → K.lookup a = none) →
      codeAny (model P w) callerA (.call (.ref fa) ⟨[.ref a], []⟩)
        (fun r s' => r = .ok (.ret (.bool true)) ∧ OldK s1.heap s'.heap ∧ s'.os = s1.os ∧ AllBare s'.gens) s1 := by
    intro H hO hS hok hA hK
    have noA : ∀ {b : Addr} {o : Obj} {es : Array DictEntry} {ep : Nat}, s1.heap.get? b = some o →
        o.data = .dict es ep → H b = none := by
      intro b o es ep e d
      cases q : H b with
      | none => rfl
      | some u =>
        have e' : b = a := hA b (by rw [q]; simp)
        subst e'
        rw [ha] at e
        cases e
        exact absurd d (by simp)
    have nsK : ∀ {b : Addr} {m : Str → Option Value}, s1.heap.Ns b m → (hidT s1.heap H).Ns b m := by
      rintro b m ⟨o, es, ep, e, d, r⟩
      exact ⟨o, es, ep, hidT_get e (noA e d), d, r⟩
    have hKb : K.In (hidT s1.heap H) := by
      intro b o e
      refine hidT_get (KX b o e) ?_
      cases q : H b with
      | none => rfl
      | some u =>
        have e' : b = a := hA b (by rw [q]; simp)
        subst e'
        rw [hK (by rw [q]; simp)] at e
        cases e
    have hM : Mod K mg (hidT s1.heap H) := by
      obtain ⟨mc, h1, h2⟩ := hlim
      exact ⟨hKb, nsK hns, ⟨mb, nsK hb, hbb⟩, ⟨mc, nsK h1, h2⟩⟩
    have e0 : Env0 P w K mg (hidT s1.heap H) callerA [] s1 H := by
      refine ⟨rfl, hM, fun b o e => of_hidT e, Nat.le_of_eq (hidT_size _ _), trivial, ?_, hok, .of_eq hg⟩
      intro b hb'
      have hb2 : b ∈ ([] : List Addr) := hb'
      cases hb2
    refine codeAny_mono ((F _ hKb (nsK hns)).run callerA [] s1 H ⟨[.ref a], []⟩ [.ref a] [.ref a] _ _ hr rfl e0
      (hbind s1 (.ref a)) (.cons rfl .nil) (hsp H hO hS)) ?_
    intro r s' h
    cases r with
    | error e => exact (hCX H e s' h).elim
    | ok fl =>
      cases fl with
      | next => exact h.elim
      | brk => exact h.elim
      | cont => exact h.elim
      | ret u =>
        obtain ⟨v, H', os, bare, un, hok', r', q⟩ := h
        have q' : v = .bl true := q
        subst q'
        obtain rfl : u = Value.bool true := r'
        refine ⟨rfl, OldK.of_keep ?_, os, bare⟩
        intro b o e
        cases q : H b with
        | none =>
          refine un.keep b o e q ?_ (by simp)
          intro z
          have z2 : b ∈ ([] : List Addr) := z
          cases z2
        | some u =>
          rcases hO b with z | ⟨ob, xs, z⟩
          · rw [q] at z
            cases z
          · have e1 := (hok b _ z).1
            have e2 := (hok' b _ (un.frzs b ob _ z)).1
            rw [e] at e1
            cases e1
            exact e2
  cases hk : K.lookup a with
  | some o =>
    have e := KX a o hk
    rw [ha] at e
    cases e
    refine core (fun _ => none) (fun _ => .inl rfl) (.inr ⟨_, vs.toArray, _, hk, rfl, rfl, rfl, ?_, by simpa using rv⟩)
      ?_ (fun b z => absurd rfl z) (fun z => absurd rfl z)
    · rw [List.size_toArray, lenV]
      exact hl
    · intro b u z
      have z' : (none : Option HO) = some u := z
      cases z'
  | none =>
    refine core (fun b => if b = a then some (.frz { cls := .type "list", data := .seq vs.toArray } (.lst (ns.map V.int))) else none)
      ?_ (.inl (.inr ⟨{ cls := .type "list", data := .seq vs.toArray }, if_pos rfl⟩)) ?_ ?_ (fun _ => hk)
    · intro b
      by_cases hba : b = a
      · exact .inr ⟨_, _, if_pos hba⟩
      · exact .inl (if_neg hba)
    · intro b u z
      by_cases hba : b = a
      · have z' := (if_pos hba).symm.trans z
        cases z'
        subst hba
        refine ⟨ha, ?_, vs, _, rv, ha⟩
        rw [List.length_map]
        exact hl
      · have z' := (if_neg hba).symm.trans z
        cases z'
    · intro b z
      by_cases hba : b = a
      · exact hba
      · exact absurd (if_neg hba) z

theorem walk_ofG {l : PySem.W.OpenLaw} {n k : Nat} {q : Program} {loose : List Str}
    {XP : (Str → Option Value) → Heap → Prop} {YP : World → Heap → Prop} {d : DefRec} {K : Params → PySem.W.Frag}
    {CX : World → CXT} {sp : World → Sp} {x : Str}
    (hn : l.most = some n) (hn2 : n ≤ sizeLine) (hdf : d.params.defaults = []) (hr : Room k callerA)
    (hY : ∀ (w : World) (h : Heap), YP w h → (K w.params).In h)
    (F : ∀ (w : World) (mg : Str → Option Value) (fa : Addr) (h : Heap), (K w.params).In h →
      h.Ns mainGlobals mg → mg d.name = some (.ref fa) →
      ∃ fd : FuncData, (∀ (s : Shared) (u : Value), BindsTo s fd ⟨[u], []⟩ [(x, u)]) ∧
        ∀ base : Heap, (K w.params).In base → base.Ns mainGlobals mg →
          GFn l.prog w (K w.params) mg base (CX w) k fa fd [x] (sp w))
    (hsp : ∀ (w : World) (H : Hp) (a : Addr) (ns : List Int), ns.length ≤ n → Only H →
      SqL (K w.params) H a (ns.map V.int) → sp w [.ref a] H (fun v _ => v = .bl true) fun _ _ _ => False)
    (hCX : ∀ (w : World) (H : Hp) (s : Shared) (e : Value) (s' : Shared), CX w [] H s (fun _ _ _ => False) e s' → False) :
    PySem.W.WalkO q loose XP YP l.row.toRowW d [] (fun f vs => PySem.call f vs) := by
  refine Att.attach_call hn hdf ?_
  intro w s0 s1 mg mb fa o pm cd doc a vs ns G Y ho hd hcd hmg hobj hints hlen hg
  have KX := hY w _ Y
  obtain ⟨fd, hb, hF⟩ := F w mg fa _ KX G.T.g hmg
  exact law_callG KX G.T.g G.T.b G.T.builtins G.T.nolimit hg hobj hints (Nat.le_trans hlen hn2) hr hF hb
    (fun H hO hS => hsp w H a ns hlen hO hS) (fun H e s' => hCX w H s1 e s')

/-! ### repr -/
section
variable {X : Cx}
theorem call_repr_str : CallR X (.builtin "repr")
    (fun xs H Q => ∃ z, xs = [.str z] ∧ (reprText z).length ≤ sizeLine ∧ Q (.str (reprText z)) H) := by
  intro pins s σ H xs us Q I r h
  obtain ⟨z, rfl, hz, q⟩ := h
  obtain ⟨u, rfl, t, rfl⟩ := vals1 r
  exact PySem.P.repr_of_str ⟨.str _, H, I.tok _, ⟨_, rfl⟩, q⟩ hz

/-- repr of a list or a tuple of data without dicts -/
theorem call_repr_data (hg : X.A.guards = some []) (hu : X.A.units + 64 < cLine) : CallR X (.builtin "repr")
    (fun xs H Q => ∃ (a : Addr) (d : PyData), xs = [.ref a] ∧ Dp X.K H (.ref a) d ∧ d.showable = true ∧
      d.hasDict = false ∧ d.depth ≤ 60 ∧ d.shown.length ≤ sizeLine ∧ Q (.str d.shown) H) := by
  intro pins s σ H xs us Q I r h
  obtain ⟨a, d, rfl, hd, hs, hnd, hdp, hz, q⟩ := h
  obtain ⟨u, rfl, ru⟩ := vals1 r
  obtain rfl : u = Value.ref a := ru
  obtain ⟨as, rd⟩ := Dp.reads I d _ _ hd rfl
  refine repr_of_reads' rd hs (fun z => ?_) hg ?_ (fun _ _ e => e) (fun h' u tk hk => ?_) hz
  · rw [hnd] at z
    cases z
  · omega
  · exact ⟨.str _, H, I.kept hk, ⟨_, rfl⟩, q⟩
end
end Rg

/-! own errors whose __init__ says super().__init__(..) : the context of a def with the class's cell -/
namespace Rg
open PySem PySem.Spec PyProof.Rows L2
def cxS (P : Program) (w : World) (K : PySem.W.Frag) (mg : Str → Option Value) (base : Heap) (N : List Str) (qual : Str) (scope : Scope) (f : Addr) (cd : Value) (cc : Addr) (A : Around) (outer : List Env) (s : Shared) (H : Hp) : Cx where
  prog := P
  w := w
  K := K
  mg := mg
  base := base
  A := A.deeper (PySem.W.ksEnv qual scope s.heap.objs.size f cd cc)
  N := N
  s_0 := s
  H_0 := H
  env := PySem.W.ksEnv qual scope s.heap.objs.size f cd cc
  outer := outer
  stack := PySem.W.ksEnv qual scope s.heap.objs.size f cd cc :: outer
  ex := []
  calm := true
  fn := fun _ => false
  pn := []
  xe := fun _ _ => False
structure SuScope (N ps : List Str) (sc : Scope) : Prop where
  kind : sc.kind = .function
  co : sc.isCoroutine = false
  gen : sc.isGenerator = false
  nd : N.Nodup
  pre : N.take ps.length = ps
  par : ∀ x ∈ ps, sc.names.lookup x = some .local
  nocell : ∀ y ∈ sc.names, y.2 ≠ .cell
  free : ∀ y ∈ sc.names, y.2 = .free → y.1 = "__class__"
  cls : sc.names.lookup ("__class__" : Str) = some .free
  sup : sc.names.lookup ("super" : Str) = some .globalImplicit
theorem one_lookup {k x : Str} {c0 c : Addr} (h : [(k, c0)].lookup x = some c) : x = k ∧ c = c0 := by
  unfold List.lookup at h
  split at h
  · rename_i e
    cases h
    exact ⟨(beq_iff_eq.mp e), rfl⟩
  · cases h
theorem lookup_nd {α β : Type} [BEq α] [LawfulBEq α] {k : α} {v : β} : ∀ {l : List (α × β)}, (l.map Prod.fst).Nodup → (k, v) ∈ l → l.lookup k = some v
  | [], _, h => by cases h
  | (a, b) :: l, nd, h => by
    rw [List.map_cons, List.nodup_cons] at nd
    rcases List.mem_cons.mp h with z | z
    · injection z with z1 z2
      subst z1 z2
      rw [List.lookup_cons, beq_self_eq_true]
    · have hne : (k == a) = false := by
        rw [beq_eq_false_iff_ne]
        rintro rfl
        exact nd.1 (List.mem_map.mpr ⟨_, z, rfl⟩)
      rw [List.lookup_cons, hne]
      exact lookup_nd nd.2 z
theorem zip_look {ps : List Str} {us : List Value} {i : Nat} {x : Str} {u : Value} (nd : ps.Nodup) (hl : ps.length ≤ us.length) (h1 : ps[i]? = some x) (h2 : us[i]? = some u) : (ps.zip us).reverse.lookup x = some u := by
  refine lookup_nd ?_ ?_
  · rw [List.map_reverse, List.map_fst_zip hl]
    exact (List.reverse_perm _).nodup_iff.mpr nd
  · rw [List.mem_reverse]
    refine List.mem_of_getElem? (i := i) ?_
    rw [List.getElem?_zip_eq_some]
    exact ⟨h1, h2⟩
section
variable {P : Program} {w : World} {K : PySem.W.Frag} {mg : Str → Option Value} {base : Heap} {N ps : List Str} {qual : Str} {scope : Scope} {f cc D : Addr} {cd : Value} {A : Around} {outer : List Env} {s : Shared} {H : Hp} {us : List Value} {vs : List V}
theorem inv_startS {cl : Value} {cld : Option Addr} {csl : Array (Option Value)} {h₁ : Heap} {tk : Nat} (S : SuScope N ps scope) (hd : A.handled = none) (e0 : Env0 P w K mg base A outer s H) (hl : vs.length = ps.length) (r : Vals vs us)
    (hcc : K.lookup cc = some ⟨cl, cld, .cell (some (.ref D)), csl⟩) (hns : h₁.Ns s.heap.objs.size (fun x => (ps.zip us).reverse.lookup x)) (hk : ∀ b o, s.heap.get? b = some o → h₁.get? b = some o) :
    Inv (cxS P w K mg base N qual scope f cd cc A outer s H) [] (L2.start N vs) H { s with heap := h₁, toks := tk } := by
  have hpl : ps.length ≤ N.length := by have := congrArg List.length S.pre; rw [List.length_take] at this; omega
  have hb : base.get? cc = some ⟨cl, cld, .cell (some (.ref D)), csl⟩ := e0.mod.kin _ _ hcc
  have hcell : h₁.get? cc = some ⟨cl, cld, .cell (some (.ref D)), csl⟩ := hk _ _ (e0.bs _ _ hb).1
  have noA : ∀ b : Addr, b ∉ (cxS P w K mg base N qual scope f cd cc A outer s H).ex := fun b z => absurd (show b ∈ ([] : List Addr) from z) (by simp)
  refine ⟨⟨e0.mod, S.kind, rfl, rfl, Nat.le_refl _, fun y z c h1 h2 => ?_, fun y hy => ?_, fun y c h _ => ?_, fun _ => hd, Around.frames_deeper e0.frames, .inr ⟨rfl, rfl⟩, fun b z => absurd z (noA b), e0.bs, e0.bsz, fun b _ _ => noA b, fun b z => absurd z (noA b), e0.funs, e0.frf⟩,
    rfl, e0.bare, Un.kept hk, ⟨_, hns, fun i y v h1 h2 h3 => ?_⟩, fun y c h => ?_, e0.hok.fresh (Nat.le_refl _), fun y c h => ?_, fun p hp => absurd (show p ∈ ([] : List (Addr × Obj)) from hp) (by simp), e0.hok.kept hk, ?_⟩
  · rw [(one_lookup h1).1, (one_lookup h2).1]
  · have hy : scope.names.lookup y = some .cell ∨ scope.names.lookup y = some .free := hy
    rcases hy with hy | hy
    · exact absurd rfl (S.nocell _ (PySem.mem_of_lookup hy))
    · have := S.free _ (PySem.mem_of_lookup hy) rfl
      have hy' : y = "__class__" := this
      rw [hy']
      exact ⟨cc, rfl⟩
  · cases h
  · have hi : i < vs.length := by
      unfold L2.start at h2
      by_cases hi : i < vs.length
      · exact hi
      · rw [List.getElem?_append_right (by simpa using hi), List.getElem?_replicate] at h2
        split at h2 <;> cases h2
    have ha : vs[i]? = some v := by
      unfold L2.start at h2
      rw [List.getElem?_append_left (by simpa using hi), List.getElem?_map] at h2
      cases e : vs[i]? with
      | none => rw [e] at h2; cases h2
      | some a => rw [e] at h2; cases h2; rfl
    obtain ⟨u, hu, rv⟩ := r.get ha
    have hp : ps[i]? = some y := by
      rw [← S.pre, List.getElem?_take_of_lt (by omega)]; exact h1
    have ndP : ps.Nodup := by rw [← S.pre]; exact S.nd.sublist (List.take_sublist _ _)
    have hlu : us.length = ps.length := by rw [← r.length]; exact hl
    exact ⟨u, rv, .inl ⟨S.par y (List.mem_of_getElem? hp), zip_look ndP (by omega) hp hu⟩⟩
  · rw [(one_lookup h).2]
    exact ⟨_, _, hcell, rfl⟩
  · rw [(one_lookup h).2]
    exact (e0.bs _ _ hb).2
  · unfold L2.start
    show _ = N.length
    rw [List.length_append, List.length_map, List.length_replicate]
    omega
end
end Rg

/-! super().__init__(..) in an own error's __init__: a statement of a def with the class's cell -/
namespace Rg
open PySem PySem.Spec PyProof.Rows L2
structure SuF (P : Program) (K : PySem.W.Frag) (mg : Str → Option Value) (f cda cc C D : Addr) (fd : FuncData) : Prop where
  fn : ∃ oc od osl, K.lookup f = some ⟨oc, od, .func fd, osl⟩
  hd : ∃ ar, (fd.params.posonlyargs ++ fd.params.args).head? = some ar ∧ ar.arg = "self"
  code : ∃ ccl cdd vs ccs file tf, K.lookup cda = some ⟨ccl, cdd, .fields vs, ccs⟩ ∧ vs[2]? = some (.str file tf) ∧ ((P.main.file : Str) == file) = true
  cell : ∃ cl cld csl, K.lookup cc = some ⟨cl, cld, .cell (some (.ref D)), csl⟩
  cls : ∃ cdD, PySem.W.clsIn K D = some cdD
  sub : PySem.W.mroIn K C (.ref D) = some true
  init : PySem.W.ks_superIn K C D "__init__" = some (some (.builtin "ValueError.__init__"))
  ve : PySem.W.subIn K (.ref C) (.type "ValueError") = some true
  stat : PySem.W.nsIn K cStatics "thirdparty.any" = some none
  mgs : mg "super" = none
  top : (P.main.scope.names.lookup ("super" : Str)).isSome = false
section
variable {P : Program} {w : World} {K : PySem.W.Frag} {mg : Str → Option Value} {base : Heap} {N ps : List Str} {qual : Str} {scope : Scope} {f cda cc C D : Addr} {A : Around} {outer : List Env} {s0 s : Shared} {H0 H : Hp} {fd : FuncData} {σ : L2.St} {a : Addr} {E : Value → Shared → Prop}
/-- the method-wrapper called -/
theorem call_mw {X : Cx} {pins : List (Addr × Obj)} {u : Addr} {us : List Value} {A : Around} {Q : Value → Shared → Prop} (T : OexC X.K C) (I : Inv X pins σ H s) (e : H a = some (exo a C none)) (hu : s.heap.get? u = some (PySem.W.kxs_mw "ValueError.__init__" a)) (hl : us.length ≤ sizeLine)
    (h : ∀ s', Inv X pins σ H s' → Q .none s') : wpAny (model X.prog X.w) A (call (.ref u) us) Q E s := by
  obtain ⟨nm, q, N, bs, bm, sn, sub, ab, col, dd, k0, k1, k2, k3, k5, hC, hbm⟩ := T.cls
  obtain ⟨t1, ho⟩ := exo_at I.hok e
  obtain ⟨hp, g, d, t, os⟩ := s
  refine wpAny_call (codeAny_of_tree ?_)
  show wpAny _ A.in1 (callAny (.ref u) ⟨us, []⟩) _ _ _
  simp only [callAny]
  refine wpAny_bind (wpAny_load hu ?_)
  simp only [PySem.W.kxs_mw, show (Value.type "method-wrapper" == Value.type "method" || Value.type "method-wrapper" == Value.type "builtin_function_or_method" || Value.type "method-wrapper" == Value.type "method-wrapper") = true by decide, if_true]
  refine PySem.W.KFB.if_so (by decide) ?_
  refine wpAny_bind (PySem.W.check_bound_init PySem.F.excBase_ValueError.toExcCallFacts (I.kIn _ _ hC) ho rfl ?_)
  refine wpAny_bind (wpAny_pure (wpAny_pure ?_))
  refine ⟨plainId_quiet PySem.F.excBase_ValueError.init.plain _, codeAny_builtin PySem.F.excBase_ValueError.initEntry ?_⟩
  refine PySem.W.exc_init_tree (cls := .ref C) (t0 := t1) (dv := none) (c2 := .none) (c3 := .none) (b4 := .bool false) ho hl fun h' k hx ht => ?_
  have J := I.write (t' := t) (x := a) (e := a) (o := exo a C none) (by rw [e]; exact True.intro) (.inl rfl) k ⟨_, hx⟩ (exo_ok hx)
  have eu : upd H a (exo a C none) = H := by
    funext b
    by_cases hb : b = a
    · rw [hb, upd_same, e]
    · rw [upd_ne hb]
  rw [eu] at J
  exact h _ J
theorem su_stmt {body : List Stmt} {e : Expr} {es : List Expr} {ta : TA} {p0 p1 p2 pos pos' : Pos} {Qn : Hp → Prop} {pl : Sem Bool} (S : SuScope N ps scope) (hN : N[0]? = some ("self" : Str)) (hps : ("self" : Str) ∈ ps) (F : SuF P K mg f cda cc C D fd) (T : OexC K C)
    (I : Inv (cxS P w K mg base N qual scope f (.ref cda) cc A outer s0 H0) [] σ H s) (hσ : σ[0]? = some (some (V.ref a))) (ea : H a = some (exo a C none))
    (ha : PA (cxS P w K mg base N qual scope f (.ref cda) cc A outer s0 H0) (e :: es) ta)
    (hq : ta σ H fun vs H1 => vs.length ≤ 1000 ∧ H1 a = some (exo a C none) ∧ Qn H1)
    (hc : eval (.Call (.Attribute (.Call (.Name "super" p0) [] [] p1) "__init__" p2) (e :: es) [] pos) (PySem.W.ksEnv qual scope s0.heap.objs.size f (.ref cda) cc) = (do
      let ov ← attributeBase (.Call (.Name "super" p0) [] [] p1) "__init__" (PySem.W.ksEnv qual scope s0.heap.objs.size f (.ref cda) cc) (eval (.Call (.Name "super" p0) [] [] p1) (PySem.W.ksEnv qual scope s0.heap.objs.size f (.ref cda) cc))
      standAt p2.atName
      let (fv, first) ← holding [ov] (getMethod ov "__init__" pl)
      callWith pos fv first (backTo pos (starEach (e :: es) (PySem.W.ksEnv qual scope s0.heap.objs.size f (.ref cda) cc))) []) := by rfl)
    (he : starEach (e :: es) (PySem.W.ksEnv qual scope s0.heap.objs.size f (.ref cda) cc) = (false, eval e (PySem.W.ksEnv qual scope s0.heap.objs.size f (.ref cda) cc)) :: starEach es (PySem.W.ksEnv qual scope s0.heap.objs.size f (.ref cda) cc) := by rfl)
    (hpl : (backTo pos (starEach es (PySem.W.ksEnv qual scope s0.heap.objs.size f (.ref cda) cc))).any (·.1) = false := by rfl)
    (hs : swapsWith (.Call (.Attribute (.Call (.Name "super" p0) [] [] p1) "__init__" p2) (e :: es) [] pos) none pos'.line (PySem.W.ksEnv qual scope s0.heap.objs.size f (.ref cda) cc) = pure false := by rfl) :
    PySem.wpAt (model P w) (cxS P w K mg base N qual scope f (.ref cda) cc A outer s0 H0).A (.func body (PySem.W.ksEnv qual scope s0.heap.objs.size f (.ref cda) cc))
      (exec (.Expr (.Call (.Attribute (.Call (.Name "super" p0) [] [] p1) "__init__" p2) (e :: es) [] pos) pos') (PySem.W.ksEnv qual scope s0.heap.objs.size f (.ref cda) cc))
      (fun fl s' => fl = .next ∧ ∃ H1, Inv (cxS P w K mg base N qual scope f (.ref cda) cc A outer s0 H0) [] σ H1 s' ∧ Qn H1) (fun _ _ => False) s := by
  obtain ⟨oc, od, osl, hf⟩ := F.fn
  obtain ⟨ar, hp, har⟩ := F.hd
  obtain ⟨ccl, cdd, vs, ccs, file, tf, hcode, hvs, hfile⟩ := F.code
  obtain ⟨cl, cld, csl, hcell⟩ := F.cell
  obtain ⟨cdD, hD⟩ := F.cls
  have X : K.In s.heap := I.kIn
  obtain ⟨oD, hD1, hD2⟩ : ∃ oD, s.heap.get? D = some oD ∧ oD.data = .cls cdD := by
    unfold PySem.W.clsIn at hD
    split at hD
    · rename_i c d cd' sl ho
      cases hD
      exact ⟨_, X _ _ ho, rfl⟩
    · cases hD
  obtain ⟨t1, ho⟩ := exo_at I.hok ea
  obtain ⟨m, hns, hloc⟩ := I.loc
  have hka : scope.names.lookup ("self" : Str) = some .local := S.par _ hps
  obtain ⟨us, ru, hlk⟩ := hloc 0 "self" (.ref a) hN hσ (.inl hka)
  obtain rfl : us = Value.ref a := ru
  have hms : m "self" = some (.ref a) := by
    rcases hlk with ⟨_, z⟩ | ⟨z, _⟩
    · exact z
    · have z' : scope.names.lookup ("self" : Str) = some .cell ∨ scope.names.lookup ("self" : Str) = some .free := z
      rw [hka] at z'
      rcases z' with z' | z' <;> cases z'
  obtain ⟨mb, h1, h2⟩ := I.mod.blt
  refine PySem.ks_wpAt_Expr_any ?_ I.quiet hs
  refine PySem.ks_wpAt_MethodCall (pl := pl) ?_ hc
  refine PySem.ks_wpAt_super_base (env := PySem.W.ksEnv qual scope s0.heap.objs.size f (.ref cda) cc) S.sup S.cls (by decide) rfl (X _ _ hf) rfl hp rfl (X _ _ hcode) rfl hvs hfile F.top ?_
  rw [har]
  refine PySem.W.ks_loadName_global S.kind S.sup (Calls.loadGlobal_builtin (mg := mg) (mb := mb) (v := .type "super") (I.mod.glob.keeps I.bk) F.mgs (h1.keeps I.bk) ((h2 _ (by decide)).trans (by decide +kernel)) ⟨rfl, ?_⟩)
  refine wpAny_loadName_free S.kind S.cls rfl ⟨_, X _ _ hcell, rfl⟩ ?_
  refine wpAny_loadName_local S.kind hka hns hms ?_
  refine PySem.ks_wpAny_isType_cls hD1 hD2 ⟨rfl, ?_⟩
  refine PySem.ks_wpAny_call_super hD1 hD2 ho rfl (fun c z => by cases z) (PySem.W.looks_mroIn X F.sub) (fun h' eso k => ?_)
  have I2 := I.kept (t' := s.toks) k
  have ho2 := k _ _ ho
  have X2 : K.In h' := I2.kIn
  obtain ⟨hp, g, d, t, os⟩ := s
  cases hcc : PySem.W.clsIn K C with
  | none => have z := F.init; unfold PySem.W.ks_superIn at z; rw [hcc] at z; cases z
  | some cdC =>
    have hm := F.init
    unfold PySem.W.ks_superIn at hm
    rw [hcc] at hm
    have IA : PySem.W.InstAt h' a { cls := .ref C, dict := none, data := .fields #[.ref t1, .none, .none, .none, .bool false, .none] } C none := ⟨ho2, rfl, rfl, trivial⟩
    have hI : PySem.W.Looks (model P w) h' (isInstance (.ref a) (.type "ValueError")) true := IA.type.andThen (PySem.W.looks_subIn X2 F.ve)
    refine PySem.W.kxs_getMethod PySem.W.kxs_ValueError eso (PySem.W.looks_opaque X2 F.stat) (l₀ := cdC.mro) ?_ rfl X2 hm hI (PySem.W.ks_ne X2 IA hcc) (by decide) ?_
    · exact fun A Q E s k q => wpAny_bind ((PySem.W.looks_clsIn X2 hcc) A _ E s k (wpAny_pure q))
    · have k2 : ∀ b o, h'.get? b = some o → (h'.push (PySem.W.kxs_mw "ValueError.__init__" a)).get? b = some o := fun b o e => Heap.get?_push_of_some _ e
      have I3 := I2.kept (t' := t + 1) k2
      have hu : (h'.push (PySem.W.kxs_mw "ValueError.__init__" a)).get? h'.objs.size = some (PySem.W.kxs_mw "ValueError.__init__" a) := Heap.get?_push_at rfl rfl
      have I4 : Inv (cxS P w K mg base N qual scope f (.ref cda) cc A outer s0 H0) [(h'.objs.size, PySem.W.kxs_mw "ValueError.__init__" a)] σ H ⟨h'.push (PySem.W.kxs_mw "ValueError.__init__" a), g, d, t + 1, os⟩ := I3.pins_of fun p hp => by
        obtain rfl := List.mem_singleton.mp hp
        have lt : ∀ {b : Addr} {o : Obj}, h'.get? b = some o → b ≠ h'.objs.size := fun {b o} z => Nat.ne_of_lt (Heap.lt_size z)
        refine ⟨hu, I2.hok.fresh (Nat.le_refl _), Nat.ne_of_gt I2.lt, I2.nofs (Nat.le_refl _), fun v z => by cases z⟩
      have hrun := ha.run pos _ _ σ H _ I4 hq
      have hrun : wpAny (model P w) _ (spliced (backTo pos (starEach (e :: es) (PySem.W.ksEnv qual scope s0.heap.objs.size f (.ref cda) cc)))) _ _ _ := hrun
      show wpAny _ _ (callWith pos (Value.ref h'.objs.size) [] (backTo pos (starEach (e :: es) (PySem.W.ksEnv qual scope s0.heap.objs.size f (.ref cda) cc))) []) _ _ _
      rw [he] at hrun ⊢
      refine PySem.W.kxs_callWith (i := "ValueError.__init__") (x := a) (by show (false || (backTo pos (starEach es (PySem.W.ksEnv qual scope s0.heap.objs.size f (.ref cda) cc))).any (·.1)) = false; rw [hpl]; rfl) ?_
      refine PySem.Calls.evalArgs_plain (thn hrun fun us s5 hh => ?_)
      obtain ⟨vs5, H5, I5, r5, hl5, ea5, q5⟩ := hh
      have hu5 : s5.heap.get? h'.objs.size = some (PySem.W.kxs_mw "ValueError.__init__" a) := (I5.pin _ (List.mem_append_right _ List.mem_cons_self)).1
      refine ⟨hu5, ?_⟩
      have hlen : us.length ≤ sizeLine := by
        rw [← Paired.length r5, sizeLine_eq]
        omega
      exact call_mw (X := cxS P w K mg base N qual scope f (.ref cda) cc A outer s0 H0) T I5 ea5 hu5 hlen fun s' J => ⟨rfl, H5, J.pins_of (fun p hp => absurd hp (by simp)), q5⟩
end
end Rg

/-! own errors with one field or two: the promises of their __init__ -/
namespace Rg
open PySem PySem.Spec PyProof.Rows L2
structure SuFn (P : Program) (K : PySem.W.Frag) (mg : Str → Option Value) (qual : Str) (st : Stmt) (f C : Addr) (fd : FuncData) : Prop where
  ex : ∃ (oc : Value) (od : Option Addr) (dV kV doc pm : Value) (an : Option Addr) (cda : Addr) (ct : Value) (osl : Array (Option Value)) (cc : Addr),
    fd = PySem.W.ksFn "__init__" qual (defArgs st) (defBody st) (defScope st) dV kV doc pm an (.ref cda) ct cc ∧ K.lookup f = some ⟨oc, od, .func fd, osl⟩ ∧ PySem.W.codeIn K (.ref cda) qual = true ∧ SuF P K mg f cda cc C C fd
section
variable {P : Program} {w : World} {K : PySem.W.Frag} {mg : Str → Option Value} {base : Heap} {N ps : List Str} {qual : Str} {f C : Addr} {fd : FuncData} {st : Stmt} {CX : CXT} {k : Nat} {sp : Sp}
theorem su_fn {e : Expr} {es : List Expr} {rest : List Stmt} {p0 p1 p2 pos pos' : Pos} {pl : Env → Sem Bool} (F : SuFn P K mg qual st f C fd) (S : SuScope N ps (defScope st)) (hN : N[0]? = some ("self" : Str)) (hps : ("self" : Str) ∈ ps) (T : OexC K C)
    (hb : defBody st = .Expr (.Call (.Attribute (.Call (.Name "super" p0) [] [] p1) "__init__" p2) (e :: es) [] pos) pos' :: rest) (len : ∀ vs H Q E, sp vs H Q E → vs.length = ps.length)
    (hbody : ∀ (cda cc : Addr) (A : Around) (outer : List Env) (s : Shared) (H : Hp) (vs : List V) (Q : VK) (E : XK), sp vs H Q E → ∃ a ta t, (L2.start N vs)[0]? = some (some (V.ref a)) ∧ H a = some (exo a C none) ∧
      PA (cxS P w K mg base N qual (defScope st) f (.ref cda) cc A outer s H) (e :: es) ta ∧ PSs (cxS P w K mg base N qual (defScope st) f (.ref cda) cc A outer s H) rest t ∧
      ta (L2.start N vs) H fun vs1 H1 => vs1.length ≤ 1000 ∧ H1 a = some (exo a C none) ∧ t { nx := fun _ H' => Q .non H', rt := Q } (L2.start N vs) H1)
    (hc : ∀ env : Env, eval (.Call (.Attribute (.Call (.Name "super" p0) [] [] p1) "__init__" p2) (e :: es) [] pos) env = (do
      let ov ← attributeBase (.Call (.Name "super" p0) [] [] p1) "__init__" env (eval (.Call (.Name "super" p0) [] [] p1) env)
      standAt p2.atName
      let (fv, first) ← holding [ov] (getMethod ov "__init__" (pl env))
      callWith pos fv first (backTo pos (starEach (e :: es) env)) []))
    (he : ∀ env : Env, starEach (e :: es) env = (false, eval e env) :: starEach es env := by intro env; rfl) (hpl : ∀ env : Env, (backTo pos (starEach es env)).any (·.1) = false := by intro env; rfl)
    (hs : ∀ env : Env, swapsWith (.Call (.Attribute (.Call (.Name "super" p0) [] [] p1) "__init__" p2) (e :: es) [] pos) none pos'.line env = pure false := by intro env; rfl) :
    FnOk P w K mg base CX (k + 1) f fd ps sp := by
  obtain ⟨oc, od, dV, kV, doc, pm, an, cda, ct, osl, cc, rfl, lk, hcd, SF⟩ := F.ex
  refine ⟨len, fun A outer s H args us vs Q E hr e0 hbi r hsp => ?_⟩
  have hlen := len _ _ _ _ hsp
  have kin : K.In s.heap := e0.mod.kin.keeps (fun b o e => (e0.bs b o e).1)
  have nolim : s.heap.NoLimit := e0.mod.nolimit.keeps (fun b o e => (e0.bs b o e).1)
  obtain ⟨cl, cld, csl, hcell⟩ := SF.cell
  refine ks_codeAny_call_defAt (fd := PySem.W.ksFn "__init__" qual (defArgs st) (defBody st) (defScope st) dV kV doc pm an (.ref cda) ct cc) (body := defBody st) (binds := ps.zip us) hr.depth (kin _ _ lk) rfl nolim (PySem.W.codeRec_of kin hcd) rfl hbi S.nocell (fun y hy => S.par y.1 (List.of_mem_zip hy).1) (fun h1 hns hk => ?_) S.co S.gen S.kind
  show PySem.wpAt (model P w) (A.deeper (PySem.W.ksEnv qual (defScope st) s.heap.objs.size f (.ref cda) cc)) (.func (defBody st) (PySem.W.ksEnv qual (defScope st) s.heap.objs.size f (.ref cda) cc)) (execs (defBody st) (PySem.W.ksEnv qual (defScope st) s.heap.objs.size f (.ref cda) cc)) _ _ _
  obtain ⟨a, ta, t, hσ, ea, ha, ht, hq⟩ := hbody cda cc A outer s H vs Q E hsp
  have I0 := inv_startS (tk := s.toks + (ps.zip us).length) (qual := qual) (f := f) (cd := .ref cda) S hr.hd e0 hlen r hcell hns hk
  have h1 := su_stmt (body := defBody st) (p0 := p0) (p1 := p1) (p2 := p2) (pos := pos) (pos' := pos') S hN hps SF T I0 hσ ea ha hq (hc _) (he _) (hpl _) (hs _)
  have hcons : execs (defBody st) (PySem.W.ksEnv qual (defScope st) s.heap.objs.size f (.ref cda) cc) = execs (.Expr (.Call (.Attribute (.Call (.Name "super" p0) [] [] p1) "__init__" p2) (e :: es) [] pos) pos' :: rest) (PySem.W.ksEnv qual (defScope st) s.heap.objs.size f (.ref cda) cc) := by rw [hb]
  rw [hcons]
  refine ks_wpAt_execs_cons (PySem.wpAt_mono h1 (fun fl s1 hh => ?_) (fun _ _ z => z.elim))
  obtain ⟨rfl, H1, I1, q1⟩ := hh
  refine PySem.wpAt_of_wpAny (wpAny_mono (ht.run [] s1 _ H1 _ I1 q1) (fun fl s' hs' => ?_) (fun _ _ z => False.elim z))
  cases fl with
  | ret u =>
    obtain ⟨v, σ', H', J, rv, q⟩ := hs'
    exact ⟨v, H', J.os, J.bare, J.base, J.hok, rv, q⟩
  | next =>
    obtain ⟨σ', H', J, q⟩ := hs'
    exact ⟨V.non, H', J.os, J.bare, J.base, J.hok, rfl, q⟩
  | brk =>
    obtain ⟨_, _, _, q⟩ := hs'
    exact q.elim
  | cont =>
    obtain ⟨_, _, _, q⟩ := hs'
    exact q.elim
theorem su_eval {e : Expr} {es : List Expr} {p0 p1 p2 pos : Pos} (env : Env) (hap : (p2.endLine == pos.line) = true) (hf : methodCallForm ((e :: es).length + ([] : List Keyword).length) (backTo pos (starEach (e :: es) env)) (backToKw pos (keywordEach [] env)) = true) :
    eval (.Call (.Attribute (.Call (.Name "super" p0) [] [] p1) "__init__" p2) (e :: es) [] pos) env = (do
      let ov ← attributeBase (.Call (.Name "super" p0) [] [] p1) "__init__" env (eval (.Call (.Name "super" p0) [] [] p1) env)
      standAt p2.atName
      let (fv, first) ← holding [ov] (getMethod ov "__init__" (do return (← importBound (.Call (.Name "super" p0) [] [] p1) env).getD true))
      callWith pos fv first (backTo pos (starEach (e :: es) env)) []) := by
  show (do
      let ov ← attributeBase (.Call (.Name "super" p0) [] [] p1) "__init__" env (eval (.Call (.Name "super" p0) [] [] p1) env)
      standAt p2.atName
      methodCall (.Call (.Name "super" p0) [] [] p1) "__init__" p2 pos env ov ((e :: es).length + ([] : List Keyword).length) (backTo pos (starEach (e :: es) env)) (backToKw pos (keywordEach [] env))) = _
  unfold methodCall methodCallPos calleeOf
  simp only [hf, hap, if_true, Bool.not_true, Bool.false_or, pure_bind]
  rfl
/-- __init__(self, x): super().__init__(x); self.g = x -/
def spEr1 (C : Addr) (g : Str) : Sp := fun vs H Q _ => ∃ a v, vs = [.ref a, v] ∧ H a = some (exo a C none) ∧ ∀ d, H d = none → d ≠ a → Q .non (upd (upd H d (exd d [(g, v)])) a (exo a C (some d)))
/-- __init__(self, x, y): super().__init__(x, y); self.g = x; self.h = y -/
def spEr2 (C : Addr) (g h : Str) : Sp := fun vs H Q _ => ∃ a v u, vs = [.ref a, v, u] ∧ H a = some (exo a C none) ∧ ∀ d, H d = none → d ≠ a → Q .non (upd (upd (upd H d (exd d [(g, v)])) a (exo a C (some d))) d (exd d [(h, u), (g, v)]))
theorem ok_er1 {x g : Str} {p0 p1 p2 p3 p4 p5 p6 pos pos' pos2 : Pos} (F : SuFn P K mg qual st f C fd) (S : SuScope ["self", x] ["self", x] (defScope st)) (T : OexC K C) (hg : PySem.W.findIn K (.ref C) g = some none)
    (hb : defBody st = [.Expr (.Call (.Attribute (.Call (.Name "super" p0) [] [] p1) "__init__" p2) [.Name x p3] [] pos) pos', .Assign [.Attribute (.Name "self" p4) g p5] (.Name x p6) pos2])
    (hap : (p2.endLine == pos.line) = true) (hd : (x == ("__debug__" : Str)) = false := by decide) (hcd : (x == ("__classdict__" : Str)) = false := by decide) :
    FnOk P w K mg base CX (k + 1) f fd ["self", x] (spEr1 C g) := by
  refine su_fn F S rfl (by simp) T hb (fun vs H Q E h => ?_) (fun cda cc A outer s H vs Q E h => ?_) (fun env => su_eval env hap rfl)
  · obtain ⟨a, v, rfl, _⟩ := h
    rfl
  · obtain ⟨a, v, rfl, ea, q⟩ := h
    have v0 : Vis (cxS P w K mg base ["self", x] qual (defScope st) f (.ref cda) cc A outer s H).env.scope "self" := .inl (S.par _ (by simp))
    have v1 : Vis (cxS P w K mg base ["self", x] qual (defScope st) f (.ref cda) cc A outer s H).env.scope x := .inl (S.par _ (by simp))
    refine ⟨a, _, _, rfl, ea, pa_cons (pe_var (i := 1) rfl v1 hd hcd) pa_nil, pss_one (ps_ost (pe_var (i := 0) rfl v0) (pe_var (i := 1) rfl v1 hd hcd)), ?_⟩
    exact ⟨v, rfl, by show 1 ≤ 1000; decide, ea, v, rfl, _, rfl, a, C, rfl, T, hg, .inl ⟨ea, q⟩⟩
theorem ok_er2 {x y g h : Str} {p0 p1 p2 p3 p4 p5 p6 p7 p8 p9 p10 pos pos' pos2 pos3 : Pos} (F : SuFn P K mg qual st f C fd) (S : SuScope ["self", x, y] ["self", x, y] (defScope st)) (T : OexC K C) (hg : PySem.W.findIn K (.ref C) g = some none) (hh : PySem.W.findIn K (.ref C) h = some none)
    (hb : defBody st = [.Expr (.Call (.Attribute (.Call (.Name "super" p0) [] [] p1) "__init__" p2) [.Name x p3, .Name y p4] [] pos) pos', .Assign [.Attribute (.Name "self" p5) g p6] (.Name x p7) pos2, .Assign [.Attribute (.Name "self" p8) h p9] (.Name y p10) pos3])
    (hap : (p2.endLine == pos.line) = true) (hd : (x == ("__debug__" : Str)) = false := by decide) (hcd : (x == ("__classdict__" : Str)) = false := by decide) (hd2 : (y == ("__debug__" : Str)) = false := by decide) (hcd2 : (y == ("__classdict__" : Str)) = false := by decide) :
    FnOk P w K mg base CX (k + 1) f fd ["self", x, y] (spEr2 C g h) := by
  refine su_fn F S rfl (by simp) T hb (fun vs H Q E h => ?_) (fun cda cc A outer s H vs Q E h => ?_) (fun env => su_eval env hap rfl)
  · obtain ⟨a, v, u, rfl, _⟩ := h
    rfl
  · obtain ⟨a, v, u, rfl, ea, q⟩ := h
    have v0 : Vis (cxS P w K mg base ["self", x, y] qual (defScope st) f (.ref cda) cc A outer s H).env.scope "self" := .inl (S.par _ (by simp))
    have v1 : Vis (cxS P w K mg base ["self", x, y] qual (defScope st) f (.ref cda) cc A outer s H).env.scope x := .inl (S.par _ (by simp))
    have v2 : Vis (cxS P w K mg base ["self", x, y] qual (defScope st) f (.ref cda) cc A outer s H).env.scope y := .inl (S.par _ (by simp))
    refine ⟨a, _, _, rfl, ea, pa_cons (pe_var (i := 1) rfl v1 hd hcd) (pa_cons (pe_var (i := 2) rfl v2 hd2 hcd2) pa_nil),
      pss_cons (ps_ost (pe_var (i := 0) rfl v0) (pe_var (i := 1) rfl v1 hd hcd)) (pss_one (ps_ost (pe_var (i := 0) rfl v0) (pe_var (i := 2) rfl v2 hd2 hcd2))), ?_⟩
    refine ⟨v, rfl, u, rfl, by show 2 ≤ 1000; decide, ea, v, rfl, _, rfl, a, C, rfl, T, hg, .inl ⟨ea, fun d hdn hda => ?_⟩⟩
    have hd0 : (upd (upd H d (exd d [(g, v)])) a (exo a C (some d))) d = some (exd d [(g, v)]) := by rw [upd_ne hda, upd_same]
    exact ⟨u, rfl, _, rfl, a, C, rfl, T, hh, .inr ⟨d, [(g, v)], upd_same, hd0, by show 1 ≤ 900; decide, q d hdn hda⟩⟩
end
end Rg

/-! more rules: o.f as a target, zip of two texts -/
namespace Rg
open PySem PySem.Spec PyProof.Rows L2
/-! ### o.f among several targets -/
def gFld (K : PySem.W.Frag) (to : TE) (f : Str) : TG := fun v σ H Q => to σ H fun x H2 => ∃ a C dx fs, x = .ref a ∧ H2 a = some (.ins C dx fs) ∧ Cls K C ∧ NoAttr K C f ∧ fs.length < 1000 ∧ Q σ (upd H2 a (.ins C dx (putF f v fs)))
section
variable {X : Cx} {o : Expr} {f : Str} {pos : Pos} {to : TE}
theorem pg_fld (ho : PE X o to) : PG X (.Attribute o f pos) (gFld X.K to f) := by
  refine ⟨fun pins s σ H v u Q I r h => ?_⟩
  rw [assign_Attribute]
  refine wpAny_bind (wpAny_holding (thn (ho.run pins s σ H _ I h) fun ov s1 ⟨x, H1, I1, r1, a, C, dx, fs, ex, ea, c, n, l, q⟩ => ?_))
  subst ex
  obtain rfl : ov = Value.ref a := r1
  refine wpAny_bind (wpAny_standAt (wpAny_bind (wpAny_holding ?_)))
  exact setattr_ok I1 ea c n l r fun s3 I3 => wpAny_release ⟨σ, _, I3, q⟩
end
/-! ### zip(text, text) -/
/-- the signs of two texts, in new pairs -/
def ItzS (x y : Str) : It :=
  ⟨fun i _ => i < x.cps.size ∧ i < y.cps.size,
    fun i H v H' => ∃ T c d, v = .ref T ∧ H T = none ∧ H' = upd H T (.tup [.str ⟨#[c]⟩, .str ⟨#[d]⟩]) ∧ x.cps[i]? = some c ∧ y.cps[i]? = some d,
    fun i _ => (i = x.cps.size ∧ i ≤ y.cps.size) ∨ (i ≤ x.cps.size ∧ i = y.cps.size)⟩
theorem turn_zipS {P : Program} {w : World} {K : PySem.W.Frag} {elts : List Expr} {kk : Nat} {tpos : Pos} {x y : Str} {tx ty : Tok} {z TI TO i1 i2 : Addr} (S : ZipSep2 z TI TO i1 i2 [i1] [i2]) :
    Turn P w K (.Tuple elts kk tpos) (ItzS x y) [z, TI, TO, i1, i2] z (fun i h => IsZip h z TI TO .none ∧ IsTupOf2 h TI (.ref i1) (.ref i2) ∧ (∃ x y, IsTupOf2 h TO x y) ∧ h.IsStrIter i1 (strIterType x) x tx i ∧ h.IsStrIter i2 (strIterType y) y ty i) where
  mem := by simp
  obj := fun i h st c hc => by
    obtain ⟨hz, hTI, ⟨x, y, hTO⟩, ⟨o1, e1, _, d1⟩, ⟨o2, e2, _, d2⟩⟩ := st
    have e' : c = z ∨ c = TI ∨ c = TO ∨ c = i1 ∨ c = i2 := by simpa using hc
    rcases e' with q | q | q | q | q
    · rw [q]; exact ⟨_, hz, fun v q => nomatch q⟩
    · rw [q]; exact ⟨_, hTI, fun v q => nomatch q⟩
    · rw [q]; exact ⟨_, hTO, fun v q => nomatch q⟩
    · rw [q]; exact ⟨o1, e1, fun v q => by rw [d1] at q; cases q⟩
    · rw [q]; exact ⟨o2, e2, fun v q => by rw [d2] at q; cases q⟩
  keep := fun i h h' st k => by
    obtain ⟨hz, hTI, ⟨x, y, hTO⟩, ⟨o1, e1, r1⟩, ⟨o2, e2, r2⟩⟩ := st
    exact ⟨k z (by simp) _ hz, k TI (by simp) _ hTI, ⟨x, y, k TO (by simp) _ hTO⟩, ⟨o1, k i1 (by simp) o1 e1, r1⟩, ⟨o2, k i2 (by simp) o2 e2, r2⟩⟩
  item := by
    intro X hP hw hK hc i pins s σ H E I hf st hg
    subst hP hw hK
    obtain ⟨hz, hTI, ⟨x0, y0, hTO⟩, h1, h2⟩ := st
    have hh := I.ok.hd hc
    have hzl : z < s.heap.objs.size := Heap.lt_size hz
    refine wpAny_pyNext_zipD2_item S (Draws.text (A := X.A.in1) hh i1 x tx) (Draws.text (A := X.A.in1) hh i2 y ty) hz hTI hTO h1 h2 hg.1 hg.2 fun u u2 h' tk y1 y2 z' TO' h1' h2' hT hsz hk => ?_
    obtain ⟨c, t1, hc1, rfl⟩ := y1
    obtain ⟨d, t2, hd1, rfl⟩ := y2
    refine ⟨_, rfl, wpAny_letOwnedTupleGo_zip (s := { s with heap := h', toks := tk }) z' fun h'' z'' sb => ?_⟩
    have hT2 : h''.get? s.heap.objs.size = some { cls := .type "tuple", data := .seq #[.str ⟨#[c]⟩ t1, .str ⟨#[d]⟩ t2] } := (sb.2 _ (Nat.ne_of_gt hzl)).trans hT
    have new : ObjOk X.prog X.w (upd H s.heap.objs.size (.tup [.str ⟨#[c]⟩, .str ⟨#[d]⟩])) h'' s.heap.objs.size (.tup [.str ⟨#[c]⟩, .str ⟨#[d]⟩]) :=
      ⟨by show 2 ≤ sizeLine; decide, [.str ⟨#[c]⟩ t1, .str ⟨#[d]⟩ t2], .cons ⟨_, rfl⟩ (.cons ⟨_, rfl⟩ .nil), ⟨_, hT2, rfl, _, rfl⟩⟩
    have I1 : Inv X pins σ (upd H s.heap.objs.size (.tup [.str ⟨#[c]⟩, .str ⟨#[d]⟩])) { s with heap := h'', toks := tk } :=
      I.turnedNew (t' := tk) (ch := [z, TI, TO, i1, i2]) (fun c o hb q => (sb.2 c (fun q' => hb (by simp [q']))).trans (hk c o (fun q' => hb (by simp [q'])) (fun q' => hb (by simp [q'])) (fun q' => hb (by simp [q'])) (fun q' => hb (by simp [q'])) q)) hf (Nat.le_refl _) new
    obtain ⟨o1, e1, r1⟩ := h1'
    obtain ⟨o2, e2, r2⟩ := h2'
    refine ⟨.ref s.heap.objs.size, _, I1, rfl, ⟨_, c, d, rfl, I.hok.fresh (Nat.le_refl _), rfl, hc1, hd1⟩, ⟨z'', ?_, ⟨.str ⟨#[c]⟩ t1, .str ⟨#[d]⟩ t2, ?_⟩, ⟨o1, ?_, r1⟩, ⟨o2, ?_, r2⟩⟩, fun c hcm => ?_⟩
    · exact (sb.2 _ S.TIz).trans (hk _ _ S.TIz S.TITO S.TIi1 S.TIi2 hTI)
    · exact (sb.2 _ S.TOz).trans TO'
    · exact (sb.2 _ S.zi1.symm).trans e1
    · exact (sb.2 _ S.zi2.symm).trans e2
    · have hlt : c < s.heap.objs.size := by
        have e' : c = z ∨ c = TI ∨ c = TO ∨ c = i1 ∨ c = i2 := by simpa using hcm
        rcases e' with q | q | q | q | q
        · rw [q]; exact hzl
        · rw [q]; exact Heap.lt_size hTI
        · rw [q]; exact Heap.lt_size hTO
        · rw [q]; obtain ⟨_, e1, _⟩ := h1; exact Heap.lt_size e1
        · rw [q]; obtain ⟨_, e2, _⟩ := h2; exact Heap.lt_size e2
      rw [upd_ne (Nat.ne_of_lt hlt)]
      exact (hf c hcm).1
  done := by
    intro X hP hw hK hc i pins s σ H E I hf st hg
    subst hP hw hK
    obtain ⟨hz, hTI, ⟨x0, y0, hTO⟩, h1, h2⟩ := st
    have hh := I.ok.hd hc
    have hle : i ≤ x.cps.size ∧ i ≤ y.cps.size ∧ (i = x.cps.size ∨ i = y.cps.size) := by
      rcases hg with ⟨q1, q2⟩ | ⟨q1, q2⟩
      · exact ⟨Nat.le_of_eq q1, q2, .inl q1⟩
      · exact ⟨q1, Nat.le_of_eq q2, .inr q2⟩
    exact wpAny_pyNext_zipD2_end S (Draws.text (A := X.A.in1) hh i1 x tx) (Draws.text (A := X.A.in1) hh i2 y ty) hz hTI hTO h1 h2 hle.1 hle.2.1 hle.2.2 fun h' tk hk => ⟨rfl, I.turnedL (t' := tk) (ch := [z, TI, TO, i1, i2]) (fun c o hb q =>
      hk c o (fun q' => hb (by simp [q'])) (fun q' => hb (by simp [q'])) (fun q' => hb (by simp [q'])) (fun q' => hb (by simp [q'])) q) hf⟩
  self := fun A i s Q E st h => wpAny_pyIter_zip st.1 h
def iZipS (ta : TA) : TI := fun σ H R => ta σ H fun vs H1 => ∃ x y, vs = [.str x, .str y] ∧ R (ItzS x y) H1
theorem pi_zipS {X : Cx} {e e2 : Expr} {ta : TA} {p pos tpos : Pos} {elts : List Expr} {kk : Nat} (hg : Gl X "zip") (hm : X.mg "zip" = none) (ha : PA X [e, e2] ta)
    (hs : starEach [e, e2] X.env = (false, eval e X.env) :: starEach [e2] X.env := by rfl) (hpl : (backTo pos (starEach [e2] X.env)).any (·.1) = false := by rfl) :
    PI X (.Tuple elts kk tpos) (.Call (.Name "zip" p) [e, e2] [] pos) (iZipS ta) := by
  refine ⟨fun pins s σ H R I h => ?_⟩
  refine Call_ (ld_blt I hg hm PyProof.Rows.boot_zip (PyProof.Rows.callWith_type1 (thn (ha.run pos pins s σ H _ I h) fun us s1 ⟨vs, H1, I1, r1, q1⟩ => ?_) hs hpl))
  obtain ⟨x, y, ex, q⟩ := q1
  subst ex
  obtain ⟨u1, u2, rfl, ⟨t1, rfl⟩, ⟨t2, rfl⟩⟩ := vals2 r1
  refine zip_begins2 (begins_text x t1) (begins_text y t2) trivial trivial fun h' hz hTI hTO h1 h2 hsz hk => wpAny_pyIter_zip hz ?_
  have I2 : Inv X pins σ H1 { s1 with heap := h' } := I1.kept (t' := s1.toks) hk
  refine ⟨s1.heap.objs.size + 4, [s1.heap.objs.size + 4, s1.heap.objs.size + 2, s1.heap.objs.size + 3, s1.heap.objs.size, s1.heap.objs.size + 1], _, _, H1, rfl, I2, turn_zipS (x := x) (y := y) (tx := t1) (ty := t2) (zip_sep2 (N := s1.heap.objs.size) (fp1 := []) (fp2 := []) (fun b hb => nomatch hb) (fun b hb => nomatch hb)), ⟨hz, hTI, ⟨_, _, hTO⟩, ⟨_, h1, rfl, rfl⟩, ⟨_, h2, rfl, rfl⟩⟩, fun c hcm => ?_, q⟩
  have e' : c = s1.heap.objs.size + 4 ∨ c = s1.heap.objs.size + 2 ∨ c = s1.heap.objs.size + 3 ∨ c = s1.heap.objs.size ∨ c = s1.heap.objs.size + 1 := by simpa using hcm
  have hle : s1.heap.objs.size ≤ c := by
    rcases e' with z | z | z | z | z
    · rw [z]; exact Nat.le_add_right _ _
    · rw [z]; exact Nat.le_add_right _ _
    · rw [z]; exact Nat.le_add_right _ _
    · rw [z]; exact Nat.le_refl _
    · rw [z]; exact Nat.le_add_right _ _
  exact I1.fpOk hle (I1.hok.fresh hle)
end Rg

/-! == and != by an own __eq__ -/
namespace Rg
open PySem PySem.Spec PyProof.Rows L2
theorem ne_bind (self : Value) : bindSpecial (.builtin "object.__ne__") self = pure (.builtin "object.__ne__", [self]) :=
  (Slot.of (T := "object") (name := "__ne__") (owner := "object") (n := "__ne__") (by rw [typeLookup_type, builtinLookup_eq_fast]; kernel_rfl) (by decide +kernel) (by decide +kernel) (by decide +kernel)
    (.inl (by decide +kernel)) (by rw [isSubtype_type]; kernel_rfl)).bind self
theorem ne_plain : plainId "object.__ne__" = true := by decide +kernel
section
variable {prog : Program} {w : World} {A : Around} {E : Value → Shared → Prop} {s : Shared} {K : PySem.W.Frag} {x C L f : Addr} {h₀ : Heap} {m : Str → Option Value} {ox : Obj} {od : Option Obj} {b tb : Value}
theorem ifBound_ne {M : Model} {args : List Value} {Q : Option Value → Shared → Prop} (X : K.In s.heap) (I : PySem.W.InstAt s.heap x ox C od) (hs : PySem.W.findIn K (.ref C) "__ne__" = some (some (.builtin "object.__ne__")))
    (h : wpAny M A (call (.builtin "object.__ne__") (.ref x :: args)) (fun v => Q (some v)) E s) : wpAny M A (callSpecialIfBound? (.ref x) "__ne__" args) Q E s := by
  simp only [callSpecialIfBound?, bindSpecialIfBound?]
  refine wpAny_holding (wpAny_bind (wpAny_bind (wpAny_bind (I.type.here ((PySem.W.looks_findIn X hs).here ?_)))))
  simp only [ne_bind]
  refine wpAny_bind (wpAny_askSetting (wpAny_ite ?_))
  have fin : wpAny M A (call (.builtin "object.__ne__") ([.ref x] ++ args) >>= fun v => pure (some v)) Q E s := wpAny_bind (wpAny_mono h (fun v s' h' => wpAny_pure h') fun _ _ h' => h')
  split
  · exact wpAny_bind (wpAny_pure (wpAny_pure fin))
  · exact wpAny_tryCatch (wpAny_bind (wpAny_pure (wpAny_pure fin)))
theorem objNe_K (hu : A.units < cLine) (X : K.In s.heap) (I : PySem.W.InstAt s.heap x ox C od) (hs : PySem.W.findIn K (.ref C) "__eq__" = some (some (.ref f))) (hf : PySem.W.isFn K (.ref f) = true) {Q : Fin → Shared → Prop}
    (hcall : wpAny (model prog w) A (call (.ref f) [.ref x, b]) (fun v s' => ∃ k, v = .bool k ∧ Q (.done (.ret (.bool (!k)))) s') E s) :
    wpAny (model prog w) A (Builtin.«object.__ne__» ⟨[.ref x, b], []⟩) Q E s := by
  unfold Builtin.«object.__ne__»
  repeat (first
    | with_reducible refine wpAny_cRoomFor hu ?_
    | (refine wpAny_bind (m := callSpecialIfBound? (.ref x) (Str.ofString "__eq__") [b])
        (PySem.W.ifBound_K X I hs hf (wpAny_mono hcall (fun r s' hr => by
          obtain ⟨b, rfl, hq⟩ := hr
          repeat (first | exact hq | exact wpAny_pure hq | exact wpAny_truthy_bool hq | (refine wpAny_bind (m := truthy (.bool _)) (wpAny_truthy_bool ?_)) | wp_step)) fun _ _ e => e)))
    | wp_step)
theorem ne_K {Q : Value → Shared → Prop} (hu : A.units + 1 < cLine) (F : PyProof.Rows.Fr h₀ L s.heap m) (X₀ : K.In h₀) (I : PySem.W.InstAt s.heap x ox C od) (hb : PySem.W.Looks (model prog w) s.heap (typeOf b) tb) (hn : PySem.W.notFirst K C tb = true)
    (hmo : PySem.W.mroIn K C (.type "object") = some true) (hne : PySem.W.findIn K (.ref C) "__ne__" = some (some (.builtin "object.__ne__"))) (hs : PySem.W.findIn K (.ref C) "__eq__" = some (some (.ref f))) (hf : PySem.W.isFn K (.ref f) = true)
    (h : wpAny (model prog w) A.in1 (call (.ref f) [.ref x, b]) (fun v s' => ∃ k, v = .bool k ∧ Q (.bool (!k)) s') E s) : wpAny (model prog w) A (richCompare .NotEq (.ref x) b) Q E s := by
  have X := X₀.keeps F.keep
  have hi : PySem.W.Looks (model prog w) s.heap (isInstance (.ref x) (.type "object")) true := I.type.andThen (PySem.W.looks_mroIn X hmo)
  have one : wpAny (model prog w) A (tryCompare (.ref x) "__ne__" b) (fun r s' => ∃ v, r = some v ∧ Q v s') E s := by
    unfold tryCompare
    refine wpAny_bind (ifBound_ne X I hne (wpAny_call (codeAny_call_builtin ne_plain PySem.F.cmpEntry_ne (PySem.W.check_slot PySem.F.cmpKind_ne PySem.F.cmpSplit_ne hi (PySem.F.cmpArgs_ne _ _) (objNe_K (A := A.in1) hu X I hs hf (wpAny_mono h (fun v s' hv => ?_) fun _ _ e => e))))))
    obtain ⟨k, rfl, hq⟩ := hv
    exact ⟨k, rfl, wpAny_pure ⟨_, rfl, hq⟩⟩
  unfold richCompare
  simp only [oneThing_ref]
  refine wpAny_holding (wpAny_bind (wpAny_cRoomFor (Nat.lt_of_succ_lt hu) ?_))
  rw [cmpInfo_NotEq]
  dsimp only
  refine wpAny_bind (I.type.here (wpAny_bind (hb.here ?_)))
  split
  · rename_i q
    have e : PySem.W.subIn K tb (.ref C) = some false := by
      rcases Bool.or_eq_true_iff.mp hn with e | e
      · rw [beq_iff_eq.mp e] at q; simp at q
      · exact beq_iff_eq.mp e
    refine wpAny_bind ((PySem.W.looks_subIn X e).here ?_)
    simp only [Bool.false_eq_true, if_false]
    refine wpAny_bind (wpAny_mono one (fun r s' z => ?_) fun _ _ e => e)
    obtain ⟨v, rfl, hq⟩ := z
    exact wpAny_pure hq
  · refine wpAny_bind (wpAny_pure ?_)
    simp only [Bool.false_eq_true, if_false]
    refine wpAny_bind (wpAny_mono one (fun r s' z => ?_) fun _ _ e => e)
    obtain ⟨v, rfl, hq⟩ := z
    exact wpAny_pure hq
/-- a == x, a of a built-in type that declines, x an own instance with an own __eq__ -/
theorem eqR_K {a : Value} {T id : String} {B : Builtin} {Q : Value → Shared → Prop} (hu : A.units < cLine) (X : K.In s.heap) (I : PySem.W.InstAt s.heap x ox C od) (hT : s.TypeIs a T) (S : Slot T "__eq__" id) (hb : entryFor table id = some B) (ha : argsOk id ⟨[a, .ref x], []⟩)
    (hB : wpAny (model prog w) A.in1 (B ⟨[a, .ref x], []⟩) (fun fin s' => fin = .done (.ret .notImplemented) ∧ s' = s) E s) (h1 : oneThing? .Eq a (.ref x) = none)
    (hsub : PySem.W.subIn K (.ref C) (.type T) = some false) (hs : PySem.W.findIn K (.ref C) "__eq__" = some (some (.ref f))) (hf : PySem.W.isFn K (.ref f) = true)
    (h : wpAny (model prog w) A (call (.ref f) [.ref x, a]) (PySem.W.CmpBack Q) E s) : wpAny (model prog w) A (richCompare .Eq a (.ref x)) Q E s := by
  have one : wpAny (model prog w) A (tryCompare (.ref x) "__eq__" a) (fun r s' => ∃ v, r = some v ∧ Q v s') E s := by
    unfold tryCompare
    refine wpAny_bind (PySem.W.ifBound_K X I hs hf (wpAny_mono h (fun v s' hv => ?_) fun _ _ e => e))
    cases v <;> first | exact hv.elim | exact wpAny_pure ⟨_, rfl, hv⟩
  have zero : wpAny (model prog w) A (tryCompare a "__eq__" (.ref x)) (fun r s' => r = none ∧ s' = s) E s := by
    unfold tryCompare
    refine wpAny_bind (wpAny_callSpecialIfBound?_slot hT S (wpAny_call_entry S hT hb (wpAny_mono hB (fun fin s' hv => ?_) fun _ _ e => e) ha))
    obtain ⟨rfl, rfl⟩ := hv
    exact ⟨_, rfl, wpAny_pure ⟨rfl, rfl⟩⟩
  have hne : (Value.type T != Value.ref C) = true := bne_iff_ne.mpr fun e => nomatch e
  unfold richCompare
  simp only [h1]
  refine wpAny_holding (wpAny_bind (wpAny_cRoomFor hu ?_))
  rw [cmpInfo_Eq]
  dsimp only
  refine wpAny_bind (wpAny_typeOf hT (wpAny_bind (I.type.here ?_)))
  rw [hne, if_pos rfl]
  refine wpAny_bind ((PySem.W.looks_subIn X hsub).here ?_)
  simp only [Bool.false_eq_true, if_false]
  refine wpAny_bind (wpAny_mono zero (fun r s' z => ?_) fun _ _ e => e)
  obtain ⟨rfl, rfl⟩ := z
  simp only [Bool.not_false, if_true]
  refine wpAny_bind (wpAny_mono one (fun r s' z => ?_) fun _ _ e => e)
  obtain ⟨v, rfl, hq⟩ := z
  exact wpAny_pure hq
theorem eqd_none {A' : Around} : wpAny (model prog w) A' (Builtin.«NoneType.__eq__» ⟨[.none, .ref x], []⟩) (fun fin s' => fin = .done (.ret .notImplemented) ∧ s' = s) E s := by
  show wpAny _ _ (ret .notImplemented) _ _ _
  exact wpAny_pure ⟨rfl, rfl⟩
theorem eqd_int {A' : Around} {i : Int} {t : Tok} {dx : Addr} (hx : s.heap.get? x = some (PySem.W.instObj C dx)) : wpAny (model prog w) A' (Builtin.«int.__eq__» ⟨[.int i t, .ref x], []⟩) (fun fin s' => fin = .done (.ret .notImplemented) ∧ s' = s) E s := by
  show wpAny _ _ (asInt? (.ref x) >>= _) _ _ _
  refine wpAny_bind ?_
  show wpAny _ _ (load x >>= _) _ _ _
  refine wpAny_bind (wpAny_load hx ?_)
  exact wpAny_pure (wpAny_bind (wpAny_rule (wpAny_pure ⟨rfl, rfl⟩)))
theorem eqd_str {A' : Around} {z : Str} {t : Tok} {dx : Addr} (hx : s.heap.get? x = some (PySem.W.instObj C dx)) : wpAny (model prog w) A' (Builtin.«str.__eq__» ⟨[.str z t, .ref x], []⟩) (fun fin s' => fin = .done (.ret .notImplemented) ∧ s' = s) E s := by
  show wpAny _ _ (asStr? (.ref x) >>= _) _ _ _
  refine wpAny_bind ?_
  show wpAny _ _ (load x >>= _) _ _ _
  refine wpAny_bind (wpAny_load hx ?_)
  exact wpAny_pure (wpAny_bind (wpAny_rule (wpAny_pure ⟨rfl, rfl⟩)))
theorem eqd_list {A' : Around} {l : Addr} (hi : PySem.W.Looks (model prog w) s.heap (isInstance (.ref x) (.type "list")) false) : wpAny (model prog w) A' (Builtin.«list.__eq__» ⟨[.ref l, .ref x], []⟩) (fun fin s' => fin = .done (.ret .notImplemented) ∧ s' = s) E s := by
  show wpAny _ _ (isInstance (.ref x) (.type "list") >>= _) _ _ _
  refine wpAny_bind (hi.here ?_)
  exact wpAny_pure ⟨rfl, rfl⟩
theorem eqd_tuple {A' : Around} {l : Addr} (hi : PySem.W.Looks (model prog w) s.heap (isInstance (.ref x) (.type "tuple")) false) : wpAny (model prog w) A' (Builtin.«tuple.__eq__» ⟨[.ref l, .ref x], []⟩) (fun fin s' => fin = .done (.ret .notImplemented) ∧ s' = s) E s := by
  show wpAny _ _ (isInstance (.ref x) (.type "tuple") >>= _) _ _ _
  refine wpAny_bind (hi.here ?_)
  exact wpAny_pure ⟨rfl, rfl⟩
end
end Rg

/-! rules: own ==, !=, repr, in, |, ~ of instances -/
namespace Rg
open PySem PySem.Spec PyProof.Rows L2
theorem kit_no {K : PySem.W.Frag} {C : Addr} {T : String} (ic : PySem.W.isClsIn K C = true) (tC : PySem.W.typeIn K (.ref C) = some (.type "type")) (q : PySem.W.subIn K (.type T) (.ref C) = some false) : PySem.W.kitOne K (.type T) (.ref C) = some false := by
  unfold PySem.W.kitOne
  have hne : ¬ (Value.type T == Value.ref C) = true := fun e => by cases beq_iff_eq.mp e
  rw [if_neg hne]
  unfold PySem.W.kitCls
  show (if ((PySem.W.clsIn K C).isSome && PySem.W.typeIn K (.ref C) == some (.type "type")) = true then PySem.W.subIn K (.type T) (.ref C) else none) = _
  rw [if_pos, q]
  rw [Bool.and_eq_true]
  exact ⟨ic, by rw [tC]; simp⟩
theorem kit_self {K : PySem.W.Frag} {C : Addr} : PySem.W.kitOne K (.ref C) (.ref C) = some true := by
  unfold PySem.W.kitOne
  rw [if_pos (beq_self_eq_true _)]
/-- what == and != ask of a class whose def __eq__ stands at f -/
structure EqCls (K : PySem.W.Frag) (C f : Addr) : Prop where
  eq : PySem.W.findIn K (.ref C) "__eq__" = some (some (.ref f))
  fn : PySem.W.isFn K (.ref f) = true
  ne : PySem.W.findIn K (.ref C) "__ne__" = some (some (.builtin "object.__ne__"))
  mo : PySem.W.mroIn K C (.type "object") = some true
  sN : PySem.W.subIn K (.ref C) (.type "NoneType") = some false
  sI : PySem.W.subIn K (.ref C) (.type "int") = some false
  sS : PySem.W.subIn K (.ref C) (.type "str") = some false
  sL : PySem.W.subIn K (.ref C) (.type "list") = some false
  sT : PySem.W.subIn K (.ref C) (.type "tuple") = some false
section
variable {X : Cx} {CX : CXT} {k : Nat} {C f : Addr} {fd : FuncData} {ps : List Str} {sp : Sp} {dvs : List V} {ds : List Value} {E : XK}
theorem run_in1 {pins : List (Addr × Obj)} {σ : L2.St} {H : Hp} {s : Shared} {Q : VK} {us : List Value} {vs : List V} (F : FnOk X.prog X.w X.K X.mg X.base CX k f fd ps sp) (hr : Room (k + 1) X.A) (hb : Binds X.K fd ps ds) (hd : Vals dvs ds) (hx : Passes CX X E)
    (I : Inv X pins σ H s) (r : Vals vs us) (h : sp (vs ++ dvs) H Q E) : wpAny (model X.prog X.w) X.A.in1 (call (.ref f) us) (EP X pins σ Q) X.xe s := by
  have r2 : Vals (vs ++ dvs) (us ++ ds) := r.append hd
  have hl : (us ++ ds).length = ps.length := by rw [← r2.length]; exact F.len _ _ _ _ h
  refine wpAny_call (codeAny_mono (F.run X.A.in1 X.stack s H ⟨us, []⟩ (us ++ ds) (vs ++ dvs) Q E hr.in1 I.env0.in1 (hb s us I.kIn hl) r2 h) fun r s' hq => ?_)
  cases r with
  | error e => exact hx pins σ H s e s' I hq
  | ok fl =>
    cases fl with
    | ret u => exact I.after hq
    | next => exact hq.elim
    | brk => exact hq.elim
    | cont => exact hq.elim
theorem run_in1G {pins : List (Addr × Obj)} {σ : L2.St} {H : Hp} {s : Shared} {Q : VK} {us : List Value} {vs : List V} (F : GFn X.prog X.w X.K X.mg X.base CX k f fd ps sp) (hr : Room (k + 1) X.A) (hg : X.A.guards = some []) (hb : Binds X.K fd ps ds) (hd : Vals dvs ds) (hx : Passes CX X E)
    (I : Inv X pins σ H s) (r : Vals vs us) (h : sp (vs ++ dvs) H Q E) : wpAny (model X.prog X.w) X.A.in1 (call (.ref f) us) (EP X pins σ Q) X.xe s := by
  have r2 : Vals (vs ++ dvs) (us ++ ds) := r.append hd
  have hl : (us ++ ds).length = ps.length := by rw [← r2.length]; exact F.len _ _ _ _ h
  refine wpAny_call (codeAny_mono (F.run X.A.in1 X.stack s H ⟨us, []⟩ (us ++ ds) (vs ++ dvs) Q E hr.in1 hg I.env0.in1 (hb s us I.kIn hl) r2 h) fun r s' hq => ?_)
  cases r with
  | error e => exact hx pins σ H s e s' I hq
  | ok fl =>
    cases fl with
    | ret u => exact I.after hq
    | next => exact hq.elim
    | brk => exact hq.elim
    | cont => exact hq.elim
theorem cmpback' {P : Value → Shared → Prop} {z : V} {v : Value} {s' : Shared} (r : RelV z v) (h : P v s') : PySem.W.CmpBack P v s' := by
  cases z with
  | non => cases (show v = Value.none from r); exact h
  | bl b => cases (show v = Value.bool b from r); exact h
  | int i =>
    obtain ⟨t, e⟩ := (show ∃ t, v = Value.int i t from r)
    cases e
    exact h
  | str x =>
    obtain ⟨t, e⟩ := (show ∃ t, v = Value.str x t from r)
    cases e
    exact h
  | byt b =>
    obtain ⟨t, e⟩ := (show ∃ t, v = Value.bytes b t from r)
    cases e
    exact h
  | flt b =>
    obtain ⟨t, e⟩ := (show ∃ t, v = Value.float b t from r)
    cases e
    exact h
  | ref a => cases (show v = Value.ref a from r); exact h
  | ty n => cases (show v = Value.type n from r); exact h
/-- x == y, x an instance of the class at C -/
def rEqOwn (K : PySem.W.Frag) (C : Addr) (sp : Sp) (dvs : List V) (E : XK) : R2 := fun x y H Q => ∃ a dx fs t, x = .ref a ∧ H a = some (.ins C dx fs) ∧ TyX K H y t ∧ PySem.W.notFirst K C t = true ∧ sp ([x, y] ++ dvs) H Q E
theorem op_eqOwn (e : EqCls X.K C f) (F : FnOk X.prog X.w X.K X.mg X.base CX k f fd ps sp) (hr : Room k X.A) (hb : Binds X.K fd ps ds) (hd : Vals dvs ds) (hx : Passes CX X E) : OpR X (compareOp .Eq) (rEqOwn X.K C sp dvs E) := by
  intro pins s σ H x y v u Q I rx ry h
  obtain ⟨a, dx, fs, t, rfl, ha, ty, hn, q⟩ := h
  cases (show v = Value.ref a from rx)
  obtain ⟨mA, O, _⟩ := ins_get I.hok ha
  obtain ⟨od, J, _⟩ := O.look
  obtain ⟨m, hF⟩ := I.fr
  obtain ⟨P, Z, p, _⟩ := kit_of I ry ty
  show wpAny _ _ (richCompare .Eq (.ref a) u) _ _ _
  refine PySem.W.cmp_K (op := .Eq) (tb := t) hr.units0 hF I.ok.mod.kin J (Z.ty _ _ I.kIn p) hn e.eq e.fn ?_
  refine wpAny_mono (run_fn (us := [.ref a, u]) (vs := [.ref a, y]) F hr hb hd hx I (.cons rfl (.cons ry .nil)) q) (fun w s' z => ?_) fun _ _ x => x
  obtain ⟨z', H', I', rz, qz⟩ := z
  exact cmpback' rz ⟨z', H', I', rz, qz⟩
/-- x != y, x an instance of the class at C -/
def rNeOwn (K : PySem.W.Frag) (C : Addr) (sp : Sp) (dvs : List V) (E : XK) : R2 := fun x y H Q => ∃ a dx fs t, x = .ref a ∧ H a = some (.ins C dx fs) ∧ TyX K H y t ∧ PySem.W.notFirst K C t = true ∧ sp ([x, y] ++ dvs) H (fun z H' => ∃ b, z = .bl b ∧ Q (.bl (!b)) H') E
theorem op_neOwn (e : EqCls X.K C f) (F : FnOk X.prog X.w X.K X.mg X.base CX k f fd ps sp) (hr : Room (k + 1) X.A) (hb : Binds X.K fd ps ds) (hd : Vals dvs ds) (hx : Passes CX X E) : OpR X (compareOp .NotEq) (rNeOwn X.K C sp dvs E) := by
  intro pins s σ H x y v u Q I rx ry h
  obtain ⟨a, dx, fs, t, rfl, ha, ty, hn, q⟩ := h
  cases (show v = Value.ref a from rx)
  obtain ⟨mA, O, _⟩ := ins_get I.hok ha
  obtain ⟨od, J, _⟩ := O.look
  obtain ⟨m, hF⟩ := I.fr
  obtain ⟨P, Z, p, _⟩ := kit_of I ry ty
  have hu : X.A.units + 1 < cLine := by
    have := hr.units
    omega
  show wpAny _ _ (richCompare .NotEq (.ref a) u) _ _ _
  refine ne_K (tb := t) hu hF I.ok.mod.kin J (Z.ty _ _ I.kIn p) hn e.mo e.ne e.eq e.fn ?_
  refine wpAny_mono (run_in1 (us := [.ref a, u]) (vs := [.ref a, y]) F hr hb hd hx I (.cons rfl (.cons ry .nil)) q) (fun w s' z => ?_) fun _ _ x => x
  obtain ⟨z', H', I', rz, b, eb, qz⟩ := z
  subst eb
  cases (show w = Value.bool b from rz)
  exact ⟨b, rfl, .bl (!b), H', I', rfl, qz⟩
/-- what stands on the left of == and declines -/
inductive EqL (K : PySem.W.Frag) (H : Hp) : V → Prop where
  | non : EqL K H .non
  | int (i : Int) : EqL K H (.int i)
  | str (z : Str) : EqL K H (.str z)
  | lst {a : Addr} {xs : List V} (h : SqL K H a xs) : EqL K H (.ref a)
  | tup {a : Addr} {xs : List V} (h : SqT K H a xs) : EqL K H (.ref a)
/-- x == y, y an instance of the class at C, x of a built-in type -/
def rEqBack (K : PySem.W.Frag) (C : Addr) (sp : Sp) (dvs : List V) (E : XK) : R2 := fun x y H Q => ∃ b dx fs, y = .ref b ∧ H b = some (.ins C dx fs) ∧ EqL K H x ∧ sp ([y, x] ++ dvs) H Q E
theorem op_eqBack (e : EqCls X.K C f) (F : FnOk X.prog X.w X.K X.mg X.base CX k f fd ps sp) (hr : Room k X.A) (hb : Binds X.K fd ps ds) (hd : Vals dvs ds) (hx : Passes CX X E) : OpR X (compareOp .Eq) (rEqBack X.K C sp dvs E) := by
  intro pins s σ H x y v u Q I rx ry h
  obtain ⟨b, dx, fs, rfl, hbo, hl, q⟩ := h
  cases (show u = Value.ref b from ry)
  obtain ⟨mA, O, _⟩ := ins_get I.hok hbo
  obtain ⟨od, J, _⟩ := O.look
  obtain ⟨_, _, _, ob, _⟩ := (show ObjOk X.prog X.w H s.heap b (.ins C dx fs) from I.hok b _ hbo)
  have hc : wpAny (model X.prog X.w) X.A (call (.ref f) [.ref b, v]) (PySem.W.CmpBack (EP X pins σ Q)) X.xe s := by
    refine wpAny_mono (run_fn (us := [.ref b, v]) (vs := [.ref b, x]) F hr hb hd hx I (.cons rfl (.cons rx .nil)) q) (fun w s' z => ?_) fun _ _ x => x
    obtain ⟨z', H', I', rz, qz⟩ := z
    exact cmpback' rz ⟨z', H', I', rz, qz⟩
  show wpAny _ _ (richCompare .Eq v (.ref b)) _ _ _
  cases hl with
  | non =>
    cases (show v = Value.none from rx)
    exact eqR_K hr.units0 I.kIn J (typeIs_none s) PySem.F.slot_NoneType_eq PySem.F.entry_NoneType_eq (PySem.F.args_NoneType_eq_2 _ _) eqd_none rfl e.sN e.eq e.fn hc
  | int i =>
    obtain ⟨t, rfl⟩ := rx
    exact eqR_K hr.units0 I.kIn J (typeIs_int s i t) slot_int_eq entry_int_eq (args_int_eq _ _) (eqd_int ob) rfl e.sI e.eq e.fn hc
  | str z =>
    obtain ⟨t, rfl⟩ := rx
    exact eqR_K hr.units0 I.kIn J (typeIs_str s z t) PySem.F.slot_str_eq PySem.F.entry_str_eq (PySem.F.args_str_eq_2 _ _) (eqd_str ob) rfl e.sS e.eq e.fn hc
  | @lst a xs hq =>
    cases (show v = Value.ref a from rx)
    obtain ⟨its, rv, p, _⟩ := I.list hq
    exact eqR_K hr.units0 I.kIn J p.isList.typeIs PySem.F.slot_list_eq PySem.F.entry_list_eq (PySem.F.args_list_eq_2 _ _) (eqd_list (J.type.andThen (PySem.W.looks_subIn I.kIn e.sL))) rfl e.sL e.eq e.fn hc
  | @tup a xs hq =>
    cases (show v = Value.ref a from rx)
    obtain ⟨its, rv, p, _⟩ := I.tuple hq
    exact eqR_K hr.units0 I.kIn J p.typeIs PySem.F.slot_tuple_eq PySem.F.entry_tuple_eq (PySem.F.args_tuple_eq_2 _ _) (eqd_tuple (J.type.andThen (PySem.W.looks_subIn I.kIn e.sT))) rfl e.sT e.eq e.fn hc
/-- repr(x), x an instance with an own __repr__ -/
def rReprOwn (C : Addr) (sp : Sp) (dvs : List V) (E : XK) : List V → Hp → VK → Prop := fun xs H Q => ∃ a dx fs, xs = [.ref a] ∧ H a = some (.ins C dx fs) ∧ sp ([.ref a] ++ dvs) H (fun z H' => ∃ y, z = .str y ∧ Q z H') E
theorem call_reprOwn (hs : PySem.W.findIn X.K (.ref C) "__repr__" = some (some (.ref f))) (hf : PySem.W.isFn X.K (.ref f) = true) (F : GFn X.prog X.w X.K X.mg X.base CX k f fd ps sp) (hr : Room (k + 1) X.A) (hg : X.A.guards = some [])
    (hb : Binds X.K fd ps ds) (hd : Vals dvs ds) (hx : Passes CX X E) : CallR X (.builtin "repr") (rReprOwn C sp dvs E) := by
  intro pins s σ H xs us Q I r h
  obtain ⟨a, dx, fs, rfl, ha, q⟩ := h
  obtain ⟨u, rfl, ru⟩ := vals1 r
  obtain rfl : u = Value.ref a := ru
  obtain ⟨mA, O, _⟩ := ins_get I.hok ha
  obtain ⟨od, J, _⟩ := O.look
  obtain ⟨m, hF⟩ := I.fr
  refine PySem.W.repr_K hr.in1.units0 hF I.ok.mod.kin J hs hf ?_
  refine wpAny_mono (run_in1G (us := [.ref a]) (vs := [.ref a]) F hr hg hb hd hx I (.cons rfl .nil) q) (fun w s' z => ?_) fun _ _ x => x
  obtain ⟨z', H', I', rz, y, ey, qz⟩ := z
  subst ey
  obtain ⟨t, rfl⟩ := (show ∃ t, w = Value.str y t from rz)
  exact ⟨.str y, H', I', ⟨t, rfl⟩, qz⟩
end
/-! ### f"{data!r}" -/
def tFmtRD (K : PySem.W.Frag) (te : TE) : TE := fun σ H Q => te σ H fun x H1 => ∃ (a : Addr) (d : PyData), x = .ref a ∧ Dp K H1 (.ref a) d ∧ d.showable = true ∧ d.hasDict = false ∧ d.depth ≤ 60 ∧ d.shown.length ≤ sizeLine ∧ Q (.str d.shown) H1
theorem pe_fmtRD {X : Cx} {e : Expr} {te : TE} {pos : Pos} (hg : X.A.guards = some []) (hu : X.A.units + 64 < cLine) (he : PE X e te) : PE X (.FormattedValue e 114 none pos) (tFmtRD X.K te) := by
  refine ⟨fun pins s σ H Q I h => ?_⟩
  refine wpAny_FormattedValue_repr (thn (he.run pins s σ H _ I h) fun v s1 hv => ?_)
  obtain ⟨x, H1, I1, r1, a, d, rfl, hd, hs, hnd, hdp, hz, q⟩ := hv
  obtain rfl : v = Value.ref a := r1
  obtain ⟨as, rd⟩ := Dp.reads I1 d _ _ hd rfl
  refine pyReprObj_of_reads rd hs (fun z => ?_) hg (by omega) (fun _ _ e => e) (fun h' u tk hk => ?_) hz
  · rw [hnd] at z
    cases z
  · have I2 : Inv X pins σ H1 { s1 with heap := h', toks := tk } := I1.kept hk
    exact wpAny_formatField_str ⟨.str d.shown, H1, I2.tok _, ⟨_, rfl⟩, q⟩ ⟨.str d.shown, H1, I2.tok _, ⟨_, rfl⟩, q⟩ hz
/-! ### x | y, x & y .. of two instances of one class; ~x; y in x -/
section
variable {X : Cx} {CX : CXT} {k : Nat} {C f : Addr} {fd : FuncData} {ps : List Str} {sp : Sp} {dvs : List V} {ds : List Value} {E : XK}
def rBinOwn (C : Addr) (sp : Sp) (dvs : List V) (E : XK) : R2 := fun x y H Q => ∃ a dx fs b dy gs, x = .ref a ∧ y = .ref b ∧ H a = some (.ins C dx fs) ∧ H b = some (.ins C dy gs) ∧ sp ([x, y] ++ dvs) H Q E
theorem op_binOwn {op : Operator} (hc : PySem.W.selfFirst X.K C = true) (hs : PySem.W.findIn X.K (.ref C) (PySem.dunder op.info.2) = some (some (.ref f))) (hf : PySem.W.isFn X.K (.ref f) = true) (F : FnOk X.prog X.w X.K X.mg X.base CX k f fd ps sp) (hr : Room k X.A)
    (hb : Binds X.K fd ps ds) (hd : Vals dvs ds) (hx : Passes CX X E) : OpR X (binaryOp op) (rBinOwn C sp dvs E) := by
  intro pins s σ H x y v u Q I rx ry h
  obtain ⟨a, dx, fs, b, dy, gs, rfl, rfl, ha, hbo, q⟩ := h
  cases (show v = Value.ref a from rx)
  cases (show u = Value.ref b from ry)
  obtain ⟨mA, O, _⟩ := ins_get I.hok ha
  obtain ⟨od, J, _⟩ := O.look
  obtain ⟨mB, O2, _⟩ := ins_get I.hok hbo
  obtain ⟨od2, J2, _⟩ := O2.look
  obtain ⟨m, hF⟩ := I.fr
  refine PySem.W.binop_K hF I.ok.mod.kin J J2.type hc hs hf ?_
  refine wpAny_mono (run_fn (us := [.ref a, .ref b]) (vs := [.ref a, .ref b]) F hr hb hd hx I (.cons rfl (.cons rfl .nil)) q) (fun w s' z => ?_) fun _ _ x => x
  obtain ⟨z', H', I', rz, qz⟩ := z
  exact cmpback' rz ⟨z', H', I', rz, qz⟩
def rInvOwn (C : Addr) (sp : Sp) (dvs : List V) (E : XK) : V → Hp → VK → Prop := fun x H Q => ∃ a dx fs, x = .ref a ∧ H a = some (.ins C dx fs) ∧ sp ([x] ++ dvs) H Q E
theorem un_invOwn (hs : PySem.W.findIn X.K (.ref C) "__invert__" = some (some (.ref f))) (hf : PySem.W.isFn X.K (.ref f) = true) (F : FnOk X.prog X.w X.K X.mg X.base CX k f fd ps sp) (hr : Room k X.A)
    (hb : Binds X.K fd ps ds) (hd : Vals dvs ds) (hx : Passes CX X E) : UnR X (unaryOp .Invert) (rInvOwn C sp dvs E) := by
  intro pins s σ H x v Q I rx h
  obtain ⟨a, dx, fs, rfl, ha, q⟩ := h
  cases (show v = Value.ref a from rx)
  obtain ⟨mA, O, _⟩ := ins_get I.hok ha
  obtain ⟨od, J, _⟩ := O.look
  obtain ⟨m, hF⟩ := I.fr
  exact PySem.W.ksp_inv hF I.ok.mod.kin J hs hf (run_fn (us := [.ref a]) (vs := [.ref a]) F hr hb hd hx I (.cons rfl .nil) q)
/-- y in x -/
def rInOwn (C : Addr) (sp : Sp) (dvs : List V) (E : XK) : R2 := fun y x H Q => ∃ a dx fs, x = .ref a ∧ H a = some (.ins C dx fs) ∧ sp ([x, y] ++ dvs) H (fun z H' => ∃ b, z = .bl b ∧ Q z H') E
theorem op_inOwn (hs : PySem.W.findIn X.K (.ref C) "__contains__" = some (some (.ref f))) (hf : PySem.W.isFn X.K (.ref f) = true) (F : FnOk X.prog X.w X.K X.mg X.base CX k f fd ps sp) (hr : Room k X.A)
    (hb : Binds X.K fd ps ds) (hd : Vals dvs ds) (hx : Passes CX X E) : OpR X (compareOp .In) (rInOwn C sp dvs E) := by
  intro pins s σ H y x u v Q I ry rx h
  obtain ⟨a, dx, fs, rfl, ha, q⟩ := h
  cases (show v = Value.ref a from rx)
  obtain ⟨mA, O, _⟩ := ins_get I.hok ha
  obtain ⟨od, J, _⟩ := O.look
  obtain ⟨m, hF⟩ := I.fr
  refine PySem.W.in_K hF I.ok.mod.kin J hs hf (wpAny_mono (run_fn (us := [.ref a, u]) (vs := [.ref a, y]) F hr hb hd hx I (.cons rfl (.cons ry .nil)) q) (fun w s' z => ?_) fun _ _ x => x)
  obtain ⟨z', H', I', rz, b, eb, qz⟩ := z
  subst eb
  cases (show w = Value.bool b from rz)
  exact wpAny_truthy_bool ⟨.bl b, H', I', rfl, qz⟩
end
end Rg

/-! further rules of the layer; heaps with one changing list (the bag) -/
namespace Rg
open PySem PySem.Spec PyProof.Rows L2

section
variable {X : Cx}
theorem get_listN : PGet X (fun o i H Q => ∃ (p : Addr) (xs : List V) (k : Nat) (v : V), o = .ref p ∧ i = .int (k : Int) ∧
    SqL X.K H p xs ∧ xs[k]? = some v ∧ Q v H) := by
  intro pins s σ H o i ov iv Q I ro ri h
  obtain ⟨p, xs, k, z, rfl, rfl, hq, he, q⟩ := h
  cases ro
  obtain ⟨t, rfl⟩ := ri
  obtain ⟨its, r, pl, hz⟩ := I.list hq
  obtain ⟨u, eu, ru⟩ := r.get he
  have hl := r.length
  have hk : k < xs.length := (List.getElem?_eq_some_iff.mp he).1
  have hn := line63
  refine wpAny_getItem_list pl.isList (by omega) (by omega) (by simpa using eu) ⟨z, H, I, ru, q⟩
end

/-! ### heaps -/
theorem same_new {H : Hp} {p : Addr} {o : HO} (h : H p = none) : Same H (upd H p o) := by
  intro b x e
  rw [upd_ne (ne_of_none e h)]
  exact e
/-- all that was tracked is as it was, but g -/
def But (g : Addr) (H H' : Hp) : Prop := ∀ b o, b ≠ g → H b = some o → H' b = some o
theorem But.refl (g : Addr) (H : Hp) : But g H H := fun _ _ _ h => h
theorem But.trans {g : Addr} {H H1 H2 : Hp} (a : But g H H1) (b : But g H1 H2) : But g H H2 := fun c o n h => b c o n (a c o n h)
theorem But.of_same {g : Addr} {H H1 : Hp} (a : Same H H1) : But g H H1 := fun b o _ h => a b o h
theorem But.new {g p : Addr} {H H1 : Hp} {o : HO} (a : But g H H1) (h : H1 p = none) : But g H (upd H1 p o) := a.trans (.of_same (same_new h))
theorem But.self {g : Addr} {H H1 : Hp} {o : HO} (a : But g H H1) : But g H (upd H1 g o) := fun b x n h => by
  rw [upd_ne n]
  exact a b x n h
theorem But.upd_new {g p : Addr} {H H1 : Hp} {o : HO} (a : But g H H1) (h : H p = none) (hp : p ≠ g) : But g H (upd H1 p o) := fun b x n e => by
  rw [upd_ne (ne_of_none e h)]
  exact a b x n e
theorem But.free {g p : Addr} {H H1 : Hp} {o : HO} (a : But g H H1) (hg : H1 g = some o) (h : H1 p = none) : H p = none := by
  cases e : H p with
  | none => rfl
  | some x =>
    by_cases n : p = g
    · rw [n, hg] at h
      cases h
    · rw [a p x n e] at h
      cases h

/-! ### the bag -/
def BagL (x0 x1 x2 : Int) (l : Addr) : HO := .lst [.int x0, .int x1, .int x2, .ref l]
def Bag (H : Hp) (g l : Addr) : Prop := ∃ (x0 x1 x2 : Int) (cs : List Int), H g = some (BagL x0 x1 x2 l) ∧
  H l = some (.lst (cs.map V.int)) ∧ 0 ≤ x0 ∧ 0 ≤ x1 ∧ 0 ≤ x2 ∧ (∀ c ∈ cs, 0 ≤ c) ∧ cs.length ≤ 63
theorem bag_ne {x0 x1 x2 : Int} {l : Addr} {cs : List Int} : HO.lst (cs.map V.int) ≠ BagL x0 x1 x2 l := by
  intro e
  have e1 : cs.map V.int = [.int x0, .int x1, .int x2, .ref l] := HO.lst.inj e
  have : V.ref l ∈ cs.map V.int := by rw [e1]; simp
  obtain ⟨c, _, z⟩ := List.mem_map.mp this
  cases z
theorem Bag.new {H : Hp} {g l p : Addr} {o : HO} (b : Bag H g l) (h : H p = none) : Bag (upd H p o) g l := by
  obtain ⟨x0, x1, x2, cs, h1, h2, r⟩ := b
  exact ⟨x0, x1, x2, cs, by rw [upd_ne (ne_of_none h1 h)]; exact h1, by rw [upd_ne (ne_of_none h2 h)]; exact h2, r⟩
theorem Bag.same {H H' : Hp} {g l : Addr} (b : Bag H g l) (s : Same H H') : Bag H' g l := by
  obtain ⟨x0, x1, x2, cs, h1, h2, r⟩ := b
  exact ⟨x0, x1, x2, cs, s _ _ h1, s _ _ h2, r⟩
theorem Bag.at {H : Hp} {g l : Addr} (b : Bag H g l) : ∃ o, H g = some o := by
  obtain ⟨x0, x1, x2, cs, h1, _⟩ := b
  exact ⟨_, h1⟩
theorem Bag.at2 {H : Hp} {g l : Addr} (b : Bag H g l) : ∃ o, H l = some o := by
  obtain ⟨x0, x1, x2, cs, _, h2, _⟩ := b
  exact ⟨_, h2⟩
/-- what is new is not the bag -/
theorem Bag.ne {H : Hp} {g l b : Addr} (h : Bag H g l) (hb : H b = none) : b ≠ g := by
  obtain ⟨o, e⟩ := h.at
  exact (ne_of_none e hb).symm
theorem Bag.ne2 {H : Hp} {g l b : Addr} (h : Bag H g l) (hb : H b = none) : b ≠ l := by
  obtain ⟨o, e⟩ := h.at2
  exact (ne_of_none e hb).symm
theorem Bag.upd_other {H : Hp} {g l p : Addr} {o : HO} (b : Bag H g l) (hp : p ≠ g) (hl : p ≠ l) : Bag (upd H p o) g l := by
  obtain ⟨x0, x1, x2, cs, h1, h2, r⟩ := b
  exact ⟨x0, x1, x2, cs, by rw [upd_ne hp.symm]; exact h1, by rw [upd_ne hl.symm]; exact h2, r⟩

theorem cut_ints (cs : List Int) (lo hi : Option Int) : ∃ zs : List Int, cutV (cs.map V.int) lo hi = zs.map V.int ∧ (∀ z ∈ zs, z ∈ cs) ∧ zs.length ≤ cs.length := by
  unfold cutV
  rw [← List.map_drop, ← List.map_take]
  refine ⟨_, rfl, fun z hz => ?_, ?_⟩
  · exact List.mem_of_mem_drop (List.mem_of_mem_take hz)
  · rw [List.length_take, List.length_drop]
    omega

/-! ### numbers as states -/
def nV (n : Nat) : V := .int (n : Int)
def spTake : Sp := fun vs H Q _ => ∃ (g l : Addr) (m : Int), vs = [.ref g, .int m] ∧ Bag H g l ∧ 0 < m ∧ m < 1073741824 ∧
  ∀ (H' : Hp) (r : Nat), (r : Int) < m → Bag H' g l → But g H H' → Q (nV r) H'

/-! ### what the built-in names hold -/
theorem bInt : bootBuiltins "int" = some (.type "int") := by decide +kernel
theorem bList : bootBuiltins "list" = some (.type "list") := by decide +kernel
theorem bDict : bootBuiltins "dict" = some (.type "dict") := by decide +kernel
theorem bTuple : bootBuiltins "tuple" = some (.type "tuple") := by decide +kernel
theorem bSet : bootBuiltins "set" = some (.type "set") := by decide +kernel
theorem bLen : bootBuiltins "len" = some (.builtin "len") := by decide +kernel
theorem bAbs : bootBuiltins "abs" = some (.builtin "abs") := by decide +kernel
theorem bRepr : bootBuiltins "repr" = some (.builtin "repr") := by decide +kernel
end Rg

/-! Plain mathematics of machines: ordered lists without doubles, languages, least machines. -/
namespace Mach

/-! ### lists in which each thing stands once, in the order of its first coming -/
section
variable {α β : Type} [DecidableEq α] [DecidableEq β]

def push (L : List α) (s : α) : List α := if s ∈ L then L else L ++ [s]
def pushAll (L X : List α) : List α := X.foldl push L
def D (X : List α) : List α := pushAll [] X

theorem push_mem {L : List α} {s : α} (h : s ∈ L) : push L s = L := if_pos h
theorem push_new {L : List α} {s : α} (h : s ∉ L) : push L s = L ++ [s] := if_neg h
theorem mem_push {L : List α} {s x : α} : x ∈ push L s ↔ x ∈ L ∨ x = s := by
  unfold push
  split
  · constructor
    · exact Or.inl
    · rintro (h | h)
      · exact h
      · rw [h]; assumption
  · simp
theorem pushAll_nil (L : List α) : pushAll L [] = L := rfl
theorem pushAll_cons (L : List α) (x : α) (X : List α) : pushAll L (x :: X) = pushAll (push L x) X := rfl
theorem pushAll_append (L X Y : List α) : pushAll L (X ++ Y) = pushAll (pushAll L X) Y := List.foldl_append
theorem mem_pushAll {L X : List α} {x : α} : x ∈ pushAll L X ↔ x ∈ L ∨ x ∈ X := by
  induction X generalizing L with
  | nil => simp [pushAll_nil]
  | cons y X ih =>
    rw [pushAll_cons, ih, mem_push, List.mem_cons]
    constructor
    · rintro ((h | h) | h)
      · exact .inl h
      · exact .inr (.inl h)
      · exact .inr (.inr h)
    · rintro (h | h | h)
      · exact .inl (.inl h)
      · exact .inl (.inr h)
      · exact .inr h
theorem mem_D {X : List α} {x : α} : x ∈ D X ↔ x ∈ X := by
  unfold D
  rw [mem_pushAll]
  simp
theorem pushAll_of_sub {L X : List α} (h : ∀ x ∈ X, x ∈ L) : pushAll L X = L := by
  induction X generalizing L with
  | nil => rfl
  | cons y X ih =>
    rw [pushAll_cons, push_mem (h y List.mem_cons_self)]
    exact ih fun x hx => h x (List.mem_cons_of_mem _ hx)
theorem push_pre (L : List α) (s : α) : ∃ Z, push L s = L ++ Z := by
  unfold push
  split
  · exact ⟨[], by simp⟩
  · exact ⟨[s], rfl⟩
theorem pushAll_pre (L X : List α) : ∃ Z, pushAll L X = L ++ Z := by
  induction X generalizing L with
  | nil => exact ⟨[], by simp [pushAll_nil]⟩
  | cons y X ih =>
    obtain ⟨Z1, h1⟩ := push_pre L y
    obtain ⟨Z2, h2⟩ := ih (push L y)
    exact ⟨Z1 ++ Z2, by rw [pushAll_cons, h2, h1, List.append_assoc]⟩
theorem push_nodup {L : List α} {s : α} (h : L.Nodup) : (push L s).Nodup := by
  unfold push
  split
  · exact h
  · rename_i hs
    rw [List.nodup_append]
    refine ⟨h, by simp, ?_⟩
    intro a ha b hb
    rw [List.mem_singleton] at hb
    intro e
    exact hs (by rw [← hb, ← e]; exact ha)
theorem pushAll_nodup {L X : List α} (h : L.Nodup) : (pushAll L X).Nodup := by
  induction X generalizing L with
  | nil => exact h
  | cons y X ih => exact ih (push_nodup h)
theorem D_nodup (X : List α) : (D X).Nodup := pushAll_nodup List.nodup_nil
theorem D_cons (x : α) (X : List α) : D (x :: X) = pushAll [x] X := rfl
theorem D_append (X Y : List α) : D (X ++ Y) = pushAll (D X) Y := pushAll_append _ _ _
theorem D_of_nodup {X : List α} (h : X.Nodup) : D X = X := by
  have gen : ∀ (X L : List α), (L ++ X).Nodup → pushAll L X = L ++ X := by
    intro X
    induction X with
    | nil => intro L _; simp [pushAll_nil]
    | cons y X ih =>
      intro L hn
      have hy : y ∉ L := by
        intro hy
        rw [List.nodup_append] at hn
        exact hn.2.2 y hy y List.mem_cons_self rfl
      rw [pushAll_cons, push_new hy, ih (L ++ [y]) (by rw [List.append_assoc]; exact hn), List.append_assoc]
      rfl
  have := gen X [] (by simpa using h)
  simpa [D] using this
theorem pushAll_sup {L M X : List α} : pushAll (pushAll L M) X = pushAll L (M ++ X) := (pushAll_append L M X).symm
/-- pushing what D left -/
theorem pushAll_D (L X : List α) : pushAll L (D X) = pushAll L X := by
  have gen : ∀ (X Y : List α), pushAll L (pushAll Y X) = pushAll (pushAll L Y) X := by
    intro X
    induction X with
    | nil => intro Y; rfl
    | cons x X ih =>
      intro Y
      rw [pushAll_cons, ih, pushAll_cons]
      congr 1
      by_cases hx : x ∈ Y
      · rw [push_mem hx, push_mem (mem_pushAll.mpr (.inr hx))]
      · rw [push_new hx, pushAll_append]
        rfl
  have := gen X []
  simpa [D, pushAll_nil] using this
theorem D_D (X : List α) : D (D X) = D X := D_of_nodup (D_nodup X)
/-- maps -/
theorem push_map_D (f : α → β) (L : List α) (s : α) (B : List β) : pushAll B ((push L s).map f) = pushAll B (L.map f ++ [f s]) := by
  by_cases h : s ∈ L
  · rw [push_mem h, pushAll_append, pushAll_of_sub (X := [f s])]
    intro x hx
    rw [List.mem_singleton] at hx
    rw [hx]
    exact mem_pushAll.mpr (.inr (List.mem_map_of_mem h))
  · rw [push_new h, List.map_append]
    rfl
theorem pushAll_map (f : α → β) (B : List β) (X L : List α) : pushAll B ((pushAll L X).map f) = pushAll B (L.map f ++ X.map f) := by
  induction X generalizing L with
  | nil => simp [pushAll_nil]
  | cons x X ih =>
    rw [pushAll_cons, ih, pushAll_append, push_map_D, ← pushAll_append, List.append_assoc]
    rfl
theorem D_map_D (f : α → β) (X : List α) : D ((D X).map f) = D (X.map f) := by
  have := pushAll_map f [] X []
  simpa [D] using this
theorem map_push_inj {f : α → β} {L : List α} {s : α} (h : ∀ x ∈ L, f x = f s → x = s) : (push L s).map f = push (L.map f) (f s) := by
  by_cases hs : s ∈ L
  · rw [push_mem hs, push_mem (List.mem_map_of_mem hs)]
  · rw [push_new hs, push_new, List.map_append]
    · rfl
    · intro hm
      obtain ⟨x, hx, e⟩ := List.mem_map.mp hm
      exact hs (by rw [← h x hx e]; exact hx)
theorem map_pushAll_inj {f : α → β} (X : List α) : ∀ L : List α, (∀ x ∈ L ++ X, ∀ y ∈ L ++ X, f x = f y → x = y) → (pushAll L X).map f = pushAll (L.map f) (X.map f) := by
  induction X with
  | nil => intro L _; rfl
  | cons s X ih =>
    intro L h
    rw [pushAll_cons, ih (push L s), List.map_cons, pushAll_cons, map_push_inj]
    · intro x hx e
      exact h x (by simp [hx]) s (by simp) e
    · intro x hx y hy e
      refine h x ?_ y ?_ e
      · rcases List.mem_append.mp hx with hx | hx
        · rcases mem_push.mp hx with hx | hx
          · simp [hx]
          · simp [hx]
        · simp [hx]
      · rcases List.mem_append.mp hy with hx | hx
        · rcases mem_push.mp hx with hx | hx
          · simp [hx]
          · simp [hx]
        · simp [hx]
theorem D_map_inj {f : α → β} {X : List α} (h : ∀ x ∈ X, ∀ y ∈ X, f x = f y → x = y) : (D X).map f = D (X.map f) := by
  have := map_pushAll_inj (f := f) X [] (by simpa using h)
  simpa [D] using this
/-- what stands twice in the source of a flatMap adds nothing -/
theorem pushAll_flatMap_D (r : β → List α) (Y : List β) : ∀ (L : List α) (Z : List β), pushAll L ((pushAll Z Y).flatMap r) = pushAll (pushAll L (Z.flatMap r)) (Y.flatMap r) := by
  induction Y with
  | nil => intro L Z; rfl
  | cons y Y ih =>
    intro L Z
    rw [pushAll_cons, ih, List.flatMap_cons, pushAll_append]
    congr 1
    by_cases hy : y ∈ Z
    · rw [push_mem hy]
      refine (pushAll_of_sub ?_).symm
      intro x hx
      exact mem_pushAll.mpr (.inr (List.mem_flatMap.mpr ⟨y, hy, hx⟩))
    · rw [push_new hy, List.flatMap_append, pushAll_append]
      simp
theorem D_flatMap_D (x : α) (r : β → List α) (Y : List β) : D (x :: (D Y).flatMap r) = D (x :: Y.flatMap r) := by
  rw [D_cons, D_cons]
  have := pushAll_flatMap_D r Y [x] []
  simpa [D, pushAll_nil] using this

/-! ### counting -/
theorem length_le_of_sub {L M : List α} (hn : L.Nodup) (h : ∀ x ∈ L, x ∈ M) : L.length ≤ M.length := by
  induction L generalizing M with
  | nil => exact Nat.zero_le _
  | cons a L ih =>
    have ha : a ∈ M := h a List.mem_cons_self
    have h1 := ih (M := M.erase a) (List.nodup_cons.mp hn).2 (by
      intro x hx
      have hne : x ≠ a := by
        intro e
        rw [e] at hx
        exact (List.nodup_cons.mp hn).1 hx
      exact (List.mem_erase_of_ne hne).mpr (h x (List.mem_cons_of_mem _ hx)))
    rw [List.length_erase_of_mem ha] at h1
    have : 0 < M.length := List.length_pos_of_mem ha
    rw [List.length_cons]
    omega
end

theorem nodup_lt_length {L : List Nat} {n : Nat} (hn : L.Nodup) (h : ∀ x ∈ L, x < n) : L.length ≤ n := by
  have := length_le_of_sub (M := List.range n) hn (fun x hx => List.mem_range.mpr (h x hx))
  rwa [List.length_range] at this

/-! ### machines -/
def rowOf (R : List (List Nat)) (q : Nat) : List Nat := R.getD q []
def dl (R : List (List Nat)) (q k : Nat) : Nat := (rowOf R q).getD k 0
def runM (R : List (List Nat)) (q : Nat) (w : List Nat) : Nat := w.foldl (dl R) q
def Wd (n : Nat) (w : List Nat) : Prop := ∀ k ∈ w, k < n
structure Mok (n : Nat) (R : List (List Nat)) : Prop where
  wide : ∀ q, q < R.length → (rowOf R q).length = n
  lt : ∀ q, q < R.length → ∀ x ∈ rowOf R q, x < R.length
def Alk (n : Nat) (R : List (List Nat)) (E : List Nat) (q : Nat) (R' : List (List Nat)) (E' : List Nat) (q' : Nat) : Prop :=
  ∀ w, Wd n w → (runM R q w ∈ E ↔ runM R' q' w ∈ E')

section
variable {n : Nat} {R R' R1 : List (List Nat)} {E E' E1 : List Nat} {q q' q1 : Nat}
theorem Alk.refl (n : Nat) (R : List (List Nat)) (E : List Nat) (q : Nat) : Alk n R E q R E q := fun _ _ => Iff.rfl
theorem Alk.symm (h : Alk n R E q R' E' q') : Alk n R' E' q' R E q := fun w hw => (h w hw).symm
theorem Alk.trans (h : Alk n R E q R' E' q') (h' : Alk n R' E' q' R1 E1 q1) : Alk n R E q R1 E1 q1 := fun w hw => (h w hw).trans (h' w hw)
theorem Alk.step (h : Alk n R E q R' E' q') {k : Nat} (hk : k < n) : Alk n R E (dl R q k) R' E' (dl R' q' k) := fun w hw =>
  h (k :: w) (fun j hj => by
    rcases List.mem_cons.mp hj with e | hj
    · rw [e]; exact hk
    · exact hw j hj)
theorem Alk.nil (h : Alk n R E q R' E' q') : q ∈ E ↔ q' ∈ E' := h [] (fun _ z => by cases z)
theorem dl_mem (hM : Mok n R) (hq : q < R.length) {k : Nat} (hk : k < n) : dl R q k ∈ rowOf R q := by
  have hl : k < (rowOf R q).length := by rw [hM.wide q hq]; exact hk
  unfold dl
  rw [List.getD_eq_getElem?_getD, List.getElem?_eq_getElem hl]
  exact List.getElem_mem hl
theorem dl_lt (hM : Mok n R) (hq : q < R.length) {k : Nat} (hk : k < n) : dl R q k < R.length := hM.lt q hq _ (dl_mem hM hq hk)
theorem runM_nil (R : List (List Nat)) (q : Nat) : runM R q [] = q := rfl
theorem runM_cons (R : List (List Nat)) (q k : Nat) (w : List Nat) : runM R q (k :: w) = runM R (dl R q k) w := rfl
theorem runM_append (R : List (List Nat)) (q : Nat) (v w : List Nat) : runM R q (v ++ w) = runM R (runM R q v) w := List.foldl_append
theorem runM_lt (hM : Mok n R) {w : List Nat} : ∀ {q : Nat}, q < R.length → Wd n w → runM R q w < R.length := by
  induction w with
  | nil => intro q hq _; exact hq
  | cons k w ih =>
    intro q hq hw
    exact ih (dl_lt hM hq (hw k List.mem_cons_self)) (fun j hj => hw j (List.mem_cons_of_mem _ hj))
theorem Alk.run (h : Alk n R E q R' E' q') {w : List Nat} (hw : Wd n w) : Alk n R E (runM R q w) R' E' (runM R' q' w) := by
  intro v hv
  have := h (w ++ v) (fun k hk => by
    rcases List.mem_append.mp hk with z | z
    · exact hw k z
    · exact hv k z)
  rwa [runM_append, runM_append] at this
end

/-- the least machine of its texts -/
structure Least (n : Nat) (R : List (List Nat)) (E : List Nat) : Prop where
  ok : Mok n R
  ne : 0 < R.length
  grow : D (0 :: R.flatten) = List.range R.length
  acc : ∀ q, q < R.length → ∃ w, Wd n w ∧ runM R 0 w = q
  red : ∀ p q, p < R.length → q < R.length → Alk n R E p R E q → p = q
  ends : E = (List.range R.length).filter (fun q => decide (q ∈ E))

theorem flatMap_range_rows (R : List (List Nat)) : (List.range R.length).flatMap (rowOf R) = R.flatten := by
  rw [List.flatMap_def]
  congr 1
  apply List.ext_getElem?
  intro i
  rw [List.getElem?_map]
  by_cases h : i < R.length
  · rw [List.getElem?_range h, List.getElem?_eq_getElem h]
    simp [rowOf, List.getD_eq_getElem?_getD, h]
  · have h' : R.length ≤ i := by omega
    rw [List.getElem?_eq_none_iff.mpr (by simpa using h'), List.getElem?_eq_none_iff.mpr h']
    rfl

theorem flatMap_congr {α β : Type} {f g : α → List β} : ∀ (L : List α), (∀ x ∈ L, f x = g x) → L.flatMap f = L.flatMap g
  | [], _ => rfl
  | a :: L, h => by
    rw [List.flatMap_cons, List.flatMap_cons, h a List.mem_cons_self, flatMap_congr L fun x hx => h x (List.mem_cons_of_mem _ hx)]

theorem range_pre {m n : Nat} {Z : List Nat} {L : List Nat} (h : List.range n = L ++ Z) (hl : L.length = m) : L = List.range m := by
  have h1 : L = (List.range n).take m := by
    rw [h, ← hl]
    simp
  have h2 : m ≤ n := by
    have := congrArg List.length h
    rw [List.length_range, List.length_append] at this
    omega
  rw [h1, List.take_range, Nat.min_eq_left h2]

/-- both least, of the same texts: the one is not longer, state by state the same -/
theorem least_half {n : Nat} {R R' : List (List Nat)} {E E' : List Nat} (h : Least n R E) (h' : Least n R' E') (al : Alk n R E 0 R' E' 0) :
    R.length ≤ R'.length ∧ ∀ q, q < R.length → Alk n R E q R' E' q := by
  have hex : ∀ q, ∃ c, q < R.length → c < R'.length ∧ Alk n R E q R' E' c := by
    intro q
    by_cases hq : q < R.length
    · obtain ⟨w, hw, e⟩ := h.acc q hq
      refine ⟨runM R' 0 w, fun _ => ⟨runM_lt h'.ok h'.ne hw, ?_⟩⟩
      have := al.run hw
      rwa [e] at this
    · exact ⟨0, fun z => absurd z hq⟩
  let c : Nat → Nat := fun q => Classical.choose (hex q)
  have hc : ∀ q, q < R.length → c q < R'.length ∧ Alk n R E q R' E' (c q) := fun q => Classical.choose_spec (hex q)
  have uniq : ∀ p p', p < R'.length → p' < R'.length → ∀ q, Alk n R E q R' E' p → Alk n R E q R' E' p' → p = p' := fun p p' hp hp' q a b => h'.red p p' hp hp' (a.symm.trans b)
  have c0 : c 0 = 0 := uniq _ _ (hc 0 h.ne).1 h'.ne 0 (hc 0 h.ne).2 al
  have cinj : ∀ p q, p < R.length → q < R.length → c p = c q → p = q := by
    intro p q hp hq e
    have a := (hc p hp).2
    rw [e] at a
    exact h.red p q hp hq (a.trans (hc q hq).2.symm)
  have crow : ∀ q, q < R.length → rowOf R' (c q) = (rowOf R q).map c := by
    intro q hq
    have hl := h.ok.wide q hq
    have hl' := h'.ok.wide (c q) (hc q hq).1
    apply List.ext_getElem
    · rw [hl', List.length_map, hl]
    · intro k h1 h2
      have hk : k < n := by rw [← hl']; exact h1
      have hk2 : k < (rowOf R q).length := by rw [hl]; exact hk
      have e1 : (rowOf R' (c q))[k] = dl R' (c q) k := by
        unfold dl
        rw [List.getD_eq_getElem?_getD, List.getElem?_eq_getElem h1]
        rfl
      have e2 : (rowOf R q)[k] = dl R q k := by
        unfold dl
        rw [List.getD_eq_getElem?_getD, List.getElem?_eq_getElem hk2]
        rfl
      rw [List.getElem_map, e1, e2]
      have hd := dl_lt h.ok hq hk
      exact uniq _ _ (dl_lt h'.ok (hc q hq).1 hk) (hc _ hd).1 (dl R q k) ((hc q hq).2.step hk) (hc _ hd).2
  have main : ∀ j, j ≤ R.length → ∀ i, i < j → c i = i := by
    intro j
    induction j with
    | zero => intro _ i hi; omega
    | succ j ih =>
      intro hj i hi
      by_cases hij : i < j
      · exact ih (by omega) i hij
      · have ei : i = j := by omega
        subst ei
        have fix := ih (by omega)
        by_cases hi0 : i = 0
        · rw [hi0]; exact c0
        · -- the stream of the rows ahead of i
          have hsub : ∀ x ∈ 0 :: (List.range i).flatMap (rowOf R), x < R.length := by
            intro x hx
            rcases List.mem_cons.mp hx with e | hx
            · rw [e]; exact h.ne
            · obtain ⟨q, hq, hx⟩ := List.mem_flatMap.mp hx
              exact h.ok.lt q (by have := List.mem_range.mp hq; omega) x hx
          have eS : (0 :: (List.range i).flatMap (rowOf R)).map c = 0 :: (List.range i).flatMap (rowOf R') := by
            rw [List.map_cons, c0, List.map_flatMap]
            congr 1
            apply flatMap_congr
            intro q hq
            have hq' := List.mem_range.mp hq
            rw [← crow q (by omega), fix q hq']
          have pre : ∀ (S : List (List Nat)), i ≤ S.length → D (0 :: S.flatten) = List.range S.length → ∃ m, D (0 :: (List.range i).flatMap (rowOf S)) = List.range m := by
            intro S hS hg
            have e1 : List.range S.length = List.range i ++ (List.range (S.length - i)).map (i + ·) := by
              rw [← List.range_add]
              congr 1
              omega
            rw [← flatMap_range_rows S, e1, List.flatMap_append, ← List.cons_append, D_append] at hg
            obtain ⟨Z, hZ⟩ := pushAll_pre (D (0 :: (List.range i).flatMap (rowOf S))) (((List.range (S.length - i)).map (i + ·)).flatMap (rowOf S))
            rw [hZ, ← e1] at hg
            exact ⟨_, range_pre hg.symm rfl⟩
          have hiR' : i ≤ R'.length := by
            have : ∀ x ∈ List.range i, x ∈ List.range R'.length := by
              intro x hx
              have hx' := List.mem_range.mp hx
              have := (hc x (by omega)).1
              rw [fix x hx'] at this
              exact List.mem_range.mpr this
            have := length_le_of_sub (List.nodup_range) this
            rwa [List.length_range, List.length_range] at this
          obtain ⟨m, hm⟩ := pre R (by omega) h.grow
          obtain ⟨m', hm'⟩ := pre R' hiR' h'.grow
          -- i is among the states that the rows ahead lead to
          have him : i < m := by
            refine Nat.lt_of_not_le fun hmi => ?_
            have closed : ∀ w, Wd n w → runM R 0 w < i := by
              have gen : ∀ w : List Nat, Wd n w → ∀ q, q < i → runM R q w < i := by
                intro w
                induction w with
                | nil => intro _ q hq; exact hq
                | cons k w ihw =>
                  intro hw q hq
                  refine ihw (fun j hj => hw j (List.mem_cons_of_mem _ hj)) _ ?_
                  have hmem : dl R q k ∈ D (0 :: (List.range i).flatMap (rowOf R)) := mem_D.mpr (List.mem_cons_of_mem _ (List.mem_flatMap.mpr ⟨q, List.mem_range.mpr hq, dl_mem h.ok (by omega) (hw k List.mem_cons_self)⟩))
                  rw [hm] at hmem
                  have := List.mem_range.mp hmem
                  omega
              intro w hw
              exact gen w hw 0 (by omega)
            obtain ⟨w, hw, e⟩ := h.acc i (by omega)
            have := closed w hw
            omega
          have emap : (List.range m).map c = List.range m' := by
            rw [← hm, ← hm', D_map_inj, eS]
            intro x hx y hy e
            exact cinj x y (hsub x hx) (hsub y hy) e
          have hl : m = m' := by
            have := congrArg List.length emap
            simpa using this
          have := congrArg (fun L => L[i]?) emap
          simp only [List.getElem?_map] at this
          rw [List.getElem?_range him, List.getElem?_range (by omega)] at this
          simpa using this
  have fixed : ∀ q, q < R.length → c q = q := fun q hq => main R.length (Nat.le_refl _) q hq
  refine ⟨?_, fun q hq => ?_⟩
  · have : ∀ x ∈ List.range R.length, x ∈ List.range R'.length := by
      intro x hx
      have hx' := List.mem_range.mp hx
      have := (hc x hx').1
      rw [fixed x hx'] at this
      exact List.mem_range.mpr this
    have := length_le_of_sub (List.nodup_range) this
    rwa [List.length_range, List.length_range] at this
  · have := (hc q hq).2
    rwa [fixed q hq] at this

theorem least_unique {n : Nat} {R R' : List (List Nat)} {E E' : List Nat} (h : Least n R E) (h' : Least n R' E') (al : Alk n R E 0 R' E' 0) : R = R' ∧ E = E' := by
  obtain ⟨l1, a1⟩ := least_half h h' al
  obtain ⟨l2, a2⟩ := least_half h' h al.symm
  have hl : R.length = R'.length := Nat.le_antisymm l1 l2
  constructor
  · apply List.ext_getElem hl
    intro q h1 h2
    have r1 : R[q] = rowOf R q := by
      unfold rowOf
      rw [List.getD_eq_getElem?_getD, List.getElem?_eq_getElem h1]
      rfl
    have r2 : R'[q] = rowOf R' q := by
      unfold rowOf
      rw [List.getD_eq_getElem?_getD, List.getElem?_eq_getElem h2]
      rfl
    rw [r1, r2]
    have w1 := h.ok.wide q h1
    have w2 := h'.ok.wide q h2
    apply List.ext_getElem (w1.trans w2.symm)
    intro k k1 k2
    have hk : k < n := by rw [← w1]; exact k1
    have e1 : (rowOf R q)[k] = dl R q k := by
      unfold dl
      rw [List.getD_eq_getElem?_getD, List.getElem?_eq_getElem k1]
      rfl
    have e2 : (rowOf R' q)[k] = dl R' q k := by
      unfold dl
      rw [List.getD_eq_getElem?_getD, List.getElem?_eq_getElem k2]
      rfl
    rw [e1, e2]
    have b1 := dl_lt h.ok h1 hk
    have b2 := dl_lt h'.ok h2 hk
    have s1 := (a1 q h1).step hk
    have s2 := a1 (dl R q k) b1
    exact h'.red _ _ (by omega) b2 (s2.symm.trans s1)
  · rw [h.ends, h'.ends, hl]
    apply List.filter_congr
    intro q hq
    have hq' := List.mem_range.mp hq
    have := (a1 q (by omega)).nil
    simp [this]
end Mach

namespace Mach

/-! ### states in the order in which texts first lead to them -/
structure BfsAt (n : Nat) (R : List (List Nat)) (b : Nat) (L : List Nat) (i : Nat) : Prop where
  eq : L = D (b :: (L.take i).flatMap (rowOf R))
  lt : ∀ s ∈ L, s < R.length
  reach : ∀ s ∈ L, ∃ w, Wd n w ∧ runM R b w = s
  le : i ≤ L.length
structure Bfs (n : Nat) (R : List (List Nat)) (b : Nat) (L : List Nat) : Prop where
  eq : L = D (b :: L.flatMap (rowOf R))
  lt : ∀ s ∈ L, s < R.length
  reach : ∀ s ∈ L, ∃ w, Wd n w ∧ runM R b w = s

section
variable {n : Nat} {R : List (List Nat)} {b : Nat} {L : List Nat} {i : Nat}
theorem bfs_start (hb : b < R.length) : BfsAt n R b [b] 0 := by
  refine ⟨rfl, fun s hs => ?_, fun s hs => ?_, Nat.zero_le _⟩
  · rw [List.mem_singleton.mp hs]; exact hb
  · rw [List.mem_singleton.mp hs]; exact ⟨[], (fun _ z => nomatch z), rfl⟩
theorem BfsAt.nodup (h : BfsAt n R b L i) : L.Nodup := by
  rw [h.eq]
  exact D_nodup _
theorem BfsAt.len (h : BfsAt n R b L i) : L.length ≤ R.length := nodup_lt_length h.nodup h.lt
theorem mem_row_dl {q x : Nat} (hM : Mok n R) (hq : q < R.length) (hx : x ∈ rowOf R q) : ∃ k, k < n ∧ dl R q k = x := by
  obtain ⟨k, hk, e⟩ := List.mem_iff_getElem.mp hx
  refine ⟨k, by rw [← hM.wide q hq]; exact hk, ?_⟩
  unfold dl
  rw [List.getD_eq_getElem?_getD, List.getElem?_eq_getElem hk, ← e]
  rfl
theorem bfs_step (hM : Mok n R) (h : BfsAt n R b L i) {s : Nat} (hs : L[i]? = some s) : BfsAt n R b (pushAll L (rowOf R s)) (i + 1) := by
  have hi : i < L.length := (List.getElem?_eq_some_iff.mp hs).1
  have hsm : s ∈ L := List.mem_of_getElem? hs
  obtain ⟨Z, hZ⟩ := pushAll_pre L (rowOf R s)
  refine ⟨?_, ?_, ?_, ?_⟩
  · have ht : (pushAll L (rowOf R s)).take (i + 1) = L.take i ++ [s] := by
      rw [hZ, List.take_append_of_le_length (by omega), List.take_add_one, hs]
      rfl
    rw [ht, List.flatMap_append, ← List.cons_append, D_append, ← h.eq]
    simp
  · intro x hx
    rcases mem_pushAll.mp hx with z | z
    · exact h.lt x z
    · exact hM.lt s (h.lt s hsm) x z
  · intro x hx
    rcases mem_pushAll.mp hx with z | z
    · exact h.reach x z
    · obtain ⟨w, hw, e⟩ := h.reach s hsm
      obtain ⟨k, hk, ek⟩ := mem_row_dl hM (h.lt s hsm) z
      refine ⟨w ++ [k], fun j hj => ?_, ?_⟩
      · rcases List.mem_append.mp hj with q | q
        · exact hw j q
        · rw [List.mem_singleton.mp q]; exact hk
      · rw [runM_append, e]
        exact ek
  · rw [hZ, List.length_append]
    omega
theorem bfs_end (h : BfsAt n R b L i) (hi : L.length ≤ i) : Bfs n R b L := by
  refine ⟨?_, h.lt, h.reach⟩
  have := h.eq
  rwa [List.take_of_length_le hi] at this
theorem Bfs.nodup (h : Bfs n R b L) : L.Nodup := by
  rw [h.eq]
  exact D_nodup _
theorem Bfs.len (h : Bfs n R b L) : L.length ≤ R.length := nodup_lt_length h.nodup h.lt
theorem Bfs.begin_mem (h : Bfs n R b L) : b ∈ L := by
  rw [h.eq]
  exact mem_D.mpr List.mem_cons_self
theorem Bfs.closed (h : Bfs n R b L) {s x : Nat} (hs : s ∈ L) (hx : x ∈ rowOf R s) : x ∈ L := by
  rw [h.eq]
  exact mem_D.mpr (List.mem_cons_of_mem _ (List.mem_flatMap.mpr ⟨s, hs, hx⟩))
theorem Bfs.step (hM : Mok n R) (h : Bfs n R b L) {s k : Nat} (hs : s ∈ L) (hk : k < n) : dl R s k ∈ L := h.closed hs (dl_mem hM (h.lt s hs) hk)
theorem Bfs.run (hM : Mok n R) (h : Bfs n R b L) : ∀ {w : List Nat} {s : Nat}, s ∈ L → Wd n w → runM R s w ∈ L := by
  intro w
  induction w with
  | nil => intro s hs _; exact hs
  | cons k w ih =>
    intro s hs hw
    exact ih (h.step hM hs (hw k List.mem_cons_self)) (fun j hj => hw j (List.mem_cons_of_mem _ hj))
theorem Bfs.head (h : Bfs n R b L) : ∃ Z, L = b :: Z := by
  obtain ⟨Z, hZ⟩ := pushAll_pre [b] (L.flatMap (rowOf R))
  refine ⟨Z, ?_⟩
  have := h.eq
  rw [D_cons, hZ] at this
  exact this
end

/-! ### the machine of the classes -/
theorem range_head {m : Nat} {x : Nat} {Z : List Nat} (h : List.range m = x :: Z) : x = 0 ∧ 0 < m := by
  cases m with
  | zero => simp at h
  | succ m =>
    rw [List.range_succ_eq_map] at h
    exact ⟨(List.cons.inj h).1.symm, Nat.succ_pos _⟩

theorem quot_least {n : Nat} {R : List (List Nat)} {E : List Nat} {b : Nat} {L F : List Nat} {num : Nat → Nat} (hM : Mok n R) (hB : Bfs n R b L)
    (hal : ∀ s ∈ L, ∀ t ∈ L, num s = num t ↔ Alk n R E s R E t) (hF : ∀ s ∈ F, s ∈ L) (hFn : F.map num = List.range F.length)
    (hD : D (L.map num) = List.range F.length) :
    Least n (F.map fun s => (rowOf R s).map num) ((F.filter (fun s => decide (s ∈ E))).map num) ∧
    Alk n (F.map fun s => (rowOf R s).map num) ((F.filter (fun s => decide (s ∈ E))).map num) 0 R E b := by
  have hlen : (F.map fun s => (rowOf R s).map num).length = F.length := List.length_map _
  have numF : ∀ i (hi : i < F.length), num F[i] = i := by
    intro i hi
    have := congrArg (fun l => l[i]?) hFn
    simp only [List.getElem?_map] at this
    rw [List.getElem?_eq_getElem hi, List.getElem?_range hi] at this
    simpa using this
  have numlt : ∀ s ∈ L, num s < F.length := by
    intro s hs
    have : num s ∈ D (L.map num) := mem_D.mpr (List.mem_map_of_mem hs)
    rw [hD] at this
    exact List.mem_range.mp this
  obtain ⟨Zb, hZb⟩ := hB.head
  have hb0 : num b = 0 ∧ 0 < F.length := by
    obtain ⟨Z, hZ⟩ := pushAll_pre [num b] (Zb.map num)
    have h1 : D (L.map num) = num b :: Z := by
      rw [hZb, List.map_cons, D_cons, hZ]
      rfl
    rw [hD] at h1
    exact range_head h1
  have rowF : ∀ i (hi : i < F.length), rowOf (F.map fun s => (rowOf R s).map num) i = (rowOf R F[i]).map num := by
    intro i hi
    unfold rowOf
    rw [List.getD_eq_getElem?_getD, List.getElem?_map, List.getElem?_eq_getElem hi]
    rfl
  have FL : ∀ i (hi : i < F.length), F[i] ∈ L := fun i hi => hF _ (List.getElem_mem hi)
  have alF : ∀ s (hs : s ∈ L), Alk n R E s R E (F[num s]'(numlt s hs)) := by
    intro s hs
    exact (hal s hs _ (FL _ (numlt s hs))).mp (numF _ (numlt s hs)).symm
  have rowS : ∀ s ∈ L, rowOf (F.map fun s => (rowOf R s).map num) (num s) = (rowOf R s).map num := by
    intro s hs
    rw [rowF _ (numlt s hs)]
    have w1 := hM.wide s (hB.lt s hs)
    have w2 := hM.wide _ (hB.lt _ (FL _ (numlt s hs)))
    apply List.ext_getElem
    · rw [List.length_map, List.length_map, w1, w2]
    · intro k h1 h2
      rw [List.length_map] at h1 h2
      have hk : k < n := by omega
      rw [List.getElem_map, List.getElem_map]
      have e1 : (rowOf R s)[k] = dl R s k := by
        unfold dl
        rw [List.getD_eq_getElem?_getD, List.getElem?_eq_getElem h2]
        rfl
      have e2 : (rowOf R (F[num s]'(numlt s hs)))[k] = dl R (F[num s]'(numlt s hs)) k := by
        unfold dl
        rw [List.getD_eq_getElem?_getD, List.getElem?_eq_getElem h1]
        rfl
      rw [e1, e2]
      exact (hal _ (hB.step hM (FL _ (numlt s hs)) hk) _ (hB.step hM hs hk)).mpr ((alF s hs).step hk).symm
  have dlS : ∀ s ∈ L, ∀ k, k < n → dl (F.map fun s => (rowOf R s).map num) (num s) k = num (dl R s k) := by
    intro s hs k hk
    have hl : k < (rowOf R s).length := by rw [hM.wide s (hB.lt s hs)]; exact hk
    unfold dl
    rw [rowS s hs, List.getD_eq_getElem?_getD, List.getD_eq_getElem?_getD, List.getElem?_map, List.getElem?_eq_getElem hl]
    rfl
  have runS : ∀ w, Wd n w → ∀ s ∈ L, runM (F.map fun s => (rowOf R s).map num) (num s) w = num (runM R s w) := by
    intro w
    induction w with
    | nil => intro _ s _; rfl
    | cons k w ih =>
      intro hw s hs
      have hk := hw k List.mem_cons_self
      rw [runM_cons, runM_cons, dlS s hs k hk]
      exact ih (fun j hj => hw j (List.mem_cons_of_mem _ hj)) _ (hB.step hM hs hk)
  have endS : ∀ s ∈ L, num s ∈ (F.filter (fun s => decide (s ∈ E))).map num ↔ s ∈ E := by
    intro s hs
    constructor
    · intro h
      obtain ⟨t, ht, e⟩ := List.mem_map.mp h
      obtain ⟨h1, h2⟩ := List.mem_filter.mp ht
      exact ((hal t (hF t h1) s hs).mp e).nil.mp (of_decide_eq_true h2)
    · intro h
      refine List.mem_map.mpr ⟨F[num s]'(numlt s hs), List.mem_filter.mpr ⟨List.getElem_mem _, decide_eq_true ((alF s hs).nil.mp h)⟩, numF _ _⟩
  have alS : ∀ s ∈ L, Alk n (F.map fun s => (rowOf R s).map num) ((F.filter (fun s => decide (s ∈ E))).map num) (num s) R E s := by
    intro s hs w hw
    rw [runS w hw s hs]
    exact endS _ (hB.run hM hs hw)
  have al0 := alS b hB.begin_mem
  rw [hb0.1] at al0
  refine ⟨⟨⟨?_, ?_⟩, ?_, ?_, ?_, ?_, ?_⟩, al0⟩
  · intro q hq
    rw [hlen] at hq
    rw [rowF q hq, List.length_map]
    exact hM.wide _ (hB.lt _ (FL q hq))
  · intro q hq x hx
    rw [hlen] at hq ⊢
    rw [rowF q hq] at hx
    obtain ⟨y, hy, e⟩ := List.mem_map.mp hx
    rw [← e]
    exact numlt y (hB.closed (FL q hq) hy)
  · rw [hlen]; exact hb0.2
  · rw [← flatMap_range_rows, hlen, ← hD, D_flatMap_D, List.flatMap_map]
    have e1 : L.flatMap (fun s => rowOf (F.map fun s => (rowOf R s).map num) (num s)) = (L.flatMap (rowOf R)).map num := by
      rw [List.map_flatMap]
      exact flatMap_congr L fun s hs => rowS s hs
    rw [e1]
    have e2 : 0 :: (L.flatMap (rowOf R)).map num = (b :: L.flatMap (rowOf R)).map num := by
      rw [List.map_cons, hb0.1]
    rw [e2, ← D_map_D, ← hB.eq]
  · intro q hq
    rw [hlen] at hq
    obtain ⟨w, hw, e⟩ := hB.reach _ (FL q hq)
    refine ⟨w, hw, ?_⟩
    have := runS w hw b hB.begin_mem
    rw [hb0.1, e, numF q hq] at this
    exact this
  · intro p q hp hq a
    rw [hlen] at hp hq
    have a1 := alS _ (FL p hp)
    have a2 := alS _ (FL q hq)
    rw [numF p hp] at a1
    rw [numF q hq] at a2
    have := (hal _ (FL p hp) _ (FL q hq)).mpr (a1.symm.trans (a.trans a2))
    rwa [numF p hp, numF q hq] at this
  · rw [hlen, ← hFn, List.filter_map]
    congr 1
    apply List.filter_congr
    intro s hs
    have := endS s (hF s hs)
    simp only [Function.comp]
    rw [decide_eq_decide]
    exact this.symm

/-! ### classes: Moore's way -/
section
variable {α : Type} [BEq α] [LawfulBEq α]
theorem idxOf_inj {X : List α} {x y : α} (hx : x ∈ X) (h : X.idxOf x = X.idxOf y) : x = y := by
  have h1 : X.idxOf x < X.length := List.idxOf_lt_length_iff.mpr hx
  have h2 : X.idxOf y < X.length := by rw [← h]; exact h1
  have e1 : X[X.idxOf x] = x := List.getElem_idxOf h1
  have e2 : X[X.idxOf y] = y := List.getElem_idxOf h2
  have : X[X.idxOf x] = X[X.idxOf y] := by
    congr 1
  rw [e1, e2] at this
  exact this
theorem map_idxOf_self {X : List α} (h : X.Nodup) : X.map (fun x => X.idxOf x) = List.range X.length := by
  apply List.ext_getElem
  · simp
  · intro i h1 h2
    rw [List.getElem_map, List.getElem_range]
    rw [List.length_map] at h1
    exact List.Nodup.idxOf_getElem h i h1
end
def hm (L : List Nat) (c : Nat → Nat) : Nat := (D (L.map c)).length
theorem hm_le (L : List Nat) (c : Nat → Nat) : hm L c ≤ L.length := by
  unfold hm
  have := length_le_of_sub (D_nodup (L.map c)) (fun x hx => mem_D.mp hx)
  rwa [List.length_map] at this
theorem same_part {L : List Nat} {f g : Nat → Nat} (h : ∀ s ∈ L, ∀ t ∈ L, g s = g t → f s = f t) (hc : hm L g ≤ hm L f) : ∀ s ∈ L, ∀ t ∈ L, f s = f t → g s = g t := by
  intro s hs t ht e
  refine Classical.byContradiction fun hne => ?_
  let pre : Nat → Nat := fun v => (L.find? (fun u => decide (g u = v))).getD 0
  have hpre : ∀ u ∈ L, pre (g u) ∈ L ∧ g (pre (g u)) = g u := by
    intro u hu
    cases hf : L.find? (fun x => decide (g x = g u)) with
    | none =>
      have := List.find?_eq_none.mp hf u hu
      simp at this
    | some v =>
      have h1 := List.mem_of_find?_eq_some hf
      have h2 := List.find?_some hf
      have ev : pre (g u) = v := by
        show (L.find? (fun x => decide (g x = g u))).getD 0 = v
        rw [hf]
        rfl
      rw [ev]
      exact ⟨h1, of_decide_eq_true h2⟩
  have hsub : ∀ x ∈ D (L.map f), x ∈ ((D (L.map g)).erase (g t)).map (fun v => f (pre v)) := by
    intro x hx
    obtain ⟨u, hu, ex⟩ := List.mem_map.mp (mem_D.mp hx)
    have key : ∀ u ∈ L, g u ≠ g t → f u ∈ ((D (L.map g)).erase (g t)).map (fun v => f (pre v)) := by
      intro u hu hn
      refine List.mem_map.mpr ⟨g u, (List.mem_erase_of_ne hn).mpr (mem_D.mpr (List.mem_map_of_mem hu)), ?_⟩
      exact h _ (hpre u hu).1 u hu (hpre u hu).2
    by_cases hn : g u = g t
    · rw [← ex, h u hu t ht hn, ← e]
      exact key s hs hne
    · rw [← ex]
      exact key u hu hn
  have hlen := length_le_of_sub (D_nodup (L.map f)) hsub
  have hgt : g t ∈ D (L.map g) := mem_D.mpr (List.mem_map_of_mem ht)
  rw [List.length_map, List.length_erase_of_mem hgt] at hlen
  have : 0 < (D (L.map g)).length := List.length_pos_of_mem hgt
  unfold hm at hc
  omega

def sgn (R : List (List Nat)) (c : Nat → Nat) (s : Nat) : Nat × List Nat := (c s, (rowOf R s).map c)
def parted (R : List (List Nat)) (L : List Nat) (c : Nat → Nat) (s : Nat) : Nat := (D (L.map (sgn R c))).idxOf (sgn R c s)
theorem parted_iff {R : List (List Nat)} {L : List Nat} {c : Nat → Nat} {s t : Nat} (hs : s ∈ L) : parted R L c s = parted R L c t ↔ sgn R c s = sgn R c t := by
  constructor
  · intro e
    exact idxOf_inj (X := D (L.map (sgn R c))) (mem_D.mpr (List.mem_map_of_mem hs)) e
  · intro e
    unfold parted
    rw [e]
structure MooreAt (n : Nat) (R : List (List Nat)) (E L : List Nat) (c : Nat → Nat) : Prop where
  weak : ∀ s ∈ L, ∀ t ∈ L, Alk n R E s R E t → c s = c t
  ends : ∀ s ∈ L, ∀ t ∈ L, c s = c t → (s ∈ E ↔ t ∈ E)
theorem moore_start {n : Nat} {R : List (List Nat)} {E L : List Nat} : MooreAt n R E L (fun s => if s ∈ E then 1 else 0) := by
  constructor
  · intro s _ t _ a
    have := a.nil
    by_cases h : s ∈ E
    · simp [h, this.mp h]
    · have h' : t ∉ E := fun z => h (this.mpr z)
      simp [h, h']
  · intro s _ t _ e
    by_cases h : s ∈ E
    · by_cases h' : t ∈ E
      · simp [h, h']
      · simp [h, h'] at e
    · by_cases h' : t ∈ E
      · simp [h, h'] at e
      · simp [h, h']
section
variable {n : Nat} {R : List (List Nat)} {E L : List Nat} {b : Nat} {c : Nat → Nat}
theorem sgn_alk (hM : Mok n R) (hB : Bfs n R b L) (h : MooreAt n R E L c) {s t : Nat} (hs : s ∈ L) (ht : t ∈ L) (a : Alk n R E s R E t) : sgn R c s = sgn R c t := by
  unfold sgn
  rw [h.weak s hs t ht a]
  congr 1
  have w1 := hM.wide s (hB.lt s hs)
  have w2 := hM.wide t (hB.lt t ht)
  apply List.ext_getElem
  · rw [List.length_map, List.length_map, w1, w2]
  · intro k h1 h2
    rw [List.length_map] at h1 h2
    have hk : k < n := by omega
    have e1 : (rowOf R s)[k] = dl R s k := by
      unfold dl
      rw [List.getD_eq_getElem?_getD, List.getElem?_eq_getElem h1]
      rfl
    have e2 : (rowOf R t)[k] = dl R t k := by
      unfold dl
      rw [List.getD_eq_getElem?_getD, List.getElem?_eq_getElem h2]
      rfl
    rw [List.getElem_map, List.getElem_map, e1, e2]
    exact h.weak _ (hB.step hM hs hk) _ (hB.step hM ht hk) (a.step hk)
theorem moore_step (hM : Mok n R) (hB : Bfs n R b L) (h : MooreAt n R E L c) : MooreAt n R E L (parted R L c) := by
  constructor
  · intro s hs t ht a
    exact (parted_iff hs).mpr (sgn_alk hM hB h hs ht a)
  · intro s hs t ht e
    exact h.ends s hs t ht (congrArg Prod.fst ((parted_iff hs).mp e))
theorem moore_end (hM : Mok n R) (hB : Bfs n R b L) (h : MooreAt n R E L c) (hc : hm L (parted R L c) ≤ hm L c) : ∀ s ∈ L, ∀ t ∈ L, parted R L c s = parted R L c t ↔ Alk n R E s R E t := by
  have sp := same_part (f := c) (g := parted R L c) (fun s hs t ht e => congrArg Prod.fst ((parted_iff hs).mp e)) hc
  have stable : ∀ s ∈ L, ∀ t ∈ L, c s = c t → ∀ k, k < n → c (dl R s k) = c (dl R t k) := by
    intro s hs t ht e k hk
    have e1 := congrArg Prod.snd ((parted_iff hs).mp (sp s hs t ht e))
    have e2 := congrArg (fun l => l[k]?) e1
    simp only [sgn, List.getElem?_map] at e2
    have l1 : k < (rowOf R s).length := by rw [hM.wide s (hB.lt s hs)]; exact hk
    have l2 : k < (rowOf R t).length := by rw [hM.wide t (hB.lt t ht)]; exact hk
    rw [List.getElem?_eq_getElem l1, List.getElem?_eq_getElem l2] at e2
    have d1 : dl R s k = (rowOf R s)[k] := by
      unfold dl
      rw [List.getD_eq_getElem?_getD, List.getElem?_eq_getElem l1]
      rfl
    have d2 : dl R t k = (rowOf R t)[k] := by
      unfold dl
      rw [List.getD_eq_getElem?_getD, List.getElem?_eq_getElem l2]
      rfl
    rw [d1, d2]
    simpa using e2
  intro s hs t ht
  constructor
  · intro e
    have e0 : c s = c t := congrArg Prod.fst ((parted_iff hs).mp e)
    have gen : ∀ w, Wd n w → ∀ s ∈ L, ∀ t ∈ L, c s = c t → (runM R s w ∈ E ↔ runM R t w ∈ E) := by
      intro w
      induction w with
      | nil => intro _ s hs t ht e; exact h.ends s hs t ht e
      | cons k w ih =>
        intro hw s hs t ht e
        have hk := hw k List.mem_cons_self
        exact ih (fun j hj => hw j (List.mem_cons_of_mem _ hj)) _ (hB.step hM hs hk) _ (hB.step hM ht hk) (stable s hs t ht e k hk)
    exact fun w hw => gen w hw s hs t ht e0
  · intro a
    exact (parted_iff hs).mpr (sgn_alk hM hB h hs ht a)
/-! ### classes: pairs that are told apart -/
theorem table_done (hM : Mok n R) (hB : Bfs n R b L) {A : Nat → Nat → Prop} (h1 : ∀ p ∈ L, ∀ q ∈ L, A p q → ¬ Alk n R E p R E q)
    (h2 : ∀ p ∈ L, ∀ q ∈ L, ¬ (p ∈ E ↔ q ∈ E) → A p q) (h3 : ∀ p ∈ L, ∀ q ∈ L, ¬ A p q → ∀ k, k < n → ¬ A (dl R p k) (dl R q k)) :
    ∀ p ∈ L, ∀ q ∈ L, ¬ A p q ↔ Alk n R E p R E q := by
  intro p hp q hq
  constructor
  · intro na
    have gen : ∀ w, Wd n w → ∀ p ∈ L, ∀ q ∈ L, ¬ A p q → (runM R p w ∈ E ↔ runM R q w ∈ E) := by
      intro w
      induction w with
      | nil =>
        intro _ p hp q hq na
        exact Classical.byContradiction fun z => na (h2 p hp q hq z)
      | cons k w ih =>
        intro hw p hp q hq na
        have hk := hw k List.mem_cons_self
        exact ih (fun j hj => hw j (List.mem_cons_of_mem _ hj)) _ (hB.step hM hp hk) _ (hB.step hM hq hk) (h3 p hp q hq na k hk)
    exact fun w hw => gen w hw p hp q hq na
  · intro a na
    exact h1 p hp q hq na a
theorem apart_step (hM : Mok n R) (hB : Bfs n R b L) {p q k : Nat} (hp : p ∈ L) (hq : q ∈ L) (hk : k < n) (h : ¬ Alk n R E (dl R p k) R E (dl R q k)) : ¬ Alk n R E p R E q := fun a => h (a.step hk)
end

/-! ### numbers by classes: the program's way -/
def fsts (c : Nat → Nat) (L : List Nat) : List (Nat × Nat) := L.foldl (fun a s => if c s ∈ a.map Prod.fst then a else a ++ [(c s, s)]) []
theorem fsts_snoc (c : Nat → Nat) (L : List Nat) (s : Nat) : fsts c (L ++ [s]) = if c s ∈ (fsts c L).map Prod.fst then fsts c L else fsts c L ++ [(c s, s)] := by
  unfold fsts
  rw [List.foldl_append]
  rfl
theorem fsts_fst (c : Nat → Nat) (L : List Nat) : (fsts c L).map Prod.fst = D (L.map c) := by
  have gen : ∀ (k : Nat), (fsts c (L.take k)).map Prod.fst = D ((L.take k).map c) := by
    intro k
    induction k with
    | zero => rfl
    | succ k ih =>
      cases h : L[k]? with
      | none =>
        rw [List.take_add_one, h]
        simpa using ih
      | some s =>
        rw [List.take_add_one, h]
        show (fsts c (L.take k ++ [s])).map Prod.fst = D ((L.take k ++ [s]).map c)
        rw [fsts_snoc, List.map_append, D_append, ← ih]
        show _ = push ((fsts c (L.take k)).map Prod.fst) (c s)
        unfold push
        split
        · rfl
        · rw [List.map_append]
          rfl
  have := gen L.length
  rwa [List.take_length] at this
theorem fsts_mem (c : Nat → Nat) (L : List Nat) : ∀ p ∈ fsts c L, p.2 ∈ L ∧ c p.2 = p.1 := by
  have gen : ∀ (k : Nat), ∀ p ∈ fsts c (L.take k), p.2 ∈ L ∧ c p.2 = p.1 := by
    intro k
    induction k with
    | zero => intro p hp; simp [fsts] at hp
    | succ k ih =>
      cases h : L[k]? with
      | none =>
        rw [List.take_add_one, h]
        simpa using ih
      | some s =>
        rw [List.take_add_one, h]
        show ∀ p ∈ fsts c (L.take k ++ [s]), _
        rw [fsts_snoc]
        intro p hp
        split at hp
        · exact ih p hp
        · rcases List.mem_append.mp hp with z | z
          · exact ih p z
          · rw [List.mem_singleton.mp z]
            exact ⟨List.mem_of_getElem? h, rfl⟩
  have := gen L.length
  rwa [List.take_length] at this
/-- what the program makes of classes -/
def made (R : List (List Nat)) (E L : List Nat) (c : Nat → Nat) : List (List Nat) × List Nat :=
  (((fsts c L).map Prod.snd).map fun s => (rowOf R s).map fun t => (D (L.map c)).idxOf (c t),
   (((fsts c L).map Prod.snd).filter fun s => decide (s ∈ E)).map fun t => (D (L.map c)).idxOf (c t))
theorem made_least {n : Nat} {R : List (List Nat)} {E : List Nat} {b : Nat} {L : List Nat} {c : Nat → Nat} (hM : Mok n R) (hB : Bfs n R b L)
    (hal : ∀ s ∈ L, ∀ t ∈ L, c s = c t ↔ Alk n R E s R E t) : Least n (made R E L c).1 (made R E L c).2 ∧ Alk n (made R E L c).1 (made R E L c).2 0 R E b := by
  have hmapc : ((fsts c L).map Prod.snd).map c = D (L.map c) := by
    rw [← fsts_fst, List.map_map]
    apply List.map_congr_left
    intro p hp
    exact (fsts_mem c L p hp).2
  have hlen : ((fsts c L).map Prod.snd).length = (D (L.map c)).length := by
    rw [← hmapc, List.length_map (f := c)]
  refine quot_least (num := fun t => (D (L.map c)).idxOf (c t)) hM hB ?_ ?_ ?_ ?_
  · intro s hs t ht
    rw [← hal s hs t ht]
    constructor
    · exact idxOf_inj (mem_D.mpr (List.mem_map_of_mem hs))
    · intro e
      show (D (L.map c)).idxOf (c s) = (D (L.map c)).idxOf (c t)
      rw [e]
  · intro s hs
    obtain ⟨p, hp, e⟩ := List.mem_map.mp hs
    rw [← e]
    exact (fsts_mem c L p hp).1
  · rw [hlen, ← map_idxOf_self (D_nodup (L.map c))]
    have : ((fsts c L).map Prod.snd).map (fun t => (D (L.map c)).idxOf (c t)) = (((fsts c L).map Prod.snd).map c).map (fun x => (D (L.map c)).idxOf x) := by
      simp only [List.map_map]
      rfl
    rw [this, hmapc]
  · rw [hlen]
    have : L.map (fun t => (D (L.map c)).idxOf (c t)) = (L.map c).map (fun x => (D (L.map c)).idxOf x) := by
      rw [List.map_map]
      rfl
    rw [this, ← D_map_D, map_idxOf_self (D_nodup (L.map c)), D_of_nodup List.nodup_range]
end Mach

/-! lists of states, rows and dicts of states as they stand in the heap -/
namespace Rg
open PySem PySem.Spec PyProof.Rows L2 Mach

def nVs (ns : List Nat) : List V := ns.map nV
theorem nVs_get {ns : List Nat} {i : Nat} {n : Nat} (h : ns[i]? = some n) : (nVs ns)[i]? = some (nV n) := by
  unfold nVs
  rw [List.getElem?_map, h]
  rfl
theorem nVs_len (ns : List Nat) : (nVs ns).length = ns.length := List.length_map _
theorem nV_inj {a b : Nat} (h : nV a = nV b) : a = b := by
  have : (a : Int) = b := V.int.inj h
  omega
theorem nVs_snoc (ns : List Nat) (n : Nat) : nVs (ns ++ [n]) = nVs ns ++ [nV n] := by
  unfold nVs
  rw [List.map_append]
  rfl
theorem nVs_at {ns : List Nat} {i : Nat} {x : V} (h : (nVs ns)[i]? = some x) : ∃ n, x = nV n ∧ ns[i]? = some n := by
  unfold nVs at h
  rw [List.getElem?_map] at h
  cases e : ns[i]? with
  | none => rw [e] at h; cases h
  | some n => rw [e] at h; exact ⟨n, (Option.some.inj h).symm, rfl⟩

/-! ### dicts from states -/
abbrev kN (s : Nat) : Key := Sum.inl (s : Int)
theorem kN_inj {a b : Nat} (h : kN a = kN b) : a = b := by
  have : (a : Int) = b := Sum.inl.inj h
  omega
def dO (L : List Nat) (c : Nat → V) : List (Key × V) := L.map fun s => (kN s, c s)
theorem dO_len (L : List Nat) (c : Nat → V) : (dO L c).length = L.length := List.length_map _
theorem valV_dO {L : List Nat} {c : Nat → V} {s : Nat} : valV (dO L c) (kN s) = if s ∈ L then some (c s) else none := by
  induction L with
  | nil => rfl
  | cons a L ih =>
    show valV ((kN a, c a) :: dO L c) (kN s) = _
    by_cases e : a = s
    · rw [valV_pos (by show kN a = kN s; rw [e]), if_pos (by rw [e]; exact List.mem_cons_self), e]
    · rw [valV_neg (fun z => e (kN_inj z)), ih]
      by_cases h : s ∈ L
      · rw [if_pos h, if_pos (List.mem_cons_of_mem _ h)]
      · rw [if_neg h, if_neg]
        intro z
        rcases List.mem_cons.mp z with z | z
        · exact e z.symm
        · exact h z
theorem valV_dO_in {L : List Nat} {c : Nat → V} {s : Nat} (h : s ∈ L) : valV (dO L c) (kN s) = some (c s) := by rw [valV_dO, if_pos h]
theorem valV_dO_out {L : List Nat} {c : Nat → V} {s : Nat} (h : s ∉ L) : valV (dO L c) (kN s) = none := by rw [valV_dO, if_neg h]
theorem putK_dO {L : List Nat} {c : Nat → V} {s : Nat} : putK (dO L c) (kN s) (c s) = dO (push L s) c := by
  by_cases h : s ∈ L
  · rw [push_mem h]
    unfold putK
    rw [if_pos (by rw [valV_any, valV_dO_in h]; rfl)]
    unfold dO
    rw [List.map_map]
    apply List.map_congr_left
    intro t ht
    show (if kN t = kN s then (kN t, c s) else (kN t, c t)) = (kN t, c t)
    by_cases e : kN t = kN s
    · rw [if_pos e, kN_inj e]
    · rw [if_neg e]
  · rw [push_new h, putK_new _ (valV_dO_out h)]
    unfold dO
    rw [List.map_append]
    rfl
theorem dO_congr {L : List Nat} {c d : Nat → V} (h : ∀ s ∈ L, c s = d s) : dO L c = dO L d := by
  unfold dO
  apply List.map_congr_left
  intro s hs
  rw [h s hs]
theorem putK_dO_new {L : List Nat} {c d : Nat → V} {s : Nat} (h : s ∉ L) (hd : ∀ t ∈ L, d t = c t) : putK (dO L c) (kN s) (d s) = dO (L ++ [s]) d := by
  rw [dO_congr (d := d) (fun t ht => (hd t ht).symm), putK_dO, push_new h]

/-! ### rows -/
structure RowsAt (H : Hp) (a : Addr) (xs : List Addr) (R : List (List Nat)) : Prop where
  at_ : H a = some (.lst (xs.map V.ref))
  len : xs.length = R.length
  row : ∀ (i : Nat) (x : Addr), xs[i]? = some x → H x = some (.lst (nVs (rowOf R i)))
theorem RowsAt.same {H H' : Hp} {a : Addr} {xs : List Addr} {R : List (List Nat)} (h : RowsAt H a xs R) (s : Same H H') : RowsAt H' a xs R :=
  ⟨s _ _ h.at_, h.len, fun i x e => s _ _ (h.row i x e)⟩
theorem RowsAt.get {H : Hp} {a : Addr} {xs : List Addr} {R : List (List Nat)} (h : RowsAt H a xs R) {q : Nat} (hq : q < R.length) :
    ∃ x, (xs.map V.ref)[q]? = some (.ref x) ∧ H x = some (.lst (nVs (rowOf R q))) := by
  have hq' : q < xs.length := by rw [h.len]; exact hq
  refine ⟨xs[q], ?_, h.row q _ (List.getElem?_eq_getElem hq')⟩
  rw [List.getElem?_map, List.getElem?_eq_getElem hq']
  rfl
theorem rowOf_get {R : List (List Nat)} {q k : Nat} {x : Nat} (h : (rowOf R q)[k]? = some x) : Mach.dl R q k = x := by
  unfold Mach.dl
  rw [List.getD_eq_getElem?_getD, h]
  rfl

/-! ### while, with the test read in one go -/
theorem lt_or_eq_or {a b : Nat} : a < b ∨ b ≤ a := Nat.lt_or_ge a b
theorem szBig {n : Nat} (h : n ≤ 100000) : n < sizeLine := Nat.lt_of_le_of_lt h (by decide)
theorem szBigLe {n : Nat} (h : n ≤ 100000) : n ≤ sizeLine := Nat.le_of_lt (szBig h)
end Rg
namespace Rg
open PySem PySem.Spec PyProof.Rows L2 Mach
theorem dget_dO {H : Hp} {d : Addr} {L : List Nat} {c : Nat → V} {t : Nat} (h : H d = some (.dK (dO L c))) (ht : t ∈ L) : DGet H d (nV t) (some (c t)) := by
  have := DGet.k (k := kN t) h
  rw [valV_dO_in ht] at this
  exact this
theorem din_dO {H : Hp} {d : Addr} {L : List Nat} {c : Nat → V} {t : Nat} (h : H d = some (.dK (dO L c))) : ∃ r, DGet H d (nV t) r ∧ r.isSome = decide (t ∈ L) := by
  refine ⟨_, DGet.k (k := kN t) h, ?_⟩
  by_cases ht : t ∈ L
  · rw [valV_dO_in ht, decide_eq_true ht]
    rfl
  · rw [valV_dO_out ht, decide_eq_false ht]
    rfl
theorem Same.of_eq_but {H H' : Hp} {a : Addr} (h : ∀ c, c ≠ a → H' c = H c) {H0 : Hp} (s : Same H0 H) (n : H0 a = none) : Same H0 H' := by
  intro b o e
  rw [h b (ne_of_none e n)]
  exact s b o e
theorem idxOf_pre {α : Type} [BEq α] [LawfulBEq α] {A Z : List α} {x : α} (h : x ∈ A) : (A ++ Z).idxOf x = A.idxOf x := by
  rw [List.idxOf_append, if_pos h]
end Rg
namespace Rg
open PySem PySem.Spec PyProof.Rows L2 Mach
/-! ### dicts from numbers to numbers, by pairs -/
def fD (ps : List (Nat × Nat)) : List (Key × V) := ps.map fun p => (kN p.1, nV p.2)
theorem fD_len (ps : List (Nat × Nat)) : (fD ps).length = ps.length := List.length_map _
theorem fD_snoc (ps : List (Nat × Nat)) (p : Nat × Nat) : fD (ps ++ [p]) = fD ps ++ [(kN p.1, nV p.2)] := by
  unfold fD
  rw [List.map_append]
  rfl
theorem valV_fD_out {ps : List (Nat × Nat)} {k : Nat} (h : k ∉ ps.map Prod.fst) : valV (fD ps) (kN k) = none := by
  induction ps with
  | nil => rfl
  | cons a ps ih =>
    have h1 : ¬ kN a.1 = kN k := fun z => h (by rw [← kN_inj z]; simp)
    show valV ((kN a.1, nV a.2) :: fD ps) (kN k) = none
    rw [valV_neg h1]
    exact ih fun z => h (by rw [List.map_cons]; exact List.mem_cons_of_mem _ z)
theorem valV_fD {ps : List (Nat × Nat)} (hn : (ps.map Prod.fst).Nodup) {k s : Nat} (h : (k, s) ∈ ps) : valV (fD ps) (kN k) = some (nV s) := by
  induction ps with
  | nil => cases h
  | cons a ps ih =>
    rw [List.map_cons, List.nodup_cons] at hn
    show valV ((kN a.1, nV a.2) :: fD ps) (kN k) = some (nV s)
    rcases List.mem_cons.mp h with e | h
    · rw [← e]
      exact valV_pos rfl
    · have h1 : ¬ kN a.1 = kN k := fun z => hn.1 (by rw [kN_inj z]; exact List.mem_map_of_mem h)
      rw [valV_neg h1]
      exact ih hn.2 h
theorem fD_keys (ps : List (Nat × Nat)) : (fD ps).map (fun kv => kV kv.1) = nVs (ps.map Prod.fst) := by
  unfold fD nVs
  simp only [List.map_map]
  rfl
theorem dgetK {H : Hp} {d : Addr} {kvs : List (Key × V)} {k : Nat} {v : V} (h : H d = some (.dK kvs)) (e : valV kvs (kN k) = some v) : DGet H d (nV k) (some v) := by
  have := DGet.k (k := kN k) h
  rw [e] at this
  exact this
theorem take_snoc {α : Type} {L : List α} {i : Nat} {t : α} (h : L[i]? = some t) : L.take (i + 1) = L.take i ++ [t] := by
  rw [List.take_add_one, h]
  rfl
theorem atI_zero_add {α : Type} {xs : List α} {j : Nat} {v : α} (h : xs[j]? = some v) : atI xs (0 + (j : Int)) = some v := by
  rw [Int.zero_add]
  exact atI_nat h
theorem nodup_not_take {α : Type} {L : List α} (h : L.Nodup) {i : Nat} {t : α} (ht : L[i]? = some t) : t ∉ L.take i := by
  intro hm
  obtain ⟨j, hj, e⟩ := List.mem_iff_getElem.mp hm
  rw [List.length_take] at hj
  rw [List.getElem_take] at e
  obtain ⟨h1, h2⟩ := List.getElem?_eq_some_iff.mp ht
  exact (List.pairwise_iff_getElem.mp h) j i (by omega) h1 (by omega) (by rw [e, h2])
end Rg
namespace Rg
open PySem PySem.Spec PyProof.Rows L2 Mach
theorem rows_mk {H : Hp} {a : Addr} : ∀ {xs : List Addr} {R : List (List Nat)}, H a = some (.lst (xs.map V.ref)) → Paired (fun (x : Addr) (r : List Nat) => H x = some (.lst (nVs r))) xs R → RowsAt H a xs R := by
  intro xs R ha hp
  have gen : ∀ {xs : List Addr} {R : List (List Nat)}, Paired (fun (x : Addr) (r : List Nat) => H x = some (.lst (nVs r))) xs R → xs.length = R.length ∧ ∀ (i : Nat) (x : Addr), xs[i]? = some x → H x = some (.lst (nVs (rowOf R i))) := by
    intro xs R hp
    induction hp with
    | nil => exact ⟨rfl, fun i x e => by simp at e⟩
    | @cons y r ys rs h t ih =>
      refine ⟨by rw [List.length_cons, List.length_cons, ih.1], fun i x e => ?_⟩
      cases i with
      | zero =>
        have : y = x := Option.some.inj e
        rw [← this]
        exact h
      | succ i => exact ih.2 i x e
  exact ⟨ha, (gen hp).1, (gen hp).2⟩
theorem rep_nVs (k v : Nat) : (List.replicate k [nV v]).flatten = nVs (List.replicate k v) := by
  induction k with
  | zero => rfl
  | succ k ih =>
    rw [List.replicate_succ, List.flatten_cons, ih, List.replicate_succ]
    rfl
theorem mok_of {n : Nat} {R : List (List Nat)} (h : ∀ r ∈ R, r.length = n ∧ ∀ x ∈ r, x < R.length) : Mok n R := by
  have hm : ∀ q, q < R.length → rowOf R q ∈ R := by
    intro q hq
    unfold rowOf
    rw [List.getD_eq_getElem?_getD, List.getElem?_eq_getElem hq]
    exact List.getElem_mem hq
  exact ⟨fun q hq => (h _ (hm q hq)).1, fun q hq => (h _ (hm q hq)).2⟩
/-- a machine made by drawing -/
def spMach : Sp := fun vs H Q _ => ∃ (g c : Addr) (z : Str) (m : Nat), vs = [.ref g, .str z, nV m] ∧ Bag H g c ∧ 1 ≤ z.length ∧ z.length ≤ 4 ∧ 1 ≤ m ∧ m ≤ 100 ∧
  ∀ (H' : Hp) (t pr pe : Addr) (xs : List Addr) (R : List (List Nat)) (E : List Nat), Bag H' g c → But g H H' → (∀ x ∈ t :: pr :: pe :: xs, H x = none) → H' t = some (.tup [.ref pr, .ref pe]) → RowsAt H' pr xs R → H' pe = some (.lst (nVs E)) →
    Mok z.length R → 0 < R.length → R.length ≤ m + 3 → (∀ x ∈ E, x < R.length) → E.length ≤ 100 → Q (.ref t) H'
theorem RowsAt.but {g : Addr} {H H' : Hp} {a : Addr} {xs : List Addr} {R : List (List Nat)} (h : RowsAt H a xs R) (b : But g H H') (ha : a ≠ g) (hx : ∀ x ∈ xs, x ≠ g) : RowsAt H' a xs R :=
  ⟨b _ _ ha h.at_, h.len, fun i x e => b _ _ (hx x (List.mem_of_getElem? e)) (h.row i x e)⟩
end Rg
namespace Rg
open PySem PySem.Spec PyProof.Rows L2 Mach
/-- the state of a drawing: the bag stands, all else is kept -/
structure Dr (g c : Addr) (H H' : Hp) : Prop where
  bag : Bag H' g c
  but : But g H H'
theorem Dr.refl {g c : Addr} {H : Hp} (b : Bag H g c) : Dr g c H H := ⟨b, .refl g H⟩
theorem Dr.trans {g c : Addr} {H H1 H2 : Hp} (a : Dr g c H H1) (b : Dr g c H1 H2) : Dr g c H H2 := ⟨b.bag, a.but.trans b.but⟩
theorem Dr.same {g c : Addr} {H H1 H2 : Hp} (a : Dr g c H H1) (s : Same H1 H2) : Dr g c H H2 := ⟨a.bag.same s, a.but.trans (.of_same s)⟩
theorem Dr.free {g c : Addr} {H H1 : Hp} (a : Dr g c H H1) {p : Addr} (h : H1 p = none) : H p = none := by
  obtain ⟨o, e⟩ := a.bag.at
  exact a.but.free e h
theorem Dr.keep {g c : Addr} {H H1 : Hp} (a : Dr g c H H1) {p : Addr} {o : HO} (h : H p = some o) (n : p ≠ g) : H1 p = some o := a.but p o n h
theorem Dr.ne {g c : Addr} {H H1 : Hp} (a : Dr g c H H1) {p : Addr} (h : H1 p = none) : p ≠ g := a.bag.ne h
theorem Dr.ne2 {g c : Addr} {H H1 : Hp} (a : Dr g c H H1) {p : Addr} (h : H1 p = none) : p ≠ c := a.bag.ne2 h
theorem Dr.upd_own {g c p : Addr} {H H1 : Hp} {o : HO} (a : Dr g c H H1) (n : H p = none) (h1 : p ≠ g) (h2 : p ≠ c) : Dr g c H (upd H1 p o) := by
  refine ⟨a.bag.upd_other h1 h2, fun b x nb e => ?_⟩
  rw [upd_ne (ne_of_none e n)]
  exact a.but b x nb e
end Rg
namespace Rg
open PySem PySem.Spec PyProof.Rows L2 Mach
theorem paired_keep {α β : Type} {F G : α → β → Prop} : ∀ {xs : List α} {ys : List β}, Paired F xs ys → (∀ x ∈ xs, ∀ y, F x y → G x y) → Paired G xs ys
  | _, _, .nil, _ => .nil
  | _, _, .cons h t, k => .cons (k _ List.mem_cons_self _ h) (paired_keep t fun x hx => k x (List.mem_cons_of_mem _ hx))
theorem paired_snoc {α β : Type} {F : α → β → Prop} {x : α} {y : β} : ∀ {xs : List α} {ys : List β}, Paired F xs ys → F x y → Paired F (xs ++ [x]) (ys ++ [y])
  | _, _, .nil, h => .cons h .nil
  | _, _, .cons h t, k => .cons h (paired_snoc t k)
end Rg

/-! numbers, rows, machines as data -/
namespace Rg
open PySem PySem.Spec PyProof.Rows L2 Mach
def dNs (ns : List Nat) : PyData := .list (ns.map fun n : Nat => .int (n : Int))
def dRs (R : List (List Nat)) : PyData := .list (R.map dNs)
def dMa (R : List (List Nat)) (E : List Nat) : PyData := .tuple [dRs R, dNs E]
section
variable {K : PySem.W.Frag} {H : Hp}
theorem dpAll_nVs : ∀ ns : List Nat, DpAll K H (nVs ns) (ns.map fun n : Nat => .int (n : Int))
  | [] => .nil
  | n :: ns => .cons (.int _) (dpAll_nVs ns)
theorem dp_nVs {p : Addr} {ns : List Nat} (h : H p = some (.lst (nVs ns))) : Dp K H (.ref p) (dNs ns) := .lst (SqL.of h) (dpAll_nVs ns)
theorem dpAll_rows : ∀ {xs : List Addr} {R : List (List Nat)}, xs.length = R.length → (∀ (i : Nat) (x : Addr), xs[i]? = some x → H x = some (.lst (nVs (rowOf R i)))) → DpAll K H (xs.map V.ref) (R.map dNs)
  | [], [], _, _ => .nil
  | [], _ :: _, h, _ => by cases h
  | _ :: _, [], h, _ => by cases h
  | x :: xs, r :: R, h, k => .cons (dp_nVs (k 0 x rfl)) (dpAll_rows (by simpa using h) fun i y e => k (i + 1) y e)
theorem dp_rows {a : Addr} {xs : List Addr} {R : List (List Nat)} (h : RowsAt H a xs R) : Dp K H (.ref a) (dRs R) := .lst (SqL.of h.at_) (dpAll_rows h.len h.row)
theorem dp_mach {t p e : Addr} {xs : List Addr} {R : List (List Nat)} {E : List Nat} (ht : H t = some (.tup [.ref p, .ref e])) (hR : RowsAt H p xs R) (he : H e = some (.lst (nVs E))) : Dp K H (.ref t) (dMa R E) :=
  .tup (SqT.of ht) (.cons (dp_rows hR) (.cons (dp_nVs he) .nil))
end
/-- data that can be shown and compared: depth at most e, weight at most k -/
structure Gd (e k : Nat) (d : PyData) : Prop where
  lay : d.canLay0 = true
  shw : d.showable = true
  ish : d.intsShort 13 = true
  dep : d.depth ≤ e
  wt : d.weight ≤ k
structure GdAll (e k : Nat) (ds : List PyData) : Prop where
  lay : PyData.canLayAll0 ds = true
  shw : PyData.showableAll ds = true
  ish : PyData.intsShortAll 13 ds = true
  dep : PyData.depthAll ds ≤ e
  wt : PyData.weightAll ds ≤ k
theorem gd_none : Gd 0 0 .none := ⟨rfl, rfl, rfl, Nat.le_refl _, Nat.le_refl _⟩
theorem gd_num {n : Nat} (h : n < 32) : Gd 0 8 (.int (n : Int)) := by
  have key : ∀ m : Fin 32, (PyData.showable (.int (m.val : Int)) && PyData.intsShort 13 (.int (m.val : Int)) && decide (PyData.weight (.int (m.val : Int)) ≤ 8)) = true := by decide +kernel
  have hk := key ⟨n, h⟩
  simp only [Bool.and_eq_true, decide_eq_true_eq] at hk
  exact ⟨rfl, hk.1.1, hk.1.2, Nat.le_refl _, hk.2⟩
theorem gdAll_nil {e : Nat} : GdAll e 0 [] := ⟨rfl, rfl, rfl, Nat.zero_le _, Nat.le_refl _⟩
theorem gdAll_cons {e k m : Nat} {d : PyData} {ds : List PyData} (h : Gd e k d) (t : GdAll e m ds) : GdAll e (k + 1 + m) (d :: ds) := by
  refine ⟨?_, ?_, ?_, ?_, ?_⟩
  · simp only [PyData.canLayAll0, h.lay, t.lay, Bool.and_self]
  · simp only [PyData.showableAll, h.shw, t.shw, Bool.and_self]
  · simp only [PyData.intsShortAll, h.ish, t.ish, Bool.and_self]
  · simp only [PyData.depthAll]
    exact Nat.max_le.mpr ⟨h.dep, t.dep⟩
  · simp only [PyData.weightAll]
    have h1 := h.wt
    have h2 := t.wt
    omega
theorem gd_list {e k : Nat} {ds : List PyData} (h : GdAll e k ds) : Gd (e + 1) k (.list ds) := by
  refine ⟨?_, ?_, ?_, ?_, ?_⟩
  · simp only [PyData.canLay0, h.lay]
  · simp only [PyData.showable, h.shw]
  · simp only [PyData.intsShort, h.ish]
  · simp only [PyData.depth]
    have := h.dep
    omega
  · simp only [PyData.weight]
    exact h.wt
theorem gd_tuple {e k : Nat} {ds : List PyData} (h : GdAll e k ds) : Gd (e + 1) k (.tuple ds) := by
  refine ⟨?_, ?_, ?_, ?_, ?_⟩
  · simp only [PyData.canLay0, h.lay]
  · simp only [PyData.showable, h.shw]
  · simp only [PyData.intsShort, h.ish]
  · simp only [PyData.depth]
    have := h.dep
    omega
  · simp only [PyData.weight]
    exact h.wt
theorem Gd.le {e k e' k' : Nat} {d : PyData} (h : Gd e k d) (he : e ≤ e') (hk : k ≤ k') : Gd e' k' d := ⟨h.lay, h.shw, h.ish, Nat.le_trans h.dep he, Nat.le_trans h.wt hk⟩
theorem gdAll_const {e k : Nat} : ∀ {ds : List PyData}, (∀ d ∈ ds, Gd e k d) → GdAll e ((k + 1) * ds.length) ds
  | [], _ => gdAll_nil
  | d :: ds, h => by
    have h1 := gdAll_cons (h d List.mem_cons_self) (gdAll_const fun x hx => h x (List.mem_cons_of_mem _ hx))
    rw [List.length_cons, Nat.mul_add, Nat.mul_one, Nat.add_comm ((k + 1) * ds.length)]
    exact h1
theorem gd_dNs {ns : List Nat} (h : ∀ n ∈ ns, n < 32) : Gd 1 (9 * ns.length) (dNs ns) := by
  have h1 : GdAll 0 ((8 + 1) * (ns.map fun n : Nat => PyData.int (n : Int)).length) (ns.map fun n : Nat => PyData.int (n : Int)) := gdAll_const fun d hd => by
    obtain ⟨n, hn, rfl⟩ := List.mem_map.mp hd
    exact gd_num (h n hn)
  rw [List.length_map] at h1
  exact gd_list h1
theorem gd_dRs {R : List (List Nat)} {L : Nat} (h : ∀ r ∈ R, r.length ≤ L ∧ ∀ n ∈ r, n < 32) : Gd 2 ((9 * L + 1) * R.length) (dRs R) := by
  have h1 : GdAll 1 ((9 * L + 1) * (R.map dNs).length) (R.map dNs) := gdAll_const fun d hd => by
    obtain ⟨r, hr, rfl⟩ := List.mem_map.mp hd
    exact (gd_dNs (h r hr).2).le (Nat.le_refl _) (Nat.mul_le_mul_left _ (h r hr).1)
  rw [List.length_map] at h1
  exact gd_list h1
theorem gd_dMa {R : List (List Nat)} {E : List Nat} {L : Nat} (h : ∀ r ∈ R, r.length ≤ L ∧ ∀ n ∈ r, n < 32) (hE : ∀ n ∈ E, n < 32) : Gd 3 ((9 * L + 1) * R.length + 1 + (9 * E.length + 1)) (dMa R E) :=
  gd_tuple (gdAll_cons (gd_dRs h) (gdAll_cons ((gd_dNs hE).le (by decide) (Nat.le_refl _)) gdAll_nil))
theorem Gd.shp {e k : Nat} {d : PyData} (h : Gd e k d) (he : e ≤ 60) : SeqAt.shaped d = true := by
  unfold SeqAt.shaped
  rw [h.lay, Bool.true_and]
  have := h.dep
  exact decide_eq_true (by omega)
theorem Gd.nod {e k : Nat} {d : PyData} (h : Gd e k d) : d.hasDict = false := PyData.hasDict_of_canLay d h.lay
theorem Gd.short {e k : Nat} {d : PyData} (h : Gd e k d) (he : e ≤ 60) (hk : k ≤ 100000) : d.shown.length ≤ sizeLine := by
  have hl : PyData.layable0 d = true := by
    unfold PyData.layable0
    have h1 := h.dep
    have h2 := h.wt
    have e2 : (2 : Nat) ^ 20 = 1048576 := by decide
    rw [h.lay, decide_eq_true (show d.depth ≤ 64 by omega), decide_eq_true (show d.weight ≤ 2 ^ 20 by omega)]
    rfl
  exact Nat.le_trans (shown_le13 hl h.ish) (by decide)
theorem eqv_dNs_nil (ns : List Nat) : PyData.eqv (dNs ns) (.list []) = decide (ns = []) := by
  cases ns with
  | nil => rfl
  | cons a ns => rfl
theorem eqv_same {d : PyData} (h : d.canLay0 = true) : PyData.eqv d d = true := SeqAt.eqv_refl d h
theorem shp_dNs (ns : List Nat) : SeqAt.shaped (dNs ns) = true := by
  have h1 : ∀ l : List Nat, PyData.canLayAll0 (l.map fun n : Nat => PyData.int (n : Int)) = true ∧ PyData.depthAll (l.map fun n : Nat => PyData.int (n : Int)) = 0 := by
    intro l
    induction l with
    | nil => exact ⟨rfl, rfl⟩
    | cons a l ih => exact ⟨by simp only [List.map_cons, PyData.canLayAll0, PyData.canLay0, ih.1, Bool.and_self], by simp only [List.map_cons, PyData.depthAll, PyData.depth, ih.2, Nat.max_self]⟩
  unfold SeqAt.shaped dNs
  simp only [PyData.canLay0, PyData.depth, (h1 ns).1, (h1 ns).2, Bool.true_and]
  decide
theorem shp_nil : SeqAt.shaped (.list []) = true := rfl
end Rg

/-! comprehensions over texts; signs -/
namespace Rg
open PySem PySem.Spec PyProof.Rows L2 Mach
section
variable {g : TG} {tt : TT} {te : TE} {vs : List Nat} {σ : L2.St} {H1 : Hp} {D : Addr} {Qd : Hp → Prop}
theorem lc_str {x : Str} (Pv : Nat → Hp → Prop) (h0 : Pv 0 (upd H1 D (.lst [])))
    (hs : ∀ i c H, x.cps[i]? = some c → Pv i H → g (.str ⟨#[c]⟩) (wipe σ vs) H fun σ2 H2 => wipe σ2 vs = wipe σ vs ∧ tt σ2 H2 fun b H3 =>
      if b = true then te σ2 H3 fun y H4 => ∃ acc, H4 D = some (.lst acc) ∧ acc.length < sizeLine ∧ Pv (i + 1) (upd H4 D (.lst (acc ++ [y]))) else Pv (i + 1) H3) (hd : ∀ H, Pv x.cps.size H → Qd H) :
    ∃ W : Nat → Nat → Hp → Prop, (∃ m, W 0 m (upd H1 D (.lst []))) ∧ ∀ i m H, W i m H →
      ((Its x).stop i H ∧ Qd H) ∨ ((Its x).go i H ∧ ∃ Nx : Hp → Prop, (∀ H', Nx H' → ∃ m', m' < m ∧ W (i + 1) m' H') ∧ ∀ y H', (Its x).yld i H y H' → g y (wipe σ vs) H' fun σ2 H2 => wipe σ2 vs = wipe σ vs ∧ tt σ2 H2 fun b H3 =>
        if b = true then te σ2 H3 fun y H4 => ∃ acc, H4 D = some (.lst acc) ∧ acc.length < sizeLine ∧ Nx (upd H4 D (.lst (acc ++ [y]))) else Nx H3) := by
  refine ⟨fun i m H => m = x.cps.size - i ∧ i ≤ x.cps.size ∧ Pv i H, ⟨_, rfl, Nat.zero_le _, h0⟩, ?_⟩
  rintro i m H ⟨rfl, hi, p⟩
  by_cases hlt : i < x.cps.size
  · refine .inr ⟨hlt, Pv (i + 1), fun H' p' => ⟨x.cps.size - (i + 1), by omega, rfl, hlt, p'⟩, fun y H' q => ?_⟩
    obtain ⟨rfl, c, hc, rfl⟩ := q
    exact hs i c _ hc p
  · have e : i = x.cps.size := by omega
    subst e
    exact .inl ⟨Nat.le_refl _, hd H p⟩
theorem lc_zipS {x y : Str} (Pv : Nat → Hp → Prop) (h0 : Pv 0 (upd H1 D (.lst [])))
    (hs : ∀ i c d T H, x.cps[i]? = some c → y.cps[i]? = some d → Pv i H → H T = none → g (.ref T) (wipe σ vs) (upd H T (.tup [.str ⟨#[c]⟩, .str ⟨#[d]⟩])) fun σ2 H2 => wipe σ2 vs = wipe σ vs ∧ tt σ2 H2 fun b H3 =>
      if b = true then te σ2 H3 fun y H4 => ∃ acc, H4 D = some (.lst acc) ∧ acc.length < sizeLine ∧ Pv (i + 1) (upd H4 D (.lst (acc ++ [y]))) else Pv (i + 1) H3) (hd : ∀ H, Pv (min x.cps.size y.cps.size) H → Qd H) :
    ∃ W : Nat → Nat → Hp → Prop, (∃ m, W 0 m (upd H1 D (.lst []))) ∧ ∀ i m H, W i m H →
      ((ItzS x y).stop i H ∧ Qd H) ∨ ((ItzS x y).go i H ∧ ∃ Nx : Hp → Prop, (∀ H', Nx H' → ∃ m', m' < m ∧ W (i + 1) m' H') ∧ ∀ z H', (ItzS x y).yld i H z H' → g z (wipe σ vs) H' fun σ2 H2 => wipe σ2 vs = wipe σ vs ∧ tt σ2 H2 fun b H3 =>
        if b = true then te σ2 H3 fun y H4 => ∃ acc, H4 D = some (.lst acc) ∧ acc.length < sizeLine ∧ Nx (upd H4 D (.lst (acc ++ [y]))) else Nx H3) := by
  refine ⟨fun i m H => m = min x.cps.size y.cps.size - i ∧ i ≤ min x.cps.size y.cps.size ∧ Pv i H, ⟨_, rfl, Nat.zero_le _, h0⟩, ?_⟩
  rintro i m H ⟨rfl, hi, p⟩
  by_cases hlt : i < min x.cps.size y.cps.size
  · refine .inr ⟨⟨by omega, by omega⟩, Pv (i + 1), fun H' p' => ⟨min x.cps.size y.cps.size - (i + 1), by omega, rfl, hlt, p'⟩, fun z H' q => ?_⟩
    obtain ⟨T, c, d, rfl, hT, rfl, hc, hd'⟩ := q
    exact hs i c d T _ hc hd' p hT
  · have e : i = min x.cps.size y.cps.size := by omega
    refine .inl ⟨?_, hd H (by rw [← e]; exact p)⟩
    by_cases hxy : x.cps.size ≤ y.cps.size
    · exact .inl ⟨by omega, by omega⟩
    · exact .inr ⟨by omega, by omega⟩
end
/-! ### signs -/
def letters : Str := "abcdefghijklmnopqrstuvwxyz"
structure SgOk (z : Str) : Prop where
  pos : 1 ≤ z.cps.size
  few : z.cps.size ≤ 4
  low : ∀ c ∈ z.cps.toList, c ∈ letters.cps.toList
  up : z.cps.toList.Pairwise (· < ·)
def sgB (z : Str) : Bool := decide (1 ≤ z.cps.size) && decide (z.cps.size ≤ 4) && decide (∀ c ∈ z.cps.toList, c ∈ letters.cps.toList) && decide (z.cps.toList.Pairwise (· < ·))
theorem sgOk_of {z : Str} (h : sgB z = true) : SgOk z := by
  unfold sgB at h
  simp only [Bool.and_eq_true, decide_eq_true_eq] at h
  exact ⟨h.1.1.1, h.1.1.2, h.1.2, h.2⟩
theorem SgOk.len {z : Str} (h : SgOk z) : z.length = z.cps.size := rfl
theorem all_true {bs : List Bool} (h : ∀ b ∈ bs, b = true) : bs.all id = true := List.all_eq_true.mpr fun b hb => h b hb
theorem replicate_bl (n : Nat) : (List.replicate n true).map V.bl = List.replicate n (V.bl true) := List.map_replicate
theorem rep_snoc {α : Type} (n : Nat) (x : α) : List.replicate n x ++ [x] = List.replicate (n + 1) x := by
  rw [List.replicate_succ']
theorem cutS_one (z : Str) (h : 1 ≤ z.cps.size) (i d : Nat) (hd : (cutS z (some 1) none).cps[i]? = some d) : z.cps[i + 1]? = some d := by
  unfold cutS at hd
  rw [HT.sIx_none, show (some (1 : Int)) = some ((1 : Nat) : Int) from rfl, HT.sIx_nat, Nat.min_eq_left (show 1 ≤ z.length from h)] at hd
  rw [List.getElem?_toArray, List.getElem?_take] at hd
  split at hd
  · rw [List.getElem?_drop, Array.getElem?_toList, Nat.add_comm] at hd
    exact hd
  · cases hd
theorem cut1_size (z : Str) : (cutS z (some 1) none).cps.size ≤ z.cps.size := by
  unfold cutS
  rw [List.size_toArray, List.length_take, List.length_drop, Array.length_toList]
  omega
theorem one_lt {c d : Nat} (h : c < d) : decide ((⟨#[c]⟩ : Str).cps.toList < (⟨#[d]⟩ : Str).cps.toList) = true := by
  rw [decide_eq_true_iff]
  show [c] < [d]
  exact List.cons_lt_cons_iff.mpr (.inl h)
theorem SgOk.lt {z : Str} (h : SgOk z) {i c d : Nat} (hc : z.cps[i]? = some c) (hd : z.cps[i + 1]? = some d) : c < d := by
  rw [← Array.getElem?_toList] at hc hd
  obtain ⟨h1, e1⟩ := List.getElem?_eq_some_iff.mp hc
  obtain ⟨h2, e2⟩ := List.getElem?_eq_some_iff.mp hd
  rw [← e1, ← e2]
  exact List.pairwise_iff_getElem.mp h.up i (i + 1) h1 h2 (by omega)
theorem SgOk.in_ {z : Str} (h : SgOk z) {i c : Nat} (hc : z.cps[i]? = some c) : c ∈ letters.cps.toList := by
  refine h.low c ?_
  rw [← Array.getElem?_toList] at hc
  exact List.mem_of_getElem? hc
theorem bIsi : bootBuiltins "isinstance" = some (.builtin "isinstance") := by decide +kernel
theorem bAll : bootBuiltins "all" = some (.builtin "all") := by decide +kernel
theorem bStr : bootBuiltins "str" = some (.type "str") := by decide +kernel
theorem bBool : bootBuiltins "bool" = some (.type "bool") := by decide +kernel
theorem lay_rows (R : List (List Nat)) : PyData.canLayAll0 (R.map dNs) = true ∧ PyData.depthAll (R.map dNs) ≤ 1 := by
  induction R with
  | nil => exact ⟨rfl, by decide⟩
  | cons a l ih =>
    have h := shp_dNs a
    unfold SeqAt.shaped at h
    have h1 := (Bool.and_eq_true_iff.mp h).1
    have h2 : (dNs a).depth = 1 := by
      have : ∀ l : List Nat, PyData.depthAll (l.map fun n : Nat => PyData.int (n : Int)) = 0 := by
        intro l
        induction l with
        | nil => rfl
        | cons b l ih => simp only [List.map_cons, PyData.depthAll, PyData.depth, ih, Nat.max_self]
      unfold dNs
      simp only [PyData.depth, this]
    refine ⟨by simp only [List.map_cons, PyData.canLayAll0, h1, ih.1, Bool.and_self], ?_⟩
    simp only [List.map_cons, PyData.depthAll, h2]
    exact Nat.max_le.mpr ⟨Nat.le_refl _, ih.2⟩
theorem shp_dRs (R : List (List Nat)) : SeqAt.shaped (dRs R) = true := by
  unfold SeqAt.shaped dRs
  simp only [PyData.canLay0, PyData.depth, (lay_rows R).1, Bool.true_and]
  have := (lay_rows R).2
  exact decide_eq_true (by omega)
theorem eqv_dRs_nil {R : List (List Nat)} (h : 0 < R.length) : PyData.eqv (dRs R) (.list []) = false := by
  cases R with
  | nil => cases h
  | cons a R => rfl
/-! promises -/
def spIsInt : Sp := fun vs H Q _ => ∃ i : Int, vs = [.int i] ∧ Q (.bl true) H
def spIsNum : Sp := fun vs H Q _ => ∃ m i : Int, vs = [.int m, .int i] ∧ Q (.bl (decide (0 ≤ i) && decide (i < m))) H
def spIsSg : Sp := fun vs H Q _ => ∃ z : Str, vs = [.str z] ∧ SgOk z ∧ ∀ H', Same H H' → Q (.bl true) H'
/-- rows of states -/
def spAreR : Sp := fun vs H Q _ => ∃ (n : Nat) (a : Addr) (xs : List Addr) (R : List (List Nat)), vs = [nV n, .ref a] ∧ RowsAt H a xs R ∧ Mok n R ∧ 0 < R.length ∧ R.length ≤ 4000 ∧ n ≤ 100 ∧ ∀ H', Same H H' → Q (.bl true) H'
end Rg

/-! the class Texts: how an instance stands, promises of its methods -/
namespace Rg
open PySem PySem.Spec PyProof.Rows L2 Mach
theorem Gd.len {e k : Nat} {d : PyData} (h : Gd e k d) : d.shown.length ≤ 15 * k + 13 := by
  have h2 := PyData.shown_le 13 (by decide) d (PyData.leavesShort_of_canLay0 13 d h.lay h.ish)
  have := h.wt
  omega
theorem gd_str {x : Str} (h : PyData.strOk x = true) {k : Nat} (hk : x.cps.size ≤ k) : Gd 0 k (.str x) := ⟨h, rfl, rfl, Nat.le_refl _, hk⟩
theorem eqvAll_ints : ∀ S T : List Nat, PyData.eqvAll (S.map fun n : Nat => PyData.int (n : Int)) (T.map fun n : Nat => PyData.int (n : Int)) = decide (S = T)
  | [], [] => rfl
  | [], b :: T => rfl
  | a :: S, [] => rfl
  | a :: S, b :: T => by
    show (PyData.eqv (.int (a : Int)) (.int (b : Int)) && PyData.eqvAll _ _) = _
    rw [eqvAll_ints S T, show PyData.eqv (.int (a : Int)) (.int (b : Int)) = ((a : Int) == (b : Int)) from by simp only [PyData.eqv]]
    by_cases h1 : a = b
    · by_cases h2 : S = T
      · rw [h1, h2]
        simp
      · rw [decide_eq_false h2, Bool.and_false, decide_eq_false (fun z => h2 (List.cons.inj z).2)]
    · rw [beq_eq_false_iff_ne.mpr (fun z => h1 (by omega)), Bool.false_and, decide_eq_false (fun z => h1 (List.cons.inj z).1)]
theorem eqv_dNs (S T : List Nat) : PyData.eqv (dNs S) (dNs T) = decide (S = T) := by
  unfold dNs
  simp only [PyData.eqv]
  exact eqvAll_ints S T
theorem eqvAll_dNs : ∀ R S : List (List Nat), PyData.eqvAll (R.map dNs) (S.map dNs) = decide (R = S)
  | [], [] => rfl
  | [], b :: T => rfl
  | a :: S, [] => rfl
  | a :: S, b :: T => by
    show (PyData.eqv (dNs a) (dNs b) && PyData.eqvAll _ _) = _
    rw [eqvAll_dNs S T, eqv_dNs]
    by_cases h1 : a = b
    · by_cases h2 : S = T
      · rw [h1, h2]
        simp
      · rw [decide_eq_false h2, Bool.and_false, decide_eq_false (fun z => h2 (List.cons.inj z).2)]
    · rw [decide_eq_false h1, Bool.false_and, decide_eq_false (fun z => h1 (List.cons.inj z).1)]
theorem eqv_dRs (R S : List (List Nat)) : PyData.eqv (dRs R) (dRs S) = decide (R = S) := by
  unfold dRs
  simp only [PyData.eqv]
  exact eqvAll_dNs R S
/-! ### an instance -/
def tfl (z : Str) (t e : Addr) : List (Str × V) := putF "its_ends" (.ref e) (putF "its_table" (.ref t) (putF "its_signs" (.str z) []))
theorem tf_st : ¬ (("its_signs" : Str) = "its_table") := by decide +kernel
theorem tf_se : ¬ (("its_signs" : Str) = "its_ends") := by decide +kernel
theorem tf_te : ¬ (("its_table" : Str) = "its_ends") := by decide +kernel
theorem tfl_ends (z : Str) (t e : Addr) : (tfl z t e).lookup ("its_ends" : Str) = some (.ref e) := by
  unfold tfl
  rw [lookup_putF, if_pos rfl]
theorem tfl_table (z : Str) (t e : Addr) : (tfl z t e).lookup ("its_table" : Str) = some (.ref t) := by
  unfold tfl
  rw [lookup_putF, if_neg tf_te, lookup_putF, if_pos rfl]
theorem tfl_signs (z : Str) (t e : Addr) : (tfl z t e).lookup ("its_signs" : Str) = some (.str z) := by
  unfold tfl
  rw [lookup_putF, if_neg tf_se, lookup_putF, if_neg tf_st, lookup_putF, if_pos rfl]
theorem tfl_no (z : Str) (t e : Addr) {m : Str} (h1 : ¬ m = "its_ends") (h2 : ¬ m = "its_table") (h3 : ¬ m = "its_signs") : (tfl z t e).lookup m = none := by
  unfold tfl
  rw [lookup_putF, if_neg h1, lookup_putF, if_neg h2, lookup_putF, if_neg h3]
  rfl
/-- a set of texts stands at p -/
structure TxAt (C : Addr) (H : Hp) (p : Addr) (z : Str) (t e : Addr) (ys : List Addr) (R : List (List Nat)) (E : List Nat) : Prop where
  ob : ∃ dx, H p = some (.ins C dx (tfl z t e))
  rows : RowsAt H t ys R
  ends : H e = some (.lst (nVs E))
theorem TxAt.same {C : Addr} {H H' : Hp} {p : Addr} {z : Str} {t e : Addr} {ys : List Addr} {R : List (List Nat)} {E : List Nat} (h : TxAt C H p z t e ys R E) (s : Same H H') : TxAt C H' p z t e ys R E := by
  obtain ⟨⟨dx, ob⟩, r, en⟩ := h
  exact ⟨⟨dx, s _ _ ob⟩, r.same s, s _ _ en⟩
theorem TxAt.but {C g : Addr} {H H' : Hp} {p : Addr} {z : Str} {t e : Addr} {ys : List Addr} {R : List (List Nat)} {E : List Nat} (h : TxAt C H p z t e ys R E) (b : But g H H') (hp : p ≠ g) (ht : t ≠ g) (he : e ≠ g) (hy : ∀ y ∈ ys, y ≠ g) : TxAt C H' p z t e ys R E := by
  obtain ⟨⟨dx, ob⟩, r, en⟩ := h
  exact ⟨⟨dx, b _ _ hp ob⟩, r.but b ht hy, b _ _ he en⟩
/-- facts of the class that its methods ask -/
structure TxC (K : PySem.W.Frag) (C : Addr) : Prop where
  cl : Cls K C
  nS : NoAttr K C "its_signs"
  nT : NoAttr K C "its_table"
  nE : NoAttr K C "its_ends"
/-- Texts(signs, rows, ends) -/
def spInit (C : Addr) : Sp := fun vs H Q _ => ∃ (p dx a e : Addr) (z : Str) (xs : List Addr) (R : List (List Nat)) (E : List Nat), vs = [.ref p, .str z, .ref a, .ref e] ∧ H p = some (.ins C dx []) ∧ SgOk z ∧ RowsAt H a xs R ∧ Mok z.cps.size R ∧ 0 < R.length ∧ R.length ≤ 4000 ∧
  H e = some (.lst (nVs E)) ∧ (∀ x ∈ E, x < R.length) ∧ E.length ≤ 4000 ∧
  ∀ (H' : Hp) (t e' : Addr) (ys : List Addr) (R' : List (List Nat)) (E' : List Nat), (∀ b o, H b = some o → b ≠ p → H' b = some o) → TxAt C H' p z t e' ys R' E' → H t = none → H e' = none → t ≠ e' → (∀ y ∈ ys, H y = none ∧ y ≠ t ∧ y ≠ e') → ys.Nodup →
    Least z.cps.size R' E' → Alk z.cps.size R' E' 0 R E 0 → R'.length ≤ R.length → Q .non H'
def spSg (C : Addr) : Sp := fun vs H Q _ => ∃ (p : Addr) (z : Str) (t e : Addr) (ys : List Addr) (R : List (List Nat)) (E : List Nat), vs = [.ref p] ∧ TxAt C H p z t e ys R E ∧ Q (.str z) H
def spTab (C : Addr) : Sp := fun vs H Q _ => ∃ (p : Addr) (z : Str) (t e : Addr) (ys : List Addr) (R : List (List Nat)) (E : List Nat), vs = [.ref p] ∧ TxAt C H p z t e ys R E ∧ R.length ≤ 4000 ∧
  ∀ (H' : Hp) (q : Addr) (xs : List Addr), Same H H' → H q = none → (∀ x ∈ xs, H x = none ∧ x ≠ q) → xs.Nodup → RowsAt H' q xs R → Q (.ref q) H'
def spEnd (C : Addr) : Sp := fun vs H Q _ => ∃ (p : Addr) (z : Str) (t e : Addr) (ys : List Addr) (R : List (List Nat)) (E : List Nat), vs = [.ref p] ∧ TxAt C H p z t e ys R E ∧
  ∀ (H' : Hp) (q : Addr), Same H H' → H q = none → H' q = some (.lst (nVs E)) → Q (.ref q) H'
/-- == : with another set, or with what is none -/
def spEq (K : PySem.W.Frag) (C : Addr) : Sp := fun vs H Q _ => ∃ (p : Addr) (z : Str) (t e : Addr) (ys : List Addr) (R : List (List Nat)) (E : List Nat) (y : V), vs = [.ref p, y] ∧ TxAt C H p z t e ys R E ∧
  ((∃ ty, TyX K H y ty ∧ PySem.W.kitOne K ty (.ref C) = some false ∧ Q (.bl false) H) ∨
   ∃ (p2 : Addr) (z2 : Str) (t2 e2 : Addr) (ys2 : List Addr) (R2 : List (List Nat)) (E2 : List Nat), y = .ref p2 ∧ TxAt C H p2 z2 t2 e2 ys2 R2 E2 ∧ Q (.bl (decide (z = z2) && (decide (R = R2) && decide (E = E2)))) H)
def reprTx (z : Str) (R : List (List Nat)) (E : List Nat) : Str := ((((((("Texts(" : Str) ++ reprText z) ++ ", ") ++ (dRs R).shown) ++ ", ") ++ (dNs E).shown) ++ ")")
def spRepr (C : Addr) : Sp := fun vs H Q _ => ∃ (p : Addr) (z : Str) (t e : Addr) (ys : List Addr) (R : List (List Nat)) (E : List Nat), vs = [.ref p] ∧ TxAt C H p z t e ys R E ∧ SgOk z ∧ Gd 2 100000 (dRs R) ∧ Gd 1 100000 (dNs E) ∧ Q (.str (reprTx z R E)) H
theorem lett_low {c : Nat} (h : c ∈ letters.cps.toList) : c < 128 := by
  have key : ∀ c ∈ letters.cps.toList, c < 128 := by decide +kernel
  exact key c h
theorem SgOk.rep {z : Str} (h : SgOk z) : (reprText z).length ≤ 100 := by
  have h1 := PySem.StrLaws.reprText_len z (fun c hc => Nat.lt_of_lt_of_le (lett_low (h.low c hc)) (by decide))
  have h2 := h.few
  have h3 : z.length = z.cps.size := rfl
  omega
end Rg

namespace Rg
open PySem PySem.Spec PyProof.Rows L2 Mach
/-- either of two rules for one operator -/
theorem op_or2 {X : Cx} {f : Value → Value → Sem Value} {r1 r2 : R2} (h1 : OpR X f r1) (h2 : OpR X f r2) : OpR X f (fun x y H Q => r1 x y H Q ∨ r2 x y H Q) := by
  intro pins s σ H x y v u Q I rx ry h
  rcases h with h | h
  · exact h1 pins s σ H x y v u Q I rx ry h
  · exact h2 pins s σ H x y v u Q I rx ry h
/-- repr of a text, or of a list or tuple of data -/
theorem call_repr_v {X : Cx} (hg : X.A.guards = some []) (hu : X.A.units + 64 < cLine) : CallR X (.builtin "repr")
    (fun xs H Q => ∃ (x : V) (d : PyData), xs = [x] ∧ Dp X.K H x d ∧ ((∃ a, x = .ref a) ∨ ∃ z, x = .str z ∧ d = .str z) ∧ d.showable = true ∧ d.hasDict = false ∧ d.depth ≤ 60 ∧ d.shown.length ≤ sizeLine ∧ Q (.str d.shown) H) := by
  intro pins s σ H xs us Q I r h
  obtain ⟨x, d, rfl, hd, hx, hs, hnd, hdp, hz, q⟩ := h
  rcases hx with ⟨a, rfl⟩ | ⟨z, rfl, rfl⟩
  · exact call_repr_data hg hu pins s σ H [.ref a] us Q I r ⟨a, d, rfl, hd, hs, hnd, hdp, hz, q⟩
  · exact call_repr_str pins s σ H [.str z] us Q I r ⟨z, rfl, hz, q⟩
def spAlkV (K : PySem.W.Frag) : Sp := fun vs H Q _ => ∃ (x y : V) (d : PyData) (i k : Nat), vs = [x, y] ∧ Dp K H x d ∧ Dp K H y d ∧ ((∃ a, x = .ref a) ∨ ∃ z, x = .str z ∧ d = .str z) ∧ ((∃ a, y = .ref a) ∨ ∃ z, y = .str z ∧ d = .str z) ∧ Gd i k d ∧ i ≤ 60 ∧ k ≤ 100000 ∧ Q (.bl true) H
/-- what is told of a set -/
def dTold (z : Str) (R : List (List Nat)) (E : List Nat) : PyData := .list [.str z, dRs R, dNs E, .str (reprTx z R E)]
theorem sg_low {z : Str} (h : SgOk z) : PyData.strOk z = true := by
  unfold PyData.strOk
  rw [Array.all_eq_true]
  intro i hi
  have := lett_low (h.in_ (i := i) (Array.getElem?_eq_getElem hi))
  exact decide_eq_true (by omega)
theorem strOk_app {x y : Str} (hx : PyData.strOk x = true) (hy : PyData.strOk y = true) : PyData.strOk (x ++ y) = true := by
  unfold PyData.strOk at *
  show (x.cps ++ y.cps).all _ = true
  rw [Array.all_append, hx, hy]
  rfl
theorem strOk_from : ∀ (ts : List Str) (k : Nat) (acc : Str), PyData.strOk acc = true → (∀ t ∈ ts, PyData.strOk t = true) → PyData.strOk (textFrom k acc ts) = true
  | [], _, _, h, _ => h
  | t :: ts, k, acc, h, ht => by
    refine strOk_from ts (k + 1) _ (strOk_app (strOk_app h ?_) (ht t List.mem_cons_self)) fun x hx => ht x (List.mem_cons_of_mem _ hx)
    by_cases hk : k > 0
    · rw [if_pos hk]
      decide +kernel
    · rw [if_neg hk]
      decide +kernel
theorem strOk_list {ts : List Str} (h : ∀ t ∈ ts, PyData.strOk t = true) : PyData.strOk (listText ts) = true :=
  strOk_app (strOk_from ts 0 _ (by decide +kernel) h) (by decide +kernel)
theorem shownAll_map {α : Type} (f : α → PyData) : ∀ l : List α, PyData.shownAll (l.map f) = l.map fun x => (f x).shown
  | [] => rfl
  | x :: l => by
    rw [List.map_cons, List.map_cons, ← shownAll_map f l]
    rfl
theorem strOk_num {n : Nat} (h : n < 32) : PyData.strOk (PyData.shown (.int (n : Int))) = true := by
  have key : ∀ m : Fin 32, PyData.strOk (PyData.shown (.int (m.val : Int))) = true := by decide +kernel
  exact key ⟨n, h⟩
theorem strOk_dNs {ns : List Nat} (h : ∀ n ∈ ns, n < 32) : PyData.strOk (dNs ns).shown = true := by
  show PyData.strOk (listText (PyData.shownAll _)) = true
  rw [shownAll_map]
  refine strOk_list fun t ht => ?_
  obtain ⟨n, hn, rfl⟩ := List.mem_map.mp ht
  exact strOk_num (h n hn)
theorem strOk_dRs {R : List (List Nat)} (h : ∀ r ∈ R, ∀ n ∈ r, n < 32) : PyData.strOk (dRs R).shown = true := by
  show PyData.strOk (listText (PyData.shownAll _)) = true
  rw [shownAll_map]
  refine strOk_list fun t ht => ?_
  obtain ⟨r, hr, rfl⟩ := List.mem_map.mp ht
  exact strOk_dNs (h r hr)
/-! ### the signs that are drawn -/
def sgMenu : List Str := ["ab", "abc", "xz", "a", "mno", "akyz", "b", "cd", "def", "bcde"]
theorem menu_ok {z : Str} (h : z ∈ sgMenu) : SgOk z := by
  have key : ∀ z ∈ sgMenu, sgB z = true := by decide +kernel
  exact sgOk_of (key z h)
theorem menu_rep {z : Str} (h : z ∈ sgMenu) : PyData.strOk (reprText z) = true := by
  have key : ∀ z ∈ sgMenu, PyData.strOk (reprText z) = true := by decide +kernel
  exact key z h
/-- a least machine of few states -/
structure Few (n : Nat) (R : List (List Nat)) (E : List Nat) : Prop where
  least : Least n R E
  n4 : n ≤ 4
  few : R.length ≤ 16
theorem row_of_mem {R : List (List Nat)} {r : List Nat} (hr : r ∈ R) : ∃ i, i < R.length ∧ rowOf R i = r := by
  obtain ⟨i, hi, rfl⟩ := List.mem_iff_getElem.mp hr
  refine ⟨i, hi, ?_⟩
  unfold rowOf
  rw [List.getD_eq_getElem?_getD, List.getElem?_eq_getElem hi]
  rfl
section
variable {n : Nat} {R : List (List Nat)} {E : List Nat}
theorem Few.lt (h : Few n R E) : ∀ x ∈ E, x < R.length := fun x hx => by
  rw [h.least.ends] at hx
  exact List.mem_range.mp (List.mem_filter.mp hx).1
theorem Few.el (h : Few n R E) : E.length ≤ R.length := by
  have h1 := congrArg List.length h.least.ends
  have h2 := List.length_filter_le (fun q => decide (q ∈ E)) (List.range R.length)
  rw [List.length_range] at h2
  omega
theorem Few.rw_ (h : Few n R E) : ∀ r ∈ R, r.length ≤ 4 ∧ ∀ x ∈ r, x < 32 := fun r hr => by
  obtain ⟨i, hi, rfl⟩ := row_of_mem hr
  have h1 := h.n4
  have h2 := h.few
  exact ⟨by rw [h.least.ok.wide i hi]; exact h1, fun x hx => by have := h.least.ok.lt i hi x hx; omega⟩
theorem Few.gR (h : Few n R E) : Gd 2 592 (dRs R) := (gd_dRs (L := 4) h.rw_).le (Nat.le_refl _) (by have := h.few; omega)
theorem Few.gE (h : Few n R E) : Gd 1 144 (dNs E) := (gd_dNs fun x hx => by have := h.lt x hx; have := h.few; omega).le (Nat.le_refl _) (by have := h.el; have := h.few; omega)
theorem str_len_app (x y : Str) : (x ++ y).length = x.length + y.length := by
  show (x.cps ++ y.cps).size = _
  rw [Array.size_append]
  rfl
theorem Few.rl (h : Few n R E) {z : Str} (hz : SgOk z) : (reprTx z R E).length ≤ 12000 := by
  have l1 := hz.rep
  have l2 := h.gR.len
  have l3 := h.gE.len
  have c1 : ("Texts(" : Str).length = 6 := by decide +kernel
  have c2 : (", " : Str).length = 2 := by decide +kernel
  have c3 : (")" : Str).length = 1 := by decide +kernel
  unfold reprTx
  rw [str_len_app, str_len_app, str_len_app, str_len_app, str_len_app, str_len_app, c1, c2, c3]
  omega
theorem Few.ok (h : Few n R E) {z : Str} (hz : z ∈ sgMenu) : PyData.strOk (reprTx z R E) = true := by
  unfold reprTx
  refine strOk_app (strOk_app (strOk_app (strOk_app (strOk_app (strOk_app (by decide +kernel) (menu_rep hz)) (by decide +kernel)) (strOk_dRs fun r hr x hx => (h.rw_ r hr).2 x hx)) (by decide +kernel)) (strOk_dNs fun x hx => by have := h.lt x hx; have := h.few; omega)) (by decide +kernel)
theorem Few.gd (h : Few n R E) {z : Str} (hz : z ∈ sgMenu) : Gd 3 20000 (dTold z R E) := by
  have h1 := (menu_ok hz).few
  refine (gd_list (e := 2) (gdAll_cons ((gd_str (sg_low (menu_ok hz)) (k := 4) h1).le (by decide) (Nat.le_refl _)) (gdAll_cons h.gR (gdAll_cons (h.gE.le (by decide) (Nat.le_refl _)) (gdAll_cons ((gd_str (h.ok hz) (k := 12000) (h.rl (menu_ok hz))).le (by decide) (Nat.le_refl _)) gdAll_nil))))).le (by decide) (by omega)
end
theorem eqv_str (x y : Str) : PyData.eqv (.str x) (.str y) = decide (x = y) := by
  simp only [PyData.eqv]
  by_cases h : x = y
  · rw [decide_eq_true h, h]
    simp
  · rw [decide_eq_false h]
    exact beq_eq_false_iff_ne.mpr h
theorem eqv_told (z : Str) (R R' : List (List Nat)) (E E' : List Nat) : PyData.eqv (dTold z R E) (dTold z R' E') = (decide (R = R') && decide (E = E')) := by
  have h1 : PyData.eqv (dTold z R E) (dTold z R' E') = (PyData.eqv (.str z) (.str z) && (PyData.eqv (dRs R) (dRs R') && (PyData.eqv (dNs E) (dNs E') && (PyData.eqv (.str (reprTx z R E)) (.str (reprTx z R' E')) && true)))) := by
    unfold dTold
    simp only [PyData.eqv, PyData.eqvAll]
  rw [h1, eqv_str, eqv_dRs, eqv_dNs, eqv_str, decide_eq_true rfl, Bool.true_and, Bool.and_true]
  by_cases hR : R = R'
  · by_cases hE : E = E'
    · rw [hR, hE, decide_eq_true rfl, decide_eq_true rfl, decide_eq_true rfl]
      rfl
    · rw [decide_eq_false hE, Bool.false_and]
  · rw [decide_eq_false hR, Bool.false_and, Bool.false_and]
end Rg

/-! Plain mathematics: pairs of machines, languages as truths of words -/
namespace Mach
def prow (m : Nat) (r s : List Nat) : List Nat := List.zipWith (fun a b => a * m + b) r s
def pr (R S : List (List Nat)) : List (List Nat) := R.flatMap fun r => S.map fun s => prow S.length r s
def prEnd (W : Bool → Bool → Bool) (E F : List Nat) (m p k : Nat) : List Nat := ((List.range k).filter fun q => W (decide (p ∈ E)) (decide (q ∈ F))).map fun q => p * m + q
def prEs (W : Bool → Bool → Bool) (E F : List Nat) (m N : Nat) : List Nat := (List.range N).flatMap fun p => prEnd W E F m p m
theorem flat_len {α β : Type} {f : α → List β} {m : Nat} : ∀ (R : List α), (∀ r ∈ R, (f r).length = m) → (R.flatMap f).length = R.length * m
  | [], _ => by simp
  | a :: R, h => by
    rw [List.flatMap_cons, List.length_append, flat_len R (fun r hr => h r (List.mem_cons_of_mem _ hr)), h a List.mem_cons_self, List.length_cons, Nat.succ_mul, Nat.add_comm]
theorem flat_at {α β : Type} {f : α → List β} {m : Nat} : ∀ (R : List α) (_ : ∀ r ∈ R, (f r).length = m) (p q : Nat) (_ : q < m), (R.flatMap f)[p * m + q]? = R[p]?.bind fun r => (f r)[q]?
  | [], _, p, q, _ => by simp
  | a :: R, h, 0, q, hq => by
    rw [List.flatMap_cons, Nat.zero_mul, Nat.zero_add, List.getElem?_append_left (by rw [h a List.mem_cons_self]; exact hq)]
    rfl
  | a :: R, h, p + 1, q, hq => by
    rw [List.flatMap_cons, List.getElem?_append_right (by rw [h a List.mem_cons_self, Nat.succ_mul]; omega), h a List.mem_cons_self,
      show (p + 1) * m + q - m = p * m + q from by rw [Nat.succ_mul]; omega, flat_at R (fun r hr => h r (List.mem_cons_of_mem _ hr)) p q hq]
    rfl
section
variable {n : Nat} {R S : List (List Nat)} {E F : List Nat}
theorem pr_len (R S : List (List Nat)) : (pr R S).length = R.length * S.length := flat_len R fun r _ => by rw [List.length_map]
theorem pr_row {p q : Nat} (hp : p < R.length) (hq : q < S.length) : rowOf (pr R S) (p * S.length + q) = prow S.length (rowOf R p) (rowOf S q) := by
  unfold rowOf
  rw [List.getD_eq_getElem?_getD, pr, flat_at R (fun r _ => by rw [List.length_map]) p q hq, List.getElem?_eq_getElem hp]
  show ((S.map _)[q]?).getD [] = _
  rw [List.getElem?_map, List.getElem?_eq_getElem hq]
  simp [List.getD_eq_getElem?_getD, hp, hq]
theorem pq_lt {p q N m : Nat} (hp : p < N) (hq : q < m) : p * m + q < N * m := by
  have : (p + 1) * m ≤ N * m := Nat.mul_le_mul_right m hp
  rw [Nat.succ_mul] at this
  omega
theorem pq_of {i N m : Nat} (h : i < N * m) : ∃ p q, p < N ∧ q < m ∧ i = p * m + q := by
  have hm : 0 < m := by
    rcases Nat.eq_zero_or_pos m with z | z
    · rw [z, Nat.mul_zero] at h
      omega
    · exact z
  refine ⟨i / m, i % m, Nat.div_lt_of_lt_mul (by rw [Nat.mul_comm]; exact h), Nat.mod_lt _ hm, ?_⟩
  have := Nat.div_add_mod i m
  rw [Nat.mul_comm] at this
  omega
theorem prow_len (m : Nat) {r s : List Nat} (h : r.length = n) (h' : s.length = n) : (prow m r s).length = n := by
  unfold prow
  rw [List.length_zipWith, h, h', Nat.min_self]
theorem pr_mok (hR : Mok n R) (hS : Mok n S) : Mok n (pr R S) := by
  constructor
  · intro i hi
    rw [pr_len] at hi
    obtain ⟨p, q, hp, hq, rfl⟩ := pq_of hi
    rw [pr_row hp hq]
    exact prow_len _ (hR.wide p hp) (hS.wide q hq)
  · intro i hi x hx
    rw [pr_len] at hi ⊢
    obtain ⟨p, q, hp, hq, rfl⟩ := pq_of hi
    rw [pr_row hp hq, prow] at hx
    obtain ⟨k, hk, rfl⟩ := List.getElem_of_mem hx
    rw [List.getElem_zipWith]
    rw [List.length_zipWith] at hk
    exact pq_lt (hR.lt p hp _ (List.getElem_mem _)) (hS.lt q hq _ (List.getElem_mem _))
theorem pr_dl (hR : Mok n R) (hS : Mok n S) {p q k : Nat} (hp : p < R.length) (hq : q < S.length) (hk : k < n) : dl (pr R S) (p * S.length + q) k = dl R p k * S.length + dl S q k := by
  unfold dl
  rw [pr_row hp hq, prow, List.getD_eq_getElem?_getD, List.getD_eq_getElem?_getD, List.getD_eq_getElem?_getD]
  have h1 : k < (rowOf R p).length := by rw [hR.wide p hp]; exact hk
  have h2 : k < (rowOf S q).length := by rw [hS.wide q hq]; exact hk
  rw [List.getElem?_zipWith, List.getElem?_eq_getElem h1, List.getElem?_eq_getElem h2]
  rfl
theorem pr_run (hR : Mok n R) (hS : Mok n S) : ∀ (w : List Nat) {p q : Nat}, p < R.length → q < S.length → Wd n w → runM (pr R S) (p * S.length + q) w = runM R p w * S.length + runM S q w
  | [], _, _, _, _, _ => rfl
  | k :: w, p, q, hp, hq, hw => by
    have hk := hw k List.mem_cons_self
    rw [runM_cons, runM_cons, runM_cons, pr_dl hR hS hp hq hk]
    exact pr_run hR hS w (dl_lt hR hp hk) (dl_lt hS hq hk) fun j hj => hw j (List.mem_cons_of_mem _ hj)
variable {W : Bool → Bool → Bool}
theorem mem_prEnd {m p k x : Nat} : x ∈ prEnd W E F m p k ↔ ∃ q, q < k ∧ x = p * m + q ∧ W (decide (p ∈ E)) (decide (q ∈ F)) = true := by
  unfold prEnd
  rw [List.mem_map]
  constructor
  · rintro ⟨q, h, rfl⟩
    rw [List.mem_filter, List.mem_range] at h
    exact ⟨q, h.1, rfl, h.2⟩
  · rintro ⟨q, h1, rfl, h2⟩
    exact ⟨q, List.mem_filter.mpr ⟨List.mem_range.mpr h1, h2⟩, rfl⟩
theorem mem_prEs {m N x : Nat} : x ∈ prEs W E F m N ↔ ∃ p q, p < N ∧ q < m ∧ x = p * m + q ∧ W (decide (p ∈ E)) (decide (q ∈ F)) = true := by
  unfold prEs
  rw [List.mem_flatMap]
  constructor
  · rintro ⟨p, h, h'⟩
    obtain ⟨q, a, b, c⟩ := mem_prEnd.mp h'
    exact ⟨p, q, List.mem_range.mp h, a, b, c⟩
  · rintro ⟨p, q, h, a, b, c⟩
    exact ⟨p, List.mem_range.mpr h, mem_prEnd.mpr ⟨q, a, b, c⟩⟩
theorem prEs_lt {m N x : Nat} (h : x ∈ prEs W E F m N) : x < N * m := by
  obtain ⟨p, q, a, b, rfl, _⟩ := mem_prEs.mp h
  exact pq_lt a b
theorem prEnd_len (m p k : Nat) : (prEnd W E F m p k).length ≤ k := by
  unfold prEnd
  rw [List.length_map]
  exact Nat.le_trans (List.length_filter_le _ _) (by rw [List.length_range]; exact Nat.le_refl _)
theorem prEs_succ (m N : Nat) : prEs W E F m (N + 1) = prEs W E F m N ++ prEnd W E F m N m := by
  unfold prEs
  rw [List.range_succ, List.flatMap_append, List.flatMap_cons, List.flatMap_nil, List.append_nil]
theorem prEs_len (m : Nat) : ∀ N, (prEs W E F m N).length ≤ N * m
  | 0 => by simp [prEs]
  | N + 1 => by
    rw [prEs_succ, List.length_append, Nat.succ_mul]
    exact Nat.add_le_add (prEs_len m N) (prEnd_len m N m)
theorem prEnd_succ (m p k : Nat) : prEnd W E F m p (k + 1) = prEnd W E F m p k ++ (if W (decide (p ∈ E)) (decide (k ∈ F)) = true then [p * m + k] else []) := by
  unfold prEnd
  rw [List.range_succ, List.filter_append, List.map_append]
  congr 1
  by_cases h : W (decide (p ∈ E)) (decide (k ∈ F)) = true
  · rw [if_pos h, List.filter_cons_of_pos (p := fun q => W (decide (p ∈ E)) (decide (q ∈ F))) h]
    rfl
  · rw [if_neg h, List.filter_cons_of_neg (p := fun q => W (decide (p ∈ E)) (decide (q ∈ F))) h]
    rfl
theorem pq_inj {p q p' q' m : Nat} (hq : q < m) (hq' : q' < m) (h : p * m + q = p' * m + q') : p = p' ∧ q = q' := by
  have h1 : (p * m + q) / m = p := by
    rw [Nat.mul_comm, Nat.mul_add_div (by omega), Nat.div_eq_of_lt hq, Nat.add_zero]
  have h2 : (p' * m + q') / m = p' := by
    rw [Nat.mul_comm, Nat.mul_add_div (by omega), Nat.div_eq_of_lt hq', Nat.add_zero]
  have h3 : p = p' := by rw [← h1, ← h2, h]
  subst h3
  exact ⟨rfl, by omega⟩
theorem pq_mem {m N p q : Nat} (hp : p < N) (hq : q < m) : p * m + q ∈ prEs W E F m N ↔ W (decide (p ∈ E)) (decide (q ∈ F)) = true := by
  rw [mem_prEs]
  constructor
  · rintro ⟨p', q', a, b, c, d⟩
    obtain ⟨rfl, rfl⟩ := pq_inj hq b c
    exact d
  · intro h
    exact ⟨p, q, hp, hq, rfl, h⟩
/-! ### languages -/
def Lg (n : Nat) (R : List (List Nat)) (E : List Nat) (L : List Nat → Bool) : Prop := ∀ w, Wd n w → decide (runM R 0 w ∈ E) = L w
variable {L M : List Nat → Bool}
theorem lg_pr (hR : Mok n R) (hS : Mok n S) (r0 : 0 < R.length) (s0 : 0 < S.length) (l : Lg n R E L) (m : Lg n S F M) : Lg n (pr R S) (prEs W E F S.length R.length) fun w => W (L w) (M w) := by
  intro w hw
  have e := pr_run hR hS w r0 s0 hw
  rw [Nat.zero_mul, Nat.zero_add] at e
  show _ = W (L w) (M w)
  rw [e, ← l w hw, ← m w hw]
  by_cases h : W (decide (runM R 0 w ∈ E)) (decide (runM S 0 w ∈ F)) = true
  · rw [h]
    exact decide_eq_true ((pq_mem (runM_lt hR r0 hw) (runM_lt hS s0 hw)).mpr h)
  · rw [Bool.eq_false_iff.mpr h]
    exact decide_eq_false fun z => h ((pq_mem (runM_lt hR r0 hw) (runM_lt hS s0 hw)).mp z)
theorem lg_alk {R' : List (List Nat)} {E' : List Nat} (l : Lg n R E L) (a : Alk n R' E' 0 R E 0) : Lg n R' E' L := fun w hw => by
  rw [← l w hw]
  exact decide_eq_decide.mpr (a w hw)
theorem alk_lg {R' : List (List Nat)} {E' : List Nat} {L' : List Nat → Bool} (l : Lg n R E L) (l' : Lg n R' E' L') (h : ∀ w, Wd n w → L w = L' w) : Alk n R E 0 R' E' 0 := fun w hw => by
  have := (l w hw).trans ((h w hw).trans (l' w hw).symm)
  exact decide_eq_decide.mp this
theorem lg_not (hR : Mok n R) (r0 : 0 < R.length) (l : Lg n R E L) : Lg n R ((List.range R.length).filter fun q => decide (q ∉ E)) fun w => !L w := by
  intro w hw
  show _ = !L w
  rw [← l w hw]
  have hl := runM_lt hR r0 hw
  by_cases h : runM R 0 w ∈ E
  · rw [decide_eq_true h]
    exact decide_eq_false fun z => (of_decide_eq_true (List.mem_filter.mp z).2) h
  · rw [decide_eq_false h]
    exact decide_eq_true (List.mem_filter.mpr ⟨List.mem_range.mpr hl, decide_eq_true h⟩)
theorem least_lt (h : Least n R E) {x : Nat} (hx : x ∈ E) : x < R.length := by
  have := h.ends
  rw [this] at hx
  exact List.mem_range.mp (List.mem_filter.mp hx).1
theorem least_len (h : Least n R E) : E.length ≤ R.length := by
  have := h.ends
  rw [this]
  exact Nat.le_trans (List.length_filter_le _ _) (by rw [List.length_range]; exact Nat.le_refl _)
theorem ends_nil (h : Least n R E) (l : Lg n R E L) : E = [] ↔ ∀ w, Wd n w → L w = false := by
  constructor
  · intro e w hw
    rw [← l w hw, e]
    rfl
  · intro hf
    cases E with
    | nil => rfl
    | cons x E =>
      obtain ⟨w, hw, e⟩ := h.acc x (least_lt h List.mem_cons_self)
      have := l w hw
      rw [hf w hw, e] at this
      exact absurd List.mem_cons_self (of_decide_eq_false this)
theorem lg_uniq {R' : List (List Nat)} {E' : List Nat} {L' : List Nat → Bool} (h : Least n R E) (h' : Least n R' E') (l : Lg n R E L) (l' : Lg n R' E' L') (e : ∀ w, Wd n w → L w = L' w) : R = R' ∧ E = E' :=
  least_unique h h' (alk_lg l l' e)
theorem every_mok (n : Nat) : Mok n [List.replicate n 0] := by
  constructor
  · intro q hq
    have : q = 0 := by simpa using hq
    rw [this]
    simp [rowOf]
  · intro q hq x hx
    have : q = 0 := by simpa using hq
    rw [this] at hx
    have : x = 0 := List.eq_of_mem_replicate (show x ∈ List.replicate n 0 by simpa [rowOf] using hx)
    rw [this]
    show 0 < 1
    decide
theorem every_run (n : Nat) {w : List Nat} (hw : Wd n w) : runM [List.replicate n 0] 0 w = 0 := by
  have := runM_lt (every_mok n) (show 0 < [List.replicate n 0].length by simp) hw
  simpa using this
theorem lg_every (n : Nat) : Lg n [List.replicate n 0] [0] fun _ => true := fun w hw => by
  rw [every_run n hw]
  rfl
theorem lg_none (n : Nat) : Lg n [List.replicate n 0] [] fun _ => false := fun w hw => rfl
end
end Mach

namespace Rg
open PySem PySem.Spec PyProof.Rows L2 Mach
/-- a machine made by drawing, of at most m states -/
def spMachM : Sp := fun vs H Q _ => ∃ (g c : Addr) (z : Str) (m : Nat), vs = [.ref g, .str z, nV m] ∧ Bag H g c ∧ 1 ≤ z.length ∧ z.length ≤ 4 ∧ 1 ≤ m ∧ m ≤ 100 ∧
  ∀ (H' : Hp) (t pr pe : Addr) (xs : List Addr) (R : List (List Nat)) (E : List Nat), Bag H' g c → But g H H' → (∀ x ∈ t :: pr :: pe :: xs, H x = none) → H' t = some (.tup [.ref pr, .ref pe]) → RowsAt H' pr xs R → H' pe = some (.lst (nVs E)) →
    Mok z.length R → 0 < R.length → R.length ≤ m → (∀ x ∈ E, x < R.length) → E.length ≤ 100 → Q (.ref t) H'
end Rg

/-! sets of texts by their languages; x in a tuple of data; texts over signs -/
namespace Rg
open PySem PySem.Spec PyProof.Rows L2 Mach
def rInDT (K : PySem.W.Frag) : R2 := fun x y H Q => ∃ d ds, Dp K H x d ∧ Dp K H y (.tuple ds) ∧ SeqAt.shaped d = true ∧ SeqAt.shaped (.tuple ds) = true ∧ Q (.bl (ds.any fun z => PyData.eqv z d)) H
theorem op_inDT {X : Cx} (hu : X.A.units + 65 < cLine) : OpR X (compareOp .In) (rInDT X.K) := by
  intro pins s σ H x y v u Q I rx ry h
  obtain ⟨d, ds, hd, he, sd, se, q⟩ := h
  obtain ⟨as, r1⟩ := Dp.reads I d x v hd rx
  obtain ⟨bs, r2⟩ := Dp.reads I (.tuple ds) y u he ry
  exact SeqAt.in_tuple_reads r2 r1 (SeqAt.canLay_of_shaped se) (SeqAt.canLay_of_shaped sd) (room_in_shaped sd hu) ⟨.bl _, H, I, rfl, q⟩
/-- the set at p over z has the texts of L, its machine at most m states -/
def TxL (C : Addr) (H : Hp) (p : Addr) (z : Str) (m : Nat) (L : List Nat → Bool) : Prop := ∃ (t e : Addr) (ys : List Addr) (R : List (List Nat)) (E : List Nat), TxAt C H p z t e ys R E ∧ Least z.cps.size R E ∧ Lg z.cps.size R E L ∧ R.length ≤ m
theorem TxL.same {C : Addr} {H H' : Hp} {p : Addr} {z : Str} {m : Nat} {L : List Nat → Bool} (h : TxL C H p z m L) (s : Same H H') : TxL C H' p z m L := by
  obtain ⟨t, e, ys, R, E, a, b, c, d⟩ := h
  exact ⟨t, e, ys, R, E, a.same s, b, c, d⟩
theorem TxL.ins {C : Addr} {H : Hp} {p : Addr} {z : Str} {m : Nat} {L : List Nat → Bool} (h : TxL C H p z m L) : ∃ dx fs, H p = some (.ins C dx fs) := by
  obtain ⟨t, e, ys, R, E, ⟨⟨dx, ob⟩, _, _⟩, _⟩ := h
  exact ⟨dx, _, ob⟩
theorem TxL.le {C : Addr} {H : Hp} {p : Addr} {z : Str} {m k : Nat} {L : List Nat → Bool} (h : TxL C H p z m L) (hk : m ≤ k) : TxL C H p z k L := by
  obtain ⟨t, e, ys, R, E, a, b, c, d⟩ := h
  exact ⟨t, e, ys, R, E, a, b, c, Nat.le_trans d hk⟩
/-- some pairs of truths -/
def Wan (K : PySem.W.Frag) (H : Hp) (x : V) (W : Bool → Bool → Bool) : Prop := ∃ ds, Dp K H x (.tuple ds) ∧ SeqAt.shaped (.tuple ds) = true ∧ ∀ a b, (ds.any fun z => PyData.eqv z (.tuple [.bool a, .bool b])) = W a b
theorem shp_two (a b : Bool) : SeqAt.shaped (.tuple [.bool a, .bool b]) = true := by
  cases a <;> cases b <;> decide +kernel
/-- texts_paired of two sets over the same signs -/
def spPair (K : PySem.W.Frag) (C : Addr) : Sp := fun vs H Q _ => ∃ (p q : Addr) (x : V) (z : Str) (m k : Nat) (L M : List Nat → Bool) (W : Bool → Bool → Bool), vs = [.ref p, .ref q, x] ∧ SgOk z ∧ TxL C H p z m L ∧ TxL C H q z k M ∧ m * k ≤ 4000 ∧ (∀ H', Same H H' → Wan K H' x W) ∧
  ∀ (H' : Hp) (r : Addr), Same H H' → TxL C H' r z (m * k) (fun w => W (L w) (M w)) → Q (.ref r) H'
def spBin (C : Addr) (W : Bool → Bool → Bool) : Sp := fun vs H Q _ => ∃ (p q : Addr) (z : Str) (m k : Nat) (L M : List Nat → Bool), vs = [.ref p, .ref q] ∧ SgOk z ∧ TxL C H p z m L ∧ TxL C H q z k M ∧ m * k ≤ 4000 ∧
  ∀ (H' : Hp) (r : Addr), Same H H' → TxL C H' r z (m * k) (fun w => W (L w) (M w)) → Q (.ref r) H'
def spInv (C : Addr) : Sp := fun vs H Q _ => ∃ (p : Addr) (z : Str) (m : Nat) (L : List Nat → Bool), vs = [.ref p] ∧ SgOk z ∧ TxL C H p z m L ∧ m ≤ 4000 ∧
  ∀ (H' : Hp) (r : Addr), Same H H' → TxL C H' r z m (fun w => !L w) → Q (.ref r) H'
def spWith (C : Addr) : Sp := fun vs H Q _ => ∃ (p q : Addr) (z : Str) (m k : Nat) (L M : List Nat → Bool), vs = [.ref p, .ref q] ∧ SgOk z ∧ TxL C H p z m L ∧ TxL C H q z k M ∧ m * k ≤ 4000 ∧
  ∀ (H' : Hp) (b : Bool), Same H H' → (b = true ↔ ∀ w, Wd z.cps.size w → L w = true → M w = true) → Q (.bl b) H'
/-- all_texts, none -/
def spEvery (C : Addr) (b : Bool) : Sp := fun vs H Q _ => ∃ (z : Str), vs = [.str z] ∧ SgOk z ∧ ∀ (H' : Hp) (r : Addr), Same H H' → TxL C H' r z 1 (fun _ => b) → Q (.ref r) H'
/-! ### texts over signs -/
def txt (z : Str) (w : List Nat) : Str := ⟨(w.map fun k => z.cps.getD k 0).toArray⟩
def one (z : Str) (k : Nat) : Str := ⟨#[z.cps.getD k 0]⟩
def SgIx (z : Str) : Prop := ∀ k, k < z.cps.size → ∃ rest, Builtin.Str.occurrences z (one z k) 0 z.length 1 = k :: rest
theorem menu_ix {z : Str} (h : z ∈ sgMenu) : SgIx z := by
  have key : ∀ z ∈ sgMenu, ∀ k ∈ List.range z.cps.size, (Builtin.Str.occurrences z (one z k) 0 z.length 1).head? = some k := by decide +kernel
  intro k hk
  have := key z h k (List.mem_range.mpr hk)
  cases e : Builtin.Str.occurrences z (one z k) 0 z.length 1 with
  | nil => rw [e] at this; cases this
  | cons a l =>
    rw [e] at this
    cases this
    exact ⟨l, rfl⟩
theorem txt_at {z : Str} {w : List Nat} {i c : Nat} (h : (txt z w).cps[i]? = some c) : ∃ k, w[i]? = some k ∧ (⟨#[c]⟩ : Str) = one z k := by
  unfold txt at h
  rw [List.getElem?_toArray, List.getElem?_map] at h
  cases e : w[i]? with
  | none => rw [e] at h; cases h
  | some k =>
    rw [e] at h
    cases h
    exact ⟨k, rfl, rfl⟩
theorem txt_size (z : Str) (w : List Nat) : (txt z w).cps.size = w.length := by
  unfold txt
  rw [List.size_toArray, List.length_map]
theorem txt_len (z : Str) (w : List Nat) : (txt z w).length = w.length := txt_size z w
theorem one_mem {z : Str} {k : Nat} (h : k < z.cps.size) : z.cps.getD k 0 ∈ z.cps.toList := by
  rw [Array.getD_eq_getD_getElem?, Array.getElem?_eq_getElem h]
  exact Array.getElem_mem_toList h
theorem txt_snoc (z : Str) (w : List Nat) (k : Nat) : txt z w ++ one z k = txt z (w ++ [k]) := by
  unfold txt one
  rw [List.map_append]
  show (⟨_⟩ : Str) = ⟨_⟩
  congr 1
  simp
def spIsText : Sp := fun vs H Q _ => ∃ (z : Str) (w : List Nat), vs = [.str z, .str (txt z w)] ∧ Wd z.cps.size w ∧ w.length ≤ 1000 ∧ ∀ H', Same H H' → Q (.bl true) H'
/-- the state to which a text leads -/
def spBehind : Sp := fun vs H Q _ => ∃ (z : Str) (a : Addr) (xs : List Addr) (R : List (List Nat)) (w : List Nat), vs = [.str z, .ref a, .str (txt z w)] ∧ SgIx z ∧ RowsAt H a xs R ∧ Mok z.cps.size R ∧ 0 < R.length ∧ Wd z.cps.size w ∧ w.length ≤ 1000 ∧ Q (nV (runM R 0 w)) H
def spIn (C : Addr) : Sp := fun vs H Q _ => ∃ (p : Addr) (z : Str) (m : Nat) (L : List Nat → Bool) (w : List Nat), vs = [.ref p, .str (txt z w)] ∧ SgIx z ∧ TxL C H p z m L ∧ Wd z.cps.size w ∧ w.length ≤ 1000 ∧ ∀ H', Same H H' → Q (.bl (L w)) H'
end Rg

/-! expressions that make sets of texts: which language they make -/
namespace Rg
open PySem PySem.Spec PyProof.Rows L2 Mach
/-- what the operators of the class ask -/
structure TxB (K : PySem.W.Frag) (C fQ : Addr) : Prop where
  T : TxC K C
  eqc : EqCls K C fQ
  nC : PySem.W.notFirst K C (.ref C) = true
  ha : PySem.W.findIn K (.ref C) "__class__" = some (some (.builtin "object.__class__"))
  hn : PySem.W.specialIn K (.builtin "object.__class__") "__get__" = some (some (.builtin "getset_descriptor.__get__"))
  ht : PySem.W.takesIn K (.builtin "object.__class__") = some true
  hm : PySem.W.mroIn K C (.type "object") = some true
  sf : PySem.W.selfFirst K C = true
/-- an operator -/
def OpOk (P : Program) (w : World) (K : PySem.W.Frag) (mg : Str → Option Value) (base : Heap) (C : Addr) (k : Nat) (op : Operator) (W : Bool → Bool → Bool) : Prop := ∃ (f : Addr) (fd : FuncData), PySem.W.findIn K (.ref C) (PySem.dunder op.info.2) = some (some (.ref f)) ∧ PySem.W.isFn K (.ref f) = true ∧
  FnOk P w K mg base CX0 k f fd ["self", "other"] (spBin C W) ∧ Binds K fd ["self", "other"] []
def InvOk (P : Program) (w : World) (K : PySem.W.Frag) (mg : Str → Option Value) (base : Heap) (C : Addr) (k : Nat) : Prop := ∃ (f : Addr) (fd : FuncData), PySem.W.findIn K (.ref C) "__invert__" = some (some (.ref f)) ∧ PySem.W.isFn K (.ref f) = true ∧
  FnOk P w K mg base CX0 k f fd ["self"] (spInv C) ∧ Binds K fd ["self"] []
theorem op_bin {X : Cx} {C : Addr} {k : Nat} {op : Operator} {W : Bool → Bool → Bool} (sf : PySem.W.selfFirst X.K C = true) (h : OpOk X.prog X.w X.K X.mg X.base C k op W) (hr : Room k X.A) : OpR X (binaryOp op) (rBinOwn C (spBin C W) [] E0) := by
  obtain ⟨f, fd, h1, h2, h3, h4⟩ := h
  exact op_binOwn sf h1 h2 h3 hr h4 .nil pass0
theorem un_inv' {X : Cx} {C : Addr} {k : Nat} (h : InvOk X.prog X.w X.K X.mg X.base C k) (hr : Room k X.A) : UnR X (unaryOp .Invert) (rInvOwn C (spInv C) [] E0) := by
  obtain ⟨f, fd, h1, h2, h3, h4⟩ := h
  exact un_invOwn h1 h2 h3 hr h4 .nil pass0
/-- t, read in σ from H0 on, makes a set over z of at most m states with the texts of L -/
def Ev (C : Addr) (z : Str) (σ : L2.St) (H0 : Hp) (t : TE) (m : Nat) (L : List Nat → Bool) : Prop := ∀ (H : Hp) (Q : VK), Same H0 H → (∀ (H' : Hp) (r : Addr), Same H H' → TxL C H' r z m L → Q (.ref r) H') → t σ H Q
section
variable {K : PySem.W.Frag} {C fQ : Addr} {z : Str} {σ : L2.St} {H0 : Hp} {ta tb : TE} {m k : Nat} {L M : List Nat → Bool} {W : Bool → Bool → Bool}
theorem ev_var {i : Nat} {p : Addr} (hs : σ[i]? = some (some (.ref p))) (h : TxL C H0 p z m L) : Ev C z σ H0 (tVar i) m L := fun H Q s q => ⟨_, hs, q H p (fun _ _ e => e) (h.same s)⟩
theorem ev_bin (hz : SgOk z) (a : Ev C z σ H0 ta m L) (b : Ev C z σ H0 tb k M) (hk : m * k ≤ 4000) : Ev C z σ H0 (tOp (rBinOwn C (spBin C W) [] E0) ta tb) (m * k) (fun w => W (L w) (M w)) := fun H Q s q => by
  refine a H _ s fun H1 p s1 h1 => ?_
  refine b H1 _ (s.trans s1) fun H2 r s2 h2 => ?_
  have h1' := h1.same s2
  obtain ⟨dx, fs, o1⟩ := h1'.ins
  obtain ⟨dy, gs, o2⟩ := h2.ins
  exact ⟨p, dx, fs, r, dy, gs, rfl, rfl, o1, o2, p, r, z, m, k, L, M, rfl, hz, h1', h2, hk, fun H3 r3 s3 h3 => q H3 r3 ((s1.trans s2).trans s3) h3⟩
theorem ev_inv (hz : SgOk z) (a : Ev C z σ H0 ta m L) (hm : m ≤ 4000) : Ev C z σ H0 (tUn (rInvOwn C (spInv C) [] E0) ta) m (fun w => !L w) := fun H Q s q => by
  refine a H _ s fun H1 p s1 h1 => ?_
  obtain ⟨dx, fs, o1⟩ := h1.ins
  exact ⟨p, dx, fs, rfl, o1, p, z, m, L, rfl, hz, h1, hm, fun H2 r s2 h2 => q H2 r (s1.trans s2) h2⟩
theorem ev_every {t : TA} {b : Bool} (hz : SgOk z) (ht : ∀ H Q, (Q [.str z] H → t σ H Q)) : Ev C z σ H0 (tCall (spEvery C b) [] E0 t) 1 (fun _ => b) := fun H Q s q => ht H _ ⟨z, rfl, hz, q⟩
/-- a != b of sets with the same texts -/
theorem ne_ev (B : TxB K C fQ) {H : Hp} {Q : VK} (s : Same H0 H) (a : Ev C z σ H0 ta m L) (b : Ev C z σ H0 tb k M) (e : ∀ w, Wd z.cps.size w → L w = M w) (q : ∀ H', Same H H' → Q (.bl false) H') :
    tOp (rNeOwn K C (spEq K C) [] E0) ta tb σ H Q := by
  refine a H _ s fun H1 p s1 h1 => ?_
  refine b H1 _ (s.trans s1) fun H2 r s2 h2 => ?_
  obtain ⟨t, e', ys, R, E, T1, hL1, hg1, _⟩ := h1.same s2
  obtain ⟨t2, e2, ys2, R2, E2, T2, hL2, hg2, _⟩ := h2
  obtain ⟨⟨dx, ob⟩, _, _⟩ := id T1
  obtain ⟨⟨dx2, ob2⟩, _, _⟩ := id T2
  obtain ⟨eR, eE⟩ := lg_uniq hL1 hL2 hg1 hg2 e
  refine ⟨p, dx, _, .ref C, rfl, ob, .base (.ins ob2 B.T.cl B.ha B.hn B.ht B.hm), B.nC, p, z, t, e', ys, R, E, .ref r, rfl, T1, .inr ⟨r, z, t2, e2, ys2, R2, E2, rfl, T2, true, ?_, q H2 (s1.trans s2)⟩⟩
  rw [eR, eE]
  simp
/-- a.is_within(b) where it is so -/
theorem with_ev (hz : SgOk z) {H : Hp} {Q : VK} (s : Same H0 H) (a : Ev C z σ H0 ta m L) (b : Ev C z σ H0 tb k M) (hk : m * k ≤ 4000) (q : ∀ H' c, Same H H' → (c = true ↔ ∀ w, Wd z.cps.size w → L w = true → M w = true) → Q (.bl c) H') :
    tMeth C "is_within" (spWith C) [] E0 ta (tCons tb tNil) σ H Q := by
  refine a H _ s fun H1 p s1 h1 => ?_
  obtain ⟨t, e', ys, R, E, T1, hL1, hg1, _⟩ := id h1
  obtain ⟨⟨dx, ob⟩, _, _⟩ := id T1
  refine ⟨p, dx, _, rfl, ob, tfl_no _ _ _ (by decide +kernel) (by decide +kernel) (by decide +kernel), ?_⟩
  refine b H1 _ (s.trans s1) fun H2 r s2 h2 => ?_
  exact ⟨p, r, z, m, k, L, M, rfl, hz, h1.same s2, h2, hk, fun H3 c s3 h3 => q H3 c ((s1.trans s2).trans s3) h3⟩
end
end Rg

/-! own errors without arguments: raised, caught, asked -/
namespace Rg
open PySem PySem.Spec PyProof.Rows L2 Mach
section
variable {X : Cx} {C : Addr} {bmB : List Value} {B newId initId : String}
/-- X() -/
theorem pmk_own0 {x : Str} {p pos : Pos} (F : ExcBaseFacts B newId initId bmB) (q : PySem.W.excIn X.K C bmB newId = true) (gC : X.mg x = some (.ref C)) (kC : PySem.W.keepIn X.K (.ref C) = true) (r : Raises X (.ref C)) (hg : Gl X x)
    (hdb : (x == ("__debug__" : Str)) = false := by decide) : PMk X (.Call (.Name x p) [] [] pos) (fun _ H Q => Q (.ref C) none H) := by
  intro pins s σ H Q I h
  refine wpAny_Call_Name_kw (ld_glob I hg gC ?_ hdb)
  refine PySem.W.callWith_K0 I.kIn kC ?_
  show wpAny _ _ (call (.ref C) []) _ _ _
  obtain ⟨bm, N, nm, qn, bs, hdct, sn, sub, ab, col, dd, k0, k1, k2, k3, k5, mN, hC, hN, hni, T⟩ := exc_obj I.kIn q
  refine wpAny_call_exc_subT F T hC hN hni (fun h' e hm => ?_) (by show 0 ≤ sizeLine; omega)
  exact mk_of I hm r h (I.hok.gone hm.new)
/-- what a try around wishes, whatever the slots -/
def AnySt (n : Nat) (W : WX) : XK := fun cls d H => ∀ σ : L2.St, σ.length = n → W cls d σ H
theorem passLen {W : WX} (tk : Takes X W) : Passes (L2.CX X.prog X.w) X (AnySt X.N.length W) := fun pins σ H s e s' I c => tk e s' (XE.of_call I (fun cls d H' h => h σ I.len) c)
/-- a def lets out what a call in it lets out -/
theorem passOut {E : XK} (tk : Takes X (fun cls d _ H => E cls d H)) : Passes (L2.CX X.prog X.w) X E := fun pins σ H s e s' I c => tk e s' (XE.of_call I (fun cls d H' h => h) c)
/-- isinstance(e, c) of the caught one -/
def rIsE' (K : PySem.W.Frag) (D a : Addr) (cls : Value) (d : Option Addr) : List V → Hp → VK → Prop := fun xs H Q => cls = .ref D ∧ d = none ∧ rIsE K D a xs H Q
theorem call_isE' {a D : Addr} {oe : Obj} {cls : Value} {d : Option Addr} {pn : List (Addr × Obj)} (C : ExcC X.K D) (hz : Zc cls d oe) (hf : ∃ vs, oe.data = .fields vs) : CallR (X.suite a ((a, oe) :: pn)) (.builtin "isinstance") (rIsE' X.K D a cls d) := by
  intro pins s σ H xs us Q I r h
  obtain ⟨rfl, rfl, h⟩ := h
  exact call_isE C hz hf pins s σ H xs us Q I r h
end
end Rg

/-! isinstance of a caught error, whether it has fields or not -/
namespace Rg
open PySem PySem.Spec PyProof.Rows L2
section
variable {K : PySem.W.Frag} {x D : Addr} {ox : Obj} {od : Option Obj}
theorem kitx_err (C : ExcC K D) : PySem.W.KitX K (.ref x) (.ref D) (fun h => PySem.W.InstAt h x ox D od) :=
  PySem.W.kitx_exc (by obtain ⟨cd, hc, _⟩ := PySem.W.any_some C.hd; rw [hc]; rfl) C.hg C.hk C.hs C.ha C.hn C.ht C.hm
end
section
variable {X : Cx} {a D : Addr} {oe : Obj} {cls : Value} {d : Option Addr} {pn : List (Addr × Obj)}
/-- isinstance(e, c) of the caught one, which has fields -/
def rIsF (K : PySem.W.Frag) (D a : Addr) (cls : Value) (d : Option Addr) : List V → Hp → VK → Prop := fun xs H Q => cls = .ref D ∧ (∃ dd fs, d = some dd ∧ H dd = some (.xd fs)) ∧ ∃ (c : V) (cv : Value) (b : Bool), xs = [.ref a, c] ∧ (∀ u, RelV c u → u = cv) ∧ PySem.W.kitOne K (.ref D) cv = some b ∧ Q (.bl b) H
/-- isinstance(e, (c, ..)) -/
def rIsFT (K : PySem.W.Frag) (D a : Addr) (cls : Value) (d : Option Addr) : List V → Hp → VK → Prop := fun xs H Q => cls = .ref D ∧ (∃ dd fs, d = some dd ∧ H dd = some (.xd fs)) ∧ ∃ (tp : Addr) (cs : List V) (us : List Value) (b : Bool), xs = [.ref a, .ref tp] ∧ H tp = some (.tup cs) ∧ Paired ClsV cs us ∧ PySem.W.kitAny K (.ref D) us = some b ∧ Q (.bl b) H
theorem inst_err {pins : List (Addr × Obj)} {σ : L2.St} {H : Hp} {s : Shared} (I : Inv (X.suite a ((a, oe) :: pn)) pins σ H s) (hz : Zc (.ref D) d oe) (hf : ∃ vs, oe.data = .fields vs) {dd : Addr} {fs : List (Str × V)} (ed : d = some dd) (ea : H dd = some (.xd fs)) : ∃ od, PySem.W.InstAt s.heap a oe D (some od) := by
  subst ed
  obtain ⟨ha, _⟩ := I.pin (a, oe) (List.mem_append_left _ List.mem_cons_self)
  obtain ⟨vs, hd⟩ := hf
  have hx : ObjOk X.prog X.w H s.heap dd (.xd fs) := I.hok dd _ ea
  obtain ⟨mA, hns, hr⟩ := hx
  obtain ⟨od, hod, _⟩ := lookIn_ns hns
  exact ⟨od, ha, hz.1, by unfold PySem.W.notCls; rw [hd] <;> rfl, by rw [hz.2]; exact hod⟩
theorem call_isF (C : ExcC X.K D) (hz : Zc cls d oe) (hf : ∃ vs, oe.data = .fields vs) : CallR (X.suite a ((a, oe) :: pn)) (.builtin "isinstance") (rIsF X.K D a cls d) := by
  intro pins s σ H xs us Q I r h
  obtain ⟨rfl, ⟨dd, fs, ed, ea⟩, c, cv, b, rfl, hcv, e, q⟩ := h
  cases r with
  | cons rx rr =>
    cases rr with
    | cons rt rr =>
      cases rr
      cases rx
      have ec := hcv _ rt
      subst ec
      obtain ⟨od, J⟩ := inst_err I hz hf ed ea
      exact PySem.W.kia_one (kitx_err C) I.kIn J e (fun z => nomatch z) fun tk => ⟨.bl b, H, I.kept (t' := tk) fun _ _ z => z, rfl, q⟩
theorem call_isFT (C : ExcC X.K D) (hz : Zc cls d oe) (hf : ∃ vs, oe.data = .fields vs) : CallR (X.suite a ((a, oe) :: pn)) (.builtin "isinstance") (rIsFT X.K D a cls d) := by
  intro pins s σ H xs us Q I r h
  obtain ⟨rfl, ⟨dd, fs, ed, ea⟩, tp, cs, ws, b, rfl, hT, k, e, q⟩ := h
  obtain ⟨wa, wt, rfl, ra, rt⟩ := vals2 r
  cases (show wa = Value.ref a from ra)
  cases (show wt = Value.ref tp from rt)
  obtain ⟨od, J⟩ := inst_err I hz hf ed ea
  obtain ⟨_, its, rv, o, h1, h2, _, h3⟩ := (show ObjOk X.prog X.w H s.heap tp (HO.tup cs) from I.hok tp _ hT)
  have e3 := ClsV.all k rv
  subst e3
  obtain ⟨oc, od, dt, sl⟩ := o
  simp only at h2 h3
  subst h2 h3
  exact PySem.W.kia_tup (kitx_err C) I.kIn J h1 e (fun z => nomatch z) fun tk => ⟨.bl b, H, I.kept (t' := tk) fun _ _ z => z, rfl, q⟩
end
end Rg

/-! own errors as values: made, asked for their classes and fields -/
namespace Rg
open PySem PySem.Spec PyProof.Rows L2
section
variable {X : Cx} {p pos : Pos} {x : Str} {C : Addr}
/-- X(), an own exception class without own __init__, as a value -/
theorem pe_exc0 {bmB : List Value} {B newId initId : String} (F : ExcBaseFacts B newId initId bmB) (q : PySem.W.excIn X.K C bmB newId = true) (gC : X.mg x = some (.ref C)) (kC : PySem.W.keepIn X.K (.ref C) = true) (hg : Gl X x) (hdb : (x == ("__debug__" : Str)) = false := by decide) :
    PE X (.Call (.Name x p) [] [] pos) (fun σ H Q => ∀ a, H a = none → Q (.ref a) (upd H a (ExO (.ref C) a))) := by
  refine ⟨fun pins s σ H Q I h => ?_⟩
  refine wpAny_Call_Name_kw (ld_glob I hg gC ?_ hdb)
  refine PySem.W.callWith_K0 I.kIn kC ?_
  show wpAny _ _ (call (.ref C) []) _ _ _
  obtain ⟨bm, N, nm, qn, bs, hdct, sn, sub, ab, col, dd, k0, k1, k2, k3, k5, mN, hC, hN, hni, T⟩ := exc_obj I.kIn q
  refine wpAny_call_exc_subT F T hC hN hni (fun h' a hm => ?_) (by show 0 ≤ sizeLine; omega)
  have hn : H a = none := I.hok.gone hm.new
  obtain ⟨t, ht, _, _⟩ := hm.there
  exact ⟨.ref a, upd H a (ExO (.ref C) a), I.laidN hm.keeps hm.new hn (exO_ok ht ⟨rfl, rfl⟩ rfl rfl rfl (show 4 < 6 by decide)), rfl, h a hn⟩
def tOex (C : Addr) (sp : Sp) (dvs : List V) (ta : TA) : TE := fun σ H Q => ta σ H fun vs H1 => vs.length ≤ 1000 ∧ ∀ a, H1 a = none → sp (.ref a :: (vs ++ dvs)) (upd H1 a (exo a C none)) (fun v H2 => v = .non ∧ Q (.ref a) H2) (fun _ _ _ => False)
/-- X(e, ..), an own exception class whose __init__ is a def, as a value -/
theorem pe_oex {CX : CXT} {fI : Addr} {k : Nat} {fd : FuncData} {ps : List Str} {sp : Sp} {ds : List Value} {dvs : List V} {e : Expr} {es : List Expr} {ta : TA} (T : OexC X.K C) (iC : PySem.W.findIn X.K (.ref C) "__init__" = some (some (.ref fI))) (tI : PySem.W.typeIn X.K (.ref fI) = some (.type "function"))
    (F1 : FnOk X.prog X.w X.K X.mg X.base CX k fI fd ps sp) (hr : Room (k + 1) X.A) (hb : Binds X.K fd ps ds) (hd : Vals dvs ds) (hx : Passes CX X (fun _ _ _ => False)) (hg : Gl X x) (hm : X.mg x = some (.ref C)) (ha : PA X (e :: es) ta)
    (hdb : (x == ("__debug__" : Str)) = false := by decide) (he : starEach (e :: es) X.env = (false, eval e X.env) :: starEach es X.env := by rfl) (hpl : (backTo pos (starEach es X.env)).any (·.1) = false := by rfl) :
    PE X (.Call (.Name x p) (e :: es) [] pos) (tOex C sp dvs ta) := by
  refine ⟨fun pins s σ H Q I h => ?_⟩
  obtain ⟨nm, q, N, bs, bm, sn, sub, ab, col, dd, k0, k1, k2, k3, k5, hC, hbm⟩ := T.cls
  refine wpAny_Call_Name_kw (ld_glob I hg hm ?_ hdb)
  refine PySem.W.callWith_K (h₀ := X.base) I.ok.mod.kin T.kC (thn (ha.run pos pins s σ H _ I h) fun us s1 ⟨vs, H1, I1, r1, hz, q1⟩ => ⟨I1.kIn, ?_⟩) he hpl
  show wpAny _ _ (call (.ref C) us) _ _ _
  obtain ⟨hp, g, dr, tk, os⟩ := s1
  have hsz : hp.objs.size ≤ hp.objs.size + 1 := Nat.le_succ _
  have hn : H1 (hp.objs.size + 1) = none := I1.hok.fresh hsz
  have hq := q1 (hp.objs.size + 1) hn
  have kk : ∀ b o, hp.get? b = some o → ((hp.push (PySem.W.kdv_tup us)).push (PySem.HandSPX.excO C hp.objs.size)).get? b = some o := fun b o e => Heap.get?_push_of_some _ (Heap.get?_push_of_some _ e)
  have hget : ((hp.push (PySem.W.kdv_tup us)).push (PySem.HandSPX.excO C hp.objs.size)).get? (hp.objs.size + 1) = some (PySem.HandSPX.excO C hp.objs.size) := by heap_get
  have I2 : Inv X pins σ (upd H1 (hp.objs.size + 1) (exo (hp.objs.size + 1) C none)) ⟨(hp.push (PySem.W.kdv_tup us)).push (PySem.HandSPX.excO C hp.objs.size), g, dr, tk, os⟩ :=
    I1.laid (t' := tk) (a := hp.objs.size + 1) (o := exo (hp.objs.size + 1) C none) (h' := (hp.push (PySem.W.kdv_tup us)).push (PySem.HandSPX.excO C hp.objs.size)) kk hsz (exo_ok hget)
  have r2 : Vals (V.ref (hp.objs.size + 1) :: (vs ++ dvs)) (Value.ref (hp.objs.size + 1) :: (us ++ ds)) := .cons rfl (r1.append hd)
  have hl : (Value.ref (hp.objs.size + 1) :: us ++ ds).length = ps.length := by
    have e := r2.length
    rw [F1.len _ _ _ _ hq] at e
    exact e.symm
  have hus : us.length ≤ sizeLine := by
    rw [← Paired.length r1, sizeLine_eq]
    omega
  refine wpAny_call (PySem.HandSPX.call_own F.excBase_ValueError (fun Y => PySem.HandSPX.refsVE_contains Y bm hbm) (I1.kIn _ _ hC) (PySem.W.looks_findIn I1.kIn iC) (fun self => PySem.W.bind_fn I1.kIn self tI) hus
    (codeAny_mono (F1.run _ X.stack _ _ ⟨Value.ref (hp.objs.size + 1) :: us, []⟩ (Value.ref (hp.objs.size + 1) :: (us ++ ds)) _ _ (fun _ _ _ => False) (hr.make C us []) (I2.env0.make C us []) (hb _ (Value.ref (hp.objs.size + 1) :: us) I2.kIn hl) r2 hq) fun r s' hq' => ?_))
  cases r with
  | error er => exact hx pins σ _ _ er s' I2 hq'
  | ok fl =>
    cases fl with
    | ret u =>
      obtain ⟨v, H2, J, rv, ev, q2⟩ := I2.after hq'
      subst ev
      exact ⟨rv, .ref (hp.objs.size + 1), H2, J, rfl, q2⟩
    | next => exact False.elim hq'
    | brk => exact False.elim hq'
    | cont => exact False.elim hq'
/-- an error of the class D stands at a -/
def ErAt (H : Hp) (a D : Addr) : Prop := H a = some (ExO (.ref D) a) ∨ ∃ d fs, H a = some (exo a D (some d)) ∧ H d = some (exd d fs)
theorem ErAt.sm {H H' : Hp} {a D : Addr} (s : Same H H') (h : ErAt H a D) : ErAt H' a D := by
  rcases h with h | ⟨d, fs, h1, h2⟩
  · exact .inl (s _ _ h)
  · exact .inr ⟨d, fs, s _ _ h1, s _ _ h2⟩
theorem ErAt.inst {pins : List (Addr × Obj)} {σ : L2.St} {H : Hp} {s : Shared} {a D : Addr} (I : Inv X pins σ H s) (h : ErAt H a D) : ∃ oe od, PySem.W.InstAt s.heap a oe D od := by
  rcases h with h | ⟨d, fs, h1, h2⟩
  · obtain ⟨⟨oe, vs, ho, hz, hd, _⟩, _, _⟩ := I.hok a _ h
    exact ⟨oe, none, ho, hz.1, by unfold PySem.W.notCls; rw [hd] <;> rfl, by rw [hz.2]; trivial⟩
  · obtain ⟨t1, ho⟩ := exo_at I.hok h1
    obtain ⟨mA, hns, hr⟩ := exd_at I.hok h2
    obtain ⟨od, hod, _⟩ := lookIn_ns hns
    exact ⟨_, some od, ho, rfl, rfl, hod⟩
/-- isinstance(e, c) of an error that is held as a value -/
def rIsO (K : PySem.W.Frag) : List V → Hp → VK → Prop := fun xs H Q => ∃ (a D : Addr) (c : V) (cv : Value) (b : Bool), xs = [.ref a, c] ∧ ErAt H a D ∧ ExcC K D ∧ (∀ u, RelV c u → u = cv) ∧ PySem.W.kitOne K (.ref D) cv = some b ∧ Q (.bl b) H
theorem call_isO : CallR X (.builtin "isinstance") (rIsO X.K) := by
  intro pins s σ H xs us Q I r h
  obtain ⟨a, D, c, cv, b, rfl, hE, hC, hcv, e, q⟩ := h
  cases r with
  | cons rx rr =>
    cases rr with
    | cons rt rr =>
      cases rr
      cases rx
      have ec := hcv _ rt
      subst ec
      obtain ⟨oe, od, J⟩ := hE.inst I
      exact PySem.W.kia_one (kitx_err hC) I.kIn J e (fun z => nomatch z) fun tk => ⟨.bl b, H, I.kept (t' := tk) fun _ _ z => z, rfl, q⟩
/-- e.f of such an error -/
def tOxf (K : PySem.W.Frag) (n : Str) (te : TE) : TE := fun σ H Q => te σ H fun x H1 => ∃ (a D d : Addr) (fs : List (Str × V)) (v : V), x = .ref a ∧ H1 a = some (exo a D (some d)) ∧ H1 d = some (exd d fs) ∧ XfC K D ∧ PySem.W.findIn K (.ref D) n = some none ∧ fs.lookup n = some v ∧ Q v H1
theorem pe_oxf {e : Expr} {te : TE} {n : Str} (he : PE X e te) (hb : attributeBase e n X.env (eval e X.env) = eval e X.env := by rfl) : PE X (.Attribute e n pos) (tOxf X.K n te) := by
  refine ⟨fun pins s σ H Q I h => ?_⟩
  refine attr_of hb (thn (he.run pins s σ H _ I h) fun u s1 hh => ?_)
  obtain ⟨x, H1, I1, rx, a, D, d, fs, v, ex, ea, ed, T, hno, l, q⟩ := hh
  subst ex
  obtain rfl : u = Value.ref a := rx
  obtain ⟨t1, ho⟩ := exo_at I1.hok ea
  obtain ⟨mA, hns, hr⟩ := exd_at I1.hok ed
  obtain ⟨od, hod, hl⟩ := lookIn_ns hns
  obtain ⟨u, hu, ru⟩ := RelO.some_of (v := v) (o := mA n) (by rw [← l]; exact hr n)
  have J : PySem.W.InstAt s1.heap a _ D (some od) := ⟨ho, rfl, rfl, hod⟩
  exact HandSPX.exc_get I1.kIn J T.ga T.gg T.exC (PySem.W.findObj_own T.hdC hno rfl (by rw [hl, hu])) (handed_of ru) ⟨v, H1, I1.tok _, ru, q⟩
/-- xs == ys, lists of the very same things -/
def VSame : V → Prop
  | .flt _ => False
  | .ty _ => False
  | .byt _ => False
  | _ => True
def rEqSm (K : PySem.W.Frag) : R2 := fun x y H Q => ∃ a b xs, x = .ref a ∧ y = .ref b ∧ SqL K H a xs ∧ SqL K H b xs ∧ (∀ v ∈ xs, VSame v) ∧ Q (.bl true) H
theorem eqAt_same {A : Around} {s : Shared} {x : V} {v u : Value} (hx : VSame x) (h1 : RelV x v) (h2 : RelV x u) : SeqAt.EqAt A s v u true := by
  cases x with
  | non => cases h1; cases h2; exact SeqAt.EqAt.same _
  | bl b => cases h1; cases h2; exact SeqAt.EqAt.same _
  | ref a => cases h1; cases h2; exact SeqAt.EqAt.same _
  | int i =>
    obtain ⟨t, rfl⟩ := h1
    obtain ⟨t', rfl⟩ := h2
    have := SeqAt.EqAt.int_int (A := A) (s := s) i t i t'
    rw [beq_self_eq_true] at this
    exact this
  | str z =>
    obtain ⟨t, rfl⟩ := h1
    obtain ⟨t', rfl⟩ := h2
    have := SeqAt.EqAt.str_str (A := A) (s := s) z t z t'
    rw [beq_self_eq_true] at this
    exact this
  | _ => exact hx.elim
theorem op_eqSm (hu : X.A.units < cLine) : OpR X (compareOp .Eq) (rEqSm X.K) := by
  intro pins s σ H x y v u Q I rx ry h
  obtain ⟨a, b, xs, rfl, rfl, ha, hb, hs, q⟩ := h
  cases rx
  cases ry
  obtain ⟨its, r, pl, hz⟩ := I.list ha
  obtain ⟨its2, r2, pl2, hz2⟩ := I.list hb
  have el : its.toArray.size = its2.toArray.size := by
    rw [List.size_toArray, List.size_toArray, ← r.length, ← r2.length]
  refine SeqAt.eq_listAt (e := fun _ => true) pl.isList pl2.isList el hu (fun j h1 h2 => ?_) ⟨.bl true, H, I, ?_, q⟩
  · rw [List.size_toArray] at h1 h2
    have hj : j < xs.length := by rw [r.length]; exact h1
    obtain ⟨u1, e1, k1⟩ := r.get (List.getElem?_eq_getElem hj)
    obtain ⟨u2, e2, k2⟩ := r2.get (List.getElem?_eq_getElem hj)
    have f1 : its.toArray[j]'(by rw [List.size_toArray]; exact h1) = u1 := by
      rw [List.getElem_toArray]
      exact (List.getElem?_eq_some_iff.mp e1).2
    have f2 : its2.toArray[j]'(by rw [List.size_toArray]; exact h2) = u2 := by
      rw [List.getElem_toArray]
      exact (List.getElem?_eq_some_iff.mp e2).2
    rw [f1, f2]
    exact eqAt_same (hs _ (List.getElem_mem hj)) k1 k2
  · rw [List.all_eq_true.mpr (fun _ _ => rfl)]
    rfl
end
end Rg

/-! repr of data that hold dicts: only a dict's address has to differ from that of the modules' table -/
namespace Rg
open PySem PySem.Spec PyProof.Rows L2
mutual
/-- the value stands for the data, in a heap -/
inductive Sd (h : Heap) : Value → PyData → Prop
  | non : Sd h .none .none
  | bl (b : Bool) : Sd h (.bool b) (.bool b)
  | int (i : Int) (t : Tok) : Sd h (.int i t) (.int i)
  | str (x : Str) (t : Tok) : Sd h (.str x t) (.str x)
  | lst {a : Addr} {o : Obj} {us : Array Value} {n : Nat} {ds : List PyData} : h.get? a = some o → o.cls = .type "list" → o.data = .seq us n → SdAll h us.toList ds → Sd h (.ref a) (.list ds)
  | tup {a : Addr} {o : Obj} {us : Array Value} {n : Nat} {ds : List PyData} : h.get? a = some o → o.cls = .type "tuple" → o.data = .seq us n → SdAll h us.toList ds → Sd h (.ref a) (.tuple ds)
  | dct {a : Addr} {o : Obj} {es : Array DictEntry} {n : Nat} {kvs : List (PyData × PyData)} : h.get? a = some o → o.cls = .type "dict" → o.data = .dict es n → (a == sysModules) = false →
      SdAll h (es.toList.map (·.key)) (kvs.map (·.1)) → SdAll h (es.toList.map (·.val)) (kvs.map (·.2)) → Sd h (.ref a) (.dict kvs)
inductive SdAll (h : Heap) : List Value → List PyData → Prop
  | nil : SdAll h [] []
  | cons {u : Value} {us : List Value} {d : PyData} {ds : List PyData} : Sd h u d → SdAll h us ds → SdAll h (u :: us) (d :: ds)
end
/-- what the induction gives of a value -/
structure RpOf (P : Program) (w : World) (h : Heap) (u : Value) (d : PyData) : Prop where
  rd : ∃ as, Reads h u d as
  rp : d.showable = true → d.shown.length ≤ sizeLine → ∃ bs, ReadAtMost h d.depth bs ∧ ReprK P w bs h d.depth u d.shown
structure RpAll (P : Program) (w : World) (h : Heap) (us : List Value) (ds : List PyData) : Prop where
  rd : ∃ as, ReadsAll h us ds as
  rp : PyData.showableAll ds = true → (∀ t ∈ PyData.shownAll ds, t.length ≤ sizeLine) → ∃ bs, ReadAtMost h (PyData.depthAll ds) bs ∧ ReprAllK P w bs h (PyData.depthAll ds) us (PyData.shownAll ds)
section
variable {P : Program} {w : World} {h : Heap} {u : Value} {d : PyData} {a : Addr} {o : Obj} {n : Nat} {us : Array Value} {ds : List PyData}
theorem rp_plain {t : Str} (r : Reads h u d []) (k : d.shown.length ≤ sizeLine → ReprIs P w u d.shown) : RpOf P w h u d :=
  ⟨⟨_, r⟩, fun _ z => ⟨[], (fun _ q => nomatch q), .of_is (k z) _ _ _⟩⟩
theorem none_in {e m : Nat} {as : List Addr} {bs : List Addr} (r : Reads h (.ref a) d as) (hd : d.depth = m + 1) (hb : ReadAtMost h m bs) : a ∉ bs ∧ ReadAtMost h d.depth (a :: bs) :=
  ⟨not_mem_of_deeper r (by omega) hb, .cons r (by omega) hb⟩
theorem rp_seqT (h1 : h.get? a = some o) (h2 : o.cls = .type "tuple") (h3 : o.data = .seq us n) (A : RpAll P w h us.toList ds) : RpOf P w h (.ref a) (.tuple ds) := by
  obtain ⟨as, r⟩ := A.rd
  have R : Reads h (.ref a) (.tuple ds) as := .tuple h1 h2 h3 r
  refine ⟨⟨_, R⟩, fun hs hz => ?_⟩
  have hz' : (tupleText (PyData.shownAll ds)).length ≤ sizeLine := by rw [PyData.shown] at hz; exact hz
  obtain ⟨bs, hb, hk⟩ := A.rp (by rw [PyData.showable] at hs; exact hs) fun t ht => Nat.le_trans (tupleText_mem_le ht) hz'
  obtain ⟨ni, hb'⟩ := none_in (e := 0) R (by rw [PyData.depth]) hb
  refine ⟨_, hb', ?_⟩
  rw [PyData.depth, PyData.shown]
  exact ReprK.tuple h1 h2 h3 ni hk
theorem rp_seqL (h1 : h.get? a = some o) (h2 : o.cls = .type "list") (h3 : o.data = .seq us n) (A : RpAll P w h us.toList ds) : RpOf P w h (.ref a) (.list ds) := by
  obtain ⟨as, r⟩ := A.rd
  have R : Reads h (.ref a) (.list ds) (a :: as) := .list h1 h2 h3 r
  refine ⟨⟨_, R⟩, fun hs hz => ?_⟩
  have hz' : (listText (PyData.shownAll ds)).length ≤ sizeLine := by rw [PyData.shown] at hz; exact hz
  obtain ⟨bs, hb, hk⟩ := A.rp (by rw [PyData.showable] at hs; exact hs) fun t ht => Nat.le_trans (listText_mem_le ht) hz'
  obtain ⟨ni, hb'⟩ := none_in (e := 0) R (by rw [PyData.depth]) hb
  refine ⟨_, hb', ?_⟩
  rw [PyData.depth, PyData.shown]
  obtain ⟨l⟩ := us
  match l, r, hk, h3 with
  | [], r, _, h3 =>
    have r' : ReadsAll h [] ds as := r
    cases r'
    rw [PyData.shownAll, listText_nil]
    exact ReprK.listEmpty h1 h2 h3
  | x :: l, _, hk, h3 => exact ReprK.list h1 h2 h3 ni (by simpa using hk.length_eq) fun i y e => hk.item i y (by simpa using e)
theorem rp_dict {es : Array DictEntry} {kvs : List (PyData × PyData)} (h1 : h.get? a = some o) (h2 : o.cls = .type "dict") (h3 : o.data = .dict es n) (h4 : (a == sysModules) = false)
    (A : RpAll P w h (es.toList.map (·.key)) (kvs.map (·.1))) (B : RpAll P w h (es.toList.map (·.val)) (kvs.map (·.2))) : RpOf P w h (.ref a) (.dict kvs) := by
  obtain ⟨as, r⟩ := A.rd
  obtain ⟨cs, r'⟩ := B.rd
  have R : Reads h (.ref a) (.dict kvs) (a :: as ++ cs) := .dict h1 h2 h3 r r'
  refine ⟨⟨_, R⟩, fun hs hz => ?_⟩
  have hz' : (dictText (PyData.shownKv kvs)).length ≤ sizeLine := by rw [PyData.shown] at hz; exact hz
  obtain ⟨s1, s2⟩ := PyData.showableKv_split kvs (by rw [PyData.showable] at hs; exact hs)
  obtain ⟨b1, hb1, k1⟩ := A.rp s1 fun t ht => by
    obtain ⟨p, hp, hl⟩ := PyData.shownKv_key_le kvs t ht
    exact Nat.le_trans hl (Nat.le_trans (dictText_mem_le hp) hz')
  obtain ⟨b2, hb2, k2⟩ := B.rp s2 fun t ht => by
    obtain ⟨p, hp, hl⟩ := PyData.shownKv_val_le kvs t ht
    exact Nat.le_trans hl (Nat.le_trans (dictText_mem_le hp) hz')
  have e1 := PyData.depthAll_keys_le kvs
  have e2 := PyData.depthAll_vals_le kvs
  obtain ⟨ni, hb'⟩ := none_in (e := 0) R (by rw [PyData.depth]) ((hb1.mono e1).append (hb2.mono e2))
  refine ⟨_, hb', ?_⟩
  rw [PyData.depth, PyData.shown, PyData.shownKv_eq]
  refine ReprK.dict h1 h2 h3 h4 ni (.of_two _ _ _ (k1.more_le ?_ e1) (k2.more_le ?_ e2))
  · exact fun b q => List.mem_append_left _ q
  · exact fun b q => List.mem_append_right _ q
mutual
theorem Sd.rp : ∀ {u : Value} {d : PyData}, Sd h u d → RpOf P w h u d
  | _, _, .non => rp_plain (t := "") .none fun _ => by rw [PyData.shown]; exact ReprIs.none
  | _, _, .bl b => rp_plain (t := "") (.bool b) fun _ => by rw [PyData.shown]; exact ReprIs.bool b
  | _, _, .int i t => ⟨⟨_, .int i t⟩, fun hs _ => ⟨[], (fun _ q => nomatch q), by rw [PyData.shown]; exact .of_is (ReprIs.int t (of_decide_eq_true (by rw [PyData.showable] at hs; exact hs))) _ _ _⟩⟩
  | _, _, .str x t => rp_plain (t := "") (.str x t) fun z => by rw [PyData.shown] at z ⊢; exact ReprIs.str x t z
  | _, _, .lst h1 h2 h3 h4 => rp_seqL h1 h2 h3 h4.rp
  | _, _, .tup h1 h2 h3 h4 => rp_seqT h1 h2 h3 h4.rp
  | _, _, .dct h1 h2 h3 h0 h4 h5 => rp_dict h1 h2 h3 h0 h4.rp h5.rp
theorem SdAll.rp : ∀ {us : List Value} {ds : List PyData}, SdAll h us ds → RpAll P w h us ds
  | _, _, .nil => ⟨⟨_, .nil⟩, fun _ _ => ⟨[], (fun _ q => nomatch q), by rw [PyData.shownAll]; exact .nil⟩⟩
  | _, _, .cons (d := d) (ds := ds) x xs => by
    have A := (x.rp : RpOf P w h _ d)
    have B := (xs.rp : RpAll P w h _ ds)
    obtain ⟨as, r⟩ := A.rd
    obtain ⟨cs, r'⟩ := B.rd
    refine ⟨⟨_, .cons r r'⟩, fun hs hz => ?_⟩
    rw [PyData.showableAll, Bool.and_eq_true] at hs
    rw [PyData.shownAll] at hz
    obtain ⟨b1, hb1, k1⟩ := A.rp hs.1 (hz _ List.mem_cons_self)
    obtain ⟨b2, hb2, k2⟩ := B.rp hs.2 fun t ht => hz t (List.mem_cons_of_mem _ ht)
    have m1 : d.depth ≤ PyData.depthAll (d :: ds) := by rw [PyData.depthAll]; exact Nat.le_max_left _ _
    have m2 : PyData.depthAll ds ≤ PyData.depthAll (d :: ds) := by rw [PyData.depthAll]; exact Nat.le_max_right _ _
    refine ⟨b1 ++ b2, (hb1.mono m1).append (hb2.mono m2), ?_⟩
    rw [PyData.shownAll]
    exact .cons ((k1.more fun b q => List.mem_append_left _ q).level_le m1) (k2.more_le (fun b q => List.mem_append_right _ q) m2)
end
end
end Rg

/-! data that hold dicts, in the layer's heap; repr of a list or a tuple of such -/
namespace Rg
open PySem PySem.Spec PyProof.Rows L2
def kyD : Key → PyData
  | .inl i => .int i
  | .inr x => .str x
mutual
inductive Dq (K : PySem.W.Frag) (H : Hp) : V → PyData → Prop
  | non : Dq K H .non .none
  | bl (b : Bool) : Dq K H (.bl b) (.bool b)
  | int (i : Int) : Dq K H (.int i) (.int i)
  | str (x : Str) : Dq K H (.str x) (.str x)
  | lst {a : Addr} {xs : List V} {ds : List PyData} : H a = some (.lst xs) → DqAll K H xs ds → Dq K H (.ref a) (.list ds)
  | tup {a : Addr} {xs : List V} {ds : List PyData} : SqT K H a xs → DqAll K H xs ds → Dq K H (.ref a) (.tuple ds)
  | dct {a : Addr} {kvs : List (Key × V)} {ps : List (Key × PyData)} : H a = some (.dK kvs) → DqKv K H kvs ps → Dq K H (.ref a) (.dict (ps.map fun p => (kyD p.1, p.2)))
inductive DqAll (K : PySem.W.Frag) (H : Hp) : List V → List PyData → Prop
  | nil : DqAll K H [] []
  | cons {v : V} {vs : List V} {d : PyData} {ds : List PyData} : Dq K H v d → DqAll K H vs ds → DqAll K H (v :: vs) (d :: ds)
inductive DqKv (K : PySem.W.Frag) (H : Hp) : List (Key × V) → List (Key × PyData) → Prop
  | nil : DqKv K H [] []
  | cons {k : Key} {v : V} {vs : List (Key × V)} {d : PyData} {ds : List (Key × PyData)} : Dq K H v d → DqKv K H vs ds → DqKv K H ((k, v) :: vs) ((k, d) :: ds)
end
theorem sd_keys {P : Program} {w : World} {h : Heap} {ps : List (Key × PyData)} : ∀ {es : List DictEntry} {vs : List (Key × Value)}, Pairs (mixKind P w) es vs → vs.map (·.1) = ps.map (·.1) → SdAll h (es.map (·.key)) ((ps.map fun p => (kyD p.1, p.2)).map (·.1)) := by
  induction ps with
  | nil =>
    intro es vs m e
    cases m with
    | nil => exact .nil
    | cons => cases e
  | cons p ps ih =>
    intro es vs m e
    cases m with
    | nil => cases e
    | @cons x kv es vs h1 h2 m =>
      rw [List.map_cons, List.map_cons] at e
      injection e with e1 e2
      refine .cons ?_ (ih m e2)
      show Sd h x.key (kyD p.1)
      rw [← e1]
      rcases keyIs_shape (show keyIs kv.1 x.key = true from h1) with ⟨i, t, z1, z2⟩ | ⟨y, t, z1, z2⟩
      · rw [z1, z2]
        exact .int i t
      · rw [z1, z2]
        exact .str y t
section
variable {X : Cx} {pins : List (Addr × Obj)} {σ : L2.St} {H : Hp} {s : Shared}
mutual
theorem Dq.sd (I : Inv X pins σ H s) : ∀ {v : V} {d : PyData}, Dq X.K H v d → ∀ u, RelV v u → Sd s.heap u d
  | _, _, .non, u, r => by
    cases r
    exact .non
  | _, _, .bl b, u, r => by
    cases r
    exact .bl b
  | _, _, .int i, u, r => by
    obtain ⟨t, rfl⟩ := r
    exact .int i t
  | _, _, .str x, u, r => by
    obtain ⟨t, rfl⟩ := r
    exact .str x t
  | _, _, .lst hs ha, u, r => by
    cases r
    obtain ⟨its, rv, ⟨o, n, ho, hc, _, hd⟩, _⟩ := I.list (SqL.of hs)
    exact .lst ho hc hd (DqAll.sd I ha _ rv)
  | _, _, .tup hs ha, u, r => by
    cases r
    obtain ⟨its, rv, ⟨o, ho, hc, n, hd⟩, _⟩ := I.tuple hs
    exact .tup ho hc hd (DqAll.sd I ha _ rv)
  | _, _, .dct (a := a) (kvs := kvs) (ps := ps) he hk, u, r => by
    cases r
    obtain ⟨_, hS, vs, rel, o, es, ep, ho, hx, hd, _, hp, _⟩ := dk_of I.hok he
    obtain ⟨q1, q2⟩ := DqKv.sd I hk _ rel _ hp
    exact .dct ho hx.1 hd hS (sd_keys hp q1) q2
theorem DqAll.sd (I : Inv X pins σ H s) : ∀ {vs : List V} {ds : List PyData}, DqAll X.K H vs ds → ∀ us, Vals vs us → SdAll s.heap us ds
  | _, _, .nil, us, r => by
    cases r
    exact .nil
  | _, _, .cons h1 h2, us, r => by
    cases r with
    | cons r1 r2 => exact .cons (Dq.sd I h1 _ r1) (DqAll.sd I h2 _ r2)
theorem DqKv.sd (I : Inv X pins σ H s) : ∀ {vs : List (Key × V)} {ps : List (Key × PyData)}, DqKv X.K H vs ps → ∀ us, KV vs us → ∀ es, Pairs (mixKind X.prog X.w) es us → us.map (·.1) = ps.map (·.1) ∧ SdAll s.heap (es.map (·.val)) ((ps.map fun p => (kyD p.1, p.2)).map (·.2))
  | _, _, .nil, us, r, es, m => by
    cases r
    cases m
    exact ⟨rfl, .nil⟩
  | _, _, .cons h1 h2, us, r, es, m => by
    cases r with
    | cons r1 r2 =>
      cases m with
      | cons m1 m2 m3 =>
        obtain ⟨q1, q2⟩ := DqKv.sd I h2 _ r2 _ m3
        refine ⟨?_, .cons ?_ q2⟩
        · rw [List.map_cons, List.map_cons, q1, ← r1.1]
        · show Sd s.heap (DictEntry.val _) _
          rw [m2]
          exact Dq.sd I h1 _ r1.2
end
/-- repr of a tuple or a list that stands for data -/
theorem call_repr_dq (hg : X.A.guards = some []) (hu : X.A.units + 64 < cLine) : CallR X (.builtin "repr")
    (fun xs H Q => ∃ (a : Addr) (d : PyData) (ds : List PyData), xs = [.ref a] ∧ Dq X.K H (.ref a) d ∧ (d = .tuple ds ∨ d = .list ds) ∧ d.showable = true ∧ d.depth ≤ 60 ∧ d.shown.length ≤ sizeLine ∧ Q (.str d.shown) H) := by
  intro pins s σ H xs us Q I r h
  obtain ⟨a, d, ds, rfl, hd, hds, hs, hdp, hz, q⟩ := h
  obtain ⟨u, rfl, ru⟩ := vals1 r
  obtain rfl : u = Value.ref a := ru
  have hsd := Dq.sd I hd _ rfl
  have fin : ∀ h' u tk, (∀ b o, s.heap.get? b = some o → h'.get? b = some o) → EP X pins σ Q (.str d.shown u) { s with heap := h', toks := tk } := fun h' u tk hk => ⟨.str _, H, I.kept hk, ⟨_, rfl⟩, q⟩
  rcases hds with rfl | rfl
  · cases hsd with
    | @tup _ o us n _ h1 h2 h3 h4 =>
      have A : RpAll X.prog X.w s.heap us.toList ds := h4.rp
      obtain ⟨as, r⟩ := A.rd
      have R : Reads s.heap (.ref a) (.tuple ds) as := .tuple h1 h2 h3 r
      rw [PyData.showable] at hs
      rw [PyData.shown] at hz fin
      rw [PyData.depth] at hdp
      obtain ⟨bs, hb, hk⟩ := A.rp hs fun t ht => Nat.le_trans (tupleText_mem_le ht) hz
      obtain ⟨ni, _⟩ := none_in (e := 0) R (by rw [PyData.depth]) hb
      exact call_repr_slot (T := "tuple") (by omega) ⟨o, h1, h2⟩ F.slot_tuple_repr (call_tuple_reprK h1 h2 h3 ni hk hg (fun b _ => Clear.nil b) (by show X.A.units + 1 + _ < cLine; omega) (fun _ _ e => e) (fun h' u tk hk => ⟨_, _, rfl, fin h' u tk hk⟩) hz)
  · cases hsd with
    | @lst _ o us n _ h1 h2 h3 h4 =>
      have A : RpAll X.prog X.w s.heap us.toList ds := h4.rp
      obtain ⟨as, r⟩ := A.rd
      have R : Reads s.heap (.ref a) (.list ds) (a :: as) := .list h1 h2 h3 r
      rw [PyData.showable] at hs
      rw [PyData.shown] at hz fin
      rw [PyData.depth] at hdp
      obtain ⟨bs, hb, hk⟩ := A.rp hs fun t ht => Nat.le_trans (listText_mem_le ht) hz
      obtain ⟨ni, _⟩ := none_in (e := 0) R (by rw [PyData.depth]) hb
      refine call_repr_slot (T := "list") (by omega) ⟨o, h1, h2⟩ F.slot_list_repr.toG ?_
      obtain ⟨l⟩ := us
      match l, r, hk, h3 with
      | [], r, _, h3 =>
        have r' : ReadsAll s.heap [] ds as := r
        cases r'
        rw [PyData.shownAll, listText_nil] at fin
        exact call_list_repr_empty ⟨o, h1, h2⟩ h1 h3 ⟨_, _, rfl, fin s.heap _ _ fun _ _ e => e⟩
      | x :: l, _, hk, h3 =>
        exact call_list_reprK h1 h2 h3 ni (by simpa using hk.length_eq) (fun i y e => hk.item i y (by simpa using e)) hg (fun b _ => Clear.nil b) (by show X.A.units + 1 + _ < cLine; omega) (fun _ _ e => e) (fun h' u tk hk => ⟨_, _, rfl, fin h' u tk hk⟩) hz
end
end Rg

/-! things: data that may hold dicts, or a set; of which kind they are -/
namespace Rg
open PySem PySem.Spec PyProof.Rows L2
def tyN : PyData → String
  | .none => "NoneType"
  | .bool _ => "bool"
  | .int _ => "int"
  | .str _ => "str"
  | .list _ => "list"
  | .tuple _ => "tuple"
  | .dict _ => "dict"
section
variable {K : PySem.W.Frag} {H H' : Hp} {C : Addr}
theorem SqL.tyX {a : Addr} {xs : List V} (h : SqL K H a xs) : TyX K H (.ref a) (.type "list") := by
  rcases h with (h | ⟨o, h⟩) | ⟨o, its, n, h, c, _⟩
  · exact .base (.lst h)
  · exact .base (.frz h)
  · exact .kList h c
theorem SqT.tyX {a : Addr} {xs : List V} (h : SqT K H a xs) : TyX K H (.ref a) (.type "tuple") := by
  rcases h with (h | ⟨o, h⟩) | ⟨o, its, n, h, c, _⟩
  · exact .base (.tup h)
  · exact .fTuple h
  · exact .kTuple h c
theorem Dq.ty {v : V} {d : PyData} (h : Dq K H v d) : TyX K H v (.type (tyN d)) := by
  cases h with
  | non => exact .base .non
  | bl b => exact .base (.bl b)
  | int i => exact .base (.int i)
  | str x => exact .base (.str x)
  | lst h _ => exact .base (.lst h)
  | tup h _ => exact SqT.tyX h
  | dct h _ => exact .base (.dK h)
theorem SqL.sm {a : Addr} {xs : List V} (s : Same H H') (h : SqL K H a xs) : SqL K H' a xs := by
  rcases h with (h | ⟨o, h⟩) | h
  · exact .inl (.inl (s _ _ h))
  · exact .inl (.inr ⟨o, s _ _ h⟩)
  · exact .inr h
theorem SqT.sm {a : Addr} {xs : List V} (s : Same H H') (h : SqT K H a xs) : SqT K H' a xs := by
  rcases h with (h | ⟨o, h⟩) | h
  · exact .inl (.inl (s _ _ h))
  · exact .inl (.inr ⟨o, s _ _ h⟩)
  · exact .inr h
mutual
theorem Dq.sm (s : Same H H') : ∀ {v : V} {d : PyData}, Dq K H v d → Dq K H' v d
  | _, _, .non => .non
  | _, _, .bl b => .bl b
  | _, _, .int i => .int i
  | _, _, .str x => .str x
  | _, _, .lst h a => .lst (s _ _ h) (DqAll.sm s a)
  | _, _, .tup h a => .tup (SqT.sm s h) (DqAll.sm s a)
  | _, _, .dct h a => .dct (s _ _ h) (DqKv.sm s a)
theorem DqAll.sm (s : Same H H') : ∀ {vs : List V} {ds : List PyData}, DqAll K H vs ds → DqAll K H' vs ds
  | _, _, .nil => .nil
  | _, _, .cons h a => .cons (Dq.sm s h) (DqAll.sm s a)
theorem DqKv.sm (s : Same H H') : ∀ {vs : List (Key × V)} {ds : List (Key × PyData)}, DqKv K H vs ds → DqKv K H' vs ds
  | _, _, .nil => .nil
  | _, _, .cons h a => .cons (Dq.sm s h) (DqKv.sm s a)
end
theorem DqAll.length {vs : List V} {ds : List PyData} (h : DqAll K H vs ds) : vs.length = ds.length := by
  induction vs generalizing ds with
  | nil => cases h; rfl
  | cons v vs ih => cases h with | cons _ a => rw [List.length_cons, List.length_cons, ih a]
theorem DqAll.get {vs : List V} {ds : List PyData} (h : DqAll K H vs ds) {i : Nat} {v : V} (e : vs[i]? = some v) : ∃ d, ds[i]? = some d ∧ Dq K H v d := by
  induction vs generalizing ds i with
  | nil => cases e
  | cons x vs ih =>
    cases h with
    | cons h1 a =>
      cases i with
      | zero => cases e; exact ⟨_, rfl, h1⟩
      | succ i => exact ih a (by simpa using e)
theorem DqAll.append {us vs : List V} {ds es : List PyData} (h : DqAll K H us ds) (k : DqAll K H vs es) : DqAll K H (us ++ vs) (ds ++ es) := by
  induction us generalizing ds with
  | nil => cases h; exact k
  | cons v us ih => cases h with | cons h1 a => exact .cons h1 (ih a)
end
/-- a value of a law: data, or a set -/
inductive Tg where
  | dat (d : PyData)
  | own
/-- what isinstance asks of a set -/
structure OwnC (K : PySem.W.Frag) (C : Addr) : Prop where
  cl : Cls K C
  ha : PySem.W.findIn K (.ref C) "__class__" = some (some (.builtin "object.__class__"))
  hn : PySem.W.specialIn K (.builtin "object.__class__") "__get__" = some (some (.builtin "getset_descriptor.__get__"))
  ht : PySem.W.takesIn K (.builtin "object.__class__") = some true
  hm : PySem.W.mroIn K C (.type "object") = some true
  sI : PySem.W.subIn K (.ref C) (.type "int") = some false
  sB : PySem.W.subIn K (.ref C) (.type "bool") = some false
  sS : PySem.W.subIn K (.ref C) (.type "str") = some false
  sL : PySem.W.subIn K (.ref C) (.type "list") = some false
inductive Tq (K : PySem.W.Frag) (C : Addr) (H : Hp) : V → Tg → Prop
  | dat {v : V} {d : PyData} : Dq K H v d → Tq K C H v (.dat d)
  | own {p dx : Addr} {fs : List (Str × V)} : H p = some (.ins C dx fs) → Tq K C H (.ref p) .own
def Tg.isI : Tg → Bool
  | .dat (.int _) => true
  | .dat (.bool _) => true
  | _ => false
def Tg.isB : Tg → Bool
  | .dat (.bool _) => true
  | _ => false
def Tg.isS : Tg → Bool
  | .dat (.str _) => true
  | _ => false
def Tg.isL : Tg → Bool
  | .dat (.list _) => true
  | _ => false
theorem kit_own {K : PySem.W.Frag} {U : Addr} {T : String} {b : Bool} (hk : PySem.W.kitMeta T = true) (h : PySem.W.subIn K (.ref U) (.type T) = some b) : PySem.W.kitOne K (.ref U) (.type T) = some b := by
  unfold PySem.W.kitOne
  have hne : ¬ (Value.ref U == Value.type T) = true := fun e => by cases beq_iff_eq.mp e
  rw [if_neg hne]
  unfold PySem.W.kitCls
  show (if PySem.W.kitMeta T = true then PySem.W.subIn K (.ref U) (.type T) else none) = _
  rw [if_pos hk, h]
section
variable {K : PySem.W.Frag} {H H' : Hp} {C : Addr} {v : V} {t : Tg} {Q : VK}
theorem Tq.sm (s : Same H H') (h : Tq K C H v t) : Tq K C H' v t := by
  cases h with
  | dat h => exact .dat (h.sm s)
  | own h => exact .own (s _ _ h)
theorem Tq.isI (O : OwnC K C) (h : Tq K C H v t) (q : Q (.bl t.isI) H) : rIsi K [v, .ty "int"] H Q := by
  cases h with
  | own e => exact ⟨_, _, _, _, false, rfl, .ty "int", .base (.ins e O.cl O.ha O.hn O.ht O.hm), kit_own (by decide +kernel) O.sI, q⟩
  | @dat _ d h =>
    refine ⟨_, _, _, _, _, rfl, .ty "int", h.ty, ?_, q⟩
    have k_NoneType : kitB "NoneType" "int" = some false := by decide +kernel
    have k_bool : kitB "bool" "int" = some true := by decide +kernel
    have k_int : kitB "int" "int" = some true := by decide +kernel
    have k_str : kitB "str" "int" = some false := by decide +kernel
    have k_list : kitB "list" "int" = some false := by decide +kernel
    have k_tuple : kitB "tuple" "int" = some false := by decide +kernel
    have k_dict : kitB "dict" "int" = some false := by decide +kernel
    cases d
    · exact kit_ty k_NoneType
    · exact kit_ty k_bool
    · exact kit_ty k_int
    · exact kit_ty k_str
    · exact kit_ty k_list
    · exact kit_ty k_tuple
    · exact kit_ty k_dict
theorem Tq.isB (O : OwnC K C) (h : Tq K C H v t) (q : Q (.bl t.isB) H) : rIsi K [v, .ty "bool"] H Q := by
  cases h with
  | own e => exact ⟨_, _, _, _, false, rfl, .ty "bool", .base (.ins e O.cl O.ha O.hn O.ht O.hm), kit_own (by decide +kernel) O.sB, q⟩
  | @dat _ d h =>
    refine ⟨_, _, _, _, _, rfl, .ty "bool", h.ty, ?_, q⟩
    have k_NoneType : kitB "NoneType" "bool" = some false := by decide +kernel
    have k_bool : kitB "bool" "bool" = some true := by decide +kernel
    have k_int : kitB "int" "bool" = some false := by decide +kernel
    have k_str : kitB "str" "bool" = some false := by decide +kernel
    have k_list : kitB "list" "bool" = some false := by decide +kernel
    have k_tuple : kitB "tuple" "bool" = some false := by decide +kernel
    have k_dict : kitB "dict" "bool" = some false := by decide +kernel
    cases d
    · exact kit_ty k_NoneType
    · exact kit_ty k_bool
    · exact kit_ty k_int
    · exact kit_ty k_str
    · exact kit_ty k_list
    · exact kit_ty k_tuple
    · exact kit_ty k_dict
theorem Tq.isS (O : OwnC K C) (h : Tq K C H v t) (q : Q (.bl t.isS) H) : rIsi K [v, .ty "str"] H Q := by
  cases h with
  | own e => exact ⟨_, _, _, _, false, rfl, .ty "str", .base (.ins e O.cl O.ha O.hn O.ht O.hm), kit_own (by decide +kernel) O.sS, q⟩
  | @dat _ d h =>
    refine ⟨_, _, _, _, _, rfl, .ty "str", h.ty, ?_, q⟩
    have k_NoneType : kitB "NoneType" "str" = some false := by decide +kernel
    have k_bool : kitB "bool" "str" = some false := by decide +kernel
    have k_int : kitB "int" "str" = some false := by decide +kernel
    have k_str : kitB "str" "str" = some true := by decide +kernel
    have k_list : kitB "list" "str" = some false := by decide +kernel
    have k_tuple : kitB "tuple" "str" = some false := by decide +kernel
    have k_dict : kitB "dict" "str" = some false := by decide +kernel
    cases d
    · exact kit_ty k_NoneType
    · exact kit_ty k_bool
    · exact kit_ty k_int
    · exact kit_ty k_str
    · exact kit_ty k_list
    · exact kit_ty k_tuple
    · exact kit_ty k_dict
theorem Tq.isL (O : OwnC K C) (h : Tq K C H v t) (q : Q (.bl t.isL) H) : rIsi K [v, .ty "list"] H Q := by
  cases h with
  | own e => exact ⟨_, _, _, _, false, rfl, .ty "list", .base (.ins e O.cl O.ha O.hn O.ht O.hm), kit_own (by decide +kernel) O.sL, q⟩
  | @dat _ d h =>
    refine ⟨_, _, _, _, _, rfl, .ty "list", h.ty, ?_, q⟩
    have k_NoneType : kitB "NoneType" "list" = some false := by decide +kernel
    have k_bool : kitB "bool" "list" = some false := by decide +kernel
    have k_int : kitB "int" "list" = some false := by decide +kernel
    have k_str : kitB "str" "list" = some false := by decide +kernel
    have k_list : kitB "list" "list" = some true := by decide +kernel
    have k_tuple : kitB "tuple" "list" = some false := by decide +kernel
    have k_dict : kitB "dict" "list" = some false := by decide +kernel
    cases d
    · exact kit_ty k_NoneType
    · exact kit_ty k_bool
    · exact kit_ty k_int
    · exact kit_ty k_str
    · exact kit_ty k_list
    · exact kit_ty k_tuple
    · exact kit_ty k_dict
theorem Tq.qI (O : OwnC K C) (h : Tq K C H v t) : ∃ cv ty : Value, ClsV (.ty "int") cv ∧ TyX K H v ty ∧ PySem.W.kitOne K ty cv = some t.isI := by
  obtain ⟨x, c, t', u, b, e, hc, ht, hk, hq⟩ := Tq.isI O h (Q := fun x _ => x = .bl t.isI) rfl
  cases e
  cases hq
  exact ⟨u, t', hc, ht, hk⟩
theorem Tq.qB (O : OwnC K C) (h : Tq K C H v t) : ∃ cv ty : Value, ClsV (.ty "bool") cv ∧ TyX K H v ty ∧ PySem.W.kitOne K ty cv = some t.isB := by
  obtain ⟨x, c, t', u, b, e, hc, ht, hk, hq⟩ := Tq.isB O h (Q := fun x _ => x = .bl t.isB) rfl
  cases e
  cases hq
  exact ⟨u, t', hc, ht, hk⟩
theorem Tq.qS (O : OwnC K C) (h : Tq K C H v t) : ∃ cv ty : Value, ClsV (.ty "str") cv ∧ TyX K H v ty ∧ PySem.W.kitOne K ty cv = some t.isS := by
  obtain ⟨x, c, t', u, b, e, hc, ht, hk, hq⟩ := Tq.isS O h (Q := fun x _ => x = .bl t.isS) rfl
  cases e
  cases hq
  exact ⟨u, t', hc, ht, hk⟩
theorem Tq.qL (O : OwnC K C) (h : Tq K C H v t) : ∃ cv ty : Value, ClsV (.ty "list") cv ∧ TyX K H v ty ∧ PySem.W.kitOne K ty cv = some t.isL := by
  obtain ⟨x, c, t', u, b, e, hc, ht, hk, hq⟩ := Tq.isL O h (Q := fun x _ => x = .bl t.isL) rfl
  cases e
  cases hq
  exact ⟨u, t', hc, ht, hk⟩
end
end Rg

/-! sizes of data that may hold dicts; heaps without the bag -/
namespace Rg
open PySem PySem.Spec PyProof.Rows L2
/-- data that can be printed: depth at most e, k things at most -/
structure Gq (e k : Nat) (d : PyData) : Prop where
  shw : d.showable = true
  dep : d.depth ≤ e
  lv : d.leavesShort 50 = true
  bk : d.bulk ≤ k
structure GqAll (e k : Nat) (ds : List PyData) : Prop where
  shw : PyData.showableAll ds = true
  dep : PyData.depthAll ds ≤ e
  lv : PyData.leavesShortAll 50 ds = true
  bk : PyData.bulkAll ds ≤ k
def gqB (e k : Nat) (d : PyData) : Bool := d.showable && decide (d.depth ≤ e) && d.leavesShort 50 && decide (d.bulk ≤ k)
theorem gq_of {e k : Nat} {d : PyData} (h : gqB e k d = true) : Gq e k d := by
  unfold gqB at h
  simp only [Bool.and_eq_true, decide_eq_true_eq] at h
  exact ⟨h.1.1.1, h.1.1.2, h.1.2, h.2⟩
theorem Gq.le {e k e' k' : Nat} {d : PyData} (h : Gq e k d) (he : e ≤ e') (hk : k ≤ k') : Gq e' k' d := ⟨h.shw, Nat.le_trans h.dep he, h.lv, Nat.le_trans h.bk hk⟩
theorem gqAll_nil {e : Nat} : GqAll e 0 [] := ⟨rfl, Nat.zero_le _, rfl, Nat.le_refl _⟩
theorem gqAll_cons {e k m : Nat} {d : PyData} {ds : List PyData} (h : Gq e k d) (t : GqAll e m ds) : GqAll e (k + 1 + m) (d :: ds) := by
  refine ⟨?_, ?_, ?_, ?_⟩
  · simp only [PyData.showableAll, h.shw, t.shw, Bool.and_self]
  · simp only [PyData.depthAll]
    exact Nat.max_le.mpr ⟨h.dep, t.dep⟩
  · simp only [PyData.leavesShortAll, h.lv, t.lv, Bool.and_self]
  · simp only [PyData.bulkAll]
    have h1 := h.bk
    have h2 := t.bk
    omega
theorem gq_list {e k : Nat} {ds : List PyData} (h : GqAll e k ds) : Gq (e + 1) k (.list ds) := by
  refine ⟨?_, ?_, ?_, ?_⟩
  · simp only [PyData.showable, h.shw]
  · simp only [PyData.depth]
    have := h.dep
    omega
  · simp only [PyData.leavesShort, h.lv]
  · simp only [PyData.bulk]
    exact h.bk
theorem gq_tuple {e k : Nat} {ds : List PyData} (h : GqAll e k ds) : Gq (e + 1) k (.tuple ds) := by
  refine ⟨?_, ?_, ?_, ?_⟩
  · simp only [PyData.showable, h.shw]
  · simp only [PyData.depth]
    have := h.dep
    omega
  · simp only [PyData.leavesShort, h.lv]
  · simp only [PyData.bulk]
    exact h.bk
theorem Gq.all {e k : Nat} {ds : List PyData} (h : Gq e k (.list ds)) : GqAll (e - 1) k ds := by
  refine ⟨?_, ?_, ?_, ?_⟩
  · simpa only [PyData.showable] using h.shw
  · have := h.dep
    simp only [PyData.depth] at this
    omega
  · simpa only [PyData.leavesShort] using h.lv
  · simpa only [PyData.bulk] using h.bk
theorem Gq.allT {e k : Nat} {ds : List PyData} (h : Gq e k (.tuple ds)) : GqAll (e - 1) k ds := by
  refine ⟨?_, ?_, ?_, ?_⟩
  · simpa only [PyData.showable] using h.shw
  · have := h.dep
    simp only [PyData.depth] at this
    omega
  · simpa only [PyData.leavesShort] using h.lv
  · simpa only [PyData.bulk] using h.bk
theorem GqAll.cons_inv {e k : Nat} {d : PyData} {ds : List PyData} (h : GqAll e k (d :: ds)) : Gq e k d ∧ GqAll e k ds := by
  obtain ⟨a, b, c, f⟩ := h
  simp only [PyData.showableAll, Bool.and_eq_true] at a
  simp only [PyData.depthAll] at b
  simp only [PyData.leavesShortAll, Bool.and_eq_true] at c
  simp only [PyData.bulkAll] at f
  exact ⟨⟨a.1, by omega, c.1, by omega⟩, ⟨a.2, by omega, c.2, by omega⟩⟩
theorem GqAll.mem {e k : Nat} : ∀ {ds : List PyData}, GqAll e k ds → ∀ d ∈ ds, Gq e k d
  | [], _, _, hd => nomatch hd
  | x :: ds, h, d, hd => by
    obtain ⟨h1, h2⟩ := h.cons_inv
    rcases List.mem_cons.mp hd with z | z
    · rw [z]; exact h1
    · exact h2.mem d z
theorem gqAll_const {e k : Nat} : ∀ {ds : List PyData}, (∀ d ∈ ds, Gq e k d) → GqAll e ((k + 1) * ds.length) ds
  | [], _ => gqAll_nil
  | d :: ds, h => by
    have h1 := gqAll_cons (h d List.mem_cons_self) (gqAll_const fun x hx => h x (List.mem_cons_of_mem _ hx))
    rw [List.length_cons, Nat.mul_add, Nat.mul_one, Nat.add_comm ((k + 1) * ds.length)]
    exact h1
theorem gqAll_append {e k m : Nat} : ∀ {ds es : List PyData}, GqAll e k ds → GqAll e m es → GqAll e (k + m) (ds ++ es)
  | [], es, _, t => ⟨t.shw, t.dep, t.lv, Nat.le_trans t.bk (Nat.le_add_left _ _)⟩
  | d :: ds, es, h, t => by
    have hb := h.bk
    obtain ⟨h1, h2⟩ := h.cons_inv
    have h3 := gqAll_append ⟨h2.shw, h2.dep, h2.lv, Nat.le_refl _⟩ t
    have h4 := gqAll_cons (k := d.bulk) ⟨h1.shw, h1.dep, h1.lv, Nat.le_refl _⟩ h3
    simp only [PyData.bulkAll] at hb
    exact ⟨h4.shw, h4.dep, h4.lv, Nat.le_trans h4.bk (by omega)⟩
theorem GqAll.sub {e k : Nat} : ∀ {ds es : List PyData}, ds.Sublist es → GqAll e k es → GqAll e k ds
  | _, _, .slnil, h => h
  | _, _, .cons a s, h => GqAll.sub s h.cons_inv.2
  | _, _, .cons₂ a s, h => by
    have hb := h.bk
    obtain ⟨h1, h2⟩ := h.cons_inv
    have h3 := GqAll.sub s (⟨h2.shw, h2.dep, h2.lv, Nat.le_refl _⟩ : GqAll e _ _)
    have h4 := gqAll_cons (k := a.bulk) ⟨h1.shw, h1.dep, h1.lv, Nat.le_refl _⟩ h3
    simp only [PyData.bulkAll] at hb
    exact ⟨h4.shw, h4.dep, h4.lv, Nat.le_trans h4.bk (by omega)⟩
theorem Gq.short {e k : Nat} {d : PyData} (h : Gq e k d) (hk : k ≤ 300000) : d.shown.length ≤ sizeLine := by
  have h1 := PyData.shown_le_bulk 50 (by decide) d h.lv
  have h2 := h.bk
  rw [sizeLine_eq]
  omega
theorem bulkAll_len : ∀ ds : List PyData, ds.length ≤ PyData.bulkAll ds
  | [] => Nat.le_refl _
  | d :: ds => by
    have := bulkAll_len ds
    simp only [List.length_cons, PyData.bulkAll]
    omega
theorem bulkAll_mem : ∀ (ds : List PyData) (d : PyData), d ∈ ds → d.bulk ≤ PyData.bulkAll ds
  | x :: ds, d, h => by
    simp only [PyData.bulkAll]
    rcases List.mem_cons.mp h with z | z
    · rw [z]; omega
    · have := bulkAll_mem ds d z
      omega
theorem gq_num {n : Nat} (h : n < 32) : Gq 0 0 (.int (n : Int)) := by
  have key : ∀ m : Fin 32, gqB 0 0 (.int (m.val : Int)) = true := by decide +kernel
  exact gq_of (key ⟨n, h⟩)
theorem gq_dNs {ns : List Nat} (h : ∀ n ∈ ns, n < 32) : Gq 1 ns.length (dNs ns) := by
  have h1 : GqAll 0 ((0 + 1) * (ns.map fun n : Nat => PyData.int (n : Int)).length) (ns.map fun n : Nat => PyData.int (n : Int)) := gqAll_const fun d hd => by
    obtain ⟨n, hn, rfl⟩ := List.mem_map.mp hd
    exact gq_num (h n hn)
  rw [List.length_map, Nat.zero_add, Nat.one_mul] at h1
  exact gq_list h1
theorem gq_dRs {R : List (List Nat)} {L : Nat} (h : ∀ r ∈ R, r.length ≤ L ∧ ∀ n ∈ r, n < 32) : Gq 2 ((L + 1) * R.length) (dRs R) := by
  have h1 : GqAll 1 ((L + 1) * (R.map dNs).length) (R.map dNs) := gqAll_const fun d hd => by
    obtain ⟨r, hr, rfl⟩ := List.mem_map.mp hd
    exact (gq_dNs (h r hr).2).le (Nat.le_refl _) (h r hr).1
  rw [List.length_map] at h1
  exact gq_list h1
theorem gq_str {z : Str} (h : ∀ c ∈ z.cps.toList, c < 16 ^ 8) : Gq 0 z.cps.size (.str z) := ⟨rfl, Nat.le_refl _, by simp only [PyData.leavesShort, List.all_eq_true, decide_eq_true_eq]; exact h, Nat.le_refl _⟩
/-! ### the heap without g -/
def mask (g : Addr) (H : Hp) : Hp := fun b => if b = g then none else H b
section
variable {g p : Addr} {H H' : Hp} {o : HO}
theorem mask_ne (h : p ≠ g) : mask g H p = H p := if_neg h
theorem mask_at (h : H p = some o) (n : p ≠ g) : mask g H p = some o := by rw [mask_ne n]; exact h
theorem mask_inv (h : mask g H p = some o) : p ≠ g ∧ H p = some o := by
  unfold mask at h
  split at h
  · cases h
  · rename_i n
    exact ⟨n, h⟩
theorem mask_same : Same (mask g H) H := fun b o h => (mask_inv h).2
theorem But.mask (h : But g H H') : Same (mask g H) (mask g H') := fun b o e => by
  obtain ⟨n, e⟩ := mask_inv e
  exact mask_at (h b o n e) n
theorem mask_sm (h : Same H H') : Same (mask g H) (mask g H') := fun b o e => by
  obtain ⟨n, e⟩ := mask_inv e
  exact mask_at (h b o e) n
end
end Rg

/-! what is new since a heap; lists apart from their items -/
namespace Rg
open PySem PySem.Spec PyProof.Rows L2
def newp (H0 H : Hp) : Hp := fun b => match H0 b with | none => H b | some _ => none
section
variable {K : PySem.W.Frag} {H0 H H' : Hp} {p g : Addr} {o : HO}
theorem nw_at (h : H p = some o) (n : H0 p = none) : newp H0 H p = some o := by
  unfold newp
  rw [n]
  exact h
theorem nw_inv (h : newp H0 H p = some o) : H0 p = none ∧ H p = some o := by
  unfold newp at h
  cases e : H0 p with
  | none => rw [e] at h; exact ⟨rfl, h⟩
  | some x => rw [e] at h; cases h
theorem nw_sm (s : Same H H') : Same (newp H0 H) (newp H0 H') := fun b o e => by
  obtain ⟨n, e⟩ := nw_inv e
  exact nw_at (s _ _ e) n
theorem nw_but (hg : ∃ o, H0 g = some o) (s : But g H H') : Same (newp H0 H) (newp H0 H') := fun b o e => by
  obtain ⟨n, e⟩ := nw_inv e
  obtain ⟨u, hg⟩ := hg
  exact nw_at (s _ _ (fun z => by rw [z, hg] at n; cases n) e) n
theorem nw_same : Same (newp H0 H) H := fun b o e => (nw_inv e).2
/-- what was tracked is not among the new -/
theorem nw_mask (h : ∃ o, H0 p = some o) : Same (newp H0 H) (mask p H) := fun b o e => by
  obtain ⟨n, e⟩ := nw_inv e
  obtain ⟨u, h⟩ := h
  exact mask_at e (fun z => by rw [z, h] at n; cases n)
/-- earlier means fewer new -/
theorem nw_old {H1 : Hp} (s : ∀ b, H0 b ≠ none → H1 b ≠ none) : Same (newp H1 H) (newp H0 H) := fun b o e => by
  obtain ⟨n, e⟩ := nw_inv e
  refine nw_at e ?_
  cases h : H0 b with
  | none => rfl
  | some u => exact absurd n (s b (by rw [h]; simp))
end
/-- data; a list does not stand in its own items -/
def Ap (K : PySem.W.Frag) (H : Hp) (v : V) (d : PyData) : Prop := (∃ a xs ds, v = .ref a ∧ d = .list ds ∧ H a = some (.lst xs) ∧ DqAll K (mask a H) xs ds) ∨ (Dq K H v d ∧ (Tg.dat d).isL = false)
section
variable {K : PySem.W.Frag} {H H' : Hp} {v : V} {d : PyData}
theorem Ap.dq (h : Ap K H v d) : Dq K H v d := by
  rcases h with ⟨a, xs, ds, rfl, rfl, h1, h2⟩ | ⟨h, _⟩
  · exact .lst h1 (h2.sm mask_same)
  · exact h
theorem Ap.sm (s : Same H H') (h : Ap K H v d) : Ap K H' v d := by
  rcases h with ⟨a, xs, ds, rfl, rfl, h1, h2⟩ | ⟨h, e⟩
  · exact .inl ⟨a, xs, ds, rfl, rfl, s _ _ h1, h2.sm (mask_sm s)⟩
  · exact .inr ⟨h.sm s, e⟩
theorem pairedAp_dq : ∀ {vs : List V} {ds : List PyData}, Paired (Ap K H) vs ds → DqAll K H vs ds
  | _, _, .nil => .nil
  | _, _, .cons h t => .cons h.dq (pairedAp_dq t)
theorem pairedAp_sm (s : Same H H') : ∀ {vs : List V} {ds : List PyData}, Paired (Ap K H) vs ds → Paired (Ap K H') vs ds
  | _, _, .nil => .nil
  | _, _, .cons h t => .cons (h.sm s) (pairedAp_sm s t)
theorem pairedAp_app : ∀ {us vs : List V} {ds es : List PyData}, Paired (Ap K H) us ds → Paired (Ap K H) vs es → Paired (Ap K H) (us ++ vs) (ds ++ es)
  | _, _, _, _, .nil, t => t
  | _, _, _, _, .cons h r, t => .cons h (pairedAp_app r t)
theorem pairedAp_get {vs : List V} {ds : List PyData} {i : Nat} {v : V} (h : Paired (Ap K H) vs ds) (e : vs[i]? = some v) : ∃ d, ds[i]? = some d ∧ Ap K H v d := by
  induction h generalizing i with
  | nil => cases e
  | cons h _ ih =>
    cases i with
    | zero => cases e; exact ⟨_, rfl, h⟩
    | succ i => exact ih (by simpa using e)
end
end Rg

/-! xs == [], xs != [] whatever xs holds; list(text); text * number -/
namespace Rg
open PySem PySem.Spec PyProof.Rows L2
section
variable {X : Cx}
/-- a list beside an empty one -/
def rEqL0 (neg : Bool) (K : PySem.W.Frag) : R2 := fun x y H Q => ∃ a b xs, x = .ref a ∧ y = .ref b ∧ SqL K H a xs ∧ SqL K H b [] ∧ Q (.bl (if neg = true then !xs.isEmpty else xs.isEmpty)) H
theorem op_eqL0 (hu : X.A.units < cLine) : OpR X (compareOp .Eq) (rEqL0 false X.K) := by
  intro pins s σ H x y v u Q I rx ry h
  obtain ⟨a, b, xs, rfl, rfl, ha, hb, q⟩ := h
  cases rx
  cases ry
  obtain ⟨its, r, pl, hz⟩ := I.list ha
  obtain ⟨its2, r2, pl2, hz2⟩ := I.list hb
  cases r2
  cases r with
  | nil => exact SeqAt.eq_listAt (e := fun _ => true) pl.isList pl2.isList rfl hu (fun j h1 _ => absurd h1 (by simp)) ⟨.bl true, H, I, rfl, q⟩
  | cons r1 r3 => exact SeqAt.eq_list_lengthsAt pl.isList pl2.isList (by simp) hu ⟨.bl false, H, I, rfl, q⟩
theorem op_neL0 (hu : X.A.units < cLine) : OpR X (compareOp .NotEq) (rEqL0 true X.K) := by
  intro pins s σ H x y v u Q I rx ry h
  obtain ⟨a, b, xs, rfl, rfl, ha, hb, q⟩ := h
  cases rx
  cases ry
  obtain ⟨its, r, pl, hz⟩ := I.list ha
  obtain ⟨its2, r2, pl2, hz2⟩ := I.list hb
  cases r2
  cases r with
  | nil => exact SeqAt.RcNeAt.lists (e := fun _ => true) pl.isList pl2.isList rfl hu (fun j h1 _ => absurd h1 (by simp)) _ _ _ _ ⟨.bl false, H, I, rfl, q⟩
  | cons r1 r3 => exact SeqAt.RcNeAt.lists_lengths pl.isList pl2.isList (by simp) hu _ _ _ _ ⟨.bl true, H, I, rfl, q⟩
/-- text * number -/
theorem op_mulS : OpR X (binaryOp .Mult) (fun x y H Q => ∃ (z : Str) (n : Nat), x = .str z ∧ y = .int (n : Int) ∧ n ≤ 100000 ∧ z.length ≤ 100 ∧ z.length * n ≤ 1000000 ∧ Q (.str (Txt.mul z n)) H) := by
  intro pins s σ H x y v u Q I rx ry h
  obtain ⟨z, n, rfl, rfl, hn, hz, hzn, q⟩ := h
  obtain ⟨t, rfl⟩ := rx
  obtain ⟨t', rfl⟩ := ry
  refine SB.mul ⟨?_, fun h1 _ => ?_, fun h1 _ => ?_⟩ fun t' tk => ⟨.str _, H, I.tok _, ⟨_, rfl⟩, q⟩
  · simp only [Bool.or_eq_false_iff, decide_eq_false_iff_not]
    omega
  · have h2 : (1 : Int) ≤ n := by omega
    have h3 : (100 : Int) ≤ (2 ^ 63 - 1) / (n : Int) := by
      rw [Int.le_ediv_iff_mul_le (by omega)]
      omega
    omega
  · rw [Int.toNat_natCast]
    unfold Builtin.Str.tooLong
    have := sizeLine_eq
    simp
    omega
/-- list(text) -/
theorem call_listS (hc : X.calm = true) : CallR X (.type "list") (fun xs H Q => ∃ z : Str, xs = [.str z] ∧ z.cps.size ≤ 100000 ∧ ∀ q, H q = none → Q (.ref q) (upd H q (.lst (z.cps.toList.map fun c => V.str ⟨#[c]⟩)))) := by
  intro pins s σ H xs us Q I r h
  obtain ⟨z, e, hz, q⟩ := h
  subst e
  obtain ⟨u, eu, rx⟩ := vals1 r
  subst eu
  obtain ⟨t, rfl⟩ := rx
  have hz2 : z.cps.size ≤ sizeLine := by rw [sizeLine_eq]; omega
  refine call_list_str (I.ok.hd hc) z t (fun h' tk acc' c' hkeep hS hacc => ?_) hz2
  refine ⟨.ref s.heap.objs.size, upd H s.heap.objs.size (.lst (z.cps.toList.map fun c => V.str ⟨#[c]⟩)), I.laid hkeep (Nat.le_refl _) (show ObjOk X.prog X.w _ _ _ (.lst (z.cps.toList.map fun c => V.str ⟨#[c]⟩)) from ⟨?_, acc'.toList, c', ?_, ?_⟩), rfl, q _ (I.hok.fresh (Nat.le_refl _))⟩
  · rw [List.length_map, Array.length_toList]; exact hz2
  · refine vals_of_at (by rw [List.length_map, Array.length_toList, Array.length_toList, hacc.1]) fun j x w h1 h2 => ?_
    obtain ⟨c, u, hc, hi⟩ := hacc.2 j w (by rw [← Array.getElem?_toList]; exact h2)
    rw [List.getElem?_map, Array.getElem?_toList, hc] at h1
    cases h1
    rw [hi]
    exact ⟨_, rfl⟩
  · rw [Array.toArray_toList]; exact hS
end
end Rg

/-! a family of own errors: what is known of each class; errors of each class as values -/
namespace Rg
open PySem PySem.Spec PyProof.Rows L2
/-- a class whose __init__ keeps one argument -/
structure Kl1 (P : Program) (w : World) (K : PySem.W.Frag) (mg : Str → Option Value) (base : Heap) (C : Addr) (nm g : Str) : Prop where
  T : OexC K C
  ex : ∃ (fI : Addr) (fd : FuncData), PySem.W.findIn K (.ref C) "__init__" = some (some (.ref fI)) ∧ PySem.W.typeIn K (.ref fI) = some (.type "function") ∧ FnOk P w K mg base CX0 1 fI fd ["self", g] (spEr1 C g) ∧ Binds K fd ["self", g] []
  m : mg nm = some (.ref C)
  x : XfC K C
  n : PySem.W.findIn K (.ref C) g = some none
structure Kl2 (P : Program) (w : World) (K : PySem.W.Frag) (mg : Str → Option Value) (base : Heap) (C : Addr) (nm g h : Str) : Prop where
  T : OexC K C
  ex : ∃ (fI : Addr) (fd : FuncData), PySem.W.findIn K (.ref C) "__init__" = some (some (.ref fI)) ∧ PySem.W.typeIn K (.ref fI) = some (.type "function") ∧ FnOk P w K mg base CX0 1 fI fd ["self", g, h] (spEr2 C g h) ∧ Binds K fd ["self", g, h] []
  m : mg nm = some (.ref C)
  x : XfC K C
  n : PySem.W.findIn K (.ref C) g = some none
  n2 : PySem.W.findIn K (.ref C) h = some none
structure Kl0 (K : PySem.W.Frag) (mg : Str → Option Value) (C : Addr) (nm : Str) : Prop where
  q : PySem.W.excIn K C [.type "ValueError", .type "Exception", .type "BaseException", .type "object"] "ValueError.__new__" = true
  k : PySem.W.keepIn K (.ref C) = true
  m : mg nm = some (.ref C)
/-- the classes, one behind another, and the class above them -/
structure Fam (K : PySem.W.Frag) (cs : List Addr) (TE : Addr) : Prop where
  nd : (TE :: cs).Nodup
  mro : ∀ C ∈ cs, ∃ cd, PySem.W.clsIn K C = some cd ∧ cd.mro = [.ref C, .ref TE, .type "ValueError", .type "Exception", .type "BaseException", .type "object"]
  mroT : ∃ cd, PySem.W.clsIn K TE = some cd ∧ cd.mro = [.ref TE, .type "ValueError", .type "Exception", .type "BaseException", .type "object"]
  ty : ∀ C ∈ TE :: cs, PySem.W.typeIn K (.ref C) = some (.type "type")
  c : ∀ C ∈ TE :: cs, ExcC K C
section
variable {K : PySem.W.Frag} {cs : List Addr} {TE C D : Addr}
theorem kit_refs (hi : PySem.W.isClsIn K D = true) (ht : PySem.W.typeIn K (.ref D) = some (.type "type")) (hne : C ≠ D) {b : Bool} (q : PySem.W.subIn K (.ref C) (.ref D) = some b) : PySem.W.kitOne K (.ref C) (.ref D) = some b := by
  unfold PySem.W.kitOne
  have h1 : ¬ (Value.ref C == Value.ref D) = true := fun e => by
    have e' := beq_iff_eq.mp e
    injection e' with e'
    exact hne e'
  rw [if_neg h1]
  unfold PySem.W.kitCls
  show (if ((PySem.W.clsIn K D).isSome && PySem.W.typeIn K (.ref D) == some (.type "type")) = true then PySem.W.subIn K (.ref C) (.ref D) else none) = _
  rw [if_pos, q]
  rw [Bool.and_eq_true]
  exact ⟨hi, by rw [ht]; simp⟩
theorem kit_selfR : PySem.W.kitOne K (.ref C) (.ref C) = some true := by
  unfold PySem.W.kitOne
  rw [if_pos (beq_self_eq_true _)]
theorem sub_of {cd : ClassData} {l : List Value} {v : Value} (h : PySem.W.clsIn K C = some cd) (m : cd.mro = l) (hl : l ≠ []) : PySem.W.subIn K (.ref C) v = some (l.contains v) := by
  show PySem.W.mroIn K C v = _
  unfold PySem.W.mroIn
  rw [h]
  show (if cd.mro.isEmpty then none else some (cd.mro.contains v)) = _
  rw [m, if_neg]
  intro e
  exact hl (List.isEmpty_iff.mp e)
theorem Fam.cls (F : Fam K cs TE) (h : D ∈ TE :: cs) : PySem.W.isClsIn K D = true := by
  rcases List.mem_cons.mp h with z | z
  · obtain ⟨cd, h1, _⟩ := F.mroT
    rw [z]
    unfold PySem.W.isClsIn
    rw [h1]
    rfl
  · obtain ⟨cd, h1, _⟩ := F.mro D z
    unfold PySem.W.isClsIn
    rw [h1]
    rfl
theorem Fam.kit (F : Fam K cs TE) (h1 : C ∈ cs) (h2 : D ∈ cs) : PySem.W.kitOne K (.ref C) (.ref D) = some (decide (C = D)) := by
  by_cases e : C = D
  · subst e
    rw [kit_selfR, decide_eq_true rfl]
  · obtain ⟨cd, k1, k2⟩ := F.mro C h1
    have hDT : D ≠ TE := fun z => by
      have := (List.nodup_cons.mp F.nd).1
      rw [z] at h2
      exact this h2
    refine kit_refs (F.cls (List.mem_cons_of_mem _ h2)) (F.ty D (List.mem_cons_of_mem _ h2)) e ?_
    rw [sub_of k1 k2 (by simp), decide_eq_false e]
    simp [Ne.symm e, hDT]
theorem Fam.kitT (F : Fam K cs TE) (h1 : C ∈ cs) : PySem.W.kitOne K (.ref C) (.ref TE) = some true := by
  obtain ⟨cd, k1, k2⟩ := F.mro C h1
  have hCT : C ≠ TE := fun z => by
    have := (List.nodup_cons.mp F.nd).1
    rw [z] at h1
    exact this h1
  refine kit_refs (F.cls List.mem_cons_self) (F.ty TE List.mem_cons_self) hCT ?_
  rw [sub_of k1 k2 (by simp)]
  simp
theorem kit_VE {cd : ClassData} {l : List Value} (h : PySem.W.clsIn K C = some cd) (m : cd.mro = l) (hv : Value.type "ValueError" ∈ l) : PySem.W.kitOne K (.ref C) (.type "ValueError") = some true := by
  unfold PySem.W.kitOne
  have hne : ¬ (Value.ref C == Value.type "ValueError") = true := fun e => by cases beq_iff_eq.mp e
  rw [if_neg hne]
  unfold PySem.W.kitCls
  show (if PySem.W.kitMeta "ValueError" = true then PySem.W.subIn K (.ref C) (.type "ValueError") else none) = _
  rw [if_pos (by decide +kernel), sub_of h m (fun z => by rw [z] at hv; cases hv)]
  rw [List.contains_iff_mem.mpr hv]
theorem Fam.kitV (F : Fam K cs TE) (h1 : C ∈ cs) : PySem.W.kitOne K (.ref C) (.type "ValueError") = some true := by
  obtain ⟨cd, k1, k2⟩ := F.mro C h1
  exact kit_VE k1 k2 (by simp)
theorem Fam.kitTV (F : Fam K cs TE) : PySem.W.kitOne K (.ref TE) (.type "ValueError") = some true := by
  obtain ⟨cd, k1, k2⟩ := F.mroT
  exact kit_VE k1 k2 (by simp)
theorem Fam.kitTW (F : Fam K cs TE) (h1 : C ∈ cs) : PySem.W.kitOne K (.ref TE) (.ref C) = some false := by
  obtain ⟨cd, k1, k2⟩ := F.mroT
  have hCT : C ≠ TE := fun z => by
    have := (List.nodup_cons.mp F.nd).1
    rw [z] at h1
    exact this h1
  refine kit_refs (F.cls (List.mem_cons_of_mem _ h1)) (F.ty C (List.mem_cons_of_mem _ h1)) (Ne.symm hCT) ?_
  rw [sub_of k1 k2 (by simp)]
  simp [hCT]
end
/-- an error with these fields, or one without any -/
def erO (H : Hp) (a C : Addr) : Option (List (Str × V)) → Prop
  | none => H a = some (ExO (.ref C) a)
  | some fs => ∃ d, H a = some (exo a C (some d)) ∧ H d = some (exd d fs)
theorem erO.sm {H H' : Hp} {a C : Addr} {f : Option (List (Str × V))} (s : Same H H') (h : erO H a C f) : erO H' a C f := by
  cases f with
  | none => exact s _ _ h
  | some fs =>
    obtain ⟨d, h1, h2⟩ := h
    exact ⟨d, s _ _ h1, s _ _ h2⟩
theorem erO.at {H : Hp} {a C : Addr} {f : Option (List (Str × V))} (h : erO H a C f) : ErAt H a C := by
  cases f with
  | none => exact .inl h
  | some fs =>
    obtain ⟨d, h1, h2⟩ := h
    exact .inr ⟨d, fs, h1, h2⟩
inductive Er3 (H : Hp) : List Addr → List Addr → List (Option (List (Str × V))) → Prop
  | nil : Er3 H [] [] []
  | cons {a C : Addr} {f : Option (List (Str × V))} {as cs : List Addr} {fs : List (Option (List (Str × V)))} : erO H a C f → Er3 H as cs fs → Er3 H (a :: as) (C :: cs) (f :: fs)
theorem Er3.sm {H H' : Hp} (s : Same H H') {as cs : List Addr} {fs : List (Option (List (Str × V)))} (h : Er3 H as cs fs) : Er3 H' as cs fs := by
  induction h with
  | nil => exact .nil
  | cons h _ ih => exact .cons (h.sm s) ih
theorem Er3.get {H : Hp} {as cs : List Addr} {fs : List (Option (List (Str × V)))} (h : Er3 H as cs fs) {i : Nat} {a : Addr} (e : as[i]? = some a) : ∃ C f, cs[i]? = some C ∧ fs[i]? = some f ∧ erO H a C f := by
  induction h generalizing i with
  | nil => cases e
  | cons h _ ih =>
    cases i with
    | zero => cases e; exact ⟨_, _, rfl, rfl, h⟩
    | succ i => exact ih (by simpa using e)
theorem Er3.len {H : Hp} {as cs : List Addr} {fs : List (Option (List (Str × V)))} (h : Er3 H as cs fs) : as.length = cs.length := by
  induction h with
  | nil => rfl
  | cons _ _ ih => rw [List.length_cons, List.length_cons, ih]
theorem er_same {H : Hp} {a d : Addr} {o1 o2 o3 : HO} (na : H a = none) (nd : (upd H a o1) d = none) : Same H (upd (upd (upd H a o1) d o2) a o3) := fun b o e => by
  have hba := ne_of_none e na
  have hbd : b ≠ d := fun z => by
    subst z
    rw [upd_ne hba] at nd
    rw [nd] at e
    cases e
  rw [upd_ne hba, upd_ne hbd, upd_ne hba]
  exact e
theorem er_same2 {H : Hp} {a d : Addr} {o1 o2 o3 o4 : HO} (na : H a = none) (nd : (upd H a o1) d = none) : Same H (upd (upd (upd (upd H a o1) d o2) a o3) d o4) := fun b o e => by
  have hba := ne_of_none e na
  have hbd : b ≠ d := fun z => by
    subst z
    rw [upd_ne hba] at nd
    rw [nd] at e
    cases e
  rw [upd_ne hbd]
  exact er_same na nd b o e
end Rg

/-! three things of which a set is made: which of them is not as it must be -/
namespace Rg
open PySem PySem.Spec PyProof.Rows L2 Mach
def Tg.isW (t : Tg) : Bool := t.isI && !t.isB
/-- a number below n -/
def numQ (n : Nat) : Tg → Bool
  | .dat (.int i) => decide (0 ≤ i) && decide (i < (n : Int))
  | _ => false
def sgQ : Tg → Bool
  | .dat (.str z) => sgB z
  | _ => false
def nmD (n : Nat) (d : PyData) : Bool := numQ n (.dat d)
def rowQ (k n : Nat) : PyData → Bool
  | .list es => decide (es.length = k) && es.all (nmD n)
  | _ => false
def rowsQ (k : Nat) : Tg → Bool
  | .dat (.list ds) => !ds.isEmpty && ds.all (rowQ k ds.length)
  | _ => false
def endsQ (n : Nat) : Tg → Bool
  | .dat (.list ds) => ds.all (nmD n)
  | _ => false
def Tg.wide : Tg → Nat
  | .dat (.str z) => z.cps.size
  | _ => 0
def Tg.many : Tg → Nat
  | .dat (.list ds) => ds.length
  | _ => 0
/-- the first of them that is not as it must be -/
def dueQ (a b c : Tg) : Option Nat := if sgQ a = true then (if rowsQ a.wide b = true then (if endsQ b.many c = true then none else some 2) else some 1) else some 0
/-- not too great to be walked -/
def Tg.few : Tg → Prop
  | .dat d => d.bulk ≤ 100000
  | .own => True
def spIsIntQ (K : PySem.W.Frag) (C : Addr) : Sp := fun vs H Q _ => ∃ (v : V) (t : Tg), vs = [v] ∧ Tq K C H v t ∧ Q (.bl t.isW) H
def spIsNumQ (K : PySem.W.Frag) (C : Addr) : Sp := fun vs H Q _ => ∃ (n : Nat) (v : V) (t : Tg), vs = [nV n, v] ∧ Tq K C H v t ∧ Q (.bl (numQ n t)) H
def spIsSgQ (K : PySem.W.Frag) (C : Addr) : Sp := fun vs H Q _ => ∃ (v : V) (t : Tg), vs = [v] ∧ Tq K C H v t ∧ t.few ∧ ∀ H', Same H H' → Q (.bl (sgQ t)) H'
def spAreRQ (K : PySem.W.Frag) (C : Addr) : Sp := fun vs H Q _ => ∃ (n : Nat) (v : V) (t : Tg), vs = [nV n, v] ∧ Tq K C H v t ∧ t.few ∧ ∀ H', Same H H' → Q (.bl (rowsQ n t)) H'
theorem Tg.isW_num {t : Tg} (h : t.isW = true) : ∃ i, t = .dat (.int i) := by
  cases t with
  | own => cases h
  | dat d => cases d <;> first | exact ⟨_, rfl⟩ | cases h
theorem numQ_isW {n : Nat} {t : Tg} (h : t.isW = false) : numQ n t = false := by
  cases t with
  | own => rfl
  | dat d => cases d <;> first | rfl | cases h
/-- what stands for a number is one -/
theorem Tq.int {K : PySem.W.Frag} {C : Addr} {H : Hp} {v : V} {i : Int} (h : Tq K C H v (.dat (.int i))) : v = .int i := by
  cases h with
  | dat h => cases h; rfl
theorem Tq.str {K : PySem.W.Frag} {C : Addr} {H : Hp} {v : V} {z : Str} (h : Tq K C H v (.dat (.str z))) : v = .str z := by
  cases h with
  | dat h => cases h; rfl
theorem Tq.lst {K : PySem.W.Frag} {C : Addr} {H : Hp} {v : V} {ds : List PyData} (h : Tq K C H v (.dat (.list ds))) : ∃ a xs, v = .ref a ∧ H a = some (.lst xs) ∧ DqAll K H xs ds := by
  cases h with
  | dat h => cases h with | lst h1 h2 => exact ⟨_, _, rfl, h1, h2⟩
theorem Tg.isS_str {t : Tg} (h : t.isS = true) : ∃ z, t = .dat (.str z) := by
  cases t with
  | own => cases h
  | dat d => cases d <;> first | exact ⟨_, rfl⟩ | cases h
theorem Tg.isL_list {t : Tg} (h : t.isL = true) : ∃ ds, t = .dat (.list ds) := by
  cases t with
  | own => cases h
  | dat d => cases d <;> first | exact ⟨_, rfl⟩ | cases h
theorem sgQ_no {t : Tg} (h : t.isS = false) : sgQ t = false := by
  cases t with
  | own => rfl
  | dat d => cases d <;> first | rfl | cases h
theorem rowsQ_no {k : Nat} {t : Tg} (h : t.isL = false) : rowsQ k t = false := by
  cases t with
  | own => rfl
  | dat d => cases d <;> first | rfl | cases h
theorem endsQ_no {k : Nat} {t : Tg} (h : t.isL = false) : endsQ k t = false := by
  cases t with
  | own => rfl
  | dat d => cases d <;> first | rfl | cases h
theorem few_str {z : Str} (h : Tg.few (.dat (.str z))) : z.cps.size ≤ 100000 := by
  have h' : PyData.bulk (.str z) ≤ 100000 := h
  simpa only [PyData.bulk] using h'
theorem few_list {ds : List PyData} (h : Tg.few (.dat (.list ds))) : ds.length ≤ 100000 ∧ ∀ d ∈ ds, Tg.few (.dat d) := by
  have h' : PyData.bulk (.list ds) ≤ 100000 := h
  simp only [PyData.bulk] at h'
  exact ⟨Nat.le_trans (bulkAll_len ds) h', fun d hd => Nat.le_trans (bulkAll_mem ds d hd) h'⟩
theorem cut1_len (z : Str) (h : 1 ≤ z.cps.size) : (cutS z (some 1) none).cps.size = z.cps.size - 1 := by
  unfold cutS
  rw [HT.sIx_none, show (some (1 : Int)) = some ((1 : Nat) : Int) from rfl, HT.sIx_nat, Nat.min_eq_left (show 1 ≤ z.length from h)]
  have e : z.length = z.cps.size := rfl
  simp only [List.size_toArray, List.length_take, List.length_drop, Array.length_toList, e]
  omega
/-- rising numbers by neighbours -/
theorem rising_iff : ∀ l : List Nat, l.Pairwise (· < ·) ↔ ∀ (i c d : Nat), l[i]? = some c → l[i + 1]? = some d → c < d := by
  intro l
  induction l with
  | nil => exact ⟨fun _ _ _ _ h => absurd h (by simp), fun _ => List.Pairwise.nil⟩
  | cons a l ih =>
    rw [List.pairwise_cons, ih]
    constructor
    · rintro ⟨h1, h2⟩ i c d hc hd
      cases i with
      | zero =>
        have : a = c := by simpa using hc
        subst this
        exact h1 d (List.mem_of_getElem? (i := 0) (by simpa using hd))
      | succ i => exact h2 i c d (by simpa using hc) (by simpa using hd)
    · intro h
      have h2 : ∀ (i c d : Nat), l[i]? = some c → l[i + 1]? = some d → c < d := fun i c d hc hd => h (i + 1) c d (by simpa using hc) (by simpa using hd)
      refine ⟨fun b hb => ?_, h2⟩
      obtain ⟨i, hi⟩ := List.getElem?_of_mem hb
      induction i generalizing b with
      | zero => exact h 0 a b rfl (by simpa using hi)
      | succ i ihi =>
        have hlt : i < l.length := by have := (List.getElem?_eq_some_iff.mp hi).1; omega
        have hm : l[i]? = some l[i] := List.getElem?_eq_getElem hlt
        exact Nat.lt_trans (ihi l[i] (List.getElem_mem hlt) hm) (h2 i _ _ hm hi)
/-! ### the things of which a set is made -/
theorem nmD_int {n : Nat} {d : PyData} (h : nmD n d = true) : ∃ k : Nat, d = .int (k : Int) ∧ k < n := by
  cases d with
  | int i =>
    have h' : (decide (0 ≤ i) && decide (i < (n : Int))) = true := h
    simp only [Bool.and_eq_true, decide_eq_true_eq] at h'
    refine ⟨i.toNat, ?_, by omega⟩
    rw [Int.toNat_of_nonneg h'.1]
  | _ => cases h
theorem all_nmD {n : Nat} : ∀ {es : List PyData}, es.all (nmD n) = true → ∃ ks : List Nat, es = (ks.map fun k : Nat => PyData.int (k : Int)) ∧ ∀ k ∈ ks, k < n
  | [], _ => ⟨[], rfl, fun _ h => nomatch h⟩
  | d :: es, h => by
    rw [List.all_cons, Bool.and_eq_true] at h
    obtain ⟨k, rfl, hk⟩ := nmD_int h.1
    obtain ⟨ks, rfl, hks⟩ := all_nmD h.2
    exact ⟨k :: ks, rfl, fun x hx => (List.mem_cons.mp hx).elim (fun e => e ▸ hk) (hks x)⟩
theorem rowQ_row {n m : Nat} {d : PyData} (h : rowQ n m d = true) : ∃ r : List Nat, d = dNs r ∧ r.length = n ∧ ∀ x ∈ r, x < m := by
  cases d with
  | list es =>
    have h' : (decide (es.length = n) && es.all (nmD m)) = true := h
    simp only [Bool.and_eq_true, decide_eq_true_eq] at h'
    obtain ⟨ks, rfl, hks⟩ := all_nmD h'.2
    exact ⟨ks, rfl, by simpa using h'.1, hks⟩
  | _ => cases h
theorem all_rowQ {n m : Nat} : ∀ {ds : List PyData}, ds.all (rowQ n m) = true → ∃ R : List (List Nat), ds = R.map dNs ∧ ∀ r ∈ R, r.length = n ∧ ∀ x ∈ r, x < m
  | [], _ => ⟨[], rfl, fun _ h => nomatch h⟩
  | d :: ds, h => by
    rw [List.all_cons, Bool.and_eq_true] at h
    obtain ⟨r, rfl, h1, h2⟩ := rowQ_row h.1
    obtain ⟨R, rfl, hR⟩ := all_rowQ h.2
    exact ⟨r :: R, rfl, fun x hx => (List.mem_cons.mp hx).elim (fun e => e ▸ ⟨h1, h2⟩) (hR x)⟩
theorem rowOf_mem {R : List (List Nat)} {q : Nat} (h : q < R.length) : rowOf R q ∈ R := by
  unfold rowOf
  rw [List.getD_eq_getElem?_getD, List.getElem?_eq_getElem h]
  exact List.getElem_mem h
/-- what is as it must be is a machine -/
structure GoodM (a b c : Tg) (z : Str) (R : List (List Nat)) (E : List Nat) : Prop where
  ea : a = .dat (.str z)
  eb : b = .dat (dRs R)
  ec : c = .dat (dNs E)
  sg : SgOk z
  mok : Mok z.cps.size R
  pos : 0 < R.length
  lt : ∀ x ∈ E, x < R.length
theorem due_none {a b c : Tg} (h : dueQ a b c = none) : ∃ z R E, GoodM a b c z R E := by
  unfold dueQ at h
  by_cases h1 : sgQ a = true
  case neg => rw [if_neg h1] at h; cases h
  rw [if_pos h1] at h
  by_cases h2 : rowsQ a.wide b = true
  case neg => rw [if_neg h2] at h; cases h
  rw [if_pos h2] at h
  by_cases h3 : endsQ b.many c = true
  case neg => rw [if_neg h3] at h; cases h
  obtain ⟨z, rfl⟩ : ∃ z, a = .dat (.str z) := by
    cases a with
    | own => cases h1
    | dat d => cases d <;> first | exact ⟨_, rfl⟩ | cases h1
  obtain ⟨ds, rfl⟩ : ∃ ds, b = .dat (.list ds) := by
    cases b with
    | own => cases h2
    | dat d => cases d <;> first | exact ⟨_, rfl⟩ | cases h2
  obtain ⟨es, rfl⟩ : ∃ es, c = .dat (.list es) := by
    cases c with
    | own => cases h3
    | dat d => cases d <;> first | exact ⟨_, rfl⟩ | cases h3
  have h2' : (!ds.isEmpty && ds.all (rowQ z.cps.size ds.length)) = true := h2
  rw [Bool.and_eq_true] at h2'
  have h3' : es.all (nmD ds.length) = true := h3
  obtain ⟨R, eR, hR⟩ := all_rowQ h2'.2
  obtain ⟨E, eE, hE⟩ := all_nmD h3'
  have hl : ds.length = R.length := by rw [eR, List.length_map]
  rw [hl] at hR hE
  refine ⟨z, R, E, rfl, by rw [eR]; rfl, by rw [eE]; rfl, sgOk_of h1, ⟨fun q hq => (hR _ (rowOf_mem hq)).1, fun q hq x hx => (hR _ (rowOf_mem hq)).2 x hx⟩, ?_, hE⟩
  rw [← hl]
  cases ds with
  | nil => cases h2'.1
  | cons => exact Nat.succ_pos _
section
variable {K : PySem.W.Frag} {H : Hp} {C : Addr}
theorem nums_dq : ∀ {E : List Nat} {xs : List V}, DqAll K H xs (E.map fun n : Nat => PyData.int (n : Int)) → xs = nVs E
  | [], _, h => by cases h; rfl
  | e :: E, _, h => by
    cases h with
    | cons h1 h2 =>
      cases h1
      rw [nums_dq h2]
      rfl
theorem dNs_dq {v : V} {E : List Nat} (h : Dq K H v (dNs E)) : ∃ e, v = .ref e ∧ H e = some (.lst (nVs E)) := by
  cases h with
  | lst h1 h2 => exact ⟨_, rfl, by rw [h1, nums_dq h2]⟩
theorem rows_dqAll : ∀ {R : List (List Nat)} {xs : List V}, DqAll K H xs (R.map dNs) → ∃ as : List Addr, xs = as.map V.ref ∧ as.length = R.length ∧ ∀ (i : Nat) (x : Addr), as[i]? = some x → H x = some (.lst (nVs (rowOf R i)))
  | [], _, h => by cases h; exact ⟨[], rfl, rfl, fun i x hx => by simp at hx⟩
  | r :: R, _, h => by
    cases h with
    | cons h1 h2 =>
      obtain ⟨e, rfl, he⟩ := dNs_dq h1
      obtain ⟨as, rfl, hl, hr⟩ := rows_dqAll h2
      refine ⟨e :: as, rfl, by rw [List.length_cons, List.length_cons, hl], fun i x hx => ?_⟩
      cases i with
      | zero => cases hx; exact he
      | succ i => exact hr i x hx
theorem dRs_dq {v : V} {R : List (List Nat)} (h : Dq K H v (dRs R)) : ∃ a xs, v = .ref a ∧ RowsAt H a xs R := by
  cases h with
  | lst h1 h2 =>
    obtain ⟨as, e, hl, hr⟩ := rows_dqAll h2
    exact ⟨_, as, rfl, by rw [h1, e], hl, hr⟩
end
end Rg

/-! data alone: of which kind they are -/
namespace Rg
open PySem PySem.Spec PyProof.Rows L2
def Tg.isD : Tg → Bool
  | .dat (.dict _) => true
  | _ => false
/-- data, not a set -/
def Tq0 (K : PySem.W.Frag) (H : Hp) (v : V) (t : Tg) : Prop := ∃ d, t = .dat d ∧ Dq K H v d
section
variable {K : PySem.W.Frag} {H H' : Hp} {v : V} {t : Tg}
theorem Tq0.mk {d : PyData} (h : Dq K H v d) : Tq0 K H v (.dat d) := ⟨d, rfl, h⟩
theorem Tq0.sm (s : Same H H') (h : Tq0 K H v t) : Tq0 K H' v t := by
  obtain ⟨d, rfl, h⟩ := h
  exact ⟨d, rfl, h.sm s⟩
theorem Tq0.tq {C : Addr} (h : Tq0 K H v t) : Tq K C H v t := by
  obtain ⟨d, rfl, h⟩ := h
  exact .dat h
theorem Tq0.int {i : Int} (h : Tq0 K H v (.dat (.int i))) : v = .int i := (h.tq (C := 0)).int
theorem Tq0.str {z : Str} (h : Tq0 K H v (.dat (.str z))) : v = .str z := (h.tq (C := 0)).str
theorem Tq0.lst {ds : List PyData} (h : Tq0 K H v (.dat (.list ds))) : ∃ a xs, v = .ref a ∧ H a = some (.lst xs) ∧ DqAll K H xs ds := (h.tq (C := 0)).lst
theorem Tq0.dct {kvs : List (PyData × PyData)} (h : Tq0 K H v (.dat (.dict kvs))) : ∃ (a : Addr) (ks : List (Key × V)) (ps : List (Key × PyData)), v = .ref a ∧ H a = some (.dK ks) ∧ DqKv K H ks ps ∧ kvs = ps.map fun p => (kyD p.1, p.2) := by
  obtain ⟨d, e, h⟩ := h
  cases h with
  | dct h1 h2 => cases e; exact ⟨_, _, _, rfl, h1, h2, rfl⟩
  | _ => cases e
theorem Tq0.qI (h : Tq0 K H v t) : ∃ cv ty : Value, ClsV (.ty "int") cv ∧ TyX K H v ty ∧ PySem.W.kitOne K ty cv = some t.isI := by
  obtain ⟨d, rfl, h⟩ := h
  refine ⟨_, _, .ty "int", h.ty, ?_⟩
  have k_NoneType : kitB "NoneType" "int" = some false := by decide +kernel
  have k_bool : kitB "bool" "int" = some true := by decide +kernel
  have k_int : kitB "int" "int" = some true := by decide +kernel
  have k_str : kitB "str" "int" = some false := by decide +kernel
  have k_list : kitB "list" "int" = some false := by decide +kernel
  have k_tuple : kitB "tuple" "int" = some false := by decide +kernel
  have k_dict : kitB "dict" "int" = some false := by decide +kernel
  cases d
  · exact kit_ty k_NoneType
  · exact kit_ty k_bool
  · exact kit_ty k_int
  · exact kit_ty k_str
  · exact kit_ty k_list
  · exact kit_ty k_tuple
  · exact kit_ty k_dict
theorem Tq0.qB (h : Tq0 K H v t) : ∃ cv ty : Value, ClsV (.ty "bool") cv ∧ TyX K H v ty ∧ PySem.W.kitOne K ty cv = some t.isB := by
  obtain ⟨d, rfl, h⟩ := h
  refine ⟨_, _, .ty "bool", h.ty, ?_⟩
  have k_NoneType : kitB "NoneType" "bool" = some false := by decide +kernel
  have k_bool : kitB "bool" "bool" = some true := by decide +kernel
  have k_int : kitB "int" "bool" = some false := by decide +kernel
  have k_str : kitB "str" "bool" = some false := by decide +kernel
  have k_list : kitB "list" "bool" = some false := by decide +kernel
  have k_tuple : kitB "tuple" "bool" = some false := by decide +kernel
  have k_dict : kitB "dict" "bool" = some false := by decide +kernel
  cases d
  · exact kit_ty k_NoneType
  · exact kit_ty k_bool
  · exact kit_ty k_int
  · exact kit_ty k_str
  · exact kit_ty k_list
  · exact kit_ty k_tuple
  · exact kit_ty k_dict
theorem Tq0.qS (h : Tq0 K H v t) : ∃ cv ty : Value, ClsV (.ty "str") cv ∧ TyX K H v ty ∧ PySem.W.kitOne K ty cv = some t.isS := by
  obtain ⟨d, rfl, h⟩ := h
  refine ⟨_, _, .ty "str", h.ty, ?_⟩
  have k_NoneType : kitB "NoneType" "str" = some false := by decide +kernel
  have k_bool : kitB "bool" "str" = some false := by decide +kernel
  have k_int : kitB "int" "str" = some false := by decide +kernel
  have k_str : kitB "str" "str" = some true := by decide +kernel
  have k_list : kitB "list" "str" = some false := by decide +kernel
  have k_tuple : kitB "tuple" "str" = some false := by decide +kernel
  have k_dict : kitB "dict" "str" = some false := by decide +kernel
  cases d
  · exact kit_ty k_NoneType
  · exact kit_ty k_bool
  · exact kit_ty k_int
  · exact kit_ty k_str
  · exact kit_ty k_list
  · exact kit_ty k_tuple
  · exact kit_ty k_dict
theorem Tq0.qL (h : Tq0 K H v t) : ∃ cv ty : Value, ClsV (.ty "list") cv ∧ TyX K H v ty ∧ PySem.W.kitOne K ty cv = some t.isL := by
  obtain ⟨d, rfl, h⟩ := h
  refine ⟨_, _, .ty "list", h.ty, ?_⟩
  have k_NoneType : kitB "NoneType" "list" = some false := by decide +kernel
  have k_bool : kitB "bool" "list" = some false := by decide +kernel
  have k_int : kitB "int" "list" = some false := by decide +kernel
  have k_str : kitB "str" "list" = some false := by decide +kernel
  have k_list : kitB "list" "list" = some true := by decide +kernel
  have k_tuple : kitB "tuple" "list" = some false := by decide +kernel
  have k_dict : kitB "dict" "list" = some false := by decide +kernel
  cases d
  · exact kit_ty k_NoneType
  · exact kit_ty k_bool
  · exact kit_ty k_int
  · exact kit_ty k_str
  · exact kit_ty k_list
  · exact kit_ty k_tuple
  · exact kit_ty k_dict
theorem Tq0.qD (h : Tq0 K H v t) : ∃ cv ty : Value, ClsV (.ty "dict") cv ∧ TyX K H v ty ∧ PySem.W.kitOne K ty cv = some t.isD := by
  obtain ⟨d, rfl, h⟩ := h
  refine ⟨_, _, .ty "dict", h.ty, ?_⟩
  have k_NoneType : kitB "NoneType" "dict" = some false := by decide +kernel
  have k_bool : kitB "bool" "dict" = some false := by decide +kernel
  have k_int : kitB "int" "dict" = some false := by decide +kernel
  have k_str : kitB "str" "dict" = some false := by decide +kernel
  have k_list : kitB "list" "dict" = some false := by decide +kernel
  have k_tuple : kitB "tuple" "dict" = some false := by decide +kernel
  have k_dict : kitB "dict" "dict" = some true := by decide +kernel
  cases d
  · exact kit_ty k_NoneType
  · exact kit_ty k_bool
  · exact kit_ty k_int
  · exact kit_ty k_str
  · exact kit_ty k_list
  · exact kit_ty k_tuple
  · exact kit_ty k_dict
end
def spIsInt0 (K : PySem.W.Frag) : Sp := fun vs H Q _ => ∃ (v : V) (t : Tg), vs = [v] ∧ Tq0 K H v t ∧ Q (.bl t.isW) H
def spIsNum0 (K : PySem.W.Frag) : Sp := fun vs H Q _ => ∃ (n : Nat) (v : V) (t : Tg), vs = [nV n, v] ∧ Tq0 K H v t ∧ Q (.bl (numQ n t)) H
def spIsSg0 (K : PySem.W.Frag) : Sp := fun vs H Q _ => ∃ (v : V) (t : Tg), vs = [v] ∧ Tq0 K H v t ∧ t.few ∧ ∀ H', Same H H' → Q (.bl (sgQ t)) H'
theorem Tg.isD_dict {t : Tg} (h : t.isD = true) : ∃ kvs, t = .dat (.dict kvs) := by
  cases t with
  | own => cases h
  | dat d => cases d <;> first | exact ⟨_, rfl⟩ | cases h
end Rg

/-! sorted(set(text)) -/
namespace Rg
open PySem PySem.Spec PyProof.Rows L2 PySem.Froz
def sOf (e : Int × Value) : Str := match e.2 with | .str k _ => k | _ => Str.empty
/-- the payload of a set of texts l, with what its walk asks -/
structure TxR (P : Program) (w : World) (D : SD) (l : List Str) : Prop where
  ok : TxOk P w D l
  pm : (D.1.toList.map sOf).Perm l
  vs : ∀ e ∈ D.1.toList, ∃ k tk, e.2 = Value.str k tk
  ris : Ris D.2.2.place.toList
  led : w.params.followText "set-order" = true ∨ D.2.2.led = true
  nd : l.Nodup
section
variable {P : Program} {w : World} {A : Around} {E : Value → Shared → Prop} {s : Shared}
theorem tail_keeps {ep : Nat} {es : Array (Int × Value)} {t : SetTable} {b : Bool} (r : Ris t.place.toList) : Ris (tailTx ep es t b).2.2.place.toList ∧ (tailTx ep es t b).2.2.led = t.led ∧ (tailTx ep es t b).1.toList.Perm es.toList := by
  unfold tailTx
  by_cases c : (!b && t.tooFull) = true
  · rw [if_pos c]
    exact ⟨relayAll_ris _ _ _, relayAll_led _ _ _, relayAll_perm _ _ _⟩
  · rw [if_neg c]
    exact ⟨r, rfl, .refl _⟩
theorem TxR.more {D : SD} {l : List Str} {k : Str} (u : Tok) (R : TxR P w D l) (hk : k ∉ l) : TxR P w (addTx (hashStr w k) (.str k u) D) (k :: l) := by
  obtain ⟨es, ep, t⟩ := D
  have r1 := layNew_ris t es (hashStr w k) (.str k u) R.ris
  have r2 := layNew_led t es (hashStr w k) (.str k u)
  have r3 := layNew_perm t es (hashStr w k) (.str k u)
  have key : ∀ t2 : SetTable, t2.place = (layNew t es (hashStr w k) (.str k u)).2.1.place → t2.led = (layNew t es (hashStr w k) (.str k u)).2.1.led →
      Ris (tailTx ep (layNew t es (hashStr w k) (.str k u)).1 t2 (layNew t es (hashStr w k) (.str k u)).2.2.1).2.2.place.toList ∧ (tailTx ep (layNew t es (hashStr w k) (.str k u)).1 t2 (layNew t es (hashStr w k) (.str k u)).2.2.1).2.2.led = t.led ∧
      (tailTx ep (layNew t es (hashStr w k) (.str k u)).1 t2 (layNew t es (hashStr w k) (.str k u)).2.2.1).1.toList.Perm (es.push (hashStr w k, .str k u)).toList := fun t2 e1 e2 => by
    obtain ⟨a, b, c⟩ := tail_keeps (ep := ep) (es := (layNew t es (hashStr w k) (.str k u)).1) (t := t2) (b := (layNew t es (hashStr w k) (.str k u)).2.2.1) (by rw [e1]; exact r1)
    exact ⟨a, by rw [b, e2, r2], c.trans r3⟩
  have hadd : Ris (addTx (hashStr w k) (.str k u) (es, ep, t)).2.2.place.toList ∧ (addTx (hashStr w k) (.str k u) (es, ep, t)).2.2.led = t.led ∧ (addTx (hashStr w k) (.str k u) (es, ep, t)).1.toList.Perm (es.push (hashStr w k, .str k u)).toList := by
    unfold addTx
    refine key _ ?_ ?_
    · show (if _ then _ else _ : SetTable).place = _
      split <;> rfl
    · show (if _ then _ else _ : SetTable).led = _
      split <;> rfl
  refine ⟨add_ok u R.ok, ?_, fun e he => ?_, hadd.1, ?_, List.nodup_cons.mpr ⟨hk, R.nd⟩⟩
  · refine (hadd.2.2.map sOf).trans ?_
    rw [Array.toList_push, List.map_append]
    exact (List.perm_append_comm).trans (R.pm.cons k)
  · have := hadd.2.2.mem_iff.mp he
    rw [Array.toList_push] at this
    rcases List.mem_append.mp this with z | z
    · exact R.vs e z
    · rw [List.mem_singleton.mp z]
      exact ⟨k, u, rfl⟩
  · rw [hadd.2.1]
    exact R.led
/-- a text put into the set, new or not -/
theorem addT {a : Addr} {D : SD} {l : List Str} {k : Str} {u : Tok} {Q : Bool → Shared → Prop} (ho : s.heap.get? a = some (sObj "set" D)) (R : TxR P w D l) (room : l.length + 1 < scanBound)
    (h : ∀ (b : Bool) (h' : Heap) (D' : SD) (l' : List Str), TxR P w D' l' → (∀ y, y ∈ l' ↔ y = k ∨ y ∈ l) → l'.length ≤ l.length + 1 → h'.get? a = some (sObj "set" D') → (∀ b, b ≠ a → h'.get? b = s.heap.get? b) → h'.objs.size = s.heap.objs.size → Q b { s with heap := h' }) :
    wpAny (model P w) A (setAddHashed a (.str k u) (hashStr w k)) Q E s := by
  by_cases hk : k ∈ l
  · obtain ⟨es, ep, t⟩ := D
    have hd : (sObj "set" (es, ep, t)).data = .set es ep t := rfl
    have hsz : es.size = l.length := R.ok.sz
    obtain ⟨e, he1, he2⟩ := (R.ok.mem k).mp hk
    unfold setAddHashed setAddHashedIn
    refine wpAny_holding (wpAny_bind (wpAny_setState_of ho hd R.ok.fit ?_))
    dsimp only
    rw [byScan_of rfl (show es.size < scanBound by omega) R.ok.el]
    simp only [↓reduceIte]
    unfold setAddByScan
    refine wpAny_bind (wpAny_bind (wpAny_rule (wpAny_bind (wpAny_setScan_of (knd := strKind P w) (k := k) (is_str k u) ho hd R.ok.fit R.ok.el ?_))))
    cases hr : List.findIdx? (fun e => (strKind P w).is k e.2) es.toList with
    | none =>
      have := List.findIdx?_eq_none_iff.mp hr e he1
      rw [he2] at this
      cases this
    | some j =>
      refine wpAny_pure (wpAny_pure ?_)
      exact h false s.heap (es, ep, t) l R (fun y => ⟨.inr, fun z => z.elim (fun q => by rw [q]; exact hk) id⟩) (by omega) ho (fun _ _ => rfl) rfl
  · refine add_x ho R.ok hk (by omega) ?_
    exact h true _ _ (k :: l) (R.more u hk) (fun y => List.mem_cons) (by rw [List.length_cons]; exact Nat.le_refl _) (get_upd _ ho rfl) (fun b hb => Heap.get?_update_other _ _ (Ne.symm hb)) (Heap.size_after_update ..)
end
section
variable {P : Program} {w : World} {A : Around} {R : Result → Shared → Prop}
/-- the signs of a text, one behind another, into the set -/
theorem upd_loop {a I : Addr} {fp wr : List Addr} {x : Str} {St : Nat → Heap → Prop} (W : Walks P w A.in1 I fp wr x.cps.size (SignAt x) St) (haf : a ∉ fp) (hsz : x.cps.size + 1 < scanBound) :
    ∀ (k i : Nat) (s : Shared) (D : SD) (l : List Str), x.cps.size - i = k → i ≤ x.cps.size → St i s.heap → s.heap.get? a = some (sObj "set" D) → TxR P w D l → l.length ≤ i → (∀ y, y ∈ l ↔ ∃ j c, j < i ∧ x.cps[j]? = some c ∧ y = sing c) →
      (∀ (s' : Shared) (D' : SD) (l' : List Str), TxR P w D' l' → (∀ y, y ∈ l' ↔ ∃ j c, j < x.cps.size ∧ x.cps[j]? = some c ∧ y = sing c) → l'.length ≤ x.cps.size → s'.heap.get? a = some (sObj "set" D') → (∀ b o, b ≠ a → b ∉ wr → s.heap.get? b = some o → s'.heap.get? b = some o) → s'.gens = s.gens → s'.os = s.os → s'.drawn = s.drawn → R (.ok (.ret .none)) s') →
      codeAny (model P w) A (.builtin "set.update.loop" ⟨[.ref a, .ref I], []⟩) R s := by
  have haw : a ∉ wr := fun z => haf (W.sub _ z)
  intro k
  induction k with
  | zero =>
    intro i s D l hk hi hst ho hR hli hl hQ
    have ei : i = x.cps.size := by omega
    subst ei
    refine codeAny_builtin PyProof.Rows.F.entry_set_update_loop ?_
    rw [Around.under_plainId PyProof.Rows.F.plain_set_update_loop _]
    refine wpAny_bind (m := pyNext (.ref I)) (W.done s _ _ hst fun h' tk kp => wpAny_pure ?_)
    exact hQ _ D l hR hl hli (kp _ _ haw ho) (fun b o _ hb e => kp _ _ hb e) rfl rfl rfl
  | succ k ih =>
    intro i s D l hk hi hst ho hR hli hl hQ
    refine codeAny_builtin PyProof.Rows.F.entry_set_update_loop ?_
    rw [Around.under_plainId PyProof.Rows.F.plain_set_update_loop _]
    refine wpAny_bind (m := pyNext (.ref I)) (W.item i s _ _ (by omega) hst fun v h' tk hv hst' kp => ?_)
    obtain ⟨c, u, hc, rfl⟩ := hv
    refine wpAny_bind (m := holding [Value.str (sing c) u] (setAdd a (.str (sing c) u))) (wpAny_holding ?_)
    unfold setAdd
    refine wpAny_holding (wpAny_bind ((strKind P w).pyHash (k := sing c) (is_str _ _) ?_))
    refine addT (s := { s with heap := h', toks := tk + 1 }) (kp _ _ haw ho) hR (by omega) fun b h2 D2 l2 R2 m2 n2 o2 k2 z2 => ?_
    refine wpAny_pure ⟨plainId_quiet PyProof.Rows.F.plain_set_update_loop _, ih (i + 1) _ D2 l2 (by omega) (by omega) (W.frame _ _ _ hst' fun b hb o e => ?_) o2 R2 (by omega) (fun y => ?_) fun s' D' l' r1 r2 r3 r4 r5 r6 r7 r8 => ?_⟩
    · show h2.get? b = some o
      rw [k2 b (fun z => haf (z ▸ hb))]
      exact e
    · rw [m2 y, hl y]
      constructor
      · rintro (rfl | ⟨j, c', hj, h1, h2'⟩)
        · exact ⟨i, c, by omega, hc, rfl⟩
        · exact ⟨j, c', by omega, h1, h2'⟩
      · rintro ⟨j, c', hj, h1, h2'⟩
        by_cases e : j = i
        · subst e
          rw [hc] at h1
          cases h1
          exact .inl h2'
        · exact .inr ⟨j, c', by omega, h1, h2'⟩
    · refine hQ s' D' l' r1 r2 r3 r4 (fun b o hb hw e => r5 b o hb hw ?_) r6 r7 r8
      show h2.get? b = some o
      rw [k2 b hb]
      exact kp _ _ hw e
end
end Rg

namespace Rg
open PySem PySem.Spec PyProof.Rows L2 PySem.Froz
def frS (w : World) : Obj := { cls := .type "set", dict := none, data := .set #[] 0 (.fresh 0 0 (!w.params.followText "set-order")) }
section
variable {P : Program} {w : World} {A : Around} {E : Value → Shared → Prop} {s : Shared}
theorem txR_fresh : TxR P w (#[], 0, .fresh 0 0 (!w.params.followText "set-order")) [] := by
  refine ⟨TxOk.nil (by rfl), .nil, (fun e he => by simp at he), List.Pairwise.nil, ?_, List.nodup_nil⟩
  show _ ∨ (!w.params.followText "set-order") = true
  cases w.params.followText "set-order"
  · exact .inr rfl
  · exact .inl rfl
/-- a new set, whatever it is to be made of -/
theorem new1 (v : Value) {G : Value → Shared → Prop} (g : G (.ref s.heap.objs.size) { s with heap := s.heap.push (frS w) }) : codeAny (model P w) A (.call (.builtin "set.__new__") ⟨[.type "set", v], []⟩) (wants G E) s := by
  refine codeAny_of_tree ?_
  refine wpAny_bind (m := checkBuiltinCall "set.__new__" ⟨[.type "set", v], []⟩) (wpAny_of_eq (PySem.F.newCall_set_1 v) ?_)
  refine wpAny_pure ⟨plainId_quiet PySem.F.plain_set_new _, codeAny_builtin PySem.F.entry_set_new ?_⟩
  rw [Around.under_plainId PySem.F.plain_set_new _]
  unfold Builtin.«set.__new__» Builtin.Frozenset.newClass
  have q0 := sub_set_self
  obtain ⟨hp, gg, dd, tk, os⟩ := s
  dsimp only
  wp_walk
  refine wpAny_askSetting (wpAny_pure ?_)
  dsimp only
  simp only [newObj]
  exact wpAny_bind (wpAny_alloc (wpAny_pure (wpAny_pure g)))
/-- set(text) -/
theorem call_setS {x : Str} {u : Tok} {Q : Value → Shared → Prop} (hh : A.handled = none) (hsz : x.cps.size + 1 < scanBound)
    (h : ∀ (s' : Shared) (D : SD) (l : List Str), TxR P w D l → (∀ y, y ∈ l ↔ ∃ j c, j < x.cps.size ∧ x.cps[j]? = some c ∧ y = sing c) → l.length ≤ x.cps.size → s'.heap.get? s.heap.objs.size = some (sObj "set" D) → (∀ b o, s.heap.get? b = some o → s'.heap.get? b = some o) → s'.gens = s.gens → s'.os = s.os → s'.drawn = s.drawn → Q (.ref s.heap.objs.size) s') :
    wpAny (model P w) A (call (.type "set") [.str x u]) Q E s := by
  obtain ⟨c0, tl0, m0⟩ := F.called_set.mro
  have m1 := F.called_set.made
  have m2 := F.called_set.sub
  refine wpAny_call (codeAny_of_tree (wpAny_pure ⟨Code.quiet_builtin _ (by decide +kernel), codeAny_builtin F.entry_type_call ?_⟩))
  rw [Around.under_plain (weight_type_call_type "set" [.str x u] []) rfl]
  have m3 := F.called_set.notType
  have m4 := F.called_set.canCreate
  have m5 := PySem.F.typeCall_set_1 (.str x u)
  repeat (any_goals (first | assumption | wp_step))
  refine codeAny_mono (new1 (.str x u) (E := E) (G := fun y s1 => y = .ref s.heap.objs.size ∧ s1 = { s with heap := s.heap.push (frS w) }) ⟨rfl, rfl⟩) fun r s1 hr => ?_
  cases r with
  | error e => exact hr
  | ok fl =>
    cases fl with
    | ret y =>
      obtain ⟨rfl, rfl⟩ := hr
      have hS : (s.heap.push (frS w)).get? s.heap.objs.size = some (frS w) := Heap.get?_push_size _ rfl
      have hT : Shared.TypeIs { s with heap := s.heap.push (frS w) } (.ref s.heap.objs.size) "set" := ⟨_, hS, rfl⟩
      have m6 := F.called_set.init.lookup
      have m7 := F.called_set.init.bind (.ref s.heap.objs.size)
      repeat (any_goals (first | assumption | wp_step))
      refine codeAny_mono (codeAny_call_builtin (R := wants (fun r s2 => r = .none ∧ Q (.ref s.heap.objs.size) s2) E) F.called_set.init.plain F.entry_set_init (check_set_init_1 hT ?_)) fun r2 s2 hr2 => ?_
      · unfold Builtin.«set.__init__» noKeywords Builtin.Frozenset.updateFrom
        generalize hPI : pyIter = PI
        generalize hAS : Builtin.Frozenset.isAnySet = AS
        wp_walk
        subst hAS
        refine L2.Fz.anySet ?_
        have e0 : (Value.type "str" == Value.type "dict") = false := by decide
        have e1 : typeOf (Value.str x u) = pure (Value.type "str") := rfl
        rw [e1]
        simp only [Bool.false_eq_true, if_false]
        refine wpAny_bind (wpAny_pure ?_)
        rw [e0]
        simp only [Bool.false_eq_true, if_false]
        subst hPI
        refine wpAny_bind (wpAny_pyIter_str fun o St W st0 => ?_)
        refine wpAny_bind (wpAny_runValue ?_)
        have ha : ((s.heap.push (frS w)).push o).get? s.heap.objs.size = some (sObj "set" (#[], 0, .fresh 0 0 (!w.params.followText "set-order"))) := Heap.get?_push_of_some _ hS
        refine upd_loop (W _ (by simp [hh])) (fun z => ?_) hsz _ 0 _ _ [] rfl (Nat.zero_le _) st0 ha txR_fresh (Nat.le_refl _) (fun y => ⟨fun z => (nomatch z), fun ⟨j, c, hj, _⟩ => absurd hj (Nat.not_lt_zero _)⟩) fun s' D' l' r1 r2 r3 r4 r5 r6 r7 r8 => ?_
        · rw [List.mem_singleton] at z
          rw [Heap.size_push] at z
          exact absurd z (Nat.ne_of_lt (Nat.lt_succ_self _))
        · refine wpAny_pure (wpAny_pure ⟨rfl, h s' D' l' r1 r2 r3 r4 (fun b o e => r5 b o (Nat.ne_of_lt (Heap.lt_size e)) (fun z => ?_) (Heap.get?_push_of_some _ (Heap.get?_push_of_some _ e))) r6 r7 r8⟩)
          rw [List.mem_singleton, Heap.size_push] at z
          have hb : b < s.heap.objs.size := Heap.lt_size e
          have hz : b = s.heap.objs.size + 1 := z
          exact absurd hb (by rw [hz]; exact Nat.not_lt.mpr (Nat.le_succ _))
      · cases r2 with
        | error e => exact hr2
        | ok f2 =>
          cases f2 with
          | ret y2 =>
            obtain ⟨rfl, hq⟩ := hr2
            repeat (any_goals (first | assumption | wp_step))
          | _ => exact hr2.elim
    | _ => exact hr.elim
end
end Rg

namespace Rg
open PySem PySem.Spec PyProof.Rows L2 PySem.Froz
theorem strs_of : ∀ vs : List Value, (∀ v ∈ vs, ∃ k tk, v = Value.str k tk) → ∃ ks, StrsAre vs ks ∧ ks = vs.map fun v => sOf (0, v)
  | [], _ => ⟨[], .nil, rfl⟩
  | v :: vs, h => by
    obtain ⟨k, tk, rfl⟩ := h v List.mem_cons_self
    obtain ⟨ks, a, b⟩ := strs_of vs fun x hx => h x (List.mem_cons_of_mem _ hx)
    exact ⟨k :: ks, .cons k tk a, by rw [b]; rfl⟩
section
variable {P : Program} {w : World} {A : Around} {E : Value → Shared → Prop} {s : Shared}
theorem sorted_setS {a : Addr} {D : SD} {l : List Str} {Q : Value → Shared → Prop} (ho : s.heap.get? a = some (sObj "set" D)) (R : TxR P w D l) (hh : A.handled = none) (h64 : l.length < 64)
    (hQ : ∀ (s' : Shared) (p : Addr) (out : Array Value) (c : Nat) (ys : List Str), (∀ b o, s.heap.get? b = some o → s'.heap.get? b = some o) → s'.gens = s.gens → s'.os = s.os → s.heap.objs.size ≤ p → s'.heap.get? p = some (seqObj "list" out c) → StrsAre out.toList ys → ys.Perm l → sortedS ys = true → Q (.ref p) s') :
    wpAny (model P w) A (call (.builtin "sorted") [.ref a]) Q E s := by
  obtain ⟨es, ep, t⟩ := D
  have hsz : es.size = l.length := R.ok.sz
  refine Calls.call_function_entry kind_sorted plain_sorted entry_sorted (args_sorted1 _) ?_
  unfold Builtin.«sorted»
  refine wpAny_bind (m := checkCount "sorted" 1 1 _) (wpAny_pure ?_)
  refine wpAny_bind (collect_set (A := A.in1) hh ⟨_, ho, rfl, rfl⟩ R.ok.fit (by rw [hsz]; exact Nat.lt_trans h64 (by decide)) R.ris R.led fun s1 vs k1 hz g1 o1 pm => ?_)
  have hvl : vs.length = l.length := by rw [pm.length_eq, List.length_map, Array.length_toList]; exact hsz
  obtain ⟨ks, hks, eks⟩ := strs_of vs fun v hv => by
    obtain ⟨e, he, q⟩ := List.mem_map.mp (pm.mem_iff.mp hv)
    obtain ⟨k, tk, q2⟩ := R.vs e he
    exact ⟨k, tk, by rw [← q]; exact q2⟩
  have pk : ks.Perm l := by
    rw [eks]
    refine (pm.map _).trans ?_
    rw [List.map_map]
    exact R.pm
  refine wpAny_bind (wpAny_newList ?_ (by rw [hvl, sizeLine_eq]; omega))
  have hoL : (s1.heap.push (seqObj "list" vs.toArray 0)).get? s1.heap.objs.size = some (seqObj "list" vs.toArray 0) := Heap.get?_push_size _ rfl
  refine wpAny_bind (wpAny_holding (wpAny_call_entry slot_list_sort ⟨_, hoL, rfl⟩ entry_list_sort (list_sort_treeK strKind_oneLt hoL hks.keysOf (fun v₁ v₂ rest e => keyKind_strs (by rw [← e]; exact hks)) (by rw [hvl]; exact h64) fun st q1 q2 => ⟨_, rfl, ?_⟩) (args_list_sort _)))
  obtain ⟨ys, y1, y2, y3⟩ := sorted_out_str hks q1 q2
  obtain ⟨c, hc⟩ := sortedHeap_at (vs := vs) (out := (arrOf st).map (·.2)) hoL
  refine wpAny_pure ⟨_, rfl, hQ _ s1.heap.objs.size _ c ys (fun b u e => ?_) g1 o1 hz hc y1 (y2.trans pk) y3⟩
  have q := k1 b u e
  have hlt := Heap.lt_size q
  show (sortedHeap (s1.heap.push (seqObj "list" vs.toArray 0)) s1.heap.objs.size vs _).get? b = some u
  rw [sortedHeap_old (Nat.ne_of_lt hlt) (by rw [size_push']; exact Nat.lt_succ_of_lt hlt)]
  exact Heap.get?_push_of_some _ q
end
theorem bSorted' : bootBuiltins "sorted" = some (.builtin "sorted") := by decide +kernel
section
variable {X : Cx} {p p2 q pos : Pos}
/-- sorted(set(x)), x a text of fewer than 64 signs -/
theorem pe_sortSet {a : Expr} {ta : TE} (hg : Gl X "sorted") (hm : X.mg "sorted" = none) (hg2 : Gl X "set") (hm2 : X.mg "set" = none) (ha : PE X a ta) (hc : X.calm = true := by rfl)
    (na : starEach [a] X.env = (false, eval a X.env) :: starEach [] X.env := by rfl) : PE X (.Call (.Name "sorted" p) [.Call (.Name "set" p2) [a] [] q] [] pos)
      (fun σ H Q => ta σ H fun x H1 => ∃ z : Str, x = .str z ∧ z.cps.size < 63 ∧ ∀ (ys : List Str) (r : Addr), sortedS ys = true → ys.Nodup → (∀ y, y ∈ ys ↔ ∃ c ∈ z.cps.toList, y = ⟨#[c]⟩) → H1 r = none → Q (.ref r) (upd H1 r (.lst (ys.map V.str)))) := by
  refine ⟨?_⟩
  intro pins s σ H Q I h
  refine Call_ (ld_blt I hg hm bSorted' ?_)
  refine PyProof.Rows.callWith_builtin1 (PyProof.Rows.args_cons ?_ rfl) rfl rfl
  refine Call_ (ld_blt I hg2 hm2 bSet ?_)
  refine PyProof.Rows.callWith_type1 (PyProof.Rows.args_cons (thn (ha.run pins s σ H _ I h) ?_) na) na rfl
  rintro v s1 ⟨x, H1, I1, r1, z, rfl, hz, q1⟩
  refine PyProof.Rows.args_nil ?_
  obtain ⟨u, rfl⟩ := r1
  refine call_setS (I1.ok.hd hc) (Nat.lt_trans (show z.cps.size + 1 < 64 by omega) (by decide)) fun s2 D l t1 t2 t3 t4 t5 t6 t7 t8 => ?_
  refine PyProof.Rows.args_nil ?_
  have e2 : s2 = { s1 with heap := s2.heap, toks := s2.toks } := by
    cases s2
    cases s1
    cases t6
    cases t7
    cases t8
    rfl
  have I2 : Inv X pins σ H1 { s1 with heap := s2.heap, toks := s2.toks } := I1.kept fun b o e => t5 b o e
  rw [← e2] at I2
  refine sorted_setS t4 t1 (I2.ok.hd hc) (by omega) fun s3 r out c ys k g o hr hg' hi hp hs => ?_
  have hlen : (ys.map V.str).length ≤ sizeLine := by rw [List.length_map, hp.length_eq, sizeLine_eq]; omega
  have hn : H1 r = none := I2.hok.fresh hr
  have J : Inv X pins σ (upd H1 r (.lst (ys.map V.str))) { s2 with heap := s3.heap, gens := s3.gens, drawn := s3.drawn, toks := s3.toks } :=
    I2.call (ch := []) (Un.laid k hr hn) (I2.hok.laid k hr ⟨hlen, out.toList, c, vals_of_strs hi, hg'⟩) (by rw [g]; exact I2.bare) (fun _ z => nomatch z)
  have e3 : s3 = { s2 with heap := s3.heap, gens := s3.gens, drawn := s3.drawn, toks := s3.toks } := by
    cases s3
    cases s2
    cases o
    rfl
  rw [e3]
  refine ⟨.ref r, _, J, rfl, q1 ys r hs (hp.nodup_iff.mpr t1.nd) (fun y => ?_) hn⟩
  rw [hp.mem_iff, t2 y]
  constructor
  · rintro ⟨j, c, hj, h1, h2⟩
    exact ⟨c, List.mem_of_getElem? (by rw [Array.getElem?_toList]; exact h1), h2⟩
  · rintro ⟨c, h1, h2⟩
    obtain ⟨j, hj, e⟩ := List.mem_iff_getElem.mp h1
    rw [Array.length_toList] at hj
    exact ⟨j, c, hj, by rw [← Array.getElem?_toList, List.getElem?_eq_getElem (by rw [Array.length_toList]; exact hj), e], h2⟩
end
end Rg

namespace Rg
open PySem PySem.Spec PyProof.Rows L2 Mach
theorem eqvAll_strs : ∀ xs ys : List Str, PyData.eqvAll (xs.map PyData.str) (ys.map PyData.str) = decide (xs = ys)
  | [], [] => rfl
  | [], b :: T => rfl
  | a :: S, [] => rfl
  | a :: S, b :: T => by
    show (PyData.eqv (.str a) (.str b) && PyData.eqvAll _ _) = _
    rw [eqvAll_strs S T, eqv_str]
    by_cases h1 : a = b
    · by_cases h2 : S = T
      · rw [h1, h2]
        simp
      · rw [decide_eq_false h2, Bool.and_false, decide_eq_false (fun z => h2 (List.cons.inj z).2)]
    · rw [decide_eq_false h1, Bool.false_and, decide_eq_false (fun z => h1 (List.cons.inj z).1)]
theorem shp_strs {xs : List Str} (h : ∀ x ∈ xs, PyData.strOk x = true) : SeqAt.shaped (.list (xs.map PyData.str)) = true := by
  have h1 : PyData.canLayAll0 (xs.map PyData.str) = true ∧ PyData.depthAll (xs.map PyData.str) = 0 := by
    induction xs with
    | nil => exact ⟨rfl, rfl⟩
    | cons a l ih =>
      have ih := ih fun x hx => h x (List.mem_cons_of_mem _ hx)
      exact ⟨by simp only [List.map_cons, PyData.canLayAll0, PyData.canLay0, h a List.mem_cons_self, ih.1, Bool.and_self], by simp only [List.map_cons, PyData.depthAll, PyData.depth, ih.2, Nat.max_self]⟩
  unfold SeqAt.shaped
  simp only [PyData.canLay0, PyData.depth, h1.1, h1.2, Bool.true_and]
  decide
theorem dpAll_strs {K : PySem.W.Frag} {H : Hp} : ∀ xs : List Str, DpAll K H (xs.map V.str) (xs.map PyData.str)
  | [] => .nil
  | x :: xs => .cons (.str x) (dpAll_strs xs)
def one1 (c : Nat) : Str := ⟨#[c]⟩
theorem one1_inj {a b : Nat} (h : one1 a = one1 b) : a = b := by
  have : (one1 a).cps = (one1 b).cps := by rw [h]
  simpa [one1] using this
theorem strict_uniq : ∀ {a b : List Nat}, a.Pairwise (· < ·) → b.Pairwise (· < ·) → (∀ x, x ∈ a ↔ x ∈ b) → a = b
  | [], [], _, _, _ => rfl
  | [], y :: b, _, _, h => absurd ((h y).mpr List.mem_cons_self) (by simp)
  | x :: a, [], _, _, h => absurd ((h x).mp List.mem_cons_self) (by simp)
  | x :: a, y :: b, ha, hb, h => by
    rw [List.pairwise_cons] at ha hb
    have e : x = y := by
      rcases List.mem_cons.mp ((h x).mp List.mem_cons_self) with z | z
      · exact z
      · rcases List.mem_cons.mp ((h y).mpr List.mem_cons_self) with z2 | z2
        · exact z2.symm
        · have h1 := ha.1 y z2
          have h2 := hb.1 x z
          omega
    subst e
    rw [strict_uniq ha.2 hb.2 fun u => ?_]
    constructor
    · intro hu
      rcases List.mem_cons.mp ((h u).mp (List.mem_cons_of_mem _ hu)) with z | z
      · have := ha.1 u hu
        omega
      · exact z
    · intro hu
      rcases List.mem_cons.mp ((h u).mpr (List.mem_cons_of_mem _ hu)) with z | z
      · have := hb.1 u hu
        omega
      · exact z
theorem rising_le : ∀ (cs : List Nat) (p : Nat), PyProof.Rows.risingS (one1 p) (cs.map one1) = true → (p :: cs).Pairwise (· ≤ ·)
  | [], p, _ => by simp
  | c :: cs, p, h => by
    have h' : (!ltCps (one1 c).cps.toList (one1 p).cps.toList && PyProof.Rows.risingS (one1 c) (cs.map one1)) = true := h
    rw [Bool.and_eq_true] at h'
    have ih := rising_le cs c h'.2
    have hpc : p ≤ c := by
      have h1 := h'.1
      have h2 : ltCps (one1 c).cps.toList (one1 p).cps.toList = (decide (c < p) || (c == p && false)) := rfl
      rw [h2] at h1
      simp at h1
      exact h1
    rw [List.pairwise_cons]
    refine ⟨fun x hx => ?_, ih⟩
    rcases List.mem_cons.mp hx with z | z
    · rw [z]; exact hpc
    · exact Nat.le_trans hpc ((List.pairwise_cons.mp ih).1 x z)
theorem all_one1 {P : Nat → Prop} : ∀ {ys : List Str}, (∀ y ∈ ys, ∃ c, P c ∧ y = one1 c) → ∃ cs : List Nat, ys = cs.map one1
  | [], _ => ⟨[], rfl⟩
  | y :: ys, h => by
    obtain ⟨c, _, rfl⟩ := h y List.mem_cons_self
    obtain ⟨cs, rfl⟩ := all_one1 fun x hx => h x (List.mem_cons_of_mem _ hx)
    exact ⟨c :: cs, rfl⟩
theorem one1_mem {cs : List Nat} {c : Nat} : one1 c ∈ cs.map one1 ↔ c ∈ cs := by
  rw [List.mem_map]
  exact ⟨fun ⟨d, hd, e⟩ => one1_inj e ▸ hd, fun h => ⟨c, h, rfl⟩⟩
theorem sgs_sorted {z : Str} {ys : List Str} (h : PyProof.Rows.sortedS ys = true) (nd : ys.Nodup) (hm : ∀ y, y ∈ ys ↔ ∃ c ∈ z.cps.toList, y = (⟨#[c]⟩ : Str)) : decide (z.cps.toList.map one1 = ys) = decide (z.cps.toList.Pairwise (· < ·)) := by
  obtain ⟨cs, rfl⟩ := all_one1 (P := fun c => c ∈ z.cps.toList) fun y hy => by
    obtain ⟨c, h1, h2⟩ := (hm y).mp hy
    exact ⟨c, h1, h2⟩
  have hle : cs.Pairwise (· ≤ ·) := by
    cases cs with
    | nil => exact List.Pairwise.nil
    | cons c cs => exact rising_le cs c h
  have hnd : cs.Nodup := by
    rw [List.Nodup, List.pairwise_map] at nd
    exact nd.imp fun hab e => hab (by rw [e])
  have hlt : cs.Pairwise (· < ·) := (hle.and hnd).imp fun ⟨h1, h2⟩ => Nat.lt_of_le_of_ne h1 h2
  have hmem : ∀ c, c ∈ z.cps.toList ↔ c ∈ cs := fun c => by
    rw [← one1_mem (cs := cs), hm (one1 c)]
    exact ⟨fun hc => ⟨c, hc, rfl⟩, fun ⟨d, hd, e⟩ => one1_inj (b := d) e ▸ hd⟩
  rw [Bool.eq_iff_iff, decide_eq_true_iff, decide_eq_true_iff]
  constructor
  · intro e
    have : z.cps.toList = cs := by
      have := congrArg (List.map fun x : Str => x.cps.toList.headD 0) e
      rw [List.map_map, List.map_map] at this
      simpa [one1, Function.comp_def] using this
    rw [this]
    exact hlt
  · intro hz
    rw [strict_uniq hz hlt hmem]
end Rg

/-! a text, or what is none -/
namespace Rg
open PySem PySem.Spec PyProof.Rows L2 Mach
inductive StrOr (K : PySem.W.Frag) (H : Hp) : V → Option Str → Prop
  | str (z : Str) : z.cps.size ≤ 100000 → StrOr K H (.str z) (some z)
  | no {v : V} {ty : Value} : TyX K H v ty → PySem.W.kitOne K ty (.type "str") = some false → StrOr K H v none
section
variable {K : PySem.W.Frag} {H : Hp} {v : V} {o : Option Str}
theorem StrOr.q (h : StrOr K H v o) : ∃ cv ty : Value, ClsV (.ty "str") cv ∧ TyX K H v ty ∧ PySem.W.kitOne K ty cv = some o.isSome := by
  have k_str : kitB "str" "str" = some true := by decide +kernel
  cases h with
  | str z _ => exact ⟨_, _, .ty "str", .base (.str z), kit_ty k_str⟩
  | no h1 h2 => exact ⟨_, _, .ty "str", h1, h2⟩
theorem StrOr.z {z : Str} (h : StrOr K H v (some z)) : v = .str z ∧ z.cps.size ≤ 100000 := by
  cases h with
  | str z h => exact ⟨rfl, h⟩
end
def strOf : Tg → Option Str
  | .dat (.str z) => some z
  | _ => none
theorem Tq0.so {K : PySem.W.Frag} {H : Hp} {v : V} {t : Tg} (h : Tq0 K H v t) (hf : t.few) : StrOr K H v (strOf t) := by
  obtain ⟨d, rfl, hd⟩ := h
  have k_NoneType : kitB "NoneType" "str" = some false := by decide +kernel
  have k_bool : kitB "bool" "str" = some false := by decide +kernel
  have k_int : kitB "int" "str" = some false := by decide +kernel
  have k_list : kitB "list" "str" = some false := by decide +kernel
  have k_tuple : kitB "tuple" "str" = some false := by decide +kernel
  have k_dict : kitB "dict" "str" = some false := by decide +kernel
  cases d with
  | str z =>
    cases hd
    exact .str z (few_str hf)
  | none => exact .no hd.ty (kit_ty k_NoneType)
  | bool _ => exact .no hd.ty (kit_ty k_bool)
  | int _ => exact .no hd.ty (kit_ty k_int)
  | list _ => exact .no hd.ty (kit_ty k_list)
  | tuple _ => exact .no hd.ty (kit_ty k_tuple)
  | dict _ => exact .no hd.ty (kit_ty k_dict)
def inB (s z : Str) : Bool := z.cps.toList.all fun c => decide (c ∈ s.cps.toList)
def textO (s : Str) : Option Str → Bool
  | some z => inB s z
  | none => false
def signO (s : Str) : Option Str → Bool
  | some z => inB s z && decide (z.cps.size = 1)
  | none => false
def nameO : Option Str → Bool
  | some z => decide (1 ≤ z.cps.size) && decide (z.cps.size ≤ 8) && inB letters z
  | none => false
def spText0 (K : PySem.W.Frag) : Sp := fun vs H Q _ => ∃ (s : Str) (v : V) (o : Option Str), vs = [.str s, v] ∧ StrOr K H v o ∧ ∀ H', Same H H' → Q (.bl (textO s o)) H'
def spSign0 (K : PySem.W.Frag) : Sp := fun vs H Q _ => ∃ (s : Str) (v : V) (o : Option Str), vs = [.str s, v] ∧ StrOr K H v o ∧ ∀ H', Same H H' → Q (.bl (signO s o)) H'
def spName0 (K : PySem.W.Frag) : Sp := fun vs H Q _ => ∃ (v : V) (o : Option Str), vs = [v] ∧ StrOr K H v o ∧ ∀ H', Same H H' → Q (.bl (nameO o)) H'
theorem filt_in {s z : Str} : ((z.cps.toList.filter fun c => !decide (c ∈ s.cps.toList)).map fun c => V.str ⟨#[c]⟩).isEmpty = inB s z := by
  unfold inB
  rw [List.isEmpty_map, Bool.eq_iff_iff, List.isEmpty_iff, List.filter_eq_nil_iff, List.all_eq_true]
  constructor
  · intro h c hc
    have := h c hc
    simpa using this
  · intro h c hc
    have := h c hc
    simpa using this
theorem lett_ok {z : Str} (h : inB letters z = true) : PyData.strOk z = true := by
  unfold PyData.strOk
  rw [Array.all_eq_true]
  intro i hi
  have h1 := List.all_eq_true.mp h (z.cps[i]) (Array.getElem_mem_toList hi)
  have := lett_low (of_decide_eq_true h1)
  exact decide_eq_true (by omega)
theorem strOk_one' {z : Str} (h : PyData.strOk z = true) {c : Nat} (hc : c ∈ z.cps.toList) : PyData.strOk (one1 c) = true := by
  unfold PyData.strOk at *
  rw [Array.all_eq_true] at *
  obtain ⟨i, hi, rfl⟩ := List.mem_iff_getElem.mp hc
  rw [Array.length_toList] at hi
  intro j hj
  have hj0 : j = 0 := by
    have : j < 1 := hj
    omega
  subst hj0
  rw [Array.getElem_toList]
  exact h i hi
theorem filt_snoc' {α : Type} {f : α → Bool} {l : List α} {i : Nat} {x : α} (h : l[i]? = some x) : (l.take (i + 1)).filter f = (l.take i).filter f ++ (if f x = true then [x] else []) := by
  rw [take_snoc h, List.filter_append]
  congr 1
  by_cases c : f x = true
  · rw [if_pos c, List.filter_cons_of_pos c]; rfl
  · rw [if_neg c, List.filter_cons_of_neg c]; rfl
theorem sg_name (t : Tg) : sgQ t = (nameO (strOf t) && (match strOf t with | some z => decide (z.cps.size ≤ 4) && decide (z.cps.toList.Pairwise (· < ·)) | none => false)) := by
  cases t with
  | own => rfl
  | dat d =>
    cases d with
    | str z =>
      show (decide (1 ≤ z.cps.size) && decide (z.cps.size ≤ 4) && decide (∀ c ∈ z.cps.toList, c ∈ letters.cps.toList) && decide (z.cps.toList.Pairwise (· < ·))) = (decide (1 ≤ z.cps.size) && decide (z.cps.size ≤ 8) && inB letters z && (decide (z.cps.size ≤ 4) && decide (z.cps.toList.Pairwise (· < ·))))
      have e : decide (∀ c ∈ z.cps.toList, c ∈ letters.cps.toList) = inB letters z := by
        rw [Bool.eq_iff_iff, decide_eq_true_iff]
        unfold inB
        rw [List.all_eq_true]
        exact ⟨fun h c hc => decide_eq_true (h c hc), fun h c hc => of_decide_eq_true (h c hc)⟩
      rw [e]
      by_cases h4 : z.cps.size ≤ 4
      · rw [decide_eq_true h4, decide_eq_true (show z.cps.size ≤ 8 by omega)]
        cases decide (1 ≤ z.cps.size) <;> cases inB letters z <;> cases decide (z.cps.toList.Pairwise (· < ·)) <;> rfl
      · rw [decide_eq_false h4]
        cases decide (1 ≤ z.cps.size) <;> cases inB letters z <;> cases decide (z.cps.toList.Pairwise (· < ·)) <;> cases decide (z.cps.size ≤ 8) <;> rfl
    | _ => rfl
end Rg

namespace K11
open PySem PySem.Spec PyProof.Rows L2 Rg
def topS (i : Nat) : Stmt := PySem.Challenge.pw_builttexts_k11_errors_and_kinds.main.body.getD i (.Pass ⟨0, 0, 0, 0⟩)
abbrev sTake : Stmt := topS 34
theorem scTake : FnScope ["_law_bag_here", "_law_many", "_law_cell", "_law_mixed_here", "_law_drawn", "_law_early", "_law_second"] ["_law_bag_here", "_law_many"] (defScope sTake) :=
  ⟨rfl, rfl, rfl, by decide +kernel, rfl, by decide +kernel, by decide +kernel⟩

section
variable {P : Program} {w : World} {K : PySem.W.Frag} {mg : Str → Option Value} {base : Heap}

theorem ok_take {f : Addr} {fd : FuncData} {k : Nat} (F : Fun K "_law_take" "_law_take" sTake f fd) (mi : mg "int" = none) :
    FnOk P w K mg base CX0 (k + 1) f fd ["_law_bag_here", "_law_many"] spTake := by
  refine F.ok scTake (fun vs H Q E h => ?_) (fun cdv A outer s H vs Q E hr h => ?_)
  · obtain ⟨g, l, m, rfl, _⟩ := h
    rfl
  · obtain ⟨g, l, m, rfl, hB, hm0, hm1, q⟩ := h
    refine ⟨_, C8.pss_cut (ps_if (pt_cmpR op_eq (pe_ix ix_list (pv 0) pe_int (fun _ _ => rfl)) pe_int (nomark _))
        (pss_cons (ps_set (i := 2) scTake.nd rfl (.inl rfl) (pe_ix ix_list (pe_op op_cat (pe_slice sl_list (pe_ix ix_list (pv 0) pe_int (fun _ _ => rfl)) (po_some (pe_ix ix_list (pv 0) pe_int (fun _ _ => rfl))) po_none)
            (pe_lst (pa_cons pe_int pa_nil))) pe_int (fun _ _ => rfl)))
        (pss_cons (ps_augS (pv 0) pe_int get_listN pe_int ip_add set_list)
        (pss_cons (ps_asg (pe_op op_mul (pv 2) (pe_callTy call_int1 (by rfl) mi bInt (pa_cons (pe_cmpR op_ge (pv 2) (pe_op op_pow pe_int pe_int) (nomark _)) pa_nil))) (pg_sub (pv 0) pe_int set_list))
        (pss_cons (ps_set (i := 3) scTake.nd rfl (.inl rfl) (pe_op op_add (pe_op op_add (pe_op op_mul (pe_ix ix_list (pv 0) pe_int (fun _ _ => rfl)) pe_int)
            (pe_op op_mod (pe_callTy call_int1 (by rfl) mi bInt (pa_cons (pv 2) pa_nil)) pe_int)) (pe_op op_mul pe_int (pe_ix ix_list (pv 0) pe_int (fun _ _ => rfl)))))
        (pss_one (ps_asg (pe_op op_mod (pe_callTy call_int1 (by rfl) mi bInt (pa_cons (pv 3) pa_nil)) pe_int) (pg_sub (pv 0) pe_int set_list))))))) pss_nil)
      (pss_cons (ps_if (pt_cmpR op_gt (pe_ix ix_list (pv 0) pe_int (fun _ _ => rfl)) pe_int (nomark _))
        (pss_cons (ps_set (i := 4) scTake.nd rfl (.inl rfl) (pe_op op_mod (pe_callTy call_int1 (by rfl) mi bInt (pa_cons (pe_ix ix_list (pv 0) pe_int (fun _ _ => rfl)) pa_nil)) (pv 1)))
        (pss_cons (ps_asg (pe_op op_fdiv (pe_callTy call_int1 (by rfl) mi bInt (pa_cons (pe_ix ix_list (pv 0) pe_int (fun _ _ => rfl)) pa_nil)) (pv 1)) (pg_sub (pv 0) pe_int set_list))
        (pss_one (ps_ret (pv 4))))) pss_nil)
      (pss_cons (ps_set (i := 5) scTake.nd rfl (.inl rfl) (pe_op op_mod (pe_callTy call_int1 (by rfl) mi bInt (pa_cons (pe_op op_mul (pe_op op_add (pe_ix ix_list (pv 0) pe_int (fun _ _ => rfl)) pe_int) pe_int) pa_nil)) pe_int))
      (pss_cons (ps_set (i := 6) scTake.nd rfl (.inl rfl) (pe_op op_mod (pe_callTy call_int1 (by rfl) mi bInt (pa_cons (pe_op op_mul (pe_op op_mod (pe_callTy call_int1 (by rfl) mi bInt (pa_cons (pe_op op_mul (pv 5) (pv 5)) pa_nil)) pe_int) pe_int) pa_nil)) pe_int))
      (pss_one (ps_ret (pe_op op_mod (pe_callTy call_int1 (by rfl) mi bInt (pa_cons (pe_op op_fdiv (pv 6) pe_int) pa_nil)) (pv 1))))))), ?_⟩
    have pA : (0 : Int) < 2147483647 := by decide
    have pB : (0 : Int) < 1000000007 := by decide
    have pC : (0 : Int) < 998244353 := by decide
    refine ⟨fun σ H1 => ∃ c d : Option V, σ = [some (.ref g), some (.int m), c, d, none, none, none] ∧ Bag H1 g l ∧ But g H H1, ?_, ?_⟩
    · obtain ⟨x0, x1, x2, cs, hg, hl, h0, h1, h2, hc, hcl⟩ := id hB
      have ngl : l ≠ g := ne_of hl hg bag_ne
      refine ⟨_, rfl, g, _, 0, _, rfl, rfl, SqL.of hg, atI_nat (j := 0) rfl, rfl, _, rfl, ite2 (fun e => ?_) (fun e => ?_)⟩
      · -- a new cell
        refine ⟨_, rfl, g, _, 3, _, rfl, rfl, SqL.of hg, atI_nat (j := 3) rfl, _, rfl, g, _, 2, _, rfl, rfl, SqL.of hg, atI_nat (j := 2) rfl, x2, rfl, l, _, rfl, SqL.of hl, fun p1 n1 => ?_⟩
        obtain ⟨zs, ez, hz, hzl⟩ := cut_ints cs (some x2) none
        rw [ez]
        refine ⟨by show 1 ≤ sizeLine; decide, fun p2 n2 => ?_⟩
        have n12 : p1 ≠ p2 := by
          intro z
          rw [← z, upd_same] at n2
          cases n2
        refine ⟨p1, p2, _, _, rfl, rfl, by rw [upd_ne n12, upd_same], upd_same, ?_, fun p3 n3 => ?_⟩
        · rw [List.length_map]
          exact Nat.le_of_lt (small1000 (by show zs.length + 1 ≤ 1000; omega))
        obtain ⟨c, hc0, ec⟩ : ∃ c : Int, 0 ≤ c ∧ (zs.map V.int ++ [V.int 0])[0]? = some (.int c) := by
          cases zs with
          | nil => exact ⟨0, by decide, rfl⟩
          | cons z r => exact ⟨z, hc z (hz z List.mem_cons_self), rfl⟩
        refine ⟨p3, _, 0, _, rfl, rfl, SqL.of upd_same, atI_nat (j := 0) ec, ?_⟩
        have B1 : But g H (upd H p1 (.lst (zs.map V.int))) := (But.refl g H).new n1
        have B2 := B1.new (o := .lst [.int 0]) n2
        have B3 := B2.new (o := .lst (zs.map V.int ++ [V.int 0])) n3
        have b1 := hB.new (o := .lst (zs.map V.int)) n1
        have b2 := b1.new (o := .lst [.int 0]) n2
        have b3 := b2.new (o := .lst (zs.map V.int ++ [V.int 0])) n3
        have nl1 : l ≠ p1 := ne_of_none hl n1
        have ng1 : g ≠ p1 := ne_of_none hg n1
        have ng2 : g ≠ p2 := ne_of_none (by rw [upd_ne ng1]; exact hg) n2
        have ng3 : g ≠ p3 := ne_of_none (by rw [upd_ne ng2, upd_ne ng1]; exact hg) n3
        have l3 := B3 l _ ngl hl
        have g3 : (upd (upd (upd H p1 (.lst (zs.map V.int))) p2 (.lst [.int 0])) p3 (.lst (zs.map V.int ++ [V.int 0]))) g = some (BagL x0 x1 x2 l) := by
          rw [upd_ne ng3, upd_ne ng2, upd_ne ng1]
          exact hg
        generalize (upd (upd (upd H p1 (.lst (zs.map V.int))) p2 (.lst [.int 0])) p3 (.lst (zs.map V.int ++ [V.int 0]))) = H3 at B3 b3 l3 g3
        -- bag[2] += 1
        refine ⟨_, rfl, g, _, 2, _, rfl, rfl, SqL.of g3, rfl, _, _, rfl, rfl, g, _, 2, 2, rfl, rfl, g3, rfl, ?_⟩
        have B4 : But g H (upd H3 g (BagL x0 x1 (x2 + 1) l)) := B3.self
        have l4 := B4 l _ ngl hl
        -- bag[0] = cell * int(cell >= 10 ** 18)
        refine ⟨_, rfl, _, rfl, 10, 18, rfl, rfl, ⟨by decide, by decide, by decide⟩, _, _, rfl, rfl, .inr ⟨_, rfl, _, _, rfl, rfl, ?_, ?_⟩⟩
        · right
          split <;> decide
        have hy0 : 0 ≤ c * (if decide ((10 : Int) ^ (18 : Int).toNat ≤ c) then 1 else 0) := by
          split <;> omega
        refine ⟨_, rfl, g, _, 0, 0, rfl, rfl, upd_same, rfl, ?_⟩
        rw [upd_upd]
        -- mixed
        refine ⟨_, rfl, g, _, 1, _, rfl, rfl, SqL.of upd_same, atI_nat (j := 1) rfl, _, _, rfl, rfl, .inr ⟨by decide, by decide⟩, _, rfl, .inl ⟨_, rfl, _, _, rfl, rfl, pA, _, _, rfl, rfl, _, rfl, g, _, 2, _, rfl, rfl, SqL.of upd_same, atI_nat (j := 2) rfl, _, _, rfl, rfl, .inl ⟨by decide, by decide⟩, _, _, rfl, rfl, ?_⟩⟩
        refine ⟨_, rfl, .inl ⟨_, rfl, _, _, rfl, rfl, pA, _, rfl, g, _, 1, 1, rfl, rfl, upd_same, rfl, ?_⟩⟩
        rw [upd_upd]
        refine ⟨_, _, rfl, ⟨_, _, x2 + 1, cs, upd_same, ?_, hy0, Int.emod_nonneg _ (by decide), by omega, hc, hcl⟩, B3.self⟩
        rw [upd_ne ngl]
        exact l3
      · exact ⟨none, none, rfl, hB, .refl g H⟩
    · rintro σ H1 ⟨c, d, rfl, hB1, B1⟩
      obtain ⟨x0, x1, x2, cs, hg, hl, h0, h1, h2, hc, hcl⟩ := id hB1
      have ngl : l ≠ g := ne_of hl hg bag_ne
      refine ⟨_, rfl, g, _, 0, _, rfl, rfl, SqL.of hg, atI_nat (j := 0) rfl, _, _, rfl, rfl, _, rfl, ite2 (fun e => ?_) (fun e => ?_)⟩
      · refine ⟨_, rfl, g, _, 0, _, rfl, rfl, SqL.of hg, atI_nat (j := 0) rfl, .inl ⟨_, rfl, _, rfl, _, _, rfl, rfl, hm0, ?_⟩⟩
        refine ⟨_, rfl, g, _, 0, _, rfl, rfl, SqL.of hg, atI_nat (j := 0) rfl, .inl ⟨_, rfl, _, rfl, _, _, rfl, rfl, ⟨hm0, hm1⟩, _, rfl, g, _, 0, 0, rfl, rfl, hg, rfl, ?_⟩⟩
        refine ⟨_, rfl, ?_⟩
        have en : ((x0 % m).toNat : Int) = x0 % m := Int.toNat_of_nonneg (Int.emod_nonneg _ (by omega))
        have lt := Int.emod_lt_of_pos x0 hm0
        have := q (upd H1 g (BagL (x0 / m) x1 x2 l)) (x0 % m).toNat (by rw [en]; exact lt)
          ⟨x0 / m, x1, x2, cs, upd_same, by rw [upd_ne ngl]; exact hl, Int.ediv_nonneg h0 (by omega), h1, h2, hc, hcl⟩ B1.self
        unfold nV at this
        rw [en] at this
        exact this
      · refine ⟨_, rfl, g, _, 1, _, rfl, rfl, SqL.of hg, atI_nat (j := 1) rfl, _, _, rfl, rfl, _, _, rfl, rfl, .inr ⟨by decide, by decide⟩, .inl ⟨_, rfl, _, _, rfl, rfl, pB, ?_⟩⟩
        have e1 : 0 ≤ (x1 + 1) * 39373 % 1000000007 := Int.emod_nonneg _ (by decide)
        have e2 : (x1 + 1) * 39373 % 1000000007 < 1000000007 := Int.emod_lt_of_pos _ (by decide)
        have fin : ∀ z : Int, Q (V.int (z % m)) H1 := by
          intro z
          have en : ((z % m).toNat : Int) = z % m := Int.toNat_of_nonneg (Int.emod_nonneg _ (by omega))
          have lt := Int.emod_lt_of_pos z hm0
          have := q H1 (z % m).toNat (by rw [en]; exact lt) hB1 B1
          unfold nV at this
          rw [en] at this
          exact this
        refine ⟨_, rfl, _, rfl, _, _, rfl, rfl, .inl ⟨Int.lt_of_lt_of_le (by decide) e1, Int.lt_trans e2 (by decide)⟩, .inl ⟨_, rfl, _, _, rfl, rfl, pC, _, _, rfl, rfl, .inr ⟨by decide, by decide⟩, .inl ⟨_, rfl, _, _, rfl, rfl, pC, ?_⟩⟩⟩
        exact ⟨_, rfl, _, _, rfl, rfl, ⟨by decide, by decide⟩, .inl ⟨_, rfl, _, rfl, _, _, rfl, rfl, hm0, fin _⟩⟩
end
end K11

namespace K11
open PySem PySem.Spec PyProof.Rows L2 Rg Mach
abbrev sIsInt : Stmt := topS 4
abbrev sIsSg : Stmt := topS 6
abbrev sIsNum : Stmt := topS 10
theorem scIsInt : FnScope ["thing"] ["thing"] (defScope sIsInt) := ⟨rfl, rfl, rfl, by decide +kernel, rfl, by decide +kernel, by decide +kernel⟩
theorem scIsNum : FnScope ["many", "thing"] ["many", "thing"] (defScope sIsNum) := ⟨rfl, rfl, rfl, by decide +kernel, rfl, by decide +kernel, by decide +kernel⟩
def nIsSg : List Str := ["thing", "letter", "one", "other"]
theorem scIsSg : FnScope nIsSg ["thing"] (defScope sIsSg) := ⟨rfl, rfl, rfl, by decide +kernel, rfl, by decide +kernel, by decide +kernel⟩
end K11

/-! what values are: of any thing -/
namespace K11
open PySem PySem.Spec PyProof.Rows L2 Rg Mach
theorem szK {n : Nat} (h : n ≤ 100000) : n < sizeLine := by rw [sizeLine_eq]; omega
theorem szKe {n : Nat} (h : n ≤ 100000) : n ≤ sizeLine := Nat.le_of_lt (szK h)
section
variable {P : Program} {w : World} {K : PySem.W.Frag} {mg : Str → Option Value} {base : Heap}
theorem ok_isIntQ {f : Addr} {fd : FuncData} {k : Nat} (F : Fun K "is_integer" "is_integer" sIsInt f fd) (mis : mg "isinstance" = none) (mi : mg "int" = none) (mb : mg "bool" = none) :
    FnOk P w K mg base CX0 (k + 1) f fd ["thing"] (spIsInt0 K) := by
  refine F.ok scIsInt (fun vs H Q E h => ?_) (fun cdv A outer s H vs Q E hr h => ?_)
  · obtain ⟨v, t, rfl, _⟩ := h
    rfl
  · obtain ⟨v, t, rfl, hv, q⟩ := h
    refine ⟨_, pss_one (ps_ret (pe_and (pe_callB call_isi (by rfl) mis bIsi (pa_cons (pv 0) (pa_cons (pe_bltn (v := .ty "int") (by rfl) mi bInt rfl) pa_nil)))
      (pe_one (pe_not (pe_callB call_isi (by rfl) mis bIsi (pa_cons (pv 0) (pa_cons (pe_bltn (v := .ty "bool") (by rfl) mb bBool rfl) pa_nil))))))), ?_⟩
    obtain ⟨_, _, kc, kt, kk⟩ := hv.qI
    refine ⟨_, rfl, _, _, _, _, _, rfl, kc, kt, kk, _, rfl, ite2 (fun e => ?_) (fun e => ?_)⟩
    · obtain ⟨_, _, kc, kt, kk⟩ := hv.qB
      refine ⟨_, rfl, _, _, _, _, _, rfl, kc, kt, kk, _, rfl, ?_⟩
      have e2 : t.isW = !t.isB := by unfold Tg.isW; rw [e]; rfl
      rw [e2] at q
      exact q
    · have e2 : t.isW = false := by
        unfold Tg.isW
        rw [Bool.eq_false_iff.mpr e]
        rfl
      rw [e2] at q
      exact q
theorem ok_isNumQ {f fI : Addr} {fd fdI : FuncData} {k : Nat} (F : Fun K "is_number" "is_number" sIsNum f fd)
    (FI : Fun K "is_integer" "is_integer" sIsInt fI fdI) (bI : Binds K fdI ["thing"] []) (gI : mg "is_integer" = some (.ref fI)) (mis : mg "isinstance" = none) (mi : mg "int" = none) (mb : mg "bool" = none) :
    FnOk P w K mg base CX0 (k + 2) f fd ["many", "thing"] (spIsNum0 K) := by
  have GI : FnOk P w K mg base CX0 (k + 1) fI fdI ["thing"] (spIsInt0 K) := ok_isIntQ FI mis mi mb
  refine F.ok scIsNum (fun vs H Q E h => ?_) (fun cdv A outer s H vs Q E hr h => ?_)
  · obtain ⟨n, v, t, rfl, _⟩ := h
    rfl
  · obtain ⟨n, v, t, rfl, hv, q⟩ := h
    refine ⟨_, pss_one (ps_ret (pe_and (pe_call GI hr (by rfl) gI FI.kp bI .nil pass0 (pa_cons (pv 1) pa_nil)) (pe_one (pe_chain op_le op_lt pe_int (pv 1) (pv 0))))), ?_⟩
    refine ⟨_, rfl, v, t, rfl, hv, _, rfl, ite2 (fun e => ?_) (fun e => ?_)⟩
    · obtain ⟨i, rfl⟩ := Tg.isW_num e
      cases hv.int
      have e2 : numQ n (.dat (.int i)) = (decide (0 ≤ i) && decide (i < (n : Int))) := rfl
      rw [e2] at q
      refine ⟨_, rfl, _, _, rfl, rfl, _, rfl, ?_⟩
      by_cases h0 : (0 : Int) ≤ i
      · rw [decide_eq_true h0, Bool.true_and] at q
        exact ite2 (fun _ => ⟨_, rfl, _, _, rfl, rfl, q⟩) (fun z => absurd (decide_eq_true h0) z)
      · rw [decide_eq_false h0, Bool.false_and] at q
        exact ite2 (fun z => absurd (of_decide_eq_true z) h0) (fun _ => q)
    · rw [numQ_isW (Bool.eq_false_iff.mpr e)] at q
      exact q
theorem all_id_map {α : Type} (f : α → Bool) (l : List α) : (l.map f).all id = l.all f := by
  rw [List.all_map]
  rfl
theorem map_bl {α : Type} (f : α → Bool) (l : List α) : l.map (fun x => V.bl (f x)) = (l.map f).map V.bl := by
  rw [List.map_map]
  rfl
theorem ok_isSgQ {f : Addr} {fd : FuncData} {k : Nat} (F : Fun K "is_signs" "is_signs" sIsSg f fd) {uL uM : Value} (gL : mg "LETTERS" = some uL) (rL : RelV (.str letters) uL) (gM : mg "MOST_SIGNS" = some uM) (rM : RelV (.int 4) uM)
    (mis : mg "isinstance" = none) (ms : mg "str" = none) (ml : mg "len" = none) (ma : mg "all" = none) (mz : mg "zip" = none) :
    FnOk P w K mg base CX0 (k + 1) f fd ["thing"] (spIsSg0 K) := by
  refine F.ok scIsSg (fun vs H Q E h => ?_) (fun cdv A outer s H vs Q E hr h => ?_)
  · obtain ⟨v, t, rfl, _⟩ := h
    rfl
  · obtain ⟨v, t, rfl, hv, hfew, q⟩ := h
    refine ⟨_, pss_cons (ps_if (pw_or (pt_not (pt_val (pe_callB call_isi (by rfl) mis bIsi (pa_cons (pv 0) (pa_cons (pe_bltn (v := .ty "str") (by rfl) ms bStr rfl) pa_nil)))))
        (pw_or1 (pt_not (pt_chain op_le op_le pe_int (pe_callB call_len_str (by rfl) ml bLen (pa_cons (pv 0) pa_nil)) (pe_glob (by rfl) gM rM))))).pt (pss_one (ps_ret pe_bl)) pss_nil)
      (pss_cons (ps_if (pt_not (pt_val (pe_callB (cr_all rfl) (by rfl) ma bAll (pa_cons (pe_lc (own := [("letter", 1)]) (g := gName 1) (tt := tYes) (te := tOp (fun x y H Q => ∃ (c : Nat) (z : Str), x = .str ⟨#[c]⟩ ∧ y = .str z ∧ Q (.bl (decide (c ∈ z.cps.toList))) H) (tVar 1) (tC (.str letters))) rfl scIsSg.nd (pi_str (pv 0)) (blkOk_by (own := [("letter", 1)]) (N := nIsSg) (sc := defScope sIsSg) (by decide +kernel))
          (fun _ _ _ _ _ => pg_name (i := 1) scIsSg.nd rfl (Or.inl rfl)) (fun _ _ _ _ _ => pts_nil) (fun _ _ _ _ _ => pe_cmpR op_in_sign (pv 1) (pe_glob (by rfl) gL rL) rfl)) pa_nil)))) (pss_one (ps_ret pe_bl)) pss_nil)
      (pss_one (ps_ret (pe_callB (cr_all rfl) (by rfl) ma bAll (pa_cons (pe_lc (own := [("one", 2), ("other", 3)]) (g := gTup K 2 (gCons (gName 2) (gCons (gName 3) gNil))) (tt := tYes) (te := tOp (fun x y H Q => ∃ i j, x = .str i ∧ y = .str j ∧ Q (.bl (decide (i.cps.toList < j.cps.toList))) H) (tVar 2) (tVar 3)) rfl scIsSg.nd (pi_zipS (by rfl) mz (pa_cons (pv 0) (pa_cons (pe_slice sl_str (pv 0) (po_some pe_int) po_none) pa_nil))) (blkOk_by (own := [("one", 2), ("other", 3)]) (N := nIsSg) (sc := defScope sIsSg) (by decide +kernel))
          (fun _ _ _ _ _ => pg_tup rfl (pgs_cons (pg_name (i := 2) scIsSg.nd rfl (Or.inl rfl)) (pgs_cons (pg_name (i := 3) scIsSg.nd rfl (Or.inl rfl)) pgs_nil))) (fun _ _ _ _ _ => pts_nil) (fun _ _ _ _ _ => pe_cmpR op_lt_str (pv 2) (pv 3) (nomark _))) pa_nil))))), ?_⟩
    obtain ⟨_, _, kc, kt, kk⟩ := hv.qS
    refine ⟨_, rfl, _, _, _, _, _, rfl, kc, kt, kk, _, rfl, ?_⟩
    by_cases hS : t.isS = true
    case neg =>
      have e1 := Bool.eq_false_iff.mpr hS
      rw [sgQ_no e1] at q
      rw [e1]
      exact q H fun _ _ z => z
    rw [hS]
    obtain ⟨z, rfl⟩ := Tg.isS_str hS
    cases hv.str
    have hz := few_str hfew
    have hlen : z.length = z.cps.size := rfl
    have hsg : sgQ (.dat (.str z)) = (decide (1 ≤ z.cps.size) && decide (z.cps.size ≤ 4) && decide (∀ c ∈ z.cps.toList, c ∈ letters.cps.toList) && decide (z.cps.toList.Pairwise (· < ·))) := rfl
    rw [hsg] at q
    refine ⟨_, rfl, _, rfl, szKe (by rw [hlen]; exact hz), _, _, rfl, rfl, _, rfl, ite2 (fun c1 => ?_) (fun c1 => ?_)⟩
    case _ =>
      have c1' := of_decide_eq_true c1
      have h1 : 1 ≤ z.cps.size := by rw [hlen] at c1'; omega
      refine ⟨_, _, rfl, rfl, _, rfl, ?_⟩
      by_cases h4 : z.cps.size ≤ 4
      case neg =>
        rw [decide_eq_false (show ¬ ((z.length : Nat) : Int) ≤ 4 by rw [hlen]; omega)]
        rw [decide_eq_false h4, Bool.and_false, Bool.false_and, Bool.false_and] at q
        exact q H fun _ _ z => z
      rw [decide_eq_true (show ((z.length : Nat) : Int) ≤ 4 by rw [hlen]; omega)]
      rw [decide_eq_true h4, decide_eq_true h1, Bool.true_and, Bool.true_and] at q
      -- all letters
      refine ⟨_, rfl, z, rfl, fun D1 nD1 => ?_⟩
      refine lc_str (x := z) (fun i H1 => Same H H1 ∧ H1 D1 = some (.lst ((z.cps.toList.take i).map fun c => V.bl (decide (c ∈ letters.cps.toList))))) ⟨same_new nD1, upd_same⟩ ?_ ?_
      · rintro i c H1 hc ⟨s1, hD⟩
        have hil : i < z.cps.size := (Array.getElem?_eq_some_iff.mp hc).1
        refine ⟨rfl, ?_⟩
        refine ⟨_, rfl, c, letters, rfl, rfl, _, hD, by rw [List.length_map, List.length_take]; exact szK (by omega), ?_, ?_⟩
        · intro b o e
          rw [upd_ne (ne_of_none e nD1)]
          exact s1 _ _ e
        · rw [upd_same, take_snoc (t := c) (by rw [Array.getElem?_toList]; exact hc), List.map_append]
          rfl
      rintro H1 ⟨s1, hD⟩
      rw [show z.cps.toList.take z.cps.size = z.cps.toList from List.take_of_length_le (by rw [Array.length_toList]; exact Nat.le_refl _), map_bl] at hD
      refine ⟨D1, _, rfl, SqL.of hD, _, rfl, ?_⟩
      rw [all_id_map]
      by_cases hL : ∀ c ∈ z.cps.toList, c ∈ letters.cps.toList
      case neg =>
        have e1 : (z.cps.toList.all fun c => decide (c ∈ letters.cps.toList)) = false := by
          rw [Bool.eq_false_iff]
          intro y
          exact hL fun c hc => of_decide_eq_true (List.all_eq_true.mp y c hc)
        rw [e1]
        rw [decide_eq_false hL, Bool.false_and] at q
        exact q H1 s1
      rw [List.all_eq_true.mpr fun c hc => decide_eq_true (hL c hc)]
      rw [decide_eq_true hL, Bool.true_and] at q
      -- rising
      refine ⟨_, rfl, _, rfl, 1, rfl, z, rfl, szKe (by rw [hlen]; exact hz), z, cutS z (some 1) none, rfl, fun D2 nD2 => ?_⟩
      have hcs := cut1_size z
      have hc2 := cut1_len z h1
      refine lc_zipS (x := z) (y := cutS z (some 1) none) (fun i H2 => Same H1 H2 ∧ H2 D2 = some (.lst ((List.range i).map fun j => V.bl (decide (z.cps.getD j 0 < z.cps.getD (j + 1) 0))))) ⟨same_new nD2, upd_same⟩ ?_ ?_
      · rintro i c d T H2 hc hd ⟨s2, hD2⟩ nT
        have hil : i < z.cps.size := (Array.getElem?_eq_some_iff.mp hc).1
        have nTD : T ≠ D2 := (ne_of_none hD2 nT).symm
        have hd' := cutS_one z h1 i d hd
        refine ⟨T, _, rfl, SqT.of upd_same, rfl, _, _, rfl, _, _, rfl, rfl, rfl, ?_⟩
        refine ⟨_, rfl, _, rfl, _, _, rfl, rfl, _, by rw [upd_ne nTD.symm]; exact hD2, by rw [List.length_map, List.length_range]; exact szK (by omega), ?_, ?_⟩
        · intro b o e
          rw [upd_ne (ne_of_none e nD2), upd_ne (ne_of_none (s2 _ _ e) nT)]
          exact s2 _ _ e
        · rw [upd_same, List.range_succ, List.map_append]
          have ec : z.cps.getD i 0 = c := by rw [Array.getD_eq_getD_getElem?, hc]; rfl
          have ed : z.cps.getD (i + 1) 0 = d := by rw [Array.getD_eq_getD_getElem?, hd']; rfl
          show some (HO.lst (_ ++ [V.bl (decide ([c] < [d]))])) = some (HO.lst (_ ++ [V.bl (decide (z.cps.getD i 0 < z.cps.getD (i + 1) 0))]))
          rw [ec, ed]
          congr 4
          simp only [List.cons_lt_cons_iff, List.not_lt_nil, and_false, or_false]
      rintro H2 ⟨s2, hD2⟩
      rw [hc2, Nat.min_eq_right (Nat.sub_le _ _), map_bl] at hD2
      refine ⟨D2, _, rfl, SqL.of hD2, ?_⟩
      rw [all_id_map]
      have e3 : ((List.range (z.cps.size - 1)).all fun j => decide (z.cps.getD j 0 < z.cps.getD (j + 1) 0)) = decide (z.cps.toList.Pairwise (· < ·)) := by
        rw [Bool.eq_iff_iff, List.all_eq_true, decide_eq_true_iff, rising_iff]
        constructor
        · intro y i c d hc hd
          rw [Array.getElem?_toList] at hc hd
          have hd2 := (Array.getElem?_eq_some_iff.mp hd).1
          have := of_decide_eq_true (y i (List.mem_range.mpr (by omega)))
          rw [Array.getD_eq_getD_getElem?, hc, Array.getD_eq_getD_getElem?, hd] at this
          exact this
        · intro y j hj
          have hj' := List.mem_range.mp hj
          have a1 : j < z.cps.size := by omega
          have a2 : j + 1 < z.cps.size := by omega
          refine decide_eq_true ?_
          rw [Array.getD_eq_getD_getElem?, Array.getD_eq_getD_getElem?, Array.getElem?_eq_getElem a1, Array.getElem?_eq_getElem a2]
          exact y j _ _ (by rw [Array.getElem?_toList, Array.getElem?_eq_getElem a1]; rfl) (by rw [Array.getElem?_toList, Array.getElem?_eq_getElem a2]; rfl)
      rw [e3]
      exact q H2 (s1.trans s2)
    case _ =>
      have h1 : ¬ 1 ≤ z.cps.size := fun y => c1 (decide_eq_true (by rw [hlen]; omega))
      rw [decide_eq_false h1, Bool.false_and, Bool.false_and, Bool.false_and] at q
      exact ⟨_, rfl, q H fun _ _ z => z⟩
end
end K11

namespace K11
open PySem PySem.Spec PyProof.Rows L2 Rg Mach
abbrev sIsName : Stmt := topS 5
abbrev sIsText : Stmt := topS 7
abbrev sIsSign : Stmt := topS 8
abbrev sTkey : Stmt := topS 11
abbrev sLName : Stmt := topS 42
abbrev sLSg : Stmt := topS 43
abbrev sLText : Stmt := topS 44
def nIsName : List Str := ["thing", "letter"]
theorem scIsName : FnScope nIsName ["thing"] (defScope sIsName) := ⟨rfl, rfl, rfl, by decide +kernel, rfl, by decide +kernel, by decide +kernel⟩
def nIsText : List Str := ["signs", "thing", "letter"]
theorem scIsText : FnScope nIsText ["signs", "thing"] (defScope sIsText) := ⟨rfl, rfl, rfl, by decide +kernel, rfl, by decide +kernel, by decide +kernel⟩
theorem scIsSign : FnScope ["signs", "thing"] ["signs", "thing"] (defScope sIsSign) := ⟨rfl, rfl, rfl, by decide +kernel, rfl, by decide +kernel, by decide +kernel⟩
theorem scTkey : FnScope ["text"] ["text"] (defScope sTkey) := ⟨rfl, rfl, rfl, by decide +kernel, rfl, by decide +kernel, by decide +kernel⟩
def nLName : List Str := ["_law_thing_here", "_law_letter"]
theorem scLName : FnScope nLName ["_law_thing_here"] (defScope sLName) := ⟨rfl, rfl, rfl, by decide +kernel, rfl, by decide +kernel, by decide +kernel⟩
theorem scLSg : FnScope ["_law_thing_here"] ["_law_thing_here"] (defScope sLSg) := ⟨rfl, rfl, rfl, by decide +kernel, rfl, by decide +kernel, by decide +kernel⟩
def nLText : List Str := ["_law_signs", "_law_thing_here", "_law_letter"]
theorem scLText : FnScope nLText ["_law_signs", "_law_thing_here"] (defScope sLText) := ⟨rfl, rfl, rfl, by decide +kernel, rfl, by decide +kernel, by decide +kernel⟩
def spTkey : Sp := fun vs H Q _ => ∃ z : Str, vs = [.str z] ∧ z.cps.size ≤ 100000 ∧ ∀ p, H p = none → Q (.ref p) (upd H p (.tup [.int (z.length : Nat), .str z]))
section
variable {P : Program} {w : World} {K : PySem.W.Frag} {mg : Str → Option Value} {base : Heap}
theorem ok_isText0 {f : Addr} {fd : FuncData} {k : Nat} (F : Fun K "is_text" "is_text" sIsText f fd) (mis : mg "isinstance" = none) (ms : mg "str" = none) (ma : mg "all" = none) :
    FnOk P w K mg base CX0 (k + 1) f fd ["signs", "thing"] (spText0 K) := by
  refine F.ok scIsText (fun vs H Q E h => ?_) (fun cdv A outer s H vs Q E hr h => ?_)
  · obtain ⟨z, x, o, rfl, _⟩ := h
    rfl
  · obtain ⟨sg, v, o, rfl, hv, q⟩ := h
    refine ⟨_, pss_one (ps_ret (pe_and (pe_callB call_isi (by rfl) mis bIsi (pa_cons (pv 1) (pa_cons (pe_bltn (v := .ty "str") (by rfl) ms bStr rfl) pa_nil)))
      (pe_one (pe_callB (cr_all rfl) (by rfl) ma bAll (pa_cons (pe_lc (own := [("letter", 2)]) (g := gName 2) (tt := tYes) (te := tOp (fun x y H Q => ∃ (c : Nat) (z : Str), x = .str ⟨#[c]⟩ ∧ y = .str z ∧ Q (.bl (decide (c ∈ z.cps.toList))) H) (tVar 2) (tVar 0)) rfl scIsText.nd (pi_str (pv 1)) (blkOk_by (own := [("letter", 2)]) (N := nIsText) (sc := defScope sIsText) (by decide +kernel))
          (fun _ _ _ _ _ => pg_name (i := 2) scIsText.nd rfl (Or.inl rfl)) (fun _ _ _ _ _ => pts_nil) (fun _ _ _ _ _ => pe_cmpR op_in_sign (pv 2) (pv 0) rfl)) pa_nil))))), ?_⟩
    obtain ⟨_, _, kc, kt, kk⟩ := hv.q
    refine ⟨_, rfl, _, _, _, _, _, rfl, kc, kt, kk, _, rfl, ?_⟩
    cases o with
    | none => exact q H fun _ _ z => z
    | some z =>
      obtain ⟨rfl, hz⟩ := hv.z
      refine ⟨_, rfl, z, rfl, fun D1 nD1 => ?_⟩
      refine lc_str (x := z) (fun i H1 => Same H H1 ∧ H1 D1 = some (.lst ((z.cps.toList.take i).map fun c => V.bl (decide (c ∈ sg.cps.toList))))) ⟨same_new nD1, upd_same⟩ ?_ ?_
      · rintro i c H1 hc ⟨s1, hD⟩
        have hil : i < z.cps.size := (Array.getElem?_eq_some_iff.mp hc).1
        refine ⟨rfl, ?_⟩
        refine ⟨_, rfl, _, rfl, c, sg, rfl, rfl, _, hD, by rw [List.length_map, List.length_take]; exact szBig (by omega), ?_, ?_⟩
        · intro b o e
          rw [upd_ne (ne_of_none e nD1)]
          exact s1 _ _ e
        · rw [upd_same, take_snoc (t := c) (by rw [Array.getElem?_toList]; exact hc), List.map_append]
          rfl
      rintro H1 ⟨s1, hD⟩
      rw [show z.cps.toList.take z.cps.size = z.cps.toList from List.take_of_length_le (by rw [Array.length_toList]; exact Nat.le_refl _), map_bl] at hD
      refine ⟨D1, _, rfl, SqL.of hD, ?_⟩
      rw [all_id_map]
      exact q H1 s1
theorem ok_isSign0 {f fT : Addr} {fd fdT : FuncData} {k : Nat} (F : Fun K "is_sign" "is_sign" sIsSign f fd) (FT : Fun K "is_text" "is_text" sIsText fT fdT) (bT : Binds K fdT ["signs", "thing"] []) (gT : mg "is_text" = some (.ref fT)) (mis : mg "isinstance" = none) (ms : mg "str" = none) (ma : mg "all" = none) (ml : mg "len" = none) :
    FnOk P w K mg base CX0 (k + 2) f fd ["signs", "thing"] (spSign0 K) := by
  have GT : FnOk P w K mg base CX0 (k + 1) fT fdT ["signs", "thing"] (spText0 K) := ok_isText0 FT mis ms ma
  refine F.ok scIsSign (fun vs H Q E h => ?_) (fun cdv A outer s H vs Q E hr h => ?_)
  · obtain ⟨z, x, o, rfl, _⟩ := h
    rfl
  · obtain ⟨sg, v, o, rfl, hv, q⟩ := h
    refine ⟨_, pss_one (ps_ret (pe_and (pe_call GT hr (by rfl) gT FT.kp bT .nil pass0 (pa_cons (pv 0) (pa_cons (pv 1) pa_nil))) (pe_one (pe_cmpR op_eq (pe_callB call_len_str (by rfl) ml bLen (pa_cons (pv 1) pa_nil)) pe_int (nomark _))))), ?_⟩
    refine ⟨_, rfl, _, rfl, sg, v, o, rfl, hv, fun H1 s1 => ⟨_, rfl, ?_⟩⟩
    cases o with
    | none => exact q H1 s1
    | some z =>
      obtain ⟨rfl, hz⟩ := hv.z
      have e1 : signO sg (some z) = (inB sg z && decide (z.cps.size = 1)) := rfl
      rw [e1] at q
      refine ite2 (fun e => ?_) (fun e => ?_)
      · have e' : inB sg z = true := e
        rw [e', Bool.true_and] at q
        refine ⟨_, rfl, z, rfl, szBigLe hz, rfl, ?_⟩
        have : decide (V.int ((z.length : Nat) : Int) = V.int 1) = decide (z.cps.size = 1) := by
          rw [Bool.eq_iff_iff, decide_eq_true_iff, decide_eq_true_iff]
          constructor
          · intro h
            have h1 : ((z.length : Nat) : Int) = 1 := V.int.inj h
            have : z.length = z.cps.size := rfl
            omega
          · intro h
            have : z.length = z.cps.size := rfl
            rw [this, h]
            rfl
        rw [this]
        exact q H1 s1
      · have e' : inB sg z = false := Bool.eq_false_iff.mpr e
        rw [e', Bool.false_and] at q
        exact q H1 s1
theorem ok_isName0 {f : Addr} {fd : FuncData} {k : Nat} (F : Fun K "is_name" "is_name" sIsName f fd) {uL uM : Value} (gL : mg "LETTERS" = some uL) (rL : RelV (.str letters) uL) (gM : mg "MOST_LETTERS" = some uM) (rM : RelV (.int 8) uM) (mis : mg "isinstance" = none) (ms : mg "str" = none) (ml : mg "len" = none) (ma : mg "all" = none) :
    FnOk P w K mg base CX0 (k + 1) f fd ["thing"] (spName0 K) := by
  refine F.ok scIsName (fun vs H Q E h => ?_) (fun cdv A outer s H vs Q E hr h => ?_)
  · obtain ⟨x, o, rfl, _⟩ := h
    rfl
  · obtain ⟨v, o, rfl, hv, q⟩ := h
    refine ⟨_, pss_cons (ps_if (pw_or (pt_not (pt_val (pe_callB call_isi (by rfl) mis bIsi (pa_cons (pv 0) (pa_cons (pe_bltn (v := .ty "str") (by rfl) ms bStr rfl) pa_nil)))))
        (pw_or1 (pt_not (pt_chain op_le op_le pe_int (pe_callB call_len_str (by rfl) ml bLen (pa_cons (pv 0) pa_nil)) (pe_glob (by rfl) gM rM))))).pt (pss_one (ps_ret pe_bl)) pss_nil)
      (pss_one (ps_ret (pe_callB (cr_all rfl) (by rfl) ma bAll (pa_cons (pe_lc (own := [("letter", 1)]) (g := gName 1) (tt := tYes) (te := tOp (fun x y H Q => ∃ (c : Nat) (z : Str), x = .str ⟨#[c]⟩ ∧ y = .str z ∧ Q (.bl (decide (c ∈ z.cps.toList))) H) (tVar 1) (tC (.str letters))) rfl scIsName.nd (pi_str (pv 0)) (blkOk_by (own := [("letter", 1)]) (N := nIsName) (sc := defScope sIsName) (by decide +kernel))
          (fun _ _ _ _ _ => pg_name (i := 1) scIsName.nd rfl (Or.inl rfl)) (fun _ _ _ _ _ => pts_nil) (fun _ _ _ _ _ => pe_cmpR op_in_sign (pv 1) (pe_glob (by rfl) gL rL) rfl)) pa_nil)))), ?_⟩
    obtain ⟨_, _, kc, kt, kk⟩ := hv.q
    refine ⟨_, rfl, _, _, _, _, _, rfl, kc, kt, kk, _, rfl, ?_⟩
    cases o with
    | none => exact q H fun _ _ z => z
    | some z =>
      obtain ⟨rfl, hz⟩ := hv.z
      have hlen : z.length = z.cps.size := rfl
      have e1 : nameO (some z) = (decide (1 ≤ z.cps.size) && decide (z.cps.size ≤ 8) && inB letters z) := rfl
      rw [e1] at q
      refine ⟨_, rfl, _, rfl, szBigLe (by rw [hlen]; exact hz), _, _, rfl, rfl, _, rfl, ite2 (fun c1 => ?_) (fun c1 => ?_)⟩
      case _ =>
        have h1 : 1 ≤ z.cps.size := by have := of_decide_eq_true c1; rw [hlen] at this; omega
        refine ⟨_, _, rfl, rfl, _, rfl, ?_⟩
        by_cases h8 : z.cps.size ≤ 8
        case neg =>
          rw [decide_eq_false (show ¬ ((z.length : Nat) : Int) ≤ 8 by rw [hlen]; omega)]
          rw [decide_eq_false h8, Bool.and_false, Bool.false_and] at q
          exact q H fun _ _ z => z
        rw [decide_eq_true (show ((z.length : Nat) : Int) ≤ 8 by rw [hlen]; omega)]
        rw [decide_eq_true h8, decide_eq_true h1, Bool.true_and, Bool.true_and] at q
        refine ⟨_, rfl, z, rfl, fun D1 nD1 => ?_⟩
        refine lc_str (x := z) (fun i H1 => Same H H1 ∧ H1 D1 = some (.lst ((z.cps.toList.take i).map fun c => V.bl (decide (c ∈ letters.cps.toList))))) ⟨same_new nD1, upd_same⟩ ?_ ?_
        · rintro i c H1 hc ⟨s1, hD⟩
          have hil : i < z.cps.size := (Array.getElem?_eq_some_iff.mp hc).1
          refine ⟨rfl, ?_⟩
          refine ⟨_, rfl, c, letters, rfl, rfl, _, hD, by rw [List.length_map, List.length_take]; exact szBig (by omega), ?_, ?_⟩
          · intro b o e
            rw [upd_ne (ne_of_none e nD1)]
            exact s1 _ _ e
          · rw [upd_same, take_snoc (t := c) (by rw [Array.getElem?_toList]; exact hc), List.map_append]
            rfl
        rintro H1 ⟨s1, hD⟩
        rw [show z.cps.toList.take z.cps.size = z.cps.toList from List.take_of_length_le (by rw [Array.length_toList]; exact Nat.le_refl _), map_bl] at hD
        refine ⟨D1, _, rfl, SqL.of hD, ?_⟩
        rw [all_id_map]
        exact q H1 s1
      case _ =>
        have h1 : ¬ 1 ≤ z.cps.size := fun y => c1 (decide_eq_true (by rw [hlen]; omega))
        rw [decide_eq_false h1, Bool.false_and, Bool.false_and] at q
        exact ⟨_, rfl, q H fun _ _ z => z⟩
theorem ok_tkey {f : Addr} {fd : FuncData} {k : Nat} (F : Fun K "text_key" "text_key" sTkey f fd) (ml : mg "len" = none) : FnOk P w K mg base CX0 (k + 1) f fd ["text"] spTkey := by
  refine F.ok scTkey (fun vs H Q E h => ?_) (fun cdv A outer s H vs Q E hr h => ?_)
  · obtain ⟨z, rfl, _⟩ := h
    rfl
  · obtain ⟨z, rfl, hz, q⟩ := h
    refine ⟨_, pss_one (ps_ret (pe_tup (pa_cons (pe_callB call_len_str (by rfl) ml bLen (pa_cons (pv 0) pa_nil)) (pa_cons (pv 0) pa_nil)))), ?_⟩
    exact ⟨_, rfl, z, rfl, szBigLe hz, _, rfl, by show 2 ≤ sizeLine; decide, fun p np => q p np⟩
theorem ok_lText {f : Addr} {fd : FuncData} {k : Nat} (F : Fun K "_law_is_text" "_law_is_text" sLText f fd) (mis : mg "isinstance" = none) (ms : mg "str" = none) :
    FnOk P w K mg base CX0 (k + 1) f fd ["_law_signs", "_law_thing_here"] (spText0 K) := by
  refine F.ok scLText (fun vs H Q E h => ?_) (fun cdv A outer s H vs Q E hr h => ?_)
  · obtain ⟨z, x, o, rfl, _⟩ := h
    rfl
  · obtain ⟨sg, v, o, rfl, hv, q⟩ := h
    refine ⟨_, pss_one (ps_ret (pe_and (pe_callB call_isi (by rfl) mis bIsi (pa_cons (pv 1) (pa_cons (pe_bltn (v := .ty "str") (by rfl) ms bStr rfl) pa_nil)))
      (pe_one (pe_cmpR (op_eqL0 hr.units0) (pe_lc (own := [("_law_letter", 2)]) (g := gName 2) (tt := tTest (tOp (fun x y H Q => ∃ (c : Nat) (z : Str), x = .str ⟨#[c]⟩ ∧ y = .str z ∧ Q (.bl (!decide (c ∈ z.cps.toList))) H) (tVar 2) (tVar 0))) (te := tVar 2) rfl scLText.nd (pi_str (pv 1)) (blkOk_by (own := [("_law_letter", 2)]) (N := nLText) (sc := defScope sLText) (by decide +kernel))
          (fun _ _ _ _ _ => pg_name (i := 2) scLText.nd rfl (Or.inl rfl)) (fun _ _ _ _ _ => pts_one (pt_cmpR op_notIn_sign (pv 2) (pv 0) rfl)) (fun _ _ _ _ _ => pv 2)) (pe_lst pa_nil) (nomark _))))), ?_⟩
    obtain ⟨_, _, kc, kt, kk⟩ := hv.q
    refine ⟨_, rfl, _, _, _, _, _, rfl, kc, kt, kk, _, rfl, ?_⟩
    cases o with
    | none => exact q H fun _ _ z => z
    | some z =>
      obtain ⟨rfl, hz⟩ := hv.z
      refine ⟨_, rfl, z, rfl, fun D1 nD1 => ?_⟩
      refine lc_str (x := z) (fun i H1 => Same H H1 ∧ H1 D1 = some (.lst (((z.cps.toList.take i).filter fun c => !decide (c ∈ sg.cps.toList)).map fun c => V.str ⟨#[c]⟩))) ⟨same_new nD1, upd_same⟩ ?_ ?_
      · rintro i c H3 hc ⟨s3, hD⟩
        have hil : i < z.cps.size := (Array.getElem?_eq_some_iff.mp hc).1
        have hsn := filt_snoc' (f := fun c => !decide (c ∈ sg.cps.toList)) (l := z.cps.toList) (i := i) (x := c) (by rw [Array.getElem?_toList]; exact hc)
        refine ⟨rfl, ?_⟩
        refine ⟨_, rfl, _, rfl, c, sg, rfl, rfl, _, rfl, ite2 (fun e => ?_) (fun e => ?_)⟩
        · refine ⟨_, rfl, _, hD, ?_, ?_, ?_⟩
          · rw [List.length_map]
            refine szBig (Nat.le_trans (List.length_filter_le _ _) ?_)
            rw [List.length_take]
            omega
          · intro b o e
            rw [upd_ne (ne_of_none e nD1)]
            exact s3 _ _ e
          · rw [upd_same, hsn, if_pos e, List.map_append]
            rfl
        · refine ⟨s3, ?_⟩
          rw [hsn, if_neg e, List.append_nil]
          exact hD
      rintro H3 ⟨s3, hD⟩
      rw [show z.cps.toList.take z.cps.size = z.cps.toList from List.take_of_length_le (by rw [Array.length_toList]; exact Nat.le_refl _)] at hD
      refine ⟨by show 0 ≤ sizeLine; decide, fun D2 nD2 => ?_⟩
      have s4 : Same H3 (upd H3 D2 (.lst [])) := same_new nD2
      refine ⟨D1, D2, _, rfl, rfl, SqL.of (s4 _ _ hD), SqL.of upd_same, ?_⟩
      rw [if_neg (by decide), filt_in]
      exact q _ (s3.trans s4)
theorem ok_lName {f : Addr} {fd : FuncData} {k : Nat} (F : Fun K "_law_is_name" "_law_is_name" sLName f fd) (mis : mg "isinstance" = none) (ms : mg "str" = none) (ml : mg "len" = none) :
    FnOk P w K mg base CX0 (k + 1) f fd ["_law_thing_here"] (spName0 K) := by
  refine F.ok scLName (fun vs H Q E h => ?_) (fun cdv A outer s H vs Q E hr h => ?_)
  · obtain ⟨x, o, rfl, _⟩ := h
    rfl
  · obtain ⟨v, o, rfl, hv, q⟩ := h
    refine ⟨_, pss_cons (ps_if (pw_or (pt_not (pt_val (pe_callB call_isi (by rfl) mis bIsi (pa_cons (pv 0) (pa_cons (pe_bltn (v := .ty "str") (by rfl) ms bStr rfl) pa_nil)))))
        (pw_or1 (pt_not (pt_chain op_lt op_lt pe_int (pe_callB call_len_str (by rfl) ml bLen (pa_cons (pv 0) pa_nil)) pe_int)))).pt (pss_one (ps_ret pe_bl)) pss_nil)
      (pss_one (ps_ret (pe_cmpR (op_eqL0 hr.units0) (pe_lc (own := [("_law_letter", 1)]) (g := gName 1) (tt := tTest (tOp (fun x y H Q => ∃ (c : Nat) (z : Str), x = .str ⟨#[c]⟩ ∧ y = .str z ∧ Q (.bl (!decide (c ∈ z.cps.toList))) H) (tVar 1) (tC (.str letters)))) (te := tVar 1) rfl scLName.nd (pi_str (pv 0)) (blkOk_by (own := [("_law_letter", 1)]) (N := nLName) (sc := defScope sLName) (by decide +kernel))
          (fun _ _ _ _ _ => pg_name (i := 1) scLName.nd rfl (Or.inl rfl)) (fun _ _ _ _ _ => pts_one (pt_cmpR op_notIn_sign (pv 1) pe_str rfl)) (fun _ _ _ _ _ => pv 1)) (pe_lst pa_nil) (nomark _)))), ?_⟩
    obtain ⟨_, _, kc, kt, kk⟩ := hv.q
    refine ⟨_, rfl, _, _, _, _, _, rfl, kc, kt, kk, _, rfl, ?_⟩
    cases o with
    | none => exact q H fun _ _ z => z
    | some z =>
      obtain ⟨rfl, hz⟩ := hv.z
      have hlen : z.length = z.cps.size := rfl
      have e1 : nameO (some z) = (decide (1 ≤ z.cps.size) && decide (z.cps.size ≤ 8) && inB letters z) := rfl
      rw [e1] at q
      refine ⟨_, rfl, _, rfl, szBigLe (by rw [hlen]; exact hz), _, _, rfl, rfl, _, rfl, ite2 (fun c1 => ?_) (fun c1 => ?_)⟩
      case _ =>
        have h1 : 1 ≤ z.cps.size := by have := of_decide_eq_true c1; rw [hlen] at this; omega
        refine ⟨_, _, rfl, rfl, _, rfl, ?_⟩
        by_cases h8 : z.cps.size ≤ 8
        case neg =>
          rw [decide_eq_false (show ¬ ((z.length : Nat) : Int) < 9 by rw [hlen]; omega)]
          rw [decide_eq_false h8, Bool.and_false, Bool.false_and] at q
          exact q H fun _ _ z => z
        rw [decide_eq_true (show ((z.length : Nat) : Int) < 9 by rw [hlen]; omega)]
        rw [decide_eq_true h8, decide_eq_true h1, Bool.true_and, Bool.true_and] at q
        refine ⟨_, rfl, z, rfl, fun D1 nD1 => ?_⟩
        refine lc_str (x := z) (fun i H1 => Same H H1 ∧ H1 D1 = some (.lst (((z.cps.toList.take i).filter fun c => !decide (c ∈ letters.cps.toList)).map fun c => V.str ⟨#[c]⟩))) ⟨same_new nD1, upd_same⟩ ?_ ?_
        · rintro i c H3 hc ⟨s3, hD⟩
          have hil : i < z.cps.size := (Array.getElem?_eq_some_iff.mp hc).1
          have hsn := filt_snoc' (f := fun c => !decide (c ∈ letters.cps.toList)) (l := z.cps.toList) (i := i) (x := c) (by rw [Array.getElem?_toList]; exact hc)
          refine ⟨rfl, ?_⟩
          refine ⟨_, rfl, c, letters, rfl, rfl, _, rfl, ite2 (fun e => ?_) (fun e => ?_)⟩
          · refine ⟨_, rfl, _, hD, ?_, ?_, ?_⟩
            · rw [List.length_map]
              refine szBig (Nat.le_trans (List.length_filter_le _ _) ?_)
              rw [List.length_take]
              omega
            · intro b o e
              rw [upd_ne (ne_of_none e nD1)]
              exact s3 _ _ e
            · rw [upd_same, hsn, if_pos e, List.map_append]
              rfl
          · refine ⟨s3, ?_⟩
            rw [hsn, if_neg e, List.append_nil]
            exact hD
        rintro H3 ⟨s3, hD⟩
        rw [show z.cps.toList.take z.cps.size = z.cps.toList from List.take_of_length_le (by rw [Array.length_toList]; exact Nat.le_refl _)] at hD
        refine ⟨by show 0 ≤ sizeLine; decide, fun D2 nD2 => ?_⟩
        have s4 : Same H3 (upd H3 D2 (.lst [])) := same_new nD2
        refine ⟨D1, D2, _, rfl, rfl, SqL.of (s4 _ _ hD), SqL.of upd_same, ?_⟩
        rw [if_neg (by decide), filt_in]
        exact q _ (s3.trans s4)
      case _ =>
        have h1 : ¬ 1 ≤ z.cps.size := fun y => c1 (decide_eq_true (by rw [hlen]; omega))
        rw [decide_eq_false h1, Bool.false_and, Bool.false_and] at q
        exact ⟨_, rfl, q H fun _ _ z => z⟩
theorem ok_lSg {f fN : Addr} {fd fdN : FuncData} {k : Nat} (F : Fun K "_law_is_signs" "_law_is_signs" sLSg f fd) (FN : Fun K "_law_is_name" "_law_is_name" sLName fN fdN) (bN : Binds K fdN ["_law_thing_here"] []) (gN : mg "_law_is_name" = some (.ref fN))
    (mis : mg "isinstance" = none) (ms : mg "str" = none) (ml : mg "len" = none) (mli : mg "list" = none) (mso : mg "sorted" = none) (mse : mg "set" = none) :
    FnOk P w K mg base CX0 (k + 2) f fd ["_law_thing_here"] (spIsSg0 K) := by
  have GN : FnOk P w K mg base CX0 (k + 1) fN fdN ["_law_thing_here"] (spName0 K) := ok_lName FN mis ms ml
  refine F.ok scLSg (fun vs H Q E h => ?_) (fun cdv A outer s H vs Q E hr h => ?_)
  · obtain ⟨x, o, rfl, _⟩ := h
    rfl
  · obtain ⟨v, t, rfl, hv, hf, q⟩ := h
    refine ⟨_, pss_one (ps_ret (pe_and (pe_call GN hr (by rfl) gN FN.kp bN .nil pass0 (pa_cons (pv 0) pa_nil)) (pe_and (pe_cmpR op_lt (pe_callB call_len_str (by rfl) ml bLen (pa_cons (pv 0) pa_nil)) pe_int (nomark _))
      (pe_one (pe_cmpR (op_eqD hr.units) (pe_callTy (call_listS rfl) (by rfl) mli bList (pa_cons (pv 0) pa_nil)) (pe_sortSet (by rfl) mso (by rfl) mse (pv 0)) (nomark _)))))), ?_⟩
    have hso := hv.so hf
    rw [sg_name] at q
    refine ⟨_, rfl, v, strOf t, rfl, hso, fun H1 s1 => ⟨_, rfl, ite2 (fun e => ?_) (fun e => ?_)⟩⟩
    case _ =>
      rw [e, Bool.true_and] at q
      cases ho : strOf t with
      | none => rw [ho] at e; cases e
      | some z =>
        rw [ho] at q hso e
        obtain ⟨rfl, hz⟩ := hso.z
        have hlen : z.length = z.cps.size := rfl
        have hin : inB letters z = true := by
          have e1 : (decide (1 ≤ z.cps.size) && decide (z.cps.size ≤ 8) && inB letters z) = true := e
          exact (Bool.and_eq_true_iff.mp e1).2
        have q' : ∀ H', Same H H' → Q (V.bl (decide (z.cps.size ≤ 4) && decide (z.cps.toList.Pairwise (· < ·)))) H' := q
        refine ⟨_, rfl, z, rfl, szBigLe (by rw [hlen]; exact hz), _, _, rfl, rfl, _, rfl, ite2 (fun c1 => ?_) (fun c1 => ?_)⟩
        · have h4 : z.cps.size ≤ 4 := by have := of_decide_eq_true c1; rw [hlen] at this; omega
          rw [decide_eq_true h4, Bool.true_and] at q'
          have hok := lett_ok hin
          refine ⟨_, rfl, z, rfl, by omega, fun q1 n1 => ?_⟩
          have s2 := same_new (o := .lst (z.cps.toList.map fun c => V.str ⟨#[c]⟩)) n1
          have hq1 : (upd H1 q1 (.lst (z.cps.toList.map fun c => V.str ⟨#[c]⟩))) q1 = some (.lst ((z.cps.toList.map one1).map V.str)) := by
            rw [upd_same, List.map_map]
            rfl
          generalize (upd H1 q1 (.lst (z.cps.toList.map fun c => V.str ⟨#[c]⟩))) = H2 at s2 hq1
          refine ⟨_, rfl, z, rfl, by omega, fun ys r hs nd hm nr => ?_⟩
          have s3 : Same H2 (upd H2 r (.lst (ys.map V.str))) := same_new nr
          have hr2 : (upd H2 r (.lst (ys.map V.str))) r = some (.lst (ys.map V.str)) := upd_same
          generalize (upd H2 r (.lst (ys.map V.str))) = H3 at s3 hr2
          refine ⟨.list ((z.cps.toList.map one1).map .str), .list (ys.map .str), .lst (SqL.of (s3 _ _ hq1)) (dpAll_strs _), .lst (SqL.of hr2) (dpAll_strs _), shp_strs fun x hx => ?_, shp_strs fun x hx => ?_, ?_⟩
          · obtain ⟨c, hc, rfl⟩ := List.mem_map.mp hx
            exact strOk_one' hok hc
          · obtain ⟨c, hc, rfl⟩ := (hm x).mp hx
            exact strOk_one' hok hc
          rw [show PyData.eqv (.list ((z.cps.toList.map one1).map .str)) (.list (ys.map .str)) = decide (z.cps.toList.map one1 = ys) by simp only [PyData.eqv]; exact eqvAll_strs _ _, sgs_sorted hs nd hm]
          exact q' H3 ((s1.trans s2).trans s3)
        · have h4 : ¬ z.cps.size ≤ 4 := fun y => c1 (decide_eq_true (by rw [hlen]; omega))
          rw [decide_eq_false h4, Bool.false_and] at q'
          exact q' H1 s1
    case _ =>
      rw [Bool.eq_false_iff.mpr e, Bool.false_and] at q
      exact q H1 s1
end
end K11

namespace Rg
open PySem PySem.Spec PyProof.Rows L2 Mach
def keyO : Key → Option Str
  | .inl _ => none
  | .inr z => some z
def entO (s : Str) (p : Key × PyData) : Bool := signO s (keyO p.1) && textO s (strOf (.dat p.2))
/-- a dict from signs to texts -/
def mapQ (s : Str) : Tg → Bool
  | .dat (.dict kvs) => kvs.all fun p => signO s (strOf (.dat p.1)) && textO s (strOf (.dat p.2))
  | _ => false
theorem strOf_key (k : Key) : strOf (.dat (kyD k)) = keyO k := by cases k <;> rfl
theorem mapQ_of (s : Str) (ps : List (Key × PyData)) : mapQ s (.dat (.dict (ps.map fun p => (kyD p.1, p.2)))) = ps.all (entO s) := by
  show (ps.map fun p => (kyD p.1, p.2)).all _ = _
  rw [List.all_map]
  congr 1
  funext p
  show (signO s (strOf (.dat (kyD p.1))) && textO s (strOf (.dat p.2))) = entO s p
  rw [strOf_key]
  rfl
theorem mapQ_no {s : Str} {t : Tg} (h : t.isD = false) : mapQ s t = false := by
  cases t with
  | own => rfl
  | dat d => cases d <;> first | rfl | cases h
/-- a dict whose values are no dicts -/
def Tg.flatD : Tg → Prop
  | .dat (.dict kvs) => ∀ p ∈ kvs, tyN p.2 ≠ "dict"
  | _ => True
def spMap0 (K : PySem.W.Frag) : Sp := fun vs H Q _ => ∃ (s : Str) (v : V) (t : Tg), vs = [.str s, v] ∧ Tq0 K H v t ∧ t.few ∧ t.flatD ∧ ∀ H', Same H H' → Q (.bl (mapQ s t)) H'
theorem bulkKv_mem : ∀ (kvs : List (PyData × PyData)) (p : PyData × PyData), p ∈ kvs → p.1.bulk ≤ PyData.bulkKv kvs ∧ p.2.bulk ≤ PyData.bulkKv kvs
  | (a, b) :: r, p, h => by
    simp only [PyData.bulkKv]
    rcases List.mem_cons.mp h with z | z
    · rw [z]
      exact ⟨by show a.bulk ≤ _; omega, by show b.bulk ≤ _; omega⟩
    · have := bulkKv_mem r p z
      omega
theorem bulkKv_len : ∀ kvs : List (PyData × PyData), kvs.length ≤ PyData.bulkKv kvs
  | [] => Nat.le_refl _
  | (a, b) :: r => by
    have := bulkKv_len r
    simp only [List.length_cons, PyData.bulkKv]
    omega
theorem few_dict {kvs : List (PyData × PyData)} (h : Tg.few (.dat (.dict kvs))) : kvs.length ≤ 100000 ∧ ∀ p ∈ kvs, Tg.few (.dat p.1) ∧ Tg.few (.dat p.2) := by
  have h' : PyData.bulk (.dict kvs) ≤ 100000 := h
  simp only [PyData.bulk] at h'
  refine ⟨Nat.le_trans (bulkKv_len kvs) h', fun p hp => ?_⟩
  have := bulkKv_mem kvs p hp
  exact ⟨show p.1.bulk ≤ 100000 by omega, show p.2.bulk ≤ 100000 by omega⟩
section
variable {K : PySem.W.Frag} {H H' : Hp} {d : Addr}
theorem DqKv.get {vs : List (Key × V)} {ps : List (Key × PyData)} (h : DqKv K H vs ps) {i : Nat} {k : Key} {v : V} (e : vs[i]? = some (k, v)) : ∃ dv, ps[i]? = some (k, dv) ∧ Dq K H v dv := by
  induction vs generalizing ps i with
  | nil => cases e
  | cons x vs ih =>
    cases h with
    | cons h1 a =>
      cases i with
      | zero => cases e; exact ⟨_, rfl, h1⟩
      | succ i => exact ih a (by simpa using e)
theorem DqKv.length {vs : List (Key × V)} {ps : List (Key × PyData)} (h : DqKv K H vs ps) : vs.length = ps.length := by
  induction vs generalizing ps with
  | nil => cases h; rfl
  | cons v vs ih => cases h with | cons _ a => rw [List.length_cons, List.length_cons, ih a]
/-- a value of a dict that is locked -/
theorem so_lock {ks : List (Key × V)} {v : V} {dv : PyData} (hd : H d = some (.dK ks)) (k : ∀ b o, b ≠ d → H b = some o → H' b = some o) (h : Dq K H v dv) (nd : tyN dv ≠ "dict") (hf : Tg.few (.dat dv)) : StrOr K H' v (strOf (.dat dv)) := by
  have k_NoneType : kitB "NoneType" "str" = some false := by decide +kernel
  have k_bool : kitB "bool" "str" = some false := by decide +kernel
  have k_int : kitB "int" "str" = some false := by decide +kernel
  have k_list : kitB "list" "str" = some false := by decide +kernel
  have k_tuple : kitB "tuple" "str" = some false := by decide +kernel
  cases h with
  | non => exact .no (.base .non) (kit_ty k_NoneType)
  | bl b => exact .no (.base (.bl b)) (kit_ty k_bool)
  | int i => exact .no (.base (.int i)) (kit_ty k_int)
  | str z => exact .str z (few_str hf)
  | lst h _ => exact .no (.base (.lst (k _ _ (ne_of h hd (fun z => by cases z)) h))) (kit_ty k_list)
  | @tup _ xs _ h _ =>
    refine .no (SqT.tyX (xs := xs) ?_) (kit_ty k_tuple)
    rcases h with (h | ⟨o, h⟩) | h
    · exact .inl (.inl (k _ _ (ne_of h hd (fun z => by cases z)) h))
    · exact .inl (.inr ⟨o, k _ _ (ne_of h hd (fun z => by cases z)) h⟩)
    · exact .inr h
  | dct => exact absurd rfl nd
theorem so_key {k : Key} (hf : Tg.few (.dat (kyD k))) : StrOr K H (kV k) (keyO k) := by
  have k_int : kitB "int" "str" = some false := by decide +kernel
  cases k with
  | inl i => exact .no (.base (.int i)) (kit_ty k_int)
  | inr z => exact .str z (few_str hf)
end
/-- no key twice -/
def Tg.nodD : Tg → Prop
  | .dat (.dict kvs) => (kvs.map Prod.fst).Nodup
  | _ => True
theorem DqKv.keys {K : PySem.W.Frag} {H : Hp} {vs : List (Key × V)} {ps : List (Key × PyData)} (h : DqKv K H vs ps) : vs.map Prod.fst = ps.map Prod.fst := by
  induction vs generalizing ps with
  | nil => cases h; rfl
  | cons v vs ih => cases h with | cons _ a => rw [List.map_cons, List.map_cons, ih a]
theorem kyD_inj {a b : Key} (h : kyD a = kyD b) : a = b := by
  cases a <;> cases b <;> simp [kyD] at h <;> rw [h]
theorem valV_get : ∀ {ks : List (Key × V)} {i : Nat} {k : Key} {v : V}, (ks.map Prod.fst).Nodup → ks[i]? = some (k, v) → valV ks k = some v
  | [], _, _, _, _, e => by cases e
  | (k0, v0) :: ks, 0, k, v, _, e => by cases e; exact valV_pos rfl
  | (k0, v0) :: ks, i + 1, k, v, nd, e => by
    rw [List.map_cons, List.nodup_cons] at nd
    have e' : ks[i]? = some (k, v) := by simpa using e
    have hne : ¬ (k0, v0).1 = k := fun h => nd.1 (by
      have h : k0 = k := h
      rw [h]
      exact List.mem_map.mpr ⟨_, List.mem_of_getElem? e', rfl⟩)
    rw [valV_neg hne]
    exact valV_get nd.2 e'
def spLMap0 (K : PySem.W.Frag) : Sp := fun vs H Q _ => ∃ (s : Str) (v : V) (t : Tg), vs = [.str s, v] ∧ Tq0 K H v t ∧ t.few ∧ t.flatD ∧ t.nodD ∧ ∀ H', Same H H' → Q (.bl (mapQ s t)) H'
theorem sign_eq (s z : Str) : signO s (some z) = (inB s z && (!decide (z.cps.size = 0) && !decide (1 < z.cps.size))) := by
  show (inB s z && decide (z.cps.size = 1)) = _
  congr 1
  rw [Bool.eq_iff_iff, decide_eq_true_iff, Bool.and_eq_true, Bool.not_eq_true', Bool.not_eq_true', decide_eq_false_iff_not, decide_eq_false_iff_not]
  omega
theorem bDictT : bootBuiltins "dict" = some (.type "dict") := by decide +kernel
end Rg
namespace K11
open PySem PySem.Spec PyProof.Rows L2 Rg Mach
abbrev sIsMap : Stmt := topS 9
abbrev sLMap : Stmt := topS 45
def nIsMap : List Str := ["signs", "thing", "key", "text"]
theorem scIsMap : FnScope nIsMap ["signs", "thing"] (defScope sIsMap) := ⟨rfl, rfl, rfl, by decide +kernel, rfl, by decide +kernel, by decide +kernel⟩
def nLMap : List Str := ["_law_signs", "_law_thing_here", "_law_key"]
theorem scLMap : FnScope nLMap ["_law_signs", "_law_thing_here"] (defScope sLMap) := ⟨rfl, rfl, rfl, by decide +kernel, rfl, by decide +kernel, by decide +kernel⟩
section
variable {P : Program} {w : World} {K : PySem.W.Frag} {mg : Str → Option Value} {base : Heap}
theorem ok_isMap {f fS fT : Addr} {fd fdS fdT : FuncData} {k : Nat} (F : Fun K "is_map" "is_map" sIsMap f fd)
    (FS : Fun K "is_sign" "is_sign" sIsSign fS fdS) (bS : Binds K fdS ["signs", "thing"] []) (gS : mg "is_sign" = some (.ref fS)) (FT : Fun K "is_text" "is_text" sIsText fT fdT) (bT : Binds K fdT ["signs", "thing"] []) (gT : mg "is_text" = some (.ref fT))
    (mis : mg "isinstance" = none) (ms : mg "str" = none) (ma : mg "all" = none) (ml : mg "len" = none) (md : mg "dict" = none) :
    FnOk P w K mg base CX0 (k + 3) f fd ["signs", "thing"] (spMap0 K) := by
  have GS : FnOk P w K mg base CX0 (k + 2) fS fdS ["signs", "thing"] (spSign0 K) := ok_isSign0 FS FT bT gT mis ms ma ml
  have GT : FnOk P w K mg base CX0 (k + 2) fT fdT ["signs", "thing"] (spText0 K) := ok_isText0 FT mis ms ma
  refine F.ok scIsMap (fun vs H Q E h => ?_) (fun cdv A outer s H vs Q E hr h => ?_)
  · obtain ⟨z, x, o, rfl, _⟩ := h
    rfl
  · obtain ⟨sg, v, t, rfl, hv, hf, hfl, q⟩ := h
    refine ⟨_, pss_cons (ps_if (pt_not (pt_val (pe_callB call_isi (by rfl) mis bIsi (pa_cons (pv 1) (pa_cons (pe_bltn (v := .ty "dict") (by rfl) md bDictT rfl) pa_nil))))) (pss_one (ps_ret pe_bl)) pss_nil)
      (pss_one (ps_ret (pe_callB (cr_all rfl) (by rfl) ma bAll (pa_cons (pe_lock (pe_lc (own := [("key", 2), ("text", 3)]) (g := gTup K 2 (gCons (gName 2) (gCons (gName 3) gNil))) (tt := tYes) (te := tAndV (tCall (spSign0 K) [] E0 (tCons (tVar 0) (tCons (tVar 2) tNil))) (tCall (spText0 K) [] E0 (tCons (tVar 0) (tCons (tVar 3) tNil)))) rfl scIsMap.nd (pi_items (pv 1)) (blkOk_by (own := [("key", 2), ("text", 3)]) (N := nIsMap) (sc := defScope sIsMap) (by decide +kernel))
          (fun _ _ _ _ _ => pg_tup rfl (pgs_cons (pg_name (i := 2) scIsMap.nd rfl (Or.inl rfl)) (pgs_cons (pg_name (i := 3) scIsMap.nd rfl (Or.inl rfl)) pgs_nil))) (fun _ _ _ _ _ => pts_nil)
          (fun _ _ _ _ _ => pe_and (pe_call GS hr (by rfl) gS FS.kp bS .nil pass0 (pa_cons (pv 0) (pa_cons (pv 2) pa_nil))) (pe_one (pe_call GT hr (by rfl) gT FT.kp bT .nil pass0 (pa_cons (pv 0) (pa_cons (pv 3) pa_nil))))))) pa_nil)))), ?_⟩
    obtain ⟨_, _, kc, kt, kk⟩ := hv.qD
    refine ⟨_, rfl, _, _, _, _, _, rfl, kc, kt, kk, _, rfl, ?_⟩
    by_cases hD : t.isD = true
    case neg =>
      have e1 := Bool.eq_false_iff.mpr hD
      rw [e1]
      rw [mapQ_no e1] at q
      exact q H fun _ _ z => z
    rw [hD]
    obtain ⟨kvs, rfl⟩ := Tg.isD_dict hD
    obtain ⟨d, ks, ps, rfl, hd, hkv, rfl⟩ := hv.dct
    have hkl := hkv.length
    obtain ⟨hpl, hpf⟩ := few_dict hf
    rw [List.length_map] at hpl
    rw [mapQ_of] at q
    refine ⟨d, _, hd, trivial, fun od => ?_⟩
    have kp : ∀ b o, b ≠ d → H b = some o → (upd H d (.frz od (.dK ks))) b = some o := fun b o n e => by rw [upd_ne n]; exact e
    have hd1 : (upd H d (.frz od (.dK ks))) d = some (.frz od (.dK ks)) := upd_same
    generalize (upd H d (.frz od (.dK ks))) = H1 at kp hd1
    refine ⟨_, rfl, d, od, ks, rfl, hd1, fun D1 nD1 => ?_⟩
    have dD : d ≠ D1 := ne_of_none hd1 nD1
    refine lc_it walk_items (fun i H2 => Same H1 H2 ∧ H2 D1 = some (.lst ((ps.take i).map fun p => V.bl (entO sg p)))) ⟨same_new nD1, upd_same⟩ (fun i H2 _ ⟨s2, _⟩ => s2 _ _ hd1) ?_ ?_
    · rintro i x H2 H3 hi ⟨s2, hD2⟩ ⟨T, x1, y1, rfl, nT, rfl, e1, e2⟩
      obtain ⟨kv, hkv1⟩ : ∃ kv, ks[i]? = some kv := ⟨_, List.getElem?_eq_getElem hi⟩
      obtain ⟨kk', vv⟩ := kv
      simp only [hkv1, Option.map_some, Option.some.injEq] at e1 e2
      subst e1 e2
      obtain ⟨dv, hdv, hdq⟩ := hkv.get hkv1
      have hmem := List.mem_of_getElem? hdv
      have hmem2 : (kyD kk', dv) ∈ ps.map fun p => (kyD p.1, p.2) := List.mem_map.mpr ⟨_, hmem, rfl⟩
      have hfe := hpf _ hmem2
      have hnd := hfl _ hmem2
      have nTD : T ≠ D1 := (ne_of_none hD2 nT).symm
      have s3 : Same H2 (upd H2 T (.tup [kV kk', vv])) := same_new nT
      have k3 : ∀ b o, b ≠ d → H b = some o → (upd H2 T (.tup [kV kk', vv])) b = some o := fun b o n e => s3 _ _ (s2 _ _ (kp b o n e))
      have keep : ∀ (l : List V) (H4 : Hp), Same (upd H2 T (.tup [kV kk', vv])) H4 → Same H1 (upd H4 D1 (.lst l)) := fun l H4 s4 b o e => by
        rw [upd_ne (ne_of_none e nD1)]
        exact s4 _ _ (s3 _ _ (s2 _ _ e))
      refine ⟨T, _, rfl, SqT.of upd_same, rfl, _, _, rfl, _, _, rfl, rfl, rfl, ?_⟩
      refine ⟨_, rfl, _, rfl, sg, kV kk', keyO kk', rfl, so_key hfe.1, fun H4 s4 => ⟨_, rfl, ite2 (fun e => ?_) (fun e => ?_)⟩⟩
      · refine ⟨_, rfl, _, rfl, sg, vv, _, rfl, so_lock hd (fun b o n e => s4 _ _ (k3 b o n e)) hdq hnd hfe.2, fun H5 s5 => ?_⟩
        refine ⟨_, (s4.trans s5) _ _ (s3 _ _ hD2), by rw [List.length_map, List.length_take]; exact szBig (by omega), keep _ _ (s4.trans s5), ?_⟩
        rw [upd_same, take_snoc hdv, List.map_append]
        have : entO sg (kk', dv) = textO sg (strOf (.dat dv)) := by
          unfold entO
          rw [show signO sg (keyO kk') = true from e, Bool.true_and]
        rw [← this]
        rfl
      · refine ⟨_, s4 _ _ (s3 _ _ hD2), by rw [List.length_map, List.length_take]; exact szBig (by omega), keep _ _ s4, ?_⟩
        rw [upd_same, take_snoc hdv, List.map_append]
        have : entO sg (kk', dv) = false := by
          unfold entO
          rw [Bool.eq_false_iff.mpr e, Bool.false_and]
        show some (HO.lst (_ ++ [V.bl false])) = some (HO.lst (_ ++ [V.bl (entO sg (kk', dv))]))
        rw [this]
    rintro H2 ⟨s2, hD2⟩
    rw [hkl, List.take_length, map_bl] at hD2
    have hd2 := s2 _ _ hd1
    refine ⟨hd2, ?_⟩
    refine ⟨D1, _, rfl, SqL.of (by rw [upd_ne dD.symm]; exact hD2), ?_⟩
    rw [all_id_map]
    refine q _ fun b o e => ?_
    by_cases hb : b = d
    · subst hb
      rw [upd_same, ← e, hd]
    · rw [upd_ne hb]
      exact s2 _ _ (kp b o hb e)
theorem ok_lMap {f fT : Addr} {fd fdT : FuncData} {k : Nat} (F : Fun K "_law_is_map" "_law_is_map" sLMap f fd)
    (FT : Fun K "_law_is_text" "_law_is_text" sLText fT fdT) (bT : Binds K fdT ["_law_signs", "_law_thing_here"] []) (gT : mg "_law_is_text" = some (.ref fT))
    (mis : mg "isinstance" = none) (ms : mg "str" = none) (ml : mg "len" = none) (md : mg "dict" = none) :
    FnOk P w K mg base CX0 (k + 2) f fd ["_law_signs", "_law_thing_here"] (spLMap0 K) := by
  have GT : FnOk P w K mg base CX0 (k + 1) fT fdT ["_law_signs", "_law_thing_here"] (spText0 K) := ok_lText FT mis ms
  refine F.ok scLMap (fun vs H Q E h => ?_) (fun cdv A outer s H vs Q E hr h => ?_)
  · obtain ⟨z, x, o, rfl, _⟩ := h
    rfl
  · obtain ⟨sg, v, t, rfl, hv, hf, hfl, hnd, q⟩ := h
    have hu := hu_of hr
    refine ⟨_, pss_cons (ps_if (pt_not (pt_val (pe_callB call_isi (by rfl) mis bIsi (pa_cons (pv 1) (pa_cons (pe_bltn (v := .ty "dict") (by rfl) md bDictT rfl) pa_nil))))) (pss_one (ps_ret pe_bl)) pss_nil)
      (pss_cons (ps_lock (ps_for PassesOwn.never rfl (pi_keys (pv 1)) (pg_name (i := 2) scLMap.nd rfl (.inl rfl))
        (pss_one (ps_if (pw_or (pt_not (pt_val (pe_call GT hr (by rfl) gT FT.kp bT .nil pass0 (pa_cons (pv 0) (pa_cons (pv 2) pa_nil)))))
          (pw_or (pt_cmpR op_eq (pv 2) pe_str (nomark _)) (pw_or (pt_cmpR op_gt (pe_callB call_len_str (by rfl) ml bLen (pa_cons (pv 2) pa_nil)) pe_int (nomark _))
          (pw_or1 (pt_not (pt_val (pe_call GT hr (by rfl) gT FT.kp bT .nil pass0 (pa_cons (pv 0) (pa_cons (pe_dget hu (pv 1) (pv 2) (fun _ _ => rfl)) pa_nil))))))))).pt (pss_one (ps_ret pe_bl)) pss_nil))))
      (pss_one (ps_ret pe_bl))), ?_⟩
    obtain ⟨_, _, kc, kt, kk⟩ := hv.qD
    refine ⟨_, rfl, _, _, _, _, _, rfl, kc, kt, kk, _, rfl, ?_⟩
    by_cases hD : t.isD = true
    case neg =>
      have e1 := Bool.eq_false_iff.mpr hD
      rw [e1]
      rw [mapQ_no e1] at q
      exact q H fun _ _ z => z
    rw [hD]
    obtain ⟨kvs, rfl⟩ := Tg.isD_dict hD
    obtain ⟨d, ks, ps, rfl, hd, hkv, rfl⟩ := hv.dct
    have hkl := hkv.length
    obtain ⟨hpl, hpf⟩ := few_dict hf
    rw [List.length_map] at hpl
    have hkn : (ks.map Prod.fst).Nodup := by
      rw [hkv.keys]
      have h1 : ((ps.map fun p => (kyD p.1, p.2)).map Prod.fst).Nodup := hnd
      rw [List.map_map] at h1
      have h2 : (ps.map (Prod.fst ∘ fun p : Key × PyData => (kyD p.1, p.2))) = (ps.map Prod.fst).map kyD := by rw [List.map_map]; rfl
      rw [h2] at h1
      rw [List.Nodup, List.pairwise_map] at h1
      exact h1.imp fun hab e => hab (by rw [e])
    rw [mapQ_of] at q
    refine ⟨d, _, hd, trivial, fun od => ?_⟩
    have kp : ∀ b o, b ≠ d → H b = some o → (upd H d (.frz od (.dK ks))) b = some o := fun b o n e => by rw [upd_ne n]; exact e
    have hd1 : (upd H d (.frz od (.dK ks))) d = some (.frz od (.dK ks)) := upd_same
    generalize (upd H d (.frz od (.dK ks))) = H1 at kp hd1
    have back : ∀ H2, Same H1 H2 → Same H (upd H2 d (.dK ks)) := fun H2 s2 b o e => by
      by_cases hb : b = d
      · subst hb
        rw [upd_same, ← e, hd]
      · rw [upd_ne hb]
        exact s2 _ _ (kp b o hb e)
    refine ⟨_, rfl, d, od, rfl, .inl ⟨ks, hd1, ?_⟩⟩
    refine for_it walk_keys (fun i σ H2 => (∃ y2 : Option V, σ = [some (.str sg), some (.ref d), y2]) ∧ Same H1 H2 ∧ (ps.take i).all (entO sg) = true) ⟨⟨none, rfl⟩, fun _ _ z => z, rfl⟩ (fun i σ H2 _ ⟨_, s2, _⟩ => s2 _ _ hd1) ?_ ?_
    · rintro i x σ H2 H3 hi ⟨⟨y2, rfl⟩, s2, hal⟩ ⟨rfl, kk', vv, hkv1, rfl⟩
      obtain ⟨dv, hdv, hdq⟩ := hkv.get hkv1
      have hmem := List.mem_of_getElem? hdv
      have hmem2 : (kyD kk', dv) ∈ ps.map fun p => (kyD p.1, p.2) := List.mem_map.mpr ⟨_, hmem, rfl⟩
      have hfe := hpf _ hmem2
      have hnd2 := hfl _ hmem2
      have hd2 := s2 _ _ hd1
      have bad : entO sg (kk', dv) = false → ∀ H4, Same H3 H4 → H4 d = some (.frz od (.dK ks)) ∧ Q (.bl false) (upd H4 d (.dK ks)) := fun e H4 s4 => by
        have : ps.all (entO sg) = false := by
          rw [Bool.eq_false_iff]
          intro y
          rw [List.all_eq_true.mp y _ hmem] at e
          cases e
        rw [this] at q
        exact ⟨s4 _ _ hd2, q _ (back _ (s2.trans s4))⟩
      refine ⟨_, rfl, _, rfl, sg, kV kk', keyO kk', rfl, so_key hfe.1, fun H4 s4 => ⟨_, rfl, ?_⟩⟩
      by_cases ht : textO sg (keyO kk') = true
      case neg =>
        rw [Bool.eq_false_iff.mpr ht]
        refine bad ?_ H4 s4
        cases kk' with
        | inl i => rfl
        | inr z =>
          unfold entO
          rw [show keyO (.inr z) = some z from rfl, sign_eq, show inB sg z = false from Bool.eq_false_iff.mpr ht]
          rfl
      rw [ht]
      cases kk' with
      | inl i => cases ht
      | inr z =>
        have hin : inB sg z = true := ht
        have hzs := few_str hfe.1
        have hlen : z.length = z.cps.size := rfl
        have ent : entO sg (.inr z, dv) = ((!decide (z.cps.size = 0) && !decide (1 < z.cps.size)) && textO sg (strOf (.dat dv))) := by
          unfold entO
          rw [show keyO (.inr z) = some z from rfl, sign_eq, hin, Bool.true_and]
        rw [ent] at bad
        have e0 : decide (kV (Sum.inr z) = V.str "") = decide (z.cps.size = 0) := by
          rw [Bool.eq_iff_iff, decide_eq_true_iff, decide_eq_true_iff]
          constructor
          · intro h
            have h1 : z = "" := V.str.inj h
            rw [h1]
            decide +kernel
          · intro h
            have h1 : z = "" := by
              obtain ⟨c⟩ := z
              have h2 : c = #[] := Array.eq_empty_of_size_eq_zero h
              rw [h2]
              decide +kernel
            rw [h1]
            rfl
        refine ⟨_, rfl, rfl, _, rfl, ?_⟩
        rw [e0]
        by_cases h0 : z.cps.size = 0
        case pos =>
          rw [decide_eq_true h0]
          exact bad (by rw [decide_eq_true h0]; rfl) H4 s4
        rw [decide_eq_false h0]
        refine ⟨_, rfl, z, rfl, szBigLe (by rw [hlen]; exact hzs), _, _, rfl, rfl, _, rfl, ?_⟩
        by_cases h1 : 1 < z.cps.size
        case pos =>
          rw [decide_eq_true (show ((z.length : Nat) : Int) > 1 by rw [hlen]; omega)]
          exact bad (by rw [decide_eq_true h1, Bool.not_true, Bool.and_false, Bool.false_and]) H4 s4
        rw [decide_eq_false (show ¬ ((z.length : Nat) : Int) > 1 by rw [hlen]; omega)]
        rw [decide_eq_false h0, decide_eq_false h1] at bad ent
        refine ⟨_, rfl, _, rfl, _, rfl, d, _, rfl, .inl ⟨ks, .inr z, .inr ⟨od, s4 _ _ hd2⟩, rfl, (valV_get hkn hkv1).symm⟩, sg, vv, _, rfl, so_lock hd (fun b o n e => s4 _ _ (s2 _ _ (kp b o n e))) hdq hnd2 hfe.2, fun H5 s5 => ⟨_, rfl, ?_⟩⟩
        by_cases h2 : textO sg (strOf (.dat dv)) = true
        · rw [h2]
          refine ⟨⟨_, rfl⟩, s2.trans (s4.trans s5), ?_⟩
          rw [take_snoc hdv, List.all_append, hal, List.all_cons, ent, h2]
          rfl
        · rw [Bool.eq_false_iff.mpr h2]
          exact bad (by rw [Bool.eq_false_iff.mpr h2, Bool.and_false]) H5 (s4.trans s5)
    · rintro σ H2 ⟨⟨y2, rfl⟩, s2, hal⟩
      rw [hkl, List.take_length] at hal
      rw [hal] at q
      exact ⟨s2 _ _ hd1, q _ (back _ s2)⟩
end
end K11

/-! errors of all classes, made and asked -/
namespace K11
open PySem PySem.Spec PyProof.Rows L2 Rg Mach
abbrev sErrs : Stmt := topS 38
abbrev sFlags : Stmt := topS 39
theorem scErrs : FnScope ["_law_x", "_law_y", "_law_some"] ["_law_x", "_law_y"] (defScope sErrs) := ⟨rfl, rfl, rfl, by decide +kernel, rfl, by decide +kernel, by decide +kernel⟩
theorem scFlags : FnScope ["_law_e", "_law_some"] ["_law_e"] (defScope sFlags) := ⟨rfl, rfl, rfl, by decide +kernel, rfl, by decide +kernel, by decide +kernel⟩
def fldsE (x y : V) : List (Option (List (Str × V))) := [some [(("place" : Str), x)], some [(("at" : Str), x)], some [(("name" : Str), x)], some [(("name" : Str), x)], some [(("limit" : Str), x)], some [(("at" : Str), x)], some [(("limit" : Str), x)], some [(("deed" : Str), x)], some [(("at" : Str), x)], none, none, none, none, none, none, none, some [(("address" : Str), y), (("function" : Str), x)], some [(("address" : Str), y), (("function" : Str), x)]]
/-- all that is known of the classes -/
structure Kls (P : Program) (w : World) (K : PySem.W.Frag) (mg : Str → Option Value) (base : Heap) (c0 c1 c2 c3 c4 c5 c6 c7 c8 c9 c10 c11 c12 c13 c14 c15 c16 c17 TE : Addr) : Prop where
  k0 : Kl1 P w K mg base c0 "Wrong" "place"
  k1 : Kl1 P w K mg base c1 "NoItem" "at"
  k2 : Kl1 P w K mg base c2 "BadSet" "name"
  k3 : Kl1 P w K mg base c3 "Unknown" "name"
  k4 : Kl1 P w K mg base c4 "TooMany" "limit"
  k5 : Kl1 P w K mg base c5 "Broken" "at"
  k6 : Kl1 P w K mg base c6 "Full" "limit"
  k7 : Kl1 P w K mg base c7 "Refused" "deed"
  k8 : Kl1 P w K mg base c8 "NoEntry" "at"
  k9 : Kl0 K mg c9 "NotFinite"
  k10 : Kl0 K mg c10 "Unlike"
  k11 : Kl0 K mg c11 "NotAppended"
  k12 : Kl0 K mg c12 "NoDeed"
  k13 : Kl0 K mg c13 "Nothing"
  k14 : Kl0 K mg c14 "NoText"
  k15 : Kl0 K mg c15 "NoCommand"
  k16 : Kl2 P w K mg base c16 "BadStatement" "function" "address"
  k17 : Kl2 P w K mg base c17 "Tangled" "function" "address"
  kT : Kl0 K mg TE "TextError"
  fam : Fam K [c0, c1, c2, c3, c4, c5, c6, c7, c8, c9, c10, c11, c12, c13, c14, c15, c16, c17] TE
def spErrs (cs : List Addr) : Sp := fun vs H Q _ => ∃ x y : V, vs = [x, y] ∧ ∀ (H' : Hp) (p : Addr) (as : List Addr), Same H H' → H' p = some (.lst (as.map V.ref)) → Er3 H' as cs (fldsE x y) → Q (.ref p) H'
def spFlags (cs : List Addr) : Sp := fun vs H Q _ => ∃ (a C : Addr), vs = [.ref a] ∧ ErAt H a C ∧ C ∈ cs ∧ ∀ (H' : Hp) (p : Addr), Same H H' → H' p = some (.lst (cs.map fun D => V.bl (decide (C = D)))) → Q (.ref p) H'
section
variable {P : Program} {w : World} {K : PySem.W.Frag} {mg : Str → Option Value} {base : Heap}
theorem ok_errs {f c0 c1 c2 c3 c4 c5 c6 c7 c8 c9 c10 c11 c12 c13 c14 c15 c16 c17 TE : Addr} {fd : FuncData} {k : Nat} (F : Fun K "_law_errors" "_law_errors" sErrs f fd) (KK : Kls P w K mg base c0 c1 c2 c3 c4 c5 c6 c7 c8 c9 c10 c11 c12 c13 c14 c15 c16 c17 TE) :
    FnOk P w K mg base CX0 (k + 3) f fd ["_law_x", "_law_y"] (spErrs [c0, c1, c2, c3, c4, c5, c6, c7, c8, c9, c10, c11, c12, c13, c14, c15, c16, c17]) := by
  obtain ⟨f0, fd0, i0, t0, F0, b0⟩ := KK.k0.ex
  obtain ⟨f1, fd1, i1, t1, F1, b1⟩ := KK.k1.ex
  obtain ⟨f2, fd2, i2, t2, F2, b2⟩ := KK.k2.ex
  obtain ⟨f3, fd3, i3, t3, F3, b3⟩ := KK.k3.ex
  obtain ⟨f4, fd4, i4, t4, F4, b4⟩ := KK.k4.ex
  obtain ⟨f5, fd5, i5, t5, F5, b5⟩ := KK.k5.ex
  obtain ⟨f6, fd6, i6, t6, F6, b6⟩ := KK.k6.ex
  obtain ⟨f7, fd7, i7, t7, F7, b7⟩ := KK.k7.ex
  obtain ⟨f8, fd8, i8, t8, F8, b8⟩ := KK.k8.ex
  obtain ⟨f16, fd16, i16, t16, F16, b16⟩ := KK.k16.ex
  obtain ⟨f17, fd17, i17, t17, F17, b17⟩ := KK.k17.ex
  refine F.ok scErrs (fun vs H Q E h => ?_) (fun cdv A outer s H0 vs Q E hr h => ?_)
  · obtain ⟨x, y, rfl, _⟩ := h
    rfl
  · obtain ⟨x, y, rfl, q⟩ := h
    refine ⟨_, pss_cons (ps_set (i := 2) scErrs.nd rfl (.inl rfl) (pe_lst (pa_cons (pe_oex KK.k0.T i0 t0 F0 (hr.mono (by omega)) b0 .nil pass0 (by rfl) KK.k0.m (pa_cons (pv 0) pa_nil)) (pa_cons (pe_oex KK.k1.T i1 t1 F1 (hr.mono (by omega)) b1 .nil pass0 (by rfl) KK.k1.m (pa_cons (pv 0) pa_nil)) (pa_cons (pe_oex KK.k2.T i2 t2 F2 (hr.mono (by omega)) b2 .nil pass0 (by rfl) KK.k2.m (pa_cons (pv 0) pa_nil)) (pa_cons (pe_oex KK.k3.T i3 t3 F3 (hr.mono (by omega)) b3 .nil pass0 (by rfl) KK.k3.m (pa_cons (pv 0) pa_nil)) (pa_cons (pe_oex KK.k4.T i4 t4 F4 (hr.mono (by omega)) b4 .nil pass0 (by rfl) KK.k4.m (pa_cons (pv 0) pa_nil)) (pa_cons (pe_oex KK.k5.T i5 t5 F5 (hr.mono (by omega)) b5 .nil pass0 (by rfl) KK.k5.m (pa_cons (pv 0) pa_nil)) (pa_cons (pe_oex KK.k6.T i6 t6 F6 (hr.mono (by omega)) b6 .nil pass0 (by rfl) KK.k6.m (pa_cons (pv 0) pa_nil)) (pa_cons (pe_oex KK.k7.T i7 t7 F7 (hr.mono (by omega)) b7 .nil pass0 (by rfl) KK.k7.m (pa_cons (pv 0) pa_nil)) (pa_cons (pe_oex KK.k8.T i8 t8 F8 (hr.mono (by omega)) b8 .nil pass0 (by rfl) KK.k8.m (pa_cons (pv 0) pa_nil)) pa_nil)))))))))))
      (pss_cons (ps_set (i := 2) scErrs.nd rfl (.inl rfl) (pe_op op_cat (pv 2) (pe_lst (pa_cons (pe_exc0 PySem.F.excBase_ValueError KK.k9.q KK.k9.m KK.k9.k (by rfl)) (pa_cons (pe_exc0 PySem.F.excBase_ValueError KK.k10.q KK.k10.m KK.k10.k (by rfl)) (pa_cons (pe_exc0 PySem.F.excBase_ValueError KK.k11.q KK.k11.m KK.k11.k (by rfl)) (pa_cons (pe_exc0 PySem.F.excBase_ValueError KK.k12.q KK.k12.m KK.k12.k (by rfl)) (pa_cons (pe_exc0 PySem.F.excBase_ValueError KK.k13.q KK.k13.m KK.k13.k (by rfl)) (pa_cons (pe_exc0 PySem.F.excBase_ValueError KK.k14.q KK.k14.m KK.k14.k (by rfl)) (pa_cons (pe_exc0 PySem.F.excBase_ValueError KK.k15.q KK.k15.m KK.k15.k (by rfl)) pa_nil))))))))))
      (pss_one (ps_ret (pe_op op_cat (pv 2) (pe_lst (pa_cons (pe_oex KK.k16.T i16 t16 F16 (hr.mono (by omega)) b16 .nil pass0 (by rfl) KK.k16.m (pa_cons (pv 0) (pa_cons (pv 1) pa_nil))) (pa_cons (pe_oex KK.k17.T i17 t17 F17 (hr.mono (by omega)) b17 .nil pass0 (by rfl) KK.k17.m (pa_cons (pv 0) (pa_cons (pv 1) pa_nil))) pa_nil))))))), ?_⟩
    refine ⟨_, rfl, by show 1 ≤ 1000; decide, fun a0 na0 => ⟨a0, _, rfl, upd_same, fun d0 nd0 hd0 => ⟨rfl, ?_⟩⟩⟩
    generalize hEq : upd (upd (upd H0 a0 _) d0 _) a0 _ = H1
    have s1 : Same H0 H1 := by
      rw [← hEq]
      exact er_same na0 nd0
    have e0 : erO H1 a0 c0 (some [(("place" : Str), x)]) := by
      rw [← hEq]
      exact ⟨d0, upd_same, by rw [upd_ne hd0, upd_same]⟩
    clear hEq na0 nd0 hd0
    refine ⟨_, rfl, by show 1 ≤ 1000; decide, fun a1 na1 => ⟨a1, _, rfl, upd_same, fun d1 nd1 hd1 => ⟨rfl, ?_⟩⟩⟩
    generalize hEq : upd (upd (upd H1 a1 _) d1 _) a1 _ = H2
    have s2 : Same H1 H2 := by
      rw [← hEq]
      exact er_same na1 nd1
    have e1 : erO H2 a1 c1 (some [(("at" : Str), x)]) := by
      rw [← hEq]
      exact ⟨d1, upd_same, by rw [upd_ne hd1, upd_same]⟩
    clear hEq na1 nd1 hd1
    refine ⟨_, rfl, by show 1 ≤ 1000; decide, fun a2 na2 => ⟨a2, _, rfl, upd_same, fun d2 nd2 hd2 => ⟨rfl, ?_⟩⟩⟩
    generalize hEq : upd (upd (upd H2 a2 _) d2 _) a2 _ = H3
    have s3 : Same H2 H3 := by
      rw [← hEq]
      exact er_same na2 nd2
    have e2 : erO H3 a2 c2 (some [(("name" : Str), x)]) := by
      rw [← hEq]
      exact ⟨d2, upd_same, by rw [upd_ne hd2, upd_same]⟩
    clear hEq na2 nd2 hd2
    refine ⟨_, rfl, by show 1 ≤ 1000; decide, fun a3 na3 => ⟨a3, _, rfl, upd_same, fun d3 nd3 hd3 => ⟨rfl, ?_⟩⟩⟩
    generalize hEq : upd (upd (upd H3 a3 _) d3 _) a3 _ = H4
    have s4 : Same H3 H4 := by
      rw [← hEq]
      exact er_same na3 nd3
    have e3 : erO H4 a3 c3 (some [(("name" : Str), x)]) := by
      rw [← hEq]
      exact ⟨d3, upd_same, by rw [upd_ne hd3, upd_same]⟩
    clear hEq na3 nd3 hd3
    refine ⟨_, rfl, by show 1 ≤ 1000; decide, fun a4 na4 => ⟨a4, _, rfl, upd_same, fun d4 nd4 hd4 => ⟨rfl, ?_⟩⟩⟩
    generalize hEq : upd (upd (upd H4 a4 _) d4 _) a4 _ = H5
    have s5 : Same H4 H5 := by
      rw [← hEq]
      exact er_same na4 nd4
    have e4 : erO H5 a4 c4 (some [(("limit" : Str), x)]) := by
      rw [← hEq]
      exact ⟨d4, upd_same, by rw [upd_ne hd4, upd_same]⟩
    clear hEq na4 nd4 hd4
    refine ⟨_, rfl, by show 1 ≤ 1000; decide, fun a5 na5 => ⟨a5, _, rfl, upd_same, fun d5 nd5 hd5 => ⟨rfl, ?_⟩⟩⟩
    generalize hEq : upd (upd (upd H5 a5 _) d5 _) a5 _ = H6
    have s6 : Same H5 H6 := by
      rw [← hEq]
      exact er_same na5 nd5
    have e5 : erO H6 a5 c5 (some [(("at" : Str), x)]) := by
      rw [← hEq]
      exact ⟨d5, upd_same, by rw [upd_ne hd5, upd_same]⟩
    clear hEq na5 nd5 hd5
    refine ⟨_, rfl, by show 1 ≤ 1000; decide, fun a6 na6 => ⟨a6, _, rfl, upd_same, fun d6 nd6 hd6 => ⟨rfl, ?_⟩⟩⟩
    generalize hEq : upd (upd (upd H6 a6 _) d6 _) a6 _ = H7
    have s7 : Same H6 H7 := by
      rw [← hEq]
      exact er_same na6 nd6
    have e6 : erO H7 a6 c6 (some [(("limit" : Str), x)]) := by
      rw [← hEq]
      exact ⟨d6, upd_same, by rw [upd_ne hd6, upd_same]⟩
    clear hEq na6 nd6 hd6
    refine ⟨_, rfl, by show 1 ≤ 1000; decide, fun a7 na7 => ⟨a7, _, rfl, upd_same, fun d7 nd7 hd7 => ⟨rfl, ?_⟩⟩⟩
    generalize hEq : upd (upd (upd H7 a7 _) d7 _) a7 _ = H8
    have s8 : Same H7 H8 := by
      rw [← hEq]
      exact er_same na7 nd7
    have e7 : erO H8 a7 c7 (some [(("deed" : Str), x)]) := by
      rw [← hEq]
      exact ⟨d7, upd_same, by rw [upd_ne hd7, upd_same]⟩
    clear hEq na7 nd7 hd7
    refine ⟨_, rfl, by show 1 ≤ 1000; decide, fun a8 na8 => ⟨a8, _, rfl, upd_same, fun d8 nd8 hd8 => ⟨rfl, ?_⟩⟩⟩
    generalize hEq : upd (upd (upd H8 a8 _) d8 _) a8 _ = H9
    have s9 : Same H8 H9 := by
      rw [← hEq]
      exact er_same na8 nd8
    have e8 : erO H9 a8 c8 (some [(("at" : Str), x)]) := by
      rw [← hEq]
      exact ⟨d8, upd_same, by rw [upd_ne hd8, upd_same]⟩
    clear hEq na8 nd8 hd8
    refine ⟨by show 9 ≤ sizeLine; decide, fun p0 np0 => ?_⟩
    generalize hEq : upd H9 p0 _ = H10
    have s10 : Same H9 H10 := by
      rw [← hEq]
      exact same_new np0
    have lp0 : H10 p0 = some (.lst [.ref a0, .ref a1, .ref a2, .ref a3, .ref a4, .ref a5, .ref a6, .ref a7, .ref a8]) := by
      rw [← hEq]
      exact upd_same
    clear hEq np0
    refine ⟨_, rfl, ?_⟩
    refine fun a9 na9 => ?_
    generalize hEq : upd H10 a9 _ = H11
    have s11 : Same H10 H11 := by
      rw [← hEq]
      exact same_new na9
    have e9 : erO H11 a9 c9 none := by
      rw [← hEq]
      exact upd_same
    clear hEq na9
    refine fun a10 na10 => ?_
    generalize hEq : upd H11 a10 _ = H12
    have s12 : Same H11 H12 := by
      rw [← hEq]
      exact same_new na10
    have e10 : erO H12 a10 c10 none := by
      rw [← hEq]
      exact upd_same
    clear hEq na10
    refine fun a11 na11 => ?_
    generalize hEq : upd H12 a11 _ = H13
    have s13 : Same H12 H13 := by
      rw [← hEq]
      exact same_new na11
    have e11 : erO H13 a11 c11 none := by
      rw [← hEq]
      exact upd_same
    clear hEq na11
    refine fun a12 na12 => ?_
    generalize hEq : upd H13 a12 _ = H14
    have s14 : Same H13 H14 := by
      rw [← hEq]
      exact same_new na12
    have e12 : erO H14 a12 c12 none := by
      rw [← hEq]
      exact upd_same
    clear hEq na12
    refine fun a13 na13 => ?_
    generalize hEq : upd H14 a13 _ = H15
    have s15 : Same H14 H15 := by
      rw [← hEq]
      exact same_new na13
    have e13 : erO H15 a13 c13 none := by
      rw [← hEq]
      exact upd_same
    clear hEq na13
    refine fun a14 na14 => ?_
    generalize hEq : upd H15 a14 _ = H16
    have s16 : Same H15 H16 := by
      rw [← hEq]
      exact same_new na14
    have e14 : erO H16 a14 c14 none := by
      rw [← hEq]
      exact upd_same
    clear hEq na14
    refine fun a15 na15 => ?_
    generalize hEq : upd H16 a15 _ = H17
    have s17 : Same H16 H17 := by
      rw [← hEq]
      exact same_new na15
    have e15 : erO H17 a15 c15 none := by
      rw [← hEq]
      exact upd_same
    clear hEq na15
    refine ⟨by show 7 ≤ sizeLine; decide, fun p1 np1 => ?_⟩
    generalize hEq : upd H17 p1 _ = H18
    have s18 : Same H17 H18 := by
      rw [← hEq]
      exact same_new np1
    have lp1 : H18 p1 = some (.lst [.ref a9, .ref a10, .ref a11, .ref a12, .ref a13, .ref a14, .ref a15]) := by
      rw [← hEq]
      exact upd_same
    clear hEq np1
    refine ⟨p0, p1, _, _, rfl, rfl, (((((((s11.trans s12).trans s13).trans s14).trans s15).trans s16).trans s17).trans s18) _ _ lp0, lp1, by show 9 + 7 ≤ sizeLine; decide, fun p2 np2 => ?_⟩
    generalize hEq : upd H18 p2 _ = H19
    have s19 : Same H18 H19 := by
      rw [← hEq]
      exact same_new np2
    have lp2 : H19 p2 = some (.lst ([.ref a0, .ref a1, .ref a2, .ref a3, .ref a4, .ref a5, .ref a6, .ref a7, .ref a8] ++ [.ref a9, .ref a10, .ref a11, .ref a12, .ref a13, .ref a14, .ref a15])) := by
      rw [← hEq]
      exact upd_same
    clear hEq np2
    refine ⟨_, rfl, ?_⟩
    refine ⟨_, rfl, _, rfl, by show 2 ≤ 1000; decide, fun a16 na16 => ⟨a16, _, _, rfl, upd_same, fun d16 nd16 hd16 => ⟨rfl, ?_⟩⟩⟩
    generalize hEq : upd (upd (upd (upd H19 a16 _) d16 _) a16 _) d16 _ = H20
    have s20 : Same H19 H20 := by
      rw [← hEq]
      exact er_same2 na16 nd16
    have e16 : erO H20 a16 c16 (some [(("address" : Str), y), (("function" : Str), x)]) := by
      rw [← hEq]
      exact ⟨d16, by rw [upd_ne (Ne.symm hd16), upd_same], upd_same⟩
    clear hEq na16 nd16 hd16
    refine ⟨_, rfl, _, rfl, by show 2 ≤ 1000; decide, fun a17 na17 => ⟨a17, _, _, rfl, upd_same, fun d17 nd17 hd17 => ⟨rfl, ?_⟩⟩⟩
    generalize hEq : upd (upd (upd (upd H20 a17 _) d17 _) a17 _) d17 _ = H21
    have s21 : Same H20 H21 := by
      rw [← hEq]
      exact er_same2 na17 nd17
    have e17 : erO H21 a17 c17 (some [(("address" : Str), y), (("function" : Str), x)]) := by
      rw [← hEq]
      exact ⟨d17, by rw [upd_ne (Ne.symm hd17), upd_same], upd_same⟩
    clear hEq na17 nd17 hd17
    refine ⟨by show 2 ≤ sizeLine; decide, fun p3 np3 => ?_⟩
    generalize hEq : upd H21 p3 _ = H22
    have s22 : Same H21 H22 := by
      rw [← hEq]
      exact same_new np3
    have lp3 : H22 p3 = some (.lst [.ref a16, .ref a17]) := by
      rw [← hEq]
      exact upd_same
    clear hEq np3
    refine ⟨p2, p3, _, _, rfl, rfl, ((s20.trans s21).trans s22) _ _ lp2, lp3, by show 16 + 2 ≤ sizeLine; decide, fun p4 np4 => ?_⟩
    generalize hEq : upd H22 p4 _ = H23
    have s23 : Same H22 H23 := by
      rw [← hEq]
      exact same_new np4
    have lp4 : H23 p4 = some (.lst (([.ref a0, .ref a1, .ref a2, .ref a3, .ref a4, .ref a5, .ref a6, .ref a7, .ref a8] ++ [.ref a9, .ref a10, .ref a11, .ref a12, .ref a13, .ref a14, .ref a15]) ++ [.ref a16, .ref a17])) := by
      rw [← hEq]
      exact upd_same
    clear hEq np4
    exact q H23 p4 [a0, a1, a2, a3, a4, a5, a6, a7, a8, a9, a10, a11, a12, a13, a14, a15, a16, a17] ((((((((((((((((((((((s1.trans s2).trans s3).trans s4).trans s5).trans s6).trans s7).trans s8).trans s9).trans s10).trans s11).trans s12).trans s13).trans s14).trans s15).trans s16).trans s17).trans s18).trans s19).trans s20).trans s21).trans s22).trans s23) lp4 (.cons (e0.sm (((((((((((((((((((((s2.trans s3).trans s4).trans s5).trans s6).trans s7).trans s8).trans s9).trans s10).trans s11).trans s12).trans s13).trans s14).trans s15).trans s16).trans s17).trans s18).trans s19).trans s20).trans s21).trans s22).trans s23)) (.cons (e1.sm ((((((((((((((((((((s3.trans s4).trans s5).trans s6).trans s7).trans s8).trans s9).trans s10).trans s11).trans s12).trans s13).trans s14).trans s15).trans s16).trans s17).trans s18).trans s19).trans s20).trans s21).trans s22).trans s23)) (.cons (e2.sm (((((((((((((((((((s4.trans s5).trans s6).trans s7).trans s8).trans s9).trans s10).trans s11).trans s12).trans s13).trans s14).trans s15).trans s16).trans s17).trans s18).trans s19).trans s20).trans s21).trans s22).trans s23)) (.cons (e3.sm ((((((((((((((((((s5.trans s6).trans s7).trans s8).trans s9).trans s10).trans s11).trans s12).trans s13).trans s14).trans s15).trans s16).trans s17).trans s18).trans s19).trans s20).trans s21).trans s22).trans s23)) (.cons (e4.sm (((((((((((((((((s6.trans s7).trans s8).trans s9).trans s10).trans s11).trans s12).trans s13).trans s14).trans s15).trans s16).trans s17).trans s18).trans s19).trans s20).trans s21).trans s22).trans s23)) (.cons (e5.sm ((((((((((((((((s7.trans s8).trans s9).trans s10).trans s11).trans s12).trans s13).trans s14).trans s15).trans s16).trans s17).trans s18).trans s19).trans s20).trans s21).trans s22).trans s23)) (.cons (e6.sm (((((((((((((((s8.trans s9).trans s10).trans s11).trans s12).trans s13).trans s14).trans s15).trans s16).trans s17).trans s18).trans s19).trans s20).trans s21).trans s22).trans s23)) (.cons (e7.sm ((((((((((((((s9.trans s10).trans s11).trans s12).trans s13).trans s14).trans s15).trans s16).trans s17).trans s18).trans s19).trans s20).trans s21).trans s22).trans s23)) (.cons (e8.sm (((((((((((((s10.trans s11).trans s12).trans s13).trans s14).trans s15).trans s16).trans s17).trans s18).trans s19).trans s20).trans s21).trans s22).trans s23)) (.cons (e9.sm (((((((((((s12.trans s13).trans s14).trans s15).trans s16).trans s17).trans s18).trans s19).trans s20).trans s21).trans s22).trans s23)) (.cons (e10.sm ((((((((((s13.trans s14).trans s15).trans s16).trans s17).trans s18).trans s19).trans s20).trans s21).trans s22).trans s23)) (.cons (e11.sm (((((((((s14.trans s15).trans s16).trans s17).trans s18).trans s19).trans s20).trans s21).trans s22).trans s23)) (.cons (e12.sm ((((((((s15.trans s16).trans s17).trans s18).trans s19).trans s20).trans s21).trans s22).trans s23)) (.cons (e13.sm (((((((s16.trans s17).trans s18).trans s19).trans s20).trans s21).trans s22).trans s23)) (.cons (e14.sm ((((((s17.trans s18).trans s19).trans s20).trans s21).trans s22).trans s23)) (.cons (e15.sm (((((s18.trans s19).trans s20).trans s21).trans s22).trans s23)) (.cons (e16.sm ((s21.trans s22).trans s23)) (.cons (e17.sm (s22.trans s23)) (.nil)))))))))))))))))))
theorem ok_flags {f c0 c1 c2 c3 c4 c5 c6 c7 c8 c9 c10 c11 c12 c13 c14 c15 c16 c17 TE : Addr} {fd : FuncData} {k : Nat} (F : Fun K "_law_flags" "_law_flags" sFlags f fd) (KK : Kls P w K mg base c0 c1 c2 c3 c4 c5 c6 c7 c8 c9 c10 c11 c12 c13 c14 c15 c16 c17 TE) (mis : mg "isinstance" = none) :
    FnOk P w K mg base CX0 (k + 1) f fd ["_law_e"] (spFlags [c0, c1, c2, c3, c4, c5, c6, c7, c8, c9, c10, c11, c12, c13, c14, c15, c16, c17]) := by
  refine F.ok scFlags (fun vs H Q E h => ?_) (fun cdv A outer s H0 vs Q E hr h => ?_)
  · obtain ⟨x, y, rfl, _⟩ := h
    rfl
  · obtain ⟨a, C, rfl, hE, hC, q⟩ := h
    have hX := KK.fam.c C (List.mem_cons_of_mem _ hC)
    refine ⟨_, pss_cons (ps_set (i := 1) scFlags.nd rfl (.inl rfl) (pe_lst (pa_cons (pe_callB call_isO (by rfl) mis bIsi (pa_cons (pv 0) (pa_cons (pe_glob (v := .ref c0) (by rfl) KK.k0.m rfl) pa_nil))) (pa_cons (pe_callB call_isO (by rfl) mis bIsi (pa_cons (pv 0) (pa_cons (pe_glob (v := .ref c1) (by rfl) KK.k1.m rfl) pa_nil))) (pa_cons (pe_callB call_isO (by rfl) mis bIsi (pa_cons (pv 0) (pa_cons (pe_glob (v := .ref c2) (by rfl) KK.k2.m rfl) pa_nil))) (pa_cons (pe_callB call_isO (by rfl) mis bIsi (pa_cons (pv 0) (pa_cons (pe_glob (v := .ref c3) (by rfl) KK.k3.m rfl) pa_nil))) pa_nil))))))
      (pss_cons (ps_set (i := 1) scFlags.nd rfl (.inl rfl) (pe_op op_cat (pv 1) (pe_lst (pa_cons (pe_callB call_isO (by rfl) mis bIsi (pa_cons (pv 0) (pa_cons (pe_glob (v := .ref c4) (by rfl) KK.k4.m rfl) pa_nil))) (pa_cons (pe_callB call_isO (by rfl) mis bIsi (pa_cons (pv 0) (pa_cons (pe_glob (v := .ref c5) (by rfl) KK.k5.m rfl) pa_nil))) (pa_cons (pe_callB call_isO (by rfl) mis bIsi (pa_cons (pv 0) (pa_cons (pe_glob (v := .ref c6) (by rfl) KK.k6.m rfl) pa_nil))) (pa_cons (pe_callB call_isO (by rfl) mis bIsi (pa_cons (pv 0) (pa_cons (pe_glob (v := .ref c7) (by rfl) KK.k7.m rfl) pa_nil))) pa_nil)))))))
      (pss_cons (ps_set (i := 1) scFlags.nd rfl (.inl rfl) (pe_op op_cat (pv 1) (pe_lst (pa_cons (pe_callB call_isO (by rfl) mis bIsi (pa_cons (pv 0) (pa_cons (pe_glob (v := .ref c8) (by rfl) KK.k8.m rfl) pa_nil))) (pa_cons (pe_callB call_isO (by rfl) mis bIsi (pa_cons (pv 0) (pa_cons (pe_glob (v := .ref c9) (by rfl) KK.k9.m rfl) pa_nil))) (pa_cons (pe_callB call_isO (by rfl) mis bIsi (pa_cons (pv 0) (pa_cons (pe_glob (v := .ref c10) (by rfl) KK.k10.m rfl) pa_nil))) (pa_cons (pe_callB call_isO (by rfl) mis bIsi (pa_cons (pv 0) (pa_cons (pe_glob (v := .ref c11) (by rfl) KK.k11.m rfl) pa_nil))) pa_nil)))))))
      (pss_cons (ps_set (i := 1) scFlags.nd rfl (.inl rfl) (pe_op op_cat (pv 1) (pe_lst (pa_cons (pe_callB call_isO (by rfl) mis bIsi (pa_cons (pv 0) (pa_cons (pe_glob (v := .ref c12) (by rfl) KK.k12.m rfl) pa_nil))) (pa_cons (pe_callB call_isO (by rfl) mis bIsi (pa_cons (pv 0) (pa_cons (pe_glob (v := .ref c13) (by rfl) KK.k13.m rfl) pa_nil))) (pa_cons (pe_callB call_isO (by rfl) mis bIsi (pa_cons (pv 0) (pa_cons (pe_glob (v := .ref c14) (by rfl) KK.k14.m rfl) pa_nil))) (pa_cons (pe_callB call_isO (by rfl) mis bIsi (pa_cons (pv 0) (pa_cons (pe_glob (v := .ref c15) (by rfl) KK.k15.m rfl) pa_nil))) pa_nil)))))))
      (pss_one (ps_ret (pe_op op_cat (pv 1) (pe_lst (pa_cons (pe_callB call_isO (by rfl) mis bIsi (pa_cons (pv 0) (pa_cons (pe_glob (v := .ref c16) (by rfl) KK.k16.m rfl) pa_nil))) (pa_cons (pe_callB call_isO (by rfl) mis bIsi (pa_cons (pv 0) (pa_cons (pe_glob (v := .ref c17) (by rfl) KK.k17.m rfl) pa_nil))) pa_nil))))))))), ?_⟩
    refine ⟨_, rfl, a, C, .ref c0, .ref c0, _, rfl, hE.sm (fun _ _ z => z), hX, (fun u r => r), KK.fam.kit hC (by simp), _, rfl, a, C, .ref c1, .ref c1, _, rfl, hE.sm (fun _ _ z => z), hX, (fun u r => r), KK.fam.kit hC (by simp), _, rfl, a, C, .ref c2, .ref c2, _, rfl, hE.sm (fun _ _ z => z), hX, (fun u r => r), KK.fam.kit hC (by simp), _, rfl, a, C, .ref c3, .ref c3, _, rfl, hE.sm (fun _ _ z => z), hX, (fun u r => r), KK.fam.kit hC (by simp), ?_⟩
    refine ⟨by show 4 ≤ sizeLine; decide, fun p0 np0 => ?_⟩
    generalize hEq : upd H0 p0 _ = H1
    have s1 : Same H0 H1 := by
      rw [← hEq]
      exact same_new np0
    have lp0 : H1 p0 = some (.lst [.bl (decide (C = c0)), .bl (decide (C = c1)), .bl (decide (C = c2)), .bl (decide (C = c3))]) := by
      rw [← hEq]
      exact upd_same
    clear hEq np0
    refine ⟨_, rfl, ?_⟩
    refine ⟨_, rfl, a, C, .ref c4, .ref c4, _, rfl, hE.sm s1, hX, (fun u r => r), KK.fam.kit hC (by simp), _, rfl, a, C, .ref c5, .ref c5, _, rfl, hE.sm s1, hX, (fun u r => r), KK.fam.kit hC (by simp), _, rfl, a, C, .ref c6, .ref c6, _, rfl, hE.sm s1, hX, (fun u r => r), KK.fam.kit hC (by simp), _, rfl, a, C, .ref c7, .ref c7, _, rfl, hE.sm s1, hX, (fun u r => r), KK.fam.kit hC (by simp), ?_⟩
    refine ⟨by show 4 ≤ sizeLine; decide, fun p2 np2 => ?_⟩
    generalize hEq : upd H1 p2 _ = H2
    have s2 : Same H1 H2 := by
      rw [← hEq]
      exact same_new np2
    have lp2 : H2 p2 = some (.lst [.bl (decide (C = c4)), .bl (decide (C = c5)), .bl (decide (C = c6)), .bl (decide (C = c7))]) := by
      rw [← hEq]
      exact upd_same
    clear hEq np2
    refine ⟨p0, p2, _, _, rfl, rfl, s2 _ _ lp0, lp2, by show 4 + 4 ≤ sizeLine; decide, fun p3 np3 => ?_⟩
    generalize hEq : upd H2 p3 _ = H3
    have s3 : Same H2 H3 := by
      rw [← hEq]
      exact same_new np3
    have lp3 : H3 p3 = some (.lst ([.bl (decide (C = c0)), .bl (decide (C = c1)), .bl (decide (C = c2)), .bl (decide (C = c3))] ++ [.bl (decide (C = c4)), .bl (decide (C = c5)), .bl (decide (C = c6)), .bl (decide (C = c7))])) := by
      rw [← hEq]
      exact upd_same
    clear hEq np3
    refine ⟨_, rfl, ?_⟩
    refine ⟨_, rfl, a, C, .ref c8, .ref c8, _, rfl, hE.sm ((s1.trans s2).trans s3), hX, (fun u r => r), KK.fam.kit hC (by simp), _, rfl, a, C, .ref c9, .ref c9, _, rfl, hE.sm ((s1.trans s2).trans s3), hX, (fun u r => r), KK.fam.kit hC (by simp), _, rfl, a, C, .ref c10, .ref c10, _, rfl, hE.sm ((s1.trans s2).trans s3), hX, (fun u r => r), KK.fam.kit hC (by simp), _, rfl, a, C, .ref c11, .ref c11, _, rfl, hE.sm ((s1.trans s2).trans s3), hX, (fun u r => r), KK.fam.kit hC (by simp), ?_⟩
    refine ⟨by show 4 ≤ sizeLine; decide, fun p4 np4 => ?_⟩
    generalize hEq : upd H3 p4 _ = H4
    have s4 : Same H3 H4 := by
      rw [← hEq]
      exact same_new np4
    have lp4 : H4 p4 = some (.lst [.bl (decide (C = c8)), .bl (decide (C = c9)), .bl (decide (C = c10)), .bl (decide (C = c11))]) := by
      rw [← hEq]
      exact upd_same
    clear hEq np4
    refine ⟨p3, p4, _, _, rfl, rfl, s4 _ _ lp3, lp4, by show 8 + 4 ≤ sizeLine; decide, fun p5 np5 => ?_⟩
    generalize hEq : upd H4 p5 _ = H5
    have s5 : Same H4 H5 := by
      rw [← hEq]
      exact same_new np5
    have lp5 : H5 p5 = some (.lst (([.bl (decide (C = c0)), .bl (decide (C = c1)), .bl (decide (C = c2)), .bl (decide (C = c3))] ++ [.bl (decide (C = c4)), .bl (decide (C = c5)), .bl (decide (C = c6)), .bl (decide (C = c7))]) ++ [.bl (decide (C = c8)), .bl (decide (C = c9)), .bl (decide (C = c10)), .bl (decide (C = c11))])) := by
      rw [← hEq]
      exact upd_same
    clear hEq np5
    refine ⟨_, rfl, ?_⟩
    refine ⟨_, rfl, a, C, .ref c12, .ref c12, _, rfl, hE.sm ((((s1.trans s2).trans s3).trans s4).trans s5), hX, (fun u r => r), KK.fam.kit hC (by simp), _, rfl, a, C, .ref c13, .ref c13, _, rfl, hE.sm ((((s1.trans s2).trans s3).trans s4).trans s5), hX, (fun u r => r), KK.fam.kit hC (by simp), _, rfl, a, C, .ref c14, .ref c14, _, rfl, hE.sm ((((s1.trans s2).trans s3).trans s4).trans s5), hX, (fun u r => r), KK.fam.kit hC (by simp), _, rfl, a, C, .ref c15, .ref c15, _, rfl, hE.sm ((((s1.trans s2).trans s3).trans s4).trans s5), hX, (fun u r => r), KK.fam.kit hC (by simp), ?_⟩
    refine ⟨by show 4 ≤ sizeLine; decide, fun p6 np6 => ?_⟩
    generalize hEq : upd H5 p6 _ = H6
    have s6 : Same H5 H6 := by
      rw [← hEq]
      exact same_new np6
    have lp6 : H6 p6 = some (.lst [.bl (decide (C = c12)), .bl (decide (C = c13)), .bl (decide (C = c14)), .bl (decide (C = c15))]) := by
      rw [← hEq]
      exact upd_same
    clear hEq np6
    refine ⟨p5, p6, _, _, rfl, rfl, s6 _ _ lp5, lp6, by show 12 + 4 ≤ sizeLine; decide, fun p7 np7 => ?_⟩
    generalize hEq : upd H6 p7 _ = H7
    have s7 : Same H6 H7 := by
      rw [← hEq]
      exact same_new np7
    have lp7 : H7 p7 = some (.lst ((([.bl (decide (C = c0)), .bl (decide (C = c1)), .bl (decide (C = c2)), .bl (decide (C = c3))] ++ [.bl (decide (C = c4)), .bl (decide (C = c5)), .bl (decide (C = c6)), .bl (decide (C = c7))]) ++ [.bl (decide (C = c8)), .bl (decide (C = c9)), .bl (decide (C = c10)), .bl (decide (C = c11))]) ++ [.bl (decide (C = c12)), .bl (decide (C = c13)), .bl (decide (C = c14)), .bl (decide (C = c15))])) := by
      rw [← hEq]
      exact upd_same
    clear hEq np7
    refine ⟨_, rfl, ?_⟩
    refine ⟨_, rfl, a, C, .ref c16, .ref c16, _, rfl, hE.sm ((((((s1.trans s2).trans s3).trans s4).trans s5).trans s6).trans s7), hX, (fun u r => r), KK.fam.kit hC (by simp), _, rfl, a, C, .ref c17, .ref c17, _, rfl, hE.sm ((((((s1.trans s2).trans s3).trans s4).trans s5).trans s6).trans s7), hX, (fun u r => r), KK.fam.kit hC (by simp), ?_⟩
    refine ⟨by show 2 ≤ sizeLine; decide, fun p8 np8 => ?_⟩
    generalize hEq : upd H7 p8 _ = H8
    have s8 : Same H7 H8 := by
      rw [← hEq]
      exact same_new np8
    have lp8 : H8 p8 = some (.lst [.bl (decide (C = c16)), .bl (decide (C = c17))]) := by
      rw [← hEq]
      exact upd_same
    clear hEq np8
    refine ⟨p7, p8, _, _, rfl, rfl, s8 _ _ lp7, lp8, by show 16 + 2 ≤ sizeLine; decide, fun p9 np9 => ?_⟩
    generalize hEq : upd H8 p9 _ = H9
    have s9 : Same H8 H9 := by
      rw [← hEq]
      exact same_new np9
    have lp9 : H9 p9 = some (.lst (((([.bl (decide (C = c0)), .bl (decide (C = c1)), .bl (decide (C = c2)), .bl (decide (C = c3))] ++ [.bl (decide (C = c4)), .bl (decide (C = c5)), .bl (decide (C = c6)), .bl (decide (C = c7))]) ++ [.bl (decide (C = c8)), .bl (decide (C = c9)), .bl (decide (C = c10)), .bl (decide (C = c11))]) ++ [.bl (decide (C = c12)), .bl (decide (C = c13)), .bl (decide (C = c14)), .bl (decide (C = c15))]) ++ [.bl (decide (C = c16)), .bl (decide (C = c17))])) := by
      rw [← hEq]
      exact upd_same
    clear hEq np9
    exact q H9 p9 ((((((((s1.trans s2).trans s3).trans s4).trans s5).trans s6).trans s7).trans s8).trans s9) lp9
end
end K11

/-! dicts whose keys are tuples (number, tuple of numbers), the i-th key with the value i -/
namespace Rg
open PySem PySem.Spec PyProof.Rows L2 Mach

def nkOf (p : Nat × List Nat) : NestedKey := .tup [.num p.1, .tup (p.2.map fun x : Nat => NestedKey.num (x : Int))]
theorem nums_inj : ∀ {a b : List Nat}, (a.map fun x : Nat => NestedKey.num (x : Int)) = (b.map fun x : Nat => NestedKey.num (x : Int)) → a = b
  | [], [], _ => rfl
  | [], _ :: _, h => by cases h
  | _ :: _, [], h => by cases h
  | x :: a, y :: b, h => by
    rw [List.map_cons, List.map_cons] at h
    obtain ⟨h1, h2⟩ := List.cons.inj h
    have : (x : Int) = y := NestedKey.num.inj h1
    have e : x = y := by omega
    rw [e, nums_inj h2]
theorem nkOf_inj {p q : Nat × List Nat} (h : nkOf p = nkOf q) : p = q := by
  obtain ⟨a, b⟩ := p
  obtain ⟨c, d⟩ := q
  have h1 := NestedKey.tup.inj h
  obtain ⟨h2, h3⟩ := List.cons.inj h1
  obtain ⟨h4, _⟩ := List.cons.inj h3
  have e1 : (a : Int) = c := NestedKey.num.inj h2
  have e2 := nums_inj (NestedKey.tup.inj h4)
  have e3 : a = c := by omega
  simp only at e2
  rw [e3, e2]
theorem depthAll_nums : ∀ a : List Nat, NestedKey.depthAll (a.map fun x : Nat => NestedKey.num (x : Int)) = 0
  | [] => rfl
  | x :: a => by
    show max (NestedKey.depth (.num x)) (NestedKey.depthAll (a.map fun x : Nat => NestedKey.num (x : Int))) = 0
    rw [depthAll_nums a]
    rfl
theorem nkOf_depth (p : Nat × List Nat) : (nkOf p).depth ≤ 8 := by
  show NestedKey.depthAll [.num p.1, .tup (p.2.map fun x : Nat => NestedKey.num (x : Int))] + 1 ≤ 8
  show max 0 (max (NestedKey.depthAll (p.2.map fun x : Nat => NestedKey.num (x : Int)) + 1) 0) + 1 ≤ 8
  rw [depthAll_nums]
  decide

section
variable {P : Program} {w : World} {H : Hp} {h : Heap}
/-- the key's tuple stands at b -/
def KeyAt (H : Hp) (b : Addr) (p : Nat × List Nat) : Prop := ∃ t, H b = some (.tup [nV p.1, .ref t]) ∧ H t = some (.tup (nVs p.2))
theorem KeyAt.same {H H' : Hp} {b : Addr} {p : Nat × List Nat} (k : KeyAt H b p) (s : ∀ c xs, H c = some (.tup xs) → H' c = some (.tup xs)) : KeyAt H' b p := by
  obtain ⟨t, h1, h2⟩ := k
  exact ⟨t, s _ _ h1, s _ _ h2⟩
theorem nested_nums : ∀ {ns : List Nat} {us : List Value}, Vals (nVs ns) us → NestedAll h (ns.map fun x : Nat => NestedKey.num (x : Int)) us
  | [], _, .nil => .nil
  | n :: ns, _, .cons r t => by
    obtain ⟨k, rfl⟩ := r
    exact .cons (.int _ _) (nested_nums t)
theorem KeyAt.is {b : Addr} {p : Nat × List Nat} (ok : HOk P w H h) (k : KeyAt H b p) : (nestedKind P w).is h (nkOf p) b := by
  obtain ⟨t, h1, h2⟩ := k
  obtain ⟨_, its1, r1, o1, a1, a2, n1, a3⟩ := (show ObjOk P w H h b _ from ok b _ h1)
  obtain ⟨_, its2, r2, o2, b1, b2, n2, b3⟩ := (show ObjOk P w H h t _ from ok t _ h2)
  refine ⟨?_, nkOf_depth p⟩
  cases r1 with
  | cons x1 r1 =>
    cases r1 with
    | cons x2 r1 =>
      cases r1
      obtain ⟨k1, rfl⟩ := x1
      obtain rfl := (show _ = Value.ref t from x2)
      refine NestedIs.tup a1 a2 a3 ?_
      refine .cons (.int _ _) (.cons (NestedIs.tup b1 b2 b3 ?_) .nil)
      simpa using nested_nums r2

def NkO (P : Program) (w : World) (a : Addr) (xs : List (NestedKey × Addr × Value)) : HO := .ext fun h => (a == sysModules) = false ∧
  ∃ o es ep, h.get? a = some o ∧ o.ExactDict ∧ o.data = .dict es ep ∧ es.toList = xs.map (entryOfKey (nestedKind P w)) ∧ (xs.map (·.1)).Nodup
structure NkAt (P : Program) (w : World) (H : Hp) (a : Addr) (S : List (Nat × List Nat)) : Prop where
  ex : ∃ xs : List (NestedKey × Addr × Value), H a = some (NkO P w a xs) ∧ xs.length = S.length ∧ S.length ≤ 100000 ∧
    ∀ (i : Nat) (p : Nat × List Nat), S[i]? = some p → ∃ (ka : Addr) (t : Tok), xs[i]? = some (nkOf p, ka, .int (i : Int) t) ∧ KeyAt H ka p
theorem NkAt.same {H H' : Hp} {a : Addr} {S : List (Nat × List Nat)} (x : NkAt P w H a S) (s : ∀ c o, H c = some o → H' c = some o) : NkAt P w H' a S := by
  obtain ⟨xs, h1, h2, h3, h4⟩ := x.ex
  refine ⟨xs, s _ _ h1, h2, h3, fun i p e => ?_⟩
  obtain ⟨ka, t, e1, e2⟩ := h4 i p e
  exact ⟨ka, t, e1, e2.same fun c ys z => s c _ z⟩
theorem NkAt.upd_other {H : Hp} {a b : Addr} {o : HO} {S : List (Nat × List Nat)} (x : NkAt P w H a S) (hb : b ≠ a) (ht : ∀ ys, H b ≠ some (.tup ys)) : NkAt P w (upd H b o) a S := by
  obtain ⟨xs, h1, h2, h3, h4⟩ := x.ex
  refine ⟨xs, by rw [upd_ne hb.symm]; exact h1, h2, h3, fun i p e => ?_⟩
  obtain ⟨ka, t, e1, e2⟩ := h4 i p e
  refine ⟨ka, t, e1, e2.same fun c ys z => ?_⟩
  have hc : c ≠ b := by
    intro q
    rw [q] at z
    exact ht ys z
  rw [upd_ne hc]
  exact z
/-- what the library knows of it -/
theorem NkAt.dict {a : Addr} {S : List (Nat × List Nat)} (ok : HOk P w H h) (x : NkAt P w H a S) : (a == sysModules) = false ∧ ∃ xs, h.DictOfH (nestedKind P w) a xs ∧ H a = some (NkO P w a xs) ∧ xs.length = S.length ∧ S.length ≤ 100000 ∧
    ∀ (i : Nat) (p : Nat × List Nat), S[i]? = some p → ∃ (ka : Addr) (t : Tok), xs[i]? = some (nkOf p, ka, .int (i : Int) t) ∧ KeyAt H ka p := by
  obtain ⟨xs, h1, h2, h3, h4⟩ := x.ex
  obtain ⟨⟨hs, o, es, ep, g1, g2, g3, g4, g5⟩, _⟩ := (show ObjOk P w H h a _ from ok a _ h1)
  refine ⟨hs, xs, ⟨o, es, ep, g1, g2, g3, g4, fun y hy => ?_, g5⟩, h1, h2, h3, h4⟩
  obtain ⟨i, hi, e⟩ := List.mem_iff_getElem.mp hy
  have hiS : i < S.length := by omega
  obtain ⟨ka, t, e1, e2⟩ := h4 i _ (List.getElem?_eq_getElem hiS)
  rw [List.getElem?_eq_getElem hi] at e1
  have e3 := Option.some.inj e1
  rw [← e, e3]
  exact e2.is ok
theorem NkAt.val {a : Addr} {S : List (Nat × List Nat)} {xs : List (NestedKey × Addr × Value)} (hl : xs.length = S.length)
    (h4 : ∀ (i : Nat) (p : Nat × List Nat), S[i]? = some p → ∃ (ka : Addr) (t : Tok), xs[i]? = some (nkOf p, ka, .int (i : Int) t) ∧ KeyAt H ka p) (p : Nat × List Nat) :
    (p ∈ S → ∃ (i : Nat) (t : Tok), valueAt (pairsH xs) (nkOf p) = some (.int (i : Int) t) ∧ S.idxOf p = i) ∧ (p ∉ S → valueAt (pairsH xs) (nkOf p) = none) := by
  have gen : ∀ (S : List (Nat × List Nat)) (xs : List (NestedKey × Addr × Value)) (j : Nat), xs.length = S.length →
      (∀ (i : Nat) (p : Nat × List Nat), S[i]? = some p → ∃ (ka : Addr) (t : Tok), xs[i]? = some (nkOf p, ka, .int ((i + j : Nat) : Int) t)) →
      (p ∈ S → ∃ (i : Nat) (t : Tok), valueAt (pairsH xs) (nkOf p) = some (.int ((i + j : Nat) : Int) t) ∧ S.idxOf p = i) ∧ (p ∉ S → valueAt (pairsH xs) (nkOf p) = none) := by
    intro S
    induction S with
    | nil =>
      intro xs j hl _
      cases xs with
      | nil => exact ⟨(fun z => nomatch z), fun _ => rfl⟩
      | cons => cases hl
    | cons a S ih =>
      intro xs j hl h4
      cases xs with
      | nil => cases hl
      | cons x xs =>
        obtain ⟨ka, t, e⟩ := h4 0 a rfl
        have ex : x = (nkOf a, ka, .int ((0 + j : Nat) : Int) t) := Option.some.inj e
        have ih' := ih xs (j + 1) (by simpa using hl) (fun i p hp => by
          obtain ⟨kb, t', e'⟩ := h4 (i + 1) p hp
          refine ⟨kb, t', ?_⟩
          have : ((i + 1 + j : Nat) : Int) = ((i + (j + 1) : Nat) : Int) := by omega
          rw [← this]
          exact e')
        by_cases hp : a = p
        · refine ⟨fun _ => ⟨0, t, ?_, ?_⟩, fun z => absurd (by rw [hp]; exact List.mem_cons_self) z⟩
          · rw [ex]
            show ((_ :: _).find? _).map _ = _
            rw [List.find?_cons]
            simp [hp]
          · rw [hp]
            simp
        · have hk : ¬ nkOf a = nkOf p := fun z => hp (nkOf_inj z)
          have hv : valueAt (pairsH (x :: xs)) (nkOf p) = valueAt (pairsH xs) (nkOf p) := by
            rw [ex]
            unfold valueAt
            show (((nkOf a, _) :: pairsH xs).find? _).map _ = _
            rw [List.find?_cons_of_neg (by simpa using hk)]
          rw [hv]
          refine ⟨fun z => ?_, fun z => ih'.2 fun y => z (List.mem_cons_of_mem _ y)⟩
          rcases List.mem_cons.mp z with z | z
          · exact absurd z.symm hp
          · obtain ⟨i, t', e1, e2⟩ := ih'.1 z
            refine ⟨i + 1, t', ?_, ?_⟩
            · rw [e1]
              have : ((i + (j + 1) : Nat) : Int) = ((i + 1 + j : Nat) : Int) := by omega
              rw [this]
            · have hb : (a == p) = false := beq_eq_false_iff_ne.mpr hp
              rw [List.idxOf_cons, hb, e2]
              rfl
  have := gen S xs 0 hl (fun i p hp => by
    obtain ⟨ka, t, e, _⟩ := h4 i p hp
    exact ⟨ka, t, e⟩)
  simpa using this
end

section
variable {X : Cx} {pos : Pos}
theorem pe_dnewN : PE X (.Dict [] [] pos) (fun _ H Q => ∀ p, H p = none → Q (.ref p) (upd H p (NkO X.prog X.w p []))) := by
  refine ⟨fun pins s σ H Q I h => ?_⟩
  refine wpAny_Dict_empty ⟨.ref s.heap.objs.size, _, I.laid (a := s.heap.objs.size) (o := NkO X.prog X.w s.heap.objs.size []) (t' := s.toks) (fun _ _ q => Heap.get?_push_of_some _ q) (Nat.le_refl _) ?_, rfl, h _ (I.hok.fresh (Nat.le_refl _))⟩
  have e0 := dt_empty (P := X.prog) (w := X.w) (H := upd H s.heap.objs.size (.dT [])) s.heap I.big
  obtain ⟨_, hs, xs, r, o, es, ep, h1, h2, h3, h4, h5⟩ := e0
  cases r
  refine ⟨⟨hs, o, es, ep, h1, h2, h3, ?_, by simp⟩, ⟨o, h1⟩, ?_⟩
  · simpa using h4
  · rintro g1 g2 ⟨y1, o', es', ep', y2, y3⟩ k
    exact ⟨y1, o', es', ep', k _ y2, y3⟩
theorem op_notin_nk (hu : X.A.units + 64 < cLine) : OpR X (compareOp .NotIn) (fun x y H Q => ∃ (b a : Addr) (p : Nat × List Nat) (S : List (Nat × List Nat)), x = .ref b ∧ y = .ref a ∧ KeyAt H b p ∧ NkAt X.prog X.w H a S ∧ Q (.bl (!decide (p ∈ S))) H) := by
  intro pins s σ H x y v u Q I rx ry h
  obtain ⟨b, a, p, S, rfl, rfl, hk, hn, q⟩ := h
  cases rx
  cases ry
  obtain ⟨hs, xs, dd, _, hl, _, h4⟩ := hn.dict I.hok
  refine notIn_keyed (knd := nestedKind X.prog X.w) (kvs := pairsH xs) (by show X.A.units + 1 + 8 < cLine; omega) (hk.is I.hok) hs ⟨xs, dd, rfl⟩ ?_
  obtain ⟨v1, v2⟩ := NkAt.val (a := a) hl h4 p
  by_cases hp : p ∈ S
  · obtain ⟨i, t, e, _⟩ := v1 hp
    rw [e]
    rw [decide_eq_true hp] at q
    exact ⟨.bl false, H, I.tok _, rfl, q⟩
  · rw [v2 hp]
    rw [decide_eq_false hp] at q
    exact ⟨.bl true, H, I.tok _, rfl, q⟩
theorem ix_nk (hu : X.A.units + 64 < cLine) : IxR X (fun x y H Q => ∃ (a b : Addr) (p : Nat × List Nat) (S : List (Nat × List Nat)), x = .ref a ∧ y = .ref b ∧ KeyAt H b p ∧ NkAt X.prog X.w H a S ∧ p ∈ S ∧ Q (nV (S.idxOf p)) H) := by
  intro value slice pins s σ H x y v u Q I rx ry h hsl
  obtain ⟨a, b, p, S, rfl, rfl, hk, hn, hp, q⟩ := h
  cases rx
  cases ry
  obtain ⟨hs, xs, dd, _, hl, _, h4⟩ := hn.dict I.hok
  obtain ⟨v1, v2⟩ := NkAt.val (a := a) hl h4 p
  obtain ⟨i, t, e, ei⟩ := v1 hp
  refine subscriptTail_builtinR (x := .int (i : Int) t) dd.typeIs PySem.F.slot_dict_getitem.lookup (getItem_keyed (knd := nestedKind X.prog X.w) (kvs := pairsH xs) (by show X.A.units + 1 + 8 < cLine; omega) (hk.is I.hok) ⟨xs, dd, rfl⟩ e ?_) hsl
  rw [ei] at q
  exact ⟨rfl, ⟨nV i, H, I.tok _, ⟨_, rfl⟩, q⟩⟩
theorem call_len_nk : CallR X (.builtin "len") (fun xs H Q => ∃ (a : Addr) (S : List (Nat × List Nat)), xs = [.ref a] ∧ NkAt X.prog X.w H a S ∧ Q (nV S.length) H) := by
  intro pins s σ H xs us Q I r h
  obtain ⟨a, S, rfl, hn, q⟩ := h
  obtain ⟨u, rfl, rx⟩ := vals1 r
  obtain rfl : u = .ref a := rx
  obtain ⟨hs, xs, dd, _, hl, hz, h4⟩ := hn.dict I.hok
  refine call_len_dictH hs dd (by omega) ?_
  rw [hl]
  exact ⟨nV S.length, H, I.tok _, ⟨_, rfl⟩, q⟩
theorem set_nk (hu : X.A.units + 64 < cLine) : PSet X (fun o i v H Q => ∃ (a b : Addr) (p : Nat × List Nat) (S : List (Nat × List Nat)), o = .ref a ∧ i = .ref b ∧ v = nV S.length ∧ KeyAt H b p ∧ NkAt X.prog X.w H a S ∧ p ∉ S ∧ S.length < 100000 ∧
    ∀ H', (∀ c, c ≠ a → H' c = H c) → NkAt X.prog X.w H' a (S ++ [p]) → Q H') := by
  intro pins s σ H o i v ov iv u Q I ro ri rv h
  obtain ⟨a, b, p, S, rfl, rfl, rfl, hk, hn, hp, hz, q⟩ := h
  cases ro
  cases ri
  obtain ⟨tv, rfl⟩ := rv
  obtain ⟨hs, xs, dd, hH, hl, _, h4⟩ := hn.dict I.hok
  obtain ⟨v1, v2⟩ := NkAt.val (a := a) hl h4 p
  have hnone := v2 hp
  rw [valueAt_pairsH] at hnone
  have hat : atKey xs (nkOf p) = none := Option.map_eq_none_iff.mp hnone
  refine wpAny_setItem_heap (knd := nestedKind X.prog X.w) (hsz := by rw [hl]; exact szBigLe (by omega)) (by show X.A.units + 1 + 8 < cLine; omega) (hk.is I.hok) dd fun h' dd' hs' => ?_
  have est := storedH_new hat b (.int (S.length : Int) tv)
  rw [est] at dd'
  obtain ⟨o, es, ep, g1, g2, g3, g4, _, g5⟩ := dd'
  have ntup : ∀ c ys, H c = some (.tup ys) → c ≠ a := fun c ys e => ne_of e hH (fun z => by cases z)
  refine ⟨upd H a (NkO X.prog X.w a (xs ++ [(nkOf p, b, .int (S.length : Int) tv)])), d_write I (by rw [hH]; exact True.intro) hs' ⟨o, g1⟩ ⟨⟨hs, o, es, ep, g1, g2, g3, g4, g5⟩, ⟨o, g1⟩, ?_⟩, q _ (fun c hc => upd_ne hc) ⟨_, upd_same, by simp [hl], by simp; omega, fun i r e => ?_⟩⟩
  · rintro g1 g2 ⟨y1, o', es', ep', y2, y3⟩ k
    exact ⟨y1, o', es', ep', k _ y2, y3⟩
  · have kp : ∀ c ys, H c = some (.tup ys) → (upd H a (NkO X.prog X.w a (xs ++ [(nkOf p, b, .int (S.length : Int) tv)]))) c = some (.tup ys) := fun c ys z => by
      rw [upd_ne (ntup c ys z)]
      exact z
    by_cases hi : i < S.length
    · rw [List.getElem?_append_left hi] at e
      obtain ⟨ka, t, e1, e2⟩ := h4 i r e
      exact ⟨ka, t, by rw [List.getElem?_append_left (by omega)]; exact e1, e2.same kp⟩
    · rw [List.getElem?_append_right (by omega)] at e
      have hi0 : i - S.length = 0 := by
        have := (List.getElem?_eq_some_iff.mp e).1
        simp at this
        omega
      rw [hi0] at e
      have er : p = r := Option.some.inj e
      have ei : i = S.length := by omega
      refine ⟨b, tv, ?_, er ▸ hk.same kp⟩
      rw [List.getElem?_append_right (by omega), hl, hi0, ei, er]
      rfl
end
end Rg

/-! values of any kind -/
namespace K11
open PySem PySem.Spec PyProof.Rows L2 Rg Mach
abbrev sOdd : Stmt := topS 36
def nOdd : List Str := ["_law_bag_here", "_law_deep", "_law_k", "_law_some"]
theorem scOdd : FnScope nOdd ["_law_bag_here"] (defScope sOdd) := ⟨rfl, rfl, rfl, by decide +kernel, rfl, by decide +kernel, by decide +kernel⟩
def deepD : Nat → PyData
  | 0 => .list []
  | n + 1 => .list [deepD n]
def zeroD : List (Key × PyData) := [(.inl 0, .int 0)]
def oddA : List PyData := [.none, .bool true, .bool false, .int 0, .int 1, .int (-1), .int (10 ^ 39), .str "", .str "0", .tuple [], .list [], .dict (([] : List (Key × PyData)).map fun p => (kyD p.1, p.2)), .list [.int 0], .tuple [.int 0], .tuple [.bool true], .tuple [.int 0, .int 0]]
def oddMenu : List PyData := oddA ++ [deepD 5, .dict (zeroD.map fun p => (kyD p.1, p.2))]
def spOddQ (K : PySem.W.Frag) : Sp := fun vs H Q _ => ∃ (g c : Addr), vs = [.ref g] ∧ Bag H g c ∧ ∀ (H' : Hp) (v : V) (d : PyData), Bag H' g c → But g H H' → Ap K (newp H H') v d → d ∈ oddMenu → Q v H'
section
variable {P : Program} {w : World} {K : PySem.W.Frag} {mg : Str → Option Value} {base : Heap}
theorem ok_oddQ {f fT : Addr} {fd fdT : FuncData} {k : Nat} (F : Fun K "_law_odd" "_law_odd" sOdd f fd)
    (FT : Fun K "_law_take" "_law_take" sTake fT fdT) (bT : Binds K fdT ["_law_bag_here", "_law_many"] []) (gT : mg "_law_take" = some (.ref fT)) (mi : mg "int" = none) (mr : mg "range" = none) :
    FnOk P w K mg base CX0 (k + 2) f fd ["_law_bag_here"] (spOddQ K) := by
  have GT : FnOk P w K mg base CX0 (k + 1) fT fdT ["_law_bag_here", "_law_many"] spTake := ok_take FT mi
  refine F.ok scOdd (fun vs H Q E h => ?_) (fun cdv A outer s H vs Q E hr h => ?_)
  · obtain ⟨g, c, rfl, _⟩ := h
    rfl
  · obtain ⟨g, c, rfl, hB, q⟩ := h
    refine ⟨_, pss_cons (ps_set (i := 1) scOdd.nd rfl (.inl rfl) (pe_lst pa_nil))
      (pss_cons (ps_for PassesOwn.never rfl (pi_range1 rfl mr (pa_cons pe_int pa_nil)) (pg_name (i := 2) scOdd.nd rfl (.inl rfl)) (pss_one (ps_set (i := 1) scOdd.nd rfl (.inl rfl) (pe_lst (pa_cons (pv 1) pa_nil)))))
      (pss_cons (ps_set (i := 3) scOdd.nd rfl (.inl rfl) (pe_lst (pa_cons pe_non (pa_cons pe_bl (pa_cons pe_bl (pa_cons pe_int (pa_cons pe_int (pa_cons (pe_un un_neg pe_int) (pa_cons (pe_op op_pow pe_int pe_int) (pa_cons pe_str (pa_cons pe_str (pa_cons (pe_tup pa_nil) (pa_cons (pe_lst pa_nil) (pa_cons pe_dnewK (pa_cons (pe_lst (pa_cons pe_int pa_nil)) (pa_cons (pe_tup (pa_cons pe_int pa_nil)) (pa_cons (pe_tup (pa_cons pe_bl pa_nil)) (pa_cons (pe_tup (pa_cons pe_int (pa_cons pe_int pa_nil))) pa_nil))))))))))))))))))
      (pss_one (ps_ret (pe_ix ix_list (pe_op op_cat (pv 3) (pe_lst (pa_cons (pv 1) (pa_cons (pe_disp (pps_cons pe_int pe_int pps_nil) (by rfl) (by rfl) (fun z => by cases z) (by decide)) pa_nil)))) (pe_call GT hr (by rfl) gT FT.kp bT .nil pass0 (pa_cons (pv 0) (pa_cons pe_int pa_nil))) (fun _ _ => rfl)))))), ?_⟩
    refine ⟨by show 0 ≤ sizeLine; decide, fun p0 n0 => ?_⟩
    have g0 : H p0 = none := n0
    refine ⟨5, rfl, by decide, by decide, ?_⟩
    refine for_range (n := 5) (fun i σ H1 => ∃ (v : V) (y2 : Option V), σ = [some (.ref g), some v, y2, none] ∧ Same H H1 ∧ Ap K (newp H H1) v (deepD i)) ⟨_, none, rfl, same_new n0, .inl ⟨_, _, _, rfl, rfl, nw_at upd_same g0, .nil⟩⟩ ?_ ?_
    · rintro i σ H1 hi ⟨v, y2, rfl, s1, hd⟩
      refine ⟨v, rfl, by show 1 ≤ sizeLine; decide, fun p1 n1 => ?_⟩
      have g1 : H p1 = none := s1.free n1
      refine ⟨_, _, rfl, s1.trans (same_new n1), .inl ⟨_, _, _, rfl, rfl, nw_at upd_same g1, .cons (hd.dq.sm fun b o e => ?_) .nil⟩⟩
      obtain ⟨n, e⟩ := nw_inv e
      exact mask_at (nw_at (by rw [upd_ne (ne_of_none e n1)]; exact e) n) (ne_of_none e n1)
    rintro σ H1 ⟨v, y2, rfl, s1, hd⟩
    have hB1 := hB.same s1
    have S1 := s1
    clear n0 g0
    -- 16 items
    refine ⟨1, rfl, 10, 39, rfl, rfl, ⟨by decide, by decide, by decide⟩, ?_⟩
    refine ⟨by show 0 ≤ sizeLine; decide, fun a1 n1 => ?_⟩
    have s2 := same_new (o := .tup []) n1
    have d2 : Dq K (newp H (upd H1 a1 (.tup []))) (.ref a1) (.tuple []) := .tup (SqT.of (nw_at upd_same (S1.free n1))) .nil
    generalize (upd H1 a1 (.tup [])) = H2 at s2 d2
    have hB2 := hB1.same s2
    have S2 := S1.trans s2
    refine ⟨by show 0 ≤ sizeLine; decide, fun a2 n2 => ?_⟩
    have s3 := same_new (o := .lst []) n2
    have d3 : Ap K (newp H (upd H2 a2 (.lst []))) (.ref a2) (.list []) := .inl ⟨_, _, _, rfl, rfl, nw_at upd_same (S2.free n2), .nil⟩
    generalize (upd H2 a2 (.lst [])) = H3 at s3 d3
    have hB3 := hB2.same s3
    have S3 := S2.trans s3
    intro a3 n3
    have s4 := same_new (o := .dK []) n3
    have d4 : Dq K (newp H (upd H3 a3 (.dK []))) (.ref a3) (.dict (([] : List (Key × PyData)).map fun p => (kyD p.1, p.2))) := .dct (nw_at upd_same (S3.free n3)) .nil
    generalize (upd H3 a3 (.dK [])) = H4 at s4 d4
    have hB4 := hB3.same s4
    have S4 := S3.trans s4
    refine ⟨by show 1 ≤ sizeLine; decide, fun a4 n4 => ?_⟩
    have s5 := same_new (o := .lst [.int 0]) n4
    have d5 : Ap K (newp H (upd H4 a4 (.lst [.int 0]))) (.ref a4) (.list [.int 0]) := .inl ⟨_, _, _, rfl, rfl, nw_at upd_same (S4.free n4), .cons (.int 0) .nil⟩
    generalize (upd H4 a4 (.lst [.int 0])) = H5 at s5 d5
    have hB5 := hB4.same s5
    have S5 := S4.trans s5
    refine ⟨by show 1 ≤ sizeLine; decide, fun a5 n5 => ?_⟩
    have s6 := same_new (o := .tup [.int 0]) n5
    have d6 : Dq K (newp H (upd H5 a5 (.tup [.int 0]))) (.ref a5) (.tuple [.int 0]) := .tup (SqT.of (nw_at upd_same (S5.free n5))) (.cons (.int 0) .nil)
    generalize (upd H5 a5 (.tup [.int 0])) = H6 at s6 d6
    have hB6 := hB5.same s6
    have S6 := S5.trans s6
    refine ⟨by show 1 ≤ sizeLine; decide, fun a6 n6 => ?_⟩
    have s7 := same_new (o := .tup [.bl true]) n6
    have d7 : Dq K (newp H (upd H6 a6 (.tup [.bl true]))) (.ref a6) (.tuple [.bool true]) := .tup (SqT.of (nw_at upd_same (S6.free n6))) (.cons (.bl true) .nil)
    generalize (upd H6 a6 (.tup [.bl true])) = H7 at s7 d7
    have hB7 := hB6.same s7
    have S7 := S6.trans s7
    refine ⟨by show 2 ≤ sizeLine; decide, fun a7 n7 => ?_⟩
    have s8 := same_new (o := .tup [.int 0, .int 0]) n7
    have d8 : Dq K (newp H (upd H7 a7 (.tup [.int 0, .int 0]))) (.ref a7) (.tuple [.int 0, .int 0]) := .tup (SqT.of (nw_at upd_same (S7.free n7))) (.cons (.int 0) (.cons (.int 0) .nil))
    generalize (upd H7 a7 (.tup [.int 0, .int 0])) = H8 at s8 d8
    have hB8 := hB7.same s8
    have S8 := S7.trans s8
    have m8 := nw_sm (H0 := H) s8
    have m7 := (nw_sm (H0 := H) s7).trans m8
    have m6 := (nw_sm (H0 := H) s6).trans m7
    have m5 := (nw_sm (H0 := H) s5).trans m6
    have m4 := (nw_sm (H0 := H) s4).trans m5
    have m3 := (nw_sm (H0 := H) s3).trans m4
    have m2 := (nw_sm (H0 := H) s2).trans m3
    have hA : Paired (Ap K (newp H H8)) [.non, .bl true, .bl false, .int 0, .int 1, .int (-1), .int (10 ^ 39), .str "", .str "0", .ref a1, .ref a2, .ref a3, .ref a4, .ref a5, .ref a6, .ref a7] oddA :=
      .cons (.inr ⟨.non, rfl⟩) (.cons (.inr ⟨.bl true, rfl⟩) (.cons (.inr ⟨.bl false, rfl⟩) (.cons (.inr ⟨.int 0, rfl⟩) (.cons (.inr ⟨.int 1, rfl⟩) (.cons (.inr ⟨.int (-1), rfl⟩) (.cons (.inr ⟨.int (10 ^ 39), rfl⟩) (.cons (.inr ⟨.str "", rfl⟩) (.cons (.inr ⟨.str "0", rfl⟩) (.cons (.inr ⟨d2.sm m3, rfl⟩) (.cons (d3.sm m4) (.cons (.inr ⟨d4.sm m5, rfl⟩) (.cons (d5.sm m6) (.cons (.inr ⟨d6.sm m7, rfl⟩) (.cons (.inr ⟨d7.sm m8, rfl⟩) (.cons (.inr ⟨d8, rfl⟩) .nil)))))))))))))))
    have hdd := hd.sm m2
    have s18 := ((((((s2.trans s3).trans s4).trans s5).trans s6).trans s7).trans s8)
    have s08 := s1.trans s18
    clear d2 d3 d4 d5 d6 d7 d8 m2 m3 m4 m5 m6 m7 m8 n1 n2 n3 n4 n5 n6 n7 s2 s3 s4 s5 s6 s7 s8 hB2 hB3 hB4 hB5 hB6 hB7 hd
    refine ⟨by show 16 ≤ sizeLine; decide, fun l1 nl1 => ?_⟩
    generalize hH9 : upd H8 l1 _ = H9
    have t1 : Same H8 H9 := by
      rw [← hH9]
      exact same_new nl1
    have hl1 : H9 l1 = some (.lst [.non, .bl true, .bl false, .int 0, .int 1, .int (-1), .int (10 ^ 39), .str "", .str "0", .ref a1, .ref a2, .ref a3, .ref a4, .ref a5, .ref a6, .ref a7]) := by
      rw [← hH9]
      exact upd_same
    clear hH9
    have hB9 := hB8.same t1
    refine ⟨_, rfl, v, rfl, fun dz ndz => ⟨upd_same, [(.inl 0, .int 0)], rfl, by decide, ?_⟩⟩
    have ez : mergeK [] [((Sum.inl 0 : Key), V.int 0)] = [(Sum.inl 0, V.int 0)] := rfl
    rw [ez]
    have gz : H dz = none := (S8.trans t1).free ndz
    have t2 : Same H9 (upd (upd H9 dz (.dK [])) dz (.dK [(.inl 0, .int 0)])) := fun b o e => by
      rw [upd_ne (ne_of_none e ndz), upd_ne (ne_of_none e ndz)]
      exact e
    have dZ : Dq K (newp H (upd (upd H9 dz (.dK [])) dz (.dK [(.inl 0, .int 0)]))) (.ref dz) (.dict (zeroD.map fun p => (kyD p.1, p.2))) := .dct (nw_at upd_same gz) (.cons (.int 0) .nil)
    generalize (upd (upd H9 dz (.dK [])) dz (.dK [(.inl 0, .int 0)])) = H10 at t2 dZ
    have hB10 := hB9.same t2
    refine ⟨by show 2 ≤ sizeLine; decide, fun l2 nl2 => ?_⟩
    have t3 : Same H10 (upd H10 l2 (.lst [v, .ref dz])) := same_new nl2
    have hl2 : (upd H10 l2 (.lst [v, .ref dz])) l2 = some (.lst [v, .ref dz]) := upd_same
    generalize (upd H10 l2 (.lst [v, .ref dz])) = H11 at t3 hl2
    have hB11 := hB10.same t3
    refine ⟨l1, l2, _, _, rfl, rfl, t3 _ _ (t2 _ _ hl1), hl2, by show 16 + 2 ≤ sizeLine; decide, fun l3 nl3 => ?_⟩
    have t4 : Same H11 (upd H11 l3 (.lst ([.non, .bl true, .bl false, .int 0, .int 1, .int (-1), .int (10 ^ 39), .str "", .str "0", .ref a1, .ref a2, .ref a3, .ref a4, .ref a5, .ref a6, .ref a7] ++ [v, .ref dz]))) := same_new nl3
    have hl3 := upd_same (H := H11) (a := l3) (o := .lst ([.non, .bl true, .bl false, .int 0, .int 1, .int (-1), .int (10 ^ 39), .str "", .str "0", .ref a1, .ref a2, .ref a3, .ref a4, .ref a5, .ref a6, .ref a7] ++ [v, .ref dz]))
    have t812 := (((t1.trans t2).trans t3).trans t4)
    have hAll : Paired (Ap K (newp H (upd H11 l3 (.lst ([.non, .bl true, .bl false, .int 0, .int 1, .int (-1), .int (10 ^ 39), .str "", .str "0", .ref a1, .ref a2, .ref a3, .ref a4, .ref a5, .ref a6, .ref a7] ++ [v, .ref dz]))))) ([.non, .bl true, .bl false, .int 0, .int 1, .int (-1), .int (10 ^ 39), .str "", .str "0", .ref a1, .ref a2, .ref a3, .ref a4, .ref a5, .ref a6, .ref a7] ++ [v, .ref dz]) oddMenu :=
      pairedAp_app (pairedAp_sm (nw_sm t812) hA) (.cons (hdd.sm (nw_sm t812)) (.cons (.inr ⟨dZ.sm (nw_sm (t3.trans t4)), rfl⟩) .nil))
    generalize ([.non, .bl true, .bl false, .int 0, .int 1, .int (-1), .int (10 ^ 39), .str "", .str "0", .ref a1, .ref a2, .ref a3, .ref a4, .ref a5, .ref a6, .ref a7] ++ [v, .ref dz] : List V) = LL at t4 hl3 t812 hAll
    have hLL : LL.length = 18 := hAll.length
    generalize (upd H11 l3 (.lst LL)) = H12 at t4 hl3 t812 hAll
    have hB12 := hB8.same t812
    refine ⟨_, rfl, g, c, 18, rfl, hB12, by decide, by decide, fun H13 r hr' hB13 b13 => ?_⟩
    have gl : l3 ≠ g := hB11.ne nl3
    have hr18 : r < LL.length := by omega
    have ev : LL[r]? = some LL[r] := List.getElem?_eq_getElem hr18
    obtain ⟨d, hd, hdq⟩ := pairedAp_get hAll ev
    exact ⟨l3, _, _, _, rfl, rfl, SqL.of (b13 _ _ gl hl3), atI_nat ev, q H13 _ d hB13 ((But.of_same (s08.trans t812)).trans b13) (hdq.sm (nw_but hB.at b13)) (List.mem_of_getElem? hd)⟩
end
end K11

namespace Rg
open PySem PySem.Spec PyProof.Rows L2 Mach
/-- alike: the same data -/
def spAlk (K : PySem.W.Frag) : Sp := fun vs H Q _ => ∃ (a b : Addr) (d : PyData) (i k : Nat), vs = [.ref a, .ref b] ∧ Dp K H (.ref a) d ∧ Dp K H (.ref b) d ∧ Gd i k d ∧ i ≤ 60 ∧ k ≤ 100000 ∧ Q (.bl true) H
end Rg
namespace K11
open PySem PySem.Spec PyProof.Rows L2 Rg Mach
abbrev sAlk : Stmt := topS 35
theorem scAlk : FnScope ["_law_found", "_law_due"] ["_law_found", "_law_due"] (defScope sAlk) := ⟨rfl, rfl, rfl, by decide +kernel, rfl, by decide +kernel, by decide +kernel⟩
section
variable {P : Program} {w : World} {K : PySem.W.Frag} {mg : Str → Option Value} {base : Heap}
theorem ok_alk {f : Addr} {fd : FuncData} {k : Nat} (F : Fun K "_law_alike" "_law_alike" sAlk f fd) (mre : mg "repr" = none) :
    GFn P w K mg base CX0 (k + 1) f fd ["_law_found", "_law_due"] (spAlk K) := by
  refine fun_okG F scAlk (fun vs H Q E h => ?_) (fun cdv A outer s H vs Q E hr hg h => ?_)
  · obtain ⟨a, b, d, i, k, rfl, _⟩ := h
    rfl
  · obtain ⟨a, b, d, i, k', rfl, ha, hb, hd, hi, hk, q⟩ := h
    refine ⟨_, pss_one (ps_ret (pe_and (pe_cmpR (op_eqD hr.units) (pv 0) (pv 1) (nomark _))
      (pe_one (pe_cmpR op_eq (pe_callB (call_repr_data hg hr.units) (by rfl) mre bRepr (pa_cons (pv 0) pa_nil)) (pe_callB (call_repr_data hg hr.units) (by rfl) mre bRepr (pa_cons (pv 1) pa_nil)) (nomark _))))), ?_⟩
    refine ⟨_, rfl, _, rfl, d, d, ha, hb, hd.shp hi, hd.shp hi, ?_⟩
    rw [eqv_same hd.lay]
    have hdp := hd.dep
    refine ⟨_, rfl, _, rfl, a, d, rfl, ha, hd.shw, hd.nod, by omega, hd.short hi hk, _, rfl, b, d, rfl, hb, hd.shw, hd.nod, by omega, hd.short hi hk, rfl, ?_⟩
    rw [decide_eq_true rfl]
    exact q
end
end K11

/-! whether all errors have their fields and classes -/
namespace K11
open PySem PySem.Spec PyProof.Rows L2 Rg Mach
abbrev sER : Stmt := topS 40
def nER : List Str := ["_law_x", "_law_y", "_law_some", "_law_at", "_law_told", "_law_due", "_law_k"]
theorem scER : FnScope nER ["_law_x", "_law_y"] (defScope sER) := ⟨rfl, rfl, rfl, by decide +kernel, rfl, by decide +kernel, by decide +kernel⟩
theorem bVE' : bootBuiltins "ValueError" = some (.type "ValueError") := by decide +kernel
/-- two lists of the very same things -/
def spAlkS (K : PySem.W.Frag) : Sp := fun vs H Q _ => ∃ (a b : Addr) (xs : List V) (ds : List PyData) (e k : Nat), vs = [.ref a, .ref b] ∧ H a = some (.lst xs) ∧ H b = some (.lst xs) ∧ DqAll K H xs ds ∧ GqAll e k ds ∧ e ≤ 50 ∧ k ≤ 300000 ∧ Q (.bl true) H
theorem vsame_dq {K : PySem.W.Frag} {H : Hp} {v : V} {d : PyData} (h : Dq K H v d) : VSame v := by cases h <;> trivial
theorem vsame_all {K : PySem.W.Frag} {H : Hp} : ∀ {vs : List V} {ds : List PyData}, DqAll K H vs ds → ∀ v ∈ vs, VSame v
  | _, _, .nil, v, h => nomatch h
  | _, _, .cons h t, v, hv => by
    rcases List.mem_cons.mp hv with z | z
    · rw [z]; exact vsame_dq h
    · exact vsame_all t v z
def spErR (K : PySem.W.Frag) : Sp := fun vs H Q _ => ∃ (x y : V) (dx dy : PyData), vs = [x, y] ∧ Ap K H x dx ∧ Dq K H y dy ∧ (∀ a, x = .ref a → Dq K (mask a H) y dy ∨ (Tg.dat dx).isL = false) ∧ Gq 20 1000 dx ∧ Gq 20 1000 dy ∧
  ∀ H', (∀ b o, (x = .ref b → (Tg.dat dx).isL = false) → H b = some o → H' b = some o) → Q (.bl true) H'
theorem shp_bools (bs : List Bool) : SeqAt.shaped (.list (bs.map PyData.bool)) = true := by
  have h1 : PyData.canLayAll0 (bs.map PyData.bool) = true ∧ PyData.depthAll (bs.map PyData.bool) = 0 := by
    induction bs with
    | nil => exact ⟨rfl, rfl⟩
    | cons a l ih => exact ⟨by simp only [List.map_cons, PyData.canLayAll0, PyData.canLay0, ih.1, Bool.and_self], by simp only [List.map_cons, PyData.depthAll, PyData.depth, ih.2, Nat.max_self]⟩
  unfold SeqAt.shaped
  simp only [PyData.canLay0, PyData.depth, h1.1, h1.2, Bool.true_and]
  decide
theorem lay_bools (bs : List Bool) : PyData.canLay0 (.list (bs.map PyData.bool)) = true := by
  have := shp_bools bs
  unfold SeqAt.shaped at this
  exact (Bool.and_eq_true_iff.mp this).1
theorem dpAll_bools {K : PySem.W.Frag} {H : Hp} : ∀ bs : List Bool, DpAll K H (bs.map V.bl) (bs.map PyData.bool)
  | [] => .nil
  | b :: bs => .cons (.bl b) (dpAll_bools bs)
theorem flags_eq {cs : List Addr} (nd : cs.Nodup) {i : Nat} {C : Addr} (h : cs[i]? = some C) (hl : cs.length = 18) : (cs.map fun D => decide (C = D)) = (List.range 18).map fun k => decide (k = i) := by
  obtain ⟨hi, rfl⟩ := List.getElem?_eq_some_iff.mp h
  refine List.ext_getElem (by rw [List.length_map, List.length_map, List.length_range, hl]) fun k h1 h2 => ?_
  rw [List.getElem_map, List.getElem_map, List.getElem_range, Bool.eq_iff_iff, decide_eq_true_iff, decide_eq_true_iff]
  have hk : k < cs.length := by rw [List.length_map] at h1; exact h1
  rw [List.getElem_inj nd]
  exact ⟨fun e => e.symm, fun e => e.symm⟩
section
variable {P : Program} {w : World} {K : PySem.W.Frag} {mg : Str → Option Value} {base : Heap}
theorem ok_alkS {f : Addr} {fd : FuncData} {k : Nat} (F : Fun K "_law_alike" "_law_alike" sAlk f fd) (mre : mg "repr" = none) :
    GFn P w K mg base CX0 (k + 1) f fd ["_law_found", "_law_due"] (spAlkS K) := by
  refine fun_okG F scAlk (fun vs H Q E h => ?_) (fun cdv A outer s H vs Q E hr hg h => ?_)
  · obtain ⟨a, b, xs, ds, e, k, rfl, _⟩ := h
    rfl
  · obtain ⟨a, b, xs, ds, e, k', rfl, ha, hb, hd, hq, he, hk, q⟩ := h
    refine ⟨_, pss_one (ps_ret (pe_and (pe_cmpR (op_eqSm hr.units0) (pv 0) (pv 1) (nomark _))
      (pe_one (pe_cmpR op_eq (pe_callB (call_repr_dq hg hr.units) (by rfl) mre bRepr (pa_cons (pv 0) pa_nil)) (pe_callB (call_repr_dq hg hr.units) (by rfl) mre bRepr (pa_cons (pv 1) pa_nil)) (nomark _))))), ?_⟩
    have hg2 := gq_list hq
    refine ⟨_, rfl, _, rfl, a, b, xs, rfl, rfl, SqL.of ha, SqL.of hb, vsame_all hd, true, rfl, ?_⟩
    refine ⟨_, rfl, a, .list ds, ds, rfl, .lst ha hd, .inr rfl, hg2.shw, Nat.le_trans hg2.dep (by omega), hg2.short hk, _, rfl, b, .list ds, ds, rfl, .lst hb hd, .inr rfl, hg2.shw, Nat.le_trans hg2.dep (by omega), hg2.short hk, rfl, ?_⟩
    rw [decide_eq_true rfl]
    exact q
theorem ok_eR {f c0 c1 c2 c3 c4 c5 c6 c7 c8 c9 c10 c11 c12 c13 c14 c15 c16 c17 TE fE fF fA : Addr} {fd fdE fdF fdA : FuncData} {k : Nat} (F : Fun K "_law_errors_right" "_law_errors_right" sER f fd) (KK : Kls P w K mg base c0 c1 c2 c3 c4 c5 c6 c7 c8 c9 c10 c11 c12 c13 c14 c15 c16 c17 TE)
    (FE : Fun K "_law_errors" "_law_errors" sErrs fE fdE) (bE : Binds K fdE ["_law_x", "_law_y"] []) (gE : mg "_law_errors" = some (.ref fE))
    (FF : Fun K "_law_flags" "_law_flags" sFlags fF fdF) (bF : Binds K fdF ["_law_e"] []) (gF : mg "_law_flags" = some (.ref fF))
    (FA : Fun K "_law_alike" "_law_alike" sAlk fA fdA) (bA : Binds K fdA ["_law_found", "_law_due"] []) (gA : mg "_law_alike" = some (.ref fA))
    (mis : mg "isinstance" = none) (mve : mg "ValueError" = none) (mli : mg "list" = none) (ml : mg "len" = none) (mr : mg "range" = none) (mre : mg "repr" = none) :
    GFn P w K mg base CX0 (k + 4) f fd ["_law_x", "_law_y"] (spErR K) := by
  have GE : FnOk P w K mg base CX0 (k + 3) fE fdE ["_law_x", "_law_y"] (spErrs [c0, c1, c2, c3, c4, c5, c6, c7, c8, c9, c10, c11, c12, c13, c14, c15, c16, c17]) := ok_errs FE KK
  have GF : FnOk P w K mg base CX0 (k + 3) fF fdF ["_law_e"] (spFlags [c0, c1, c2, c3, c4, c5, c6, c7, c8, c9, c10, c11, c12, c13, c14, c15, c16, c17]) := ok_flags FF KK mis
  have GA : GFn P w K mg base CX0 (k + 3) fA fdA ["_law_found", "_law_due"] (spAlkS K) := ok_alkS FA mre
  refine fun_okG F scER (fun vs H Q E h => ?_) (fun cdv A outer s H vs Q E hr hg h => ?_)
  · obtain ⟨x, y, dx, dy, rfl, _⟩ := h
    rfl
  · obtain ⟨x, y, dx, dy, rfl, hx, hy, hxy, gx, gy, q⟩ := h
    refine ⟨_, pss_cons (ps_set (i := 2) scER.nd rfl (.inl rfl) (pe_call GE hr (by rfl) gE FE.kp bE .nil pass0 (pa_cons (pv 0) (pa_cons (pv 1) pa_nil))))
      (pss_cons (ps_for PassesOwn.never rfl (pi_range1 (by rfl) mr (pa_cons (pe_callB call_len_seq (by rfl) ml bLen (pa_cons (pv 2) pa_nil)) pa_nil)) (pg_name (i := 3) scER.nd rfl (.inr rfl))
        (pss_cons (ps_if (pw_or (pt_cmpR (op_neD hr.units) (pe_call GF hr (by rfl) gF FF.kp bF .nil pass0 (pa_cons (pe_ix ix_list (pv 2) (pv 3) (fun _ _ => rfl)) pa_nil)) (pe_lc (own := [("_law_k", 6)]) (g := gName 6) (tt := tYes) (te := tOp rEq (tVar 6) (tVar 3)) rfl scER.nd (pi_range1 (by rfl) mr (pa_cons pe_int pa_nil)) (blkOk_by (own := [("_law_k", 6)]) (N := nER) (sc := defScope sER) (by decide +kernel))
            (fun _ _ _ _ _ => pg_name (i := 6) scER.nd rfl (Or.inl rfl)) (fun _ _ _ _ _ => pts_nil) (fun _ _ _ _ _ => pe_cmpR op_eq (pv 6) (pv 3) (nomark _))) (nomark _))
          (pw_or1 (pt_not (pt_val (pe_callB call_isO (by rfl) mis bIsi (pa_cons (pe_ix ix_list (pv 2) (pv 3) (fun _ _ => rfl)) (pa_cons (pe_glob (v := .ref TE) (by rfl) KK.kT.m rfl) pa_nil))))))).pt (pss_one (ps_ret pe_bl)) pss_nil)
        (pss_one (ps_if (pt_not (pt_val (pe_callB call_isO (by rfl) mis bIsi (pa_cons (pe_ix ix_list (pv 2) (pv 3) (fun _ _ => rfl)) (pa_cons (pe_bltn (v := .ty "ValueError") (by rfl) mve bVE' rfl) pa_nil))))) (pss_one (ps_ret pe_bl)) pss_nil))))
      (pss_cons (ps_set (i := 4) scER.nd rfl (.inl rfl) (pe_lst (pa_cons (pe_oxf (pe_ix ix_list (pv 2) pe_int (fun _ _ => rfl))) (pa_cons (pe_oxf (pe_ix ix_list (pv 2) pe_int (fun _ _ => rfl))) (pa_cons (pe_oxf (pe_ix ix_list (pv 2) pe_int (fun _ _ => rfl))) (pa_cons (pe_oxf (pe_ix ix_list (pv 2) pe_int (fun _ _ => rfl))) (pa_cons (pe_oxf (pe_ix ix_list (pv 2) pe_int (fun _ _ => rfl))) (pa_cons (pe_oxf (pe_ix ix_list (pv 2) pe_int (fun _ _ => rfl))) (pa_cons (pe_oxf (pe_ix ix_list (pv 2) pe_int (fun _ _ => rfl))) pa_nil)))))))))
      (pss_cons (ps_set (i := 4) scER.nd rfl (.inl rfl) (pe_op op_cat (pv 4) (pe_lst (pa_cons (pe_oxf (pe_ix ix_list (pv 2) pe_int (fun _ _ => rfl))) (pa_cons (pe_oxf (pe_ix ix_list (pv 2) pe_int (fun _ _ => rfl))) (pa_cons (pe_oxf (pe_ix ix_list (pv 2) pe_int (fun _ _ => rfl))) (pa_cons (pe_oxf (pe_ix ix_list (pv 2) pe_int (fun _ _ => rfl))) (pa_cons (pe_oxf (pe_ix ix_list (pv 2) pe_int (fun _ _ => rfl))) (pa_cons (pe_oxf (pe_ix ix_list (pv 2) pe_int (fun _ _ => rfl))) pa_nil)))))))))
      (C8.pss_cut (ps_if (pt_val (pe_callB call_isi (by rfl) mis bIsi (pa_cons (pv 0) (pa_cons (pe_bltn (v := .ty "list") (by rfl) mli bList rfl) pa_nil)))) (pss_one (ps_expr (pe_bm PySem.F.plainAttrs_list PySem.F.slot_list_append PySem.F.type_list_append mt_append (pv 0) (pa_cons pe_str pa_nil)))) pss_nil)
      (pss_cons (ps_set (i := 5) scER.nd rfl (.inl rfl) (pe_op op_cat (pe_op op_rep (pe_lst (pa_cons (pv 0) pa_nil)) pe_int) (pe_lst (pa_cons (pv 0) (pa_cons (pv 1) (pa_cons (pv 0) (pa_cons (pv 1) pa_nil)))))))
      (pss_one (ps_ret (pe_and (pe_callG GA hr hg (by rfl) gA FA.kp bA .nil pass0 (pa_cons (pv 4) (pa_cons (pv 5) pa_nil))) (pe_and (pe_not (pe_callB call_isO (by rfl) mis bIsi (pa_cons (pe_exc0 PySem.F.excBase_ValueError KK.kT.q KK.kT.m KK.kT.k (by rfl)) (pa_cons (pe_glob (v := .ref c0) (by rfl) KK.k0.m rfl) pa_nil)))) (pe_one (pe_callB call_isO (by rfl) mis bIsi (pa_cons (pe_exc0 PySem.F.excBase_ValueError KK.kT.q KK.kT.m KK.kT.k (by rfl)) (pa_cons (pe_bltn (v := .ty "ValueError") (by rfl) mve bVE' rfl) pa_nil))))))))))))), ?_⟩
    have hnd := (List.nodup_cons.mp KK.fam.nd).2
    have hXT := KK.fam.c TE List.mem_cons_self
    refine ⟨_, rfl, _, rfl, x, y, rfl, fun H1 p as s1 hp he => ?_⟩
    have hlen : as.length = 18 := he.len
    refine ⟨_, rfl, p, _, rfl, .inl (SqL.of hp), _, rfl, by rw [List.length_map, hlen]; decide, by rw [List.length_map, hlen]; decide, ?_⟩
    refine for_range (n := (((as.map V.ref).length : Nat) : Int).toNat) (fun i σ H2 => (∃ y3 : Option V, σ = [some x, some y, some (.ref p), y3, none, none, none]) ∧ Same H1 H2) ⟨⟨none, rfl⟩, fun _ _ z => z⟩ ?_ ?_
    · rintro i σ H2 hi ⟨⟨y3, rfl⟩, s2⟩
      have hi' : i < 18 := by rw [Int.toNat_natCast, List.length_map, hlen] at hi; exact hi
      obtain ⟨a, ha⟩ : ∃ a, as[i]? = some a := ⟨_, List.getElem?_eq_getElem (by omega)⟩
      obtain ⟨C, f, hC, hf, hE⟩ := he.get ha
      have hCm := List.mem_of_getElem? hC
      have hEA := hE.at
      have hX := KK.fam.c C (List.mem_cons_of_mem _ hCm)
      have hat : atI (as.map V.ref) (0 + (i : Int)) = some (.ref a) := by
        rw [Int.zero_add]
        exact atI_nat (by rw [List.getElem?_map, ha]; rfl)
      have hp2 := s2 _ _ hp
      refine ⟨_, rfl, _, rfl, p, _, _, _, rfl, rfl, SqL.of hp2, hat, a, C, rfl, hEA.sm s2, hCm, fun H3 p3 s3 hp3 => ?_⟩
      have e1 := flags_eq hnd hC rfl
      have hp3' : H3 p3 = some (.lst (((List.range 18).map fun k => decide (k = i)).map V.bl)) := by
        rw [← e1, hp3, List.map_map]
        rfl
      refine ⟨18, rfl, by decide, by decide, fun D nD => ?_⟩
      refine lc_range (lo := 0) (n := 18) (fun k H4 => Same H3 H4 ∧ H4 D = some (.lst ((((List.range 18).map fun k => decide (k = i)).map V.bl).take k))) ⟨same_new nD, upd_same⟩ ?_ ?_
      · rintro k H4 hk ⟨s4, hD4⟩
        refine ⟨rfl, ?_⟩
        refine ⟨_, rfl, _, rfl, rfl, _, hD4, by rw [List.length_take]; exact szBig (by simp; omega), fun b o e => ?_, ?_⟩
        · rw [upd_ne (ne_of_none e nD)]
          exact s4 _ _ e
        · rw [upd_same]
          have hg : (((List.range 18).map fun k => decide (k = i)).map V.bl)[k]? = some (V.bl (decide (k = i))) := by
            have hk18 : k < 18 := hk
            rw [List.getElem?_map, List.getElem?_map, List.getElem?_range hk18]
            rfl
          rw [take_snoc hg]
          have e2 : decide (V.int (0 + (k : Int)) = V.int (0 + (i : Int))) = decide (k = i) := by
            rw [Bool.eq_iff_iff, decide_eq_true_iff, decide_eq_true_iff]
            constructor
            · intro h
              have := V.int.inj h
              omega
            · intro h
              rw [h]
          rw [e2]
      rintro H4 ⟨s4, hD4⟩
      have hD4' : H4 D = some (.lst (((List.range 18).map fun k => decide (k = i)).map V.bl)) := by
        rw [hD4, List.take_of_length_le (by simp)]
      refine ⟨.list (((List.range 18).map fun k => decide (k = i)).map .bool), .list (((List.range 18).map fun k => decide (k = i)).map .bool), .lst (SqL.of (s4 _ _ hp3')) (dpAll_bools _), .lst (SqL.of hD4') (dpAll_bools _), shp_bools _, shp_bools _, _, rfl, ?_⟩
      rw [eqv_same (lay_bools _)]
      have s24 := (s2.trans s3).trans s4
      refine ⟨_, rfl, _, rfl, p, _, _, _, rfl, rfl, SqL.of (s24 _ _ hp), hat, a, C, .ref TE, .ref TE, true, rfl, hEA.sm s24, hX, (fun u r => r), KK.fam.kitT hCm, true, rfl, ?_⟩
      refine ⟨_, rfl, _, rfl, p, _, _, _, rfl, rfl, SqL.of (s24 _ _ hp), hat, a, C, .ty "ValueError", .type "ValueError", true, rfl, hEA.sm s24, hX, (fun u r => r), KK.fam.kitV hCm, true, rfl, ?_⟩
      exact ⟨⟨_, rfl⟩, s24⟩
    rintro σ H2 ⟨⟨y3, rfl⟩, s2⟩
    have he2 := he.sm s2
    have hp2 := s2 _ _ hp
    cases he2 with
    | @cons a0 _ _ _ _ _ e0 he2 =>
    cases he2 with
    | @cons a1 _ _ _ _ _ e1 he2 =>
    cases he2 with
    | @cons a2 _ _ _ _ _ e2 he2 =>
    cases he2 with
    | @cons a3 _ _ _ _ _ e3 he2 =>
    cases he2 with
    | @cons a4 _ _ _ _ _ e4 he2 =>
    cases he2 with
    | @cons a5 _ _ _ _ _ e5 he2 =>
    cases he2 with
    | @cons a6 _ _ _ _ _ e6 he2 =>
    cases he2 with
    | @cons a7 _ _ _ _ _ e7 he2 =>
    cases he2 with
    | @cons a8 _ _ _ _ _ e8 he2 =>
    cases he2 with
    | @cons a9 _ _ _ _ _ e9 he2 =>
    cases he2 with
    | @cons a10 _ _ _ _ _ e10 he2 =>
    cases he2 with
    | @cons a11 _ _ _ _ _ e11 he2 =>
    cases he2 with
    | @cons a12 _ _ _ _ _ e12 he2 =>
    cases he2 with
    | @cons a13 _ _ _ _ _ e13 he2 =>
    cases he2 with
    | @cons a14 _ _ _ _ _ e14 he2 =>
    cases he2 with
    | @cons a15 _ _ _ _ _ e15 he2 =>
    cases he2 with
    | @cons a16 _ _ _ _ _ e16 he2 =>
    cases he2 with
    | @cons a17 _ _ _ _ _ e17 he2 =>
    cases he2 with
    | nil =>
    obtain ⟨d0, u0, w0⟩ := e0
    obtain ⟨d1, u1, w1⟩ := e1
    obtain ⟨d2, u2, w2⟩ := e2
    obtain ⟨d3, u3, w3⟩ := e3
    obtain ⟨d4, u4, w4⟩ := e4
    obtain ⟨d5, u5, w5⟩ := e5
    obtain ⟨d6, u6, w6⟩ := e6
    obtain ⟨d7, u7, w7⟩ := e7
    obtain ⟨d8, u8, w8⟩ := e8
    obtain ⟨d16, u16, w16⟩ := e16
    obtain ⟨d17, u17, w17⟩ := e17
    refine ⟨_, rfl, p, _, _, _, rfl, rfl, SqL.of (hp2), (rfl : atI ([a0, a1, a2, a3, a4, a5, a6, a7, a8, a9, a10, a11, a12, a13, a14, a15, a16, a17].map V.ref) 0 = some (.ref a0)), a0, c0, d0, _, _, rfl, u0, w0, KK.k0.x, KK.k0.n, rfl, _, rfl, p, _, _, _, rfl, rfl, SqL.of (hp2), (rfl : atI ([a0, a1, a2, a3, a4, a5, a6, a7, a8, a9, a10, a11, a12, a13, a14, a15, a16, a17].map V.ref) 1 = some (.ref a1)), a1, c1, d1, _, _, rfl, u1, w1, KK.k1.x, KK.k1.n, rfl, _, rfl, p, _, _, _, rfl, rfl, SqL.of (hp2), (rfl : atI ([a0, a1, a2, a3, a4, a5, a6, a7, a8, a9, a10, a11, a12, a13, a14, a15, a16, a17].map V.ref) 2 = some (.ref a2)), a2, c2, d2, _, _, rfl, u2, w2, KK.k2.x, KK.k2.n, rfl, _, rfl, p, _, _, _, rfl, rfl, SqL.of (hp2), (rfl : atI ([a0, a1, a2, a3, a4, a5, a6, a7, a8, a9, a10, a11, a12, a13, a14, a15, a16, a17].map V.ref) 3 = some (.ref a3)), a3, c3, d3, _, _, rfl, u3, w3, KK.k3.x, KK.k3.n, rfl, _, rfl, p, _, _, _, rfl, rfl, SqL.of (hp2), (rfl : atI ([a0, a1, a2, a3, a4, a5, a6, a7, a8, a9, a10, a11, a12, a13, a14, a15, a16, a17].map V.ref) 4 = some (.ref a4)), a4, c4, d4, _, _, rfl, u4, w4, KK.k4.x, KK.k4.n, rfl, _, rfl, p, _, _, _, rfl, rfl, SqL.of (hp2), (rfl : atI ([a0, a1, a2, a3, a4, a5, a6, a7, a8, a9, a10, a11, a12, a13, a14, a15, a16, a17].map V.ref) 5 = some (.ref a5)), a5, c5, d5, _, _, rfl, u5, w5, KK.k5.x, KK.k5.n, rfl, _, rfl, p, _, _, _, rfl, rfl, SqL.of (hp2), (rfl : atI ([a0, a1, a2, a3, a4, a5, a6, a7, a8, a9, a10, a11, a12, a13, a14, a15, a16, a17].map V.ref) 6 = some (.ref a6)), a6, c6, d6, _, _, rfl, u6, w6, KK.k6.x, KK.k6.n, rfl, by show 7 ≤ sizeLine; decide, fun q0 n0 => ?_⟩
    generalize hEq : upd H2 q0 _ = H3
    have s3 : Same H2 H3 := by
      rw [← hEq]
      exact same_new n0
    have l0 : H3 q0 = some (.lst [x, x, x, x, x, x, x]) := by
      rw [← hEq]
      exact upd_same
    clear hEq n0
    refine ⟨_, rfl, _, rfl, p, _, _, _, rfl, rfl, SqL.of (s3 _ _ hp2), (rfl : atI ([a0, a1, a2, a3, a4, a5, a6, a7, a8, a9, a10, a11, a12, a13, a14, a15, a16, a17].map V.ref) 7 = some (.ref a7)), a7, c7, d7, _, _, rfl, s3 _ _ u7, s3 _ _ w7, KK.k7.x, KK.k7.n, rfl, _, rfl, p, _, _, _, rfl, rfl, SqL.of (s3 _ _ hp2), (rfl : atI ([a0, a1, a2, a3, a4, a5, a6, a7, a8, a9, a10, a11, a12, a13, a14, a15, a16, a17].map V.ref) 8 = some (.ref a8)), a8, c8, d8, _, _, rfl, s3 _ _ u8, s3 _ _ w8, KK.k8.x, KK.k8.n, rfl, _, rfl, p, _, _, _, rfl, rfl, SqL.of (s3 _ _ hp2), (rfl : atI ([a0, a1, a2, a3, a4, a5, a6, a7, a8, a9, a10, a11, a12, a13, a14, a15, a16, a17].map V.ref) 16 = some (.ref a16)), a16, c16, d16, _, _, rfl, s3 _ _ u16, s3 _ _ w16, KK.k16.x, KK.k16.n, rfl, _, rfl, p, _, _, _, rfl, rfl, SqL.of (s3 _ _ hp2), (rfl : atI ([a0, a1, a2, a3, a4, a5, a6, a7, a8, a9, a10, a11, a12, a13, a14, a15, a16, a17].map V.ref) 16 = some (.ref a16)), a16, c16, d16, _, _, rfl, s3 _ _ u16, s3 _ _ w16, KK.k16.x, KK.k16.n2, rfl, _, rfl, p, _, _, _, rfl, rfl, SqL.of (s3 _ _ hp2), (rfl : atI ([a0, a1, a2, a3, a4, a5, a6, a7, a8, a9, a10, a11, a12, a13, a14, a15, a16, a17].map V.ref) 17 = some (.ref a17)), a17, c17, d17, _, _, rfl, s3 _ _ u17, s3 _ _ w17, KK.k17.x, KK.k17.n, rfl, _, rfl, p, _, _, _, rfl, rfl, SqL.of (s3 _ _ hp2), (rfl : atI ([a0, a1, a2, a3, a4, a5, a6, a7, a8, a9, a10, a11, a12, a13, a14, a15, a16, a17].map V.ref) 17 = some (.ref a17)), a17, c17, d17, _, _, rfl, s3 _ _ u17, s3 _ _ w17, KK.k17.x, KK.k17.n2, rfl, by show 6 ≤ sizeLine; decide, fun q1 n1 => ?_⟩
    generalize hEq : upd H3 q1 _ = H4
    have s4 : Same H3 H4 := by
      rw [← hEq]
      exact same_new n1
    have l1 : H4 q1 = some (.lst [x, x, x, y, x, y]) := by
      rw [← hEq]
      exact upd_same
    clear hEq n1
    refine ⟨q0, q1, _, _, rfl, rfl, s4 _ _ l0, l1, by show 7 + 6 ≤ sizeLine; decide, fun q2 n2 => ?_⟩
    generalize hEq : upd H4 q2 _ = H5
    have s5 : Same H4 H5 := by
      rw [← hEq]
      exact same_new n2
    have l2 : H5 q2 = some (.lst [x, x, x, x, x, x, x, x, x, x, y, x, y]) := by
      rw [← hEq]
      exact upd_same
    have f2 : H q2 = none := (((s1.trans s2).trans s3).trans s4).free n2
    clear hEq n2
    have s05 : Same H H5 := (((s1.trans s2).trans s3).trans s4).trans s5
    -- x.append
    refine ⟨fun σ H6 => (∃ y3 : Option V, σ = [some x, some y, some (.ref p), y3, some (.ref q2), none, none]) ∧ (∀ b o, (x = .ref b → (Tg.dat dx).isL = false) → H b = some o → H6 b = some o) ∧ H6 q2 = some (.lst [x, x, x, x, x, x, x, x, x, x, y, x, y]) ∧ ∃ dx', Dq K H6 x dx' ∧ Dq K H6 y dy ∧ Gq 20 1010 dx', ?_, ?_⟩
    · obtain ⟨_, _, kc, kt, kk⟩ := Tq0.qL (Tq0.mk (hx.dq.sm s05))
      refine ⟨_, rfl, _, _, _, _, _, rfl, kc, kt, kk, _, rfl, ite2 (fun hL => ?_) (fun hL => ?_)⟩
      · rcases hx with ⟨a, xs, ds, rfl, rfl, ha, hds⟩ | ⟨_, e⟩
        · have ha5 := s05 _ _ ha
          have hdl := hds.length
          have hb := gx.all
          have hdb : ds.length ≤ 1000 := Nat.le_trans (bulkAll_len ds) hb.bk
          refine ⟨_, rfl, .inl ⟨rfl, _, SqL.of ha5⟩, a, _, _, rfl, rfl, ha5, szBig (by omega), ?_⟩
          have sm : Same (mask a H) (upd H5 a (.lst (xs ++ [.str "more"]))) := fun b o e => by
            obtain ⟨n, e⟩ := mask_inv e
            rw [upd_ne n]
            exact s05 _ _ e
          have hy' : Dq K (mask a H) y dy := by
            rcases hxy a rfl with h | h
            · exact h
            · rw [h] at hL
              cases hL
          refine ⟨⟨_, rfl⟩, fun b o n e => ?_, ?_, .list (ds ++ [.str "more"]), .lst upd_same ((hds.sm sm).append (.cons (.str _) .nil)), hy'.sm sm, ?_⟩
          · rw [upd_ne (fun z => by have h := n (by rw [z]); cases h)]
            exact s05 _ _ e
          · rw [upd_ne (ne_of_none ha f2).symm]
            exact l2
          · have h1 : GqAll 19 5 [.str "more"] := by
              have := gqAll_cons (e := 19) (k := 4) (d := .str "more") (gq_of (by decide +kernel)) gqAll_nil
              exact ⟨this.shw, this.dep, this.lv, Nat.le_trans this.bk (by decide)⟩
            exact (gq_list (gqAll_append hb h1)).le (by decide) (by decide)
        · rw [e] at hL
          cases hL
      · exact ⟨⟨_, rfl⟩, fun b o _ e => s05 _ _ e, l2, dx, hx.dq.sm s05, hy.sm s05, gx.le (by decide) (by decide)⟩
    rintro σ H6 ⟨⟨y3', rfl⟩, k6, l6, dx', hx6, hy6, gx6⟩
    refine ⟨_, rfl, by show 1 ≤ sizeLine; decide, fun q3 n3 => ?_⟩
    generalize hEq : upd H6 q3 _ = H7
    have s7 : Same H6 H7 := by
      rw [← hEq]
      exact same_new n3
    have l3 : H7 q3 = some (.lst [x]) := by
      rw [← hEq]
      exact upd_same
    clear hEq n3
    refine ⟨q3, 9, _, rfl, rfl, l3, by decide, by decide, szBigLe (by show 1 * 9 ≤ _; decide), fun q4 n4 => ?_⟩
    generalize hEq : upd H7 q4 _ = H8
    have s8 : Same H7 H8 := by
      rw [← hEq]
      exact same_new n4
    have l4 : H8 q4 = some (.lst [x, x, x, x, x, x, x, x, x]) := by
      rw [← hEq]
      exact upd_same
    clear hEq n4
    refine ⟨_, rfl, _, rfl, _, rfl, _, rfl, by show 4 ≤ sizeLine; decide, fun q5 n5 => ?_⟩
    generalize hEq : upd H8 q5 _ = H9
    have s9 : Same H8 H9 := by
      rw [← hEq]
      exact same_new n5
    have l5 : H9 q5 = some (.lst [x, y, x, y]) := by
      rw [← hEq]
      exact upd_same
    clear hEq n5
    refine ⟨q4, q5, _, _, rfl, rfl, s9 _ _ l4, l5, by show 9 + 4 ≤ sizeLine; decide, fun q6 n6 => ?_⟩
    generalize hEq : upd H9 q6 _ = H10
    have s10 : Same H9 H10 := by
      rw [← hEq]
      exact same_new n6
    have l10 : H10 q6 = some (.lst [x, x, x, x, x, x, x, x, x, x, y, x, y]) := by
      rw [← hEq]
      exact upd_same
    clear hEq n6
    have s610 := ((s7.trans s8).trans s9).trans s10
    have X := hx6.sm s610
    have Y := hy6.sm s610
    have gx1 := gx6
    have gy1 := gy.le (Nat.le_refl _) (show 1000 ≤ 1010 by decide)
    have gq : GqAll 20 20000 [dx', dx', dx', dx', dx', dx', dx', dx', dx', dx', dy, dx', dy] := by
      have h1 := gqAll_const (e := 20) (k := 1010) (ds := [dx', dx', dx', dx', dx', dx', dx', dx', dx', dx', dy, dx', dy]) (fun d hd => by
        simp only [List.mem_cons, List.not_mem_nil, or_false] at hd
        rcases hd with h | h | h | h | h | h | h | h | h | h | h | h | h <;> rw [h] <;> first | exact gx1 | exact gy1)
      exact ⟨h1.shw, h1.dep, h1.lv, Nat.le_trans h1.bk (by show (1010 + 1) * 13 ≤ 20000; decide)⟩
    refine ⟨_, rfl, _, rfl, q2, q6, _, [dx', dx', dx', dx', dx', dx', dx', dx', dx', dx', dy, dx', dy], 20, 20000, rfl, s610 _ _ l6, l10, .cons X (.cons X (.cons X (.cons X (.cons X (.cons X (.cons X (.cons X (.cons X (.cons X (.cons Y (.cons X (.cons Y .nil)))))))))))), gq, by decide, by decide, true, rfl, ?_⟩
    refine fun t0 m0 => ⟨t0, TE, .ref c0, .ref c0, false, rfl, .inl upd_same, hXT, (fun u r => r), KK.fam.kitTW (by simp), false, rfl, true, rfl, fun t1 m1 => ⟨t1, TE, .ty "ValueError", .type "ValueError", true, rfl, .inl upd_same, hXT, (fun u r => r), KK.fam.kitTV, ?_⟩⟩
    refine q _ fun b o n e => ?_
    have e6 := s610 _ _ (k6 b o n e)
    exact same_new m1 _ _ (same_new m0 _ _ e6)
end
end K11

/-! text[::-1]; texts joined of signs -/
namespace Rg
open PySem PySem.Spec PyProof.Rows L2
def revS (z : Str) : Str := ⟨((Builtin.Str.strSliceIndices none none (-1) z.length).filterMap (z.cps[·]?)).toArray⟩
def tRevS (te : TE) : TE := fun σ H Q => te σ H fun x H1 => ∃ z : Str, x = .str z ∧ (revS z).length ≤ sizeLine ∧ Q (.str (revS z)) H1
theorem pe_revS {X : Cx} {e : Expr} {te : TE} {k : Nat} {p1 p2 p3 pos : Pos} (he : PE X e te) : PE X (.Subscript e (.Slice none none (some (.UnaryOp .USub (.Constant (.int 1) k p1) p2)) p3) pos) (tRevS te) := by
  refine ⟨fun pins s σ H Q I h => ?_⟩
  refine Subscript_ (thn (he.run pins s σ H _ I h) fun v s1 ⟨x, H1, I1, r1, q1⟩ => ?_)
  obtain ⟨z, ex, hz, q⟩ := q1
  subst ex
  obtain ⟨t, rfl⟩ := r1
  have hst : PO X (some (.UnaryOp .USub (.Constant (.int 1) k p1) p2)) (tPart (tUn (rU fun i => .int (-i)) (tC (.int 1)))) := po_some (pe_un un_neg pe_int)
  refine wpAny_Slice (thn (po_none.run pins s1 σ H1 (fun o H2 => o = none ∧ H2 = H1) I1 ⟨rfl, rfl⟩) fun vl s2 ⟨l, H2, I2, pl, el, e2⟩ => ?_)
  subst el e2
  refine thn (po_none.run pins s2 σ H2 (fun o H3 => o = none ∧ H3 = H2) I2 ⟨rfl, rfl⟩) fun vu s3 ⟨u, H3, I3, pu, eu, e3⟩ => ?_
  subst eu e3
  refine thn (hst.run pins s3 σ H3 (fun o H4 => o = some (-1) ∧ H4 = H3) I3 ⟨1, rfl, -1, rfl, rfl, rfl⟩) fun vs s4 ⟨o, H4, I4, ps, eo, e4⟩ => ?_
  subst eo e4
  have I5 : Inv X pins σ H4 { s4 with heap := s4.heap.push { cls := .type "slice", data := .fields #[vl, vu, vs] } } := I4.kept (t' := s4.toks) fun b ob q => Heap.get?_push_of_some _ q
  obtain ⟨ll, rfl, el⟩ := IsPart.raw pl
  obtain ⟨uu, rfl, eu⟩ := IsPart.raw pu
  obtain ⟨ss, rfl, es⟩ := IsPart.raw ps
  show wpAny (model X.prog X.w) X.A (subscriptTail e (.Slice none none (some (.UnaryOp .USub (.Constant (.int 1) k p1) p2)) p3) (.str z t) (.ref s4.heap.objs.size)) (EP X pins σ Q) X.xe _
  refine tail_any (ops := [.str z t, .ref s4.heap.objs.size]) (typeIs_str _ _ _) (PySem.F.slot_str_getitem.lookup) ?_ (by with_unfolding_all rfl)
  refine wpAny_getItem_str_slice (l := ll) (u := uu) (st := ss) ⟨_, Heap.get?_push_size _ rfl, rfl, rfl⟩ (by rw [es]; rfl) ?_
  unfold sliceMade slicePicked
  rw [el, eu, es]
  show Made.post (if ((-1 : Int) == 1 && (Builtin.Str.strSliceIndices none none (-1) z.length).length == z.length) = true then Made.val (.str z t) else Made.str (revS z)) (EP X pins σ Q) _
  rw [if_neg (fun e => by simp at e)]
  exact ⟨hz, .str _, H4, I5.tok _, ⟨_, rfl⟩, q⟩
theorem join_one (cs : List Nat) : Txt.join "" (cs.map one1) = ⟨cs.toArray⟩ := by
  have h := SX.join_S [] (cs.map fun c => [c])
  have e1 : (cs.map fun c => [c]).map SX.S = cs.map one1 := by
    rw [List.map_map]
    rfl
  have e2 : SX.S [] = "" := by decide +kernel
  rw [e1, e2] at h
  rw [h]
  have e3 : ∀ l : List Nat, TL.joinL [] (l.map fun c => [c]) = l := by
    intro l
    induction l with
    | nil => rfl
    | cons c l ih =>
      cases l with
      | nil => rfl
      | cons d l =>
        show [c] ++ ([] ++ TL.joinL [] ((d :: l).map fun c => [c])) = c :: d :: l
        rw [ih]
        rfl
  rw [e3]
end Rg

/-! things in a drawn order; drawn texts -/
namespace Rg
open PySem PySem.Spec PyProof.Rows L2 Mach
def spMixedV : Sp := fun vs H Q _ => ∃ (g c l : Addr) (xs : List V), vs = [.ref g, .ref l] ∧ Bag H g c ∧ H l = some (.lst xs) ∧ l ≠ g ∧ xs.length ≤ 4000 ∧
  ∀ (H' : Hp) (p : Addr) (ys : List V), Bag H' g c → But g H H' → H p = none → H' p = some (.lst ys) → ys.Perm xs → Q (.ref p) H'
def spDrawn : Sp := fun vs H Q _ => ∃ (g c : Addr) (s : Str) (n : Nat), vs = [.ref g, .str s, nV n] ∧ Bag H g c ∧ 0 < s.cps.size ∧ s.cps.size ≤ 1000 ∧ n ≤ 1000 ∧
  ∀ (H' : Hp) (cs : List Nat), Bag H' g c → But g H H' → cs.length ≤ n → (∀ d ∈ cs, d ∈ s.cps.toList) → Q (.str ⟨cs.toArray⟩) H'
theorem sum_one (cs : List Nat) : ((cs.map one1).map (·.length)).sum = cs.length := by
  induction cs with
  | nil => rfl
  | cons c l ih =>
    rw [List.map_cons, List.map_cons, List.sum_cons, ih, List.length_cons]
    show 1 + l.length = _
    omega
end Rg
namespace K11
open PySem PySem.Spec PyProof.Rows L2 Rg Mach
abbrev sMixed : Stmt := topS 41
abbrev sDrawn : Stmt := topS 37
theorem scMixed : FnScope ["_law_bag_here", "_law_things", "_law_found", "_law_thing_here"] ["_law_bag_here", "_law_things"] (defScope sMixed) := ⟨rfl, rfl, rfl, by decide +kernel, rfl, by decide +kernel, by decide +kernel⟩
def nDrawn : List Str := ["_law_bag_here", "_law_signs", "_law_longest", "_law_k"]
theorem scDrawn : FnScope nDrawn ["_law_bag_here", "_law_signs", "_law_longest"] (defScope sDrawn) := ⟨rfl, rfl, rfl, by decide +kernel, rfl, by decide +kernel, by decide +kernel⟩
section
variable {P : Program} {w : World} {K : PySem.W.Frag} {mg : Str → Option Value} {base : Heap}
theorem ok_mixedV {f fT : Addr} {fd fdT : FuncData} {k : Nat} (F : Fun K "_law_mixed" "_law_mixed" sMixed f fd)
    (FT : Fun K "_law_take" "_law_take" sTake fT fdT) (bT : Binds K fdT ["_law_bag_here", "_law_many"] []) (gT : mg "_law_take" = some (.ref fT)) (mi : mg "int" = none) (ml : mg "len" = none) :
    FnOk P w K mg base CX0 (k + 2) f fd ["_law_bag_here", "_law_things"] spMixedV := by
  have GT : FnOk P w K mg base CX0 (k + 1) fT fdT ["_law_bag_here", "_law_many"] spTake := ok_take FT mi
  refine F.ok scMixed (fun vs H Q E h => ?_) (fun cdv A outer s H vs Q E hr h => ?_)
  · obtain ⟨g, c, l, E', rfl, _⟩ := h
    rfl
  · obtain ⟨g, c, l, xs, rfl, hB, hl, nlg, hlen, q⟩ := h
    refine ⟨_, pss_cons (ps_set (i := 2) scMixed.nd rfl (.inl rfl) (pe_lst pa_nil))
      (pss_cons (ps_for PassesOwn.never rfl (pi_list (pv 1)) (pg_name (i := 3) scMixed.nd rfl (.inl rfl))
        (pss_one (ps_expr (pe_bm PySem.F.plainAttrs_list PySem.F.slot_list_insert PySem.F.type_list_insert mt_insert (pv 2) (pa_cons (pe_call GT hr (by rfl) gT FT.kp bT .nil pass0 (pa_cons (pv 0) (pa_cons (pe_op op_add (pe_callB call_len_seq (by rfl) ml bLen (pa_cons (pv 2) pa_nil)) pe_int) pa_nil))) (pa_cons (pv 3) pa_nil))))))
      (pss_one (ps_ret (pv 2)))), ?_⟩
    refine ⟨Nat.zero_le _, fun p np => ?_⟩
    have npg : p ≠ g := hB.ne np
    refine ⟨_, rfl, l, rfl, ⟨_, SqL.of (by rw [upd_ne (ne_of_none hl np)]; exact hl)⟩, ?_⟩
    refine for_list (K := K) (a := l) (xs := xs) (fun i σ H1 => ∃ (y : Option V) (E1 : List V), σ = [some (.ref g), some (.ref l), some (.ref p), y] ∧ Bag H1 g c ∧ But g H H1 ∧ H1 p = some (.lst E1) ∧ E1.Perm (xs.take i))
      ⟨none, [], rfl, hB.new np, (But.refl g H).new np, by rw [upd_same], by simp⟩ (fun i σ H1 _ ⟨_, _, _, _, b1, _⟩ => SqL.of (b1 _ _ nlg hl)) ?_ ?_
    · rintro i v σ H1 hi ⟨y, E1, rfl, hB1, b1, hp, pm⟩
      have hl1 : E1.length = i := by
        have := pm.length_eq
        rw [List.length_take] at this
        have := (List.getElem?_eq_some_iff.mp hi).1
        omega
      have hi' := (List.getElem?_eq_some_iff.mp hi).1
      refine ⟨_, rfl, .inl ⟨rfl, _, SqL.of hp⟩, _, rfl, _, rfl, p, _, rfl, .inl (SqL.of hp), _, _, rfl, rfl, g, c, _, rfl, hB1, ?_, ?_, fun H2 r hr2 hB2 b2 => ?_⟩
      · omega
      · omega
      have hp2 := b2 _ _ npg hp
      refine ⟨_, rfl, p, _, _, _, rfl, rfl, hp2, szBig (by omega), by omega, by omega, ?_⟩
      refine ⟨_, E1.take r ++ [v] ++ E1.drop r, rfl, ?_, ?_, ?_, ?_⟩
      · exact hB2.upd_other npg (hB.ne2 np)
      · intro b' o n' e'
        rw [upd_ne (fun z => by rw [z, np] at e'; cases e')]
        exact b2 _ _ n' (b1 _ _ n' e')
      · rw [upd_same]
        simp [nV]
      · rw [take_snoc hi]
        have p1 : (E1.take r ++ [v] ++ E1.drop r).Perm (E1.take r ++ E1.drop r ++ [v]) := by
          rw [List.append_assoc, List.append_assoc]
          exact List.Perm.append_left _ List.perm_append_comm
        rw [List.take_append_drop] at p1
        exact p1.trans (pm.append_right [v])
    · rintro σ H1 ⟨y, E1, rfl, hB1, b1, hp, pm⟩
      rw [List.take_length] at pm
      exact ⟨_, rfl, q H1 p E1 hB1 b1 np hp pm⟩
theorem ok_drawn {f fT : Addr} {fd fdT : FuncData} {k : Nat} (F : Fun K "_law_text" "_law_text" sDrawn f fd)
    (FT : Fun K "_law_take" "_law_take" sTake fT fdT) (bT : Binds K fdT ["_law_bag_here", "_law_many"] []) (gT : mg "_law_take" = some (.ref fT)) (mi : mg "int" = none) (ml : mg "len" = none) (mr : mg "range" = none) :
    FnOk P w K mg base CX0 (k + 2) f fd ["_law_bag_here", "_law_signs", "_law_longest"] spDrawn := by
  have GT : FnOk P w K mg base CX0 (k + 1) fT fdT ["_law_bag_here", "_law_many"] spTake := ok_take FT mi
  refine F.ok scDrawn (fun vs H Q E h => ?_) (fun cdv A outer s H vs Q E hr h => ?_)
  · obtain ⟨g, c, s', n, rfl, _⟩ := h
    rfl
  · obtain ⟨g, c, s', n, rfl, hB, hs0, hs1, hn, q⟩ := h
    refine ⟨_, pss_one (ps_ret (pe_join pe_str (pe_lc (own := [("_law_k", 3)]) (g := gName 3) (tt := tYes)
      (te := tOp rIxS (tVar 1) (tCall spTake [] E0 (tCons (tVar 0) (tCons (tCB (fun xs H Q => ∃ z, xs = [V.str z] ∧ z.length ≤ sizeLine ∧ Q (.int z.length) H) (tCons (tVar 1) tNil)) tNil)))) rfl scDrawn.nd
      (pi_range1 (by rfl) mr (pa_cons (pe_call GT hr (by rfl) gT FT.kp bT .nil pass0 (pa_cons (pv 0) (pa_cons (pe_op op_add (pv 2) pe_int) pa_nil))) pa_nil))
      (blkOk_by (own := [("_law_k", 3)]) (N := nDrawn) (sc := defScope sDrawn) (by decide +kernel))
      (fun _ _ _ _ _ => pg_name (i := 3) scDrawn.nd rfl (Or.inl rfl)) (fun _ _ _ _ _ => pts_nil)
      (fun _ _ _ _ _ => pe_ix ix_str (pv 1) (pe_call GT hr (by rfl) gT FT.kp bT .nil pass0 (pa_cons (pv 0) (pa_cons (pe_callB call_len_str (by rfl) ml bLen (pa_cons (pv 1) pa_nil)) pa_nil))) (fun _ _ => rfl))))), ?_⟩
    refine ⟨⟨_, rfl⟩, _, rfl, _, rfl, _, _, rfl, rfl, g, c, _, rfl, hB, by omega, by omega, fun H1 r hr1 hB1 b1 => ?_⟩
    refine ⟨(r : Int), rfl, by omega, by omega, fun D nD => ?_⟩
    refine lc_range (n := ((r : Int)).toNat) (fun i H2 => ∃ cs : List Nat, cs.length = i ∧ (∀ d ∈ cs, d ∈ s'.cps.toList) ∧ H2 D = some (.lst ((cs.map one1).map V.str)) ∧ Bag H2 g c ∧ But g H1 H2) ⟨[], rfl, (fun d hd => (nomatch hd)), by rw [upd_same]; rfl, hB1.new nD, (But.refl g H1).new nD⟩ ?_ ?_
    · rintro i H2 hi ⟨cs, cl, cm, hD, hB2, b2⟩
      refine ⟨rfl, ?_⟩
      refine ⟨_, rfl, _, rfl, _, rfl, s', rfl, szBigLe (by show s'.cps.size ≤ 100000; omega), g, c, _, rfl, hB2, by show (0 : Int) < (s'.cps.size : Nat); omega, by show ((s'.cps.size : Nat) : Int) < _; omega, fun H3 j hj hB3 b3 => ?_⟩
      have hj' : j < s'.cps.size := by
        have : (j : Int) < (s'.cps.size : Nat) := hj
        omega
      have ej : s'.cps.toList[j]? = some s'.cps[j] := by
        rw [Array.getElem?_toList]
        exact Array.getElem?_eq_getElem hj'
      refine ⟨s', _, _, rfl, rfl, szBigLe (by show s'.cps.size ≤ 100000; omega), atI_nat ej, ?_⟩
      have nDg := hB1.ne nD
      have hD3 := b3 _ _ nDg hD
      refine ⟨_, hD3, by rw [List.length_map, List.length_map]; exact szBig (by omega), cs ++ [s'.cps[j]], by rw [List.length_append, cl]; rfl, ?_, ?_, hB3.upd_other nDg (hB1.ne2 nD), ?_⟩
      · intro d hd
        rcases List.mem_append.mp hd with z | z
        · exact cm d z
        · rw [List.mem_singleton] at z
          rw [z]
          exact Array.getElem_mem_toList hj'
      · rw [upd_same, List.map_append, List.map_append]
        rfl
      · intro b' o n' e'
        rw [upd_ne (fun z => by rw [z, nD] at e'; cases e')]
        exact b3 _ _ n' (b2 _ _ n' e')
    · rintro H2 ⟨cs, cl, cm, hD, hB2, b2⟩
      refine ⟨_, _, cs.map one1, rfl, rfl, .inl (SqL.of hD), ?_, ?_⟩
      · rw [sum_one, List.length_map]
        show cs.length + cs.length * 0 ≤ _
        omega
      · rw [Rg.join_one]
        exact q H2 cs hB2 (b1.trans b2) (by omega) cm
end
end K11

/-! values that readers take; dicts of drawn pairs -/
namespace Rg
open PySem PySem.Spec PyProof.Rows L2 Mach
def Gdd (K : PySem.W.Frag) (H : Hp) (v : V) : Prop := ∃ d, Dq K H v d ∧ Tg.few (.dat d) ∧ Tg.flatD (.dat d) ∧ Tg.nodD (.dat d)
def Gw (K : PySem.W.Frag) (H : Hp) (v : V) : Prop := ∃ d, Dq K H v d ∧ d.bulk ≤ 1000 ∧ tyN d ≠ "dict"
section
variable {K : PySem.W.Frag} {H H' : Hp} {v : V}
theorem Gdd.sm (s : Same H H') (h : Gdd K H v) : Gdd K H' v := by
  obtain ⟨d, h1, h2⟩ := h
  exact ⟨d, h1.sm s, h2⟩
theorem Gw.sm (s : Same H H') (h : Gw K H v) : Gw K H' v := by
  obtain ⟨d, h1, h2⟩ := h
  exact ⟨d, h1.sm s, h2⟩
theorem Gdd.str {z : Str} (h : z.cps.size ≤ 100000) : Gdd K H (.str z) := ⟨_, .str z, by show PyData.bulk _ ≤ _; simpa only [PyData.bulk] using h, trivial, trivial⟩
theorem Gdd.int (i : Int) : Gdd K H (.int i) := ⟨_, .int i, by show PyData.bulk _ ≤ _; simp only [PyData.bulk]; omega, trivial, trivial⟩
theorem Gw.str {z : Str} (h : z.cps.size ≤ 1000) : Gw K H (.str z) := ⟨_, .str z, by simpa only [PyData.bulk] using h, by show ("str" : String) ≠ "dict"; decide⟩
theorem Gw.int (i : Int) : Gw K H (.int i) := ⟨_, .int i, by simp only [PyData.bulk]; omega, by show ("int" : String) ≠ "dict"; decide⟩
theorem Gw.non : Gw K H .non := ⟨_, .non, by simp only [PyData.bulk]; omega, by decide +kernel⟩
theorem Gw.one {a : Addr} {z : Str} (h : H a = some (.lst [.str z])) (hz : z.cps.size ≤ 900) : Gw K H (.ref a) := ⟨_, .lst h (.cons (.str z) .nil), by simp only [PyData.bulk, PyData.bulkAll]; omega, by show ("list" : String) ≠ "dict"; decide⟩
theorem putK_mem {l : List (Key × V)} {k : Key} {u : V} {kv : Key × V} (h : kv ∈ putK l k u) : kv ∈ l ∨ kv = (k, u) := by
  unfold putK at h
  split at h
  · obtain ⟨x, hx, e⟩ := List.mem_map.mp h
    split at e
    · rename_i c
      rw [c] at e
      exact .inr e.symm
    · rw [← e]
      exact .inl hx
  · rcases List.mem_append.mp h with z | z
    · exact .inl z
    · exact .inr (List.mem_singleton.mp z)
theorem putK_keys {l : List (Key × V)} {k : Key} {u : V} (h : (l.map Prod.fst).Nodup) : ((putK l k u).map Prod.fst).Nodup := by
  unfold putK
  split
  · rw [List.map_map]
    have e : (Prod.fst ∘ fun kv : Key × V => if kv.1 = k then (kv.1, u) else kv) = Prod.fst := by
      funext x
      show (if x.1 = k then (x.1, u) else x).1 = x.1
      split <;> rfl
    rw [e]
    exact h
  · rename_i c
    rw [List.map_append, List.nodup_append]
    refine ⟨h, by simp, fun a ha b hb e => c ?_⟩
    rw [List.map_cons, List.map_nil, List.mem_singleton] at hb
    obtain ⟨x, hx, ex⟩ := List.mem_map.mp ha
    exact List.any_eq_true.mpr ⟨x, hx, decide_eq_true (by rw [ex, e, hb])⟩
theorem mergeK_mem : ∀ (more l : List (Key × V)) (kv : Key × V), kv ∈ mergeK l more → kv ∈ l ∨ kv ∈ more
  | [], l, kv, h => .inl h
  | p :: r, l, kv, h => by
    rcases mergeK_mem r (putK l p.1 p.2) kv h with z | z
    · rcases putK_mem z with z | z
      · exact .inl z
      · exact .inr (by rw [z]; exact List.mem_cons_self)
    · exact .inr (List.mem_cons_of_mem _ z)
theorem mergeK_keys : ∀ (more l : List (Key × V)), (l.map Prod.fst).Nodup → ((mergeK l more).map Prod.fst).Nodup
  | [], l, h => h
  | p :: r, l, h => mergeK_keys r _ (putK_keys h)
theorem nodup_mapI {α β : Type} {f : α → β} (hf : ∀ a b, f a = f b → a = b) {l : List α} (h : l.Nodup) : (l.map f).Nodup := by
  induction l with
  | nil => exact .nil
  | cons a l ih =>
    rw [List.nodup_cons] at h
    rw [List.map_cons, List.nodup_cons]
    refine ⟨fun m => ?_, ih h.2⟩
    obtain ⟨b, hb, e⟩ := List.mem_map.mp m
    exact h.1 (hf _ _ e ▸ hb)
theorem dqkv_ex : ∀ l : List (Key × V), (∀ kv ∈ l, (kyD kv.1).bulk ≤ 1000 ∧ Gw K H kv.2) → ∃ ps : List (Key × PyData), DqKv K H l ps ∧ (∀ p ∈ ps, tyN p.2 ≠ "dict") ∧ PyData.bulkKv (ps.map fun p => (kyD p.1, p.2)) ≤ l.length * 2002
  | [], _ => ⟨[], .nil, fun _ h => (nomatch h), by simp [PyData.bulkKv]⟩
  | (k, u) :: l, h => by
    obtain ⟨ps, h1, h2, h3⟩ := dqkv_ex l fun kv m => h kv (List.mem_cons_of_mem _ m)
    obtain ⟨b, d, hd, bd, nd⟩ := h (k, u) List.mem_cons_self
    refine ⟨(k, d) :: ps, .cons hd h1, fun p hp => ?_, ?_⟩
    · rcases List.mem_cons.mp hp with z | z
      · rw [z]
        exact nd
      · exact h2 p z
    · have b' : (kyD k).bulk ≤ 1000 := b
      rw [List.map_cons, List.length_cons]
      simp only [PyData.bulkKv]
      omega
theorem Gdd.dict {a : Addr} {l : List (Key × V)} (h : H a = some (.dK l)) (nd : (l.map Prod.fst).Nodup) (hl : l.length ≤ 20) (hg : ∀ kv ∈ l, (kyD kv.1).bulk ≤ 1000 ∧ Gw K H kv.2) : Gdd K H (.ref a) := by
  obtain ⟨ps, h1, h2, h3⟩ := dqkv_ex l hg
  refine ⟨_, .dct h h1, ?_, ?_, ?_⟩
  · show PyData.bulk _ ≤ _
    simp only [PyData.bulk]
    omega
  · show ∀ p ∈ ps.map fun p => (kyD p.1, p.2), tyN p.2 ≠ "dict"
    intro p hp
    obtain ⟨x, hx, rfl⟩ := List.mem_map.mp hp
    exact h2 x hx
  · show ((ps.map fun p => (kyD p.1, p.2)).map Prod.fst).Nodup
    rw [List.map_map]
    have e : (Prod.fst ∘ fun p : Key × PyData => (kyD p.1, p.2)) = kyD ∘ Prod.fst := rfl
    rw [e, ← List.map_map, ← h1.keys]
    exact nodup_mapI (fun _ _ h => kyD_inj h) nd
end
theorem pair_ex {α β : Type} {R : α → β → Prop} : ∀ l : List α, (∀ x ∈ l, ∃ y, R x y) → ∃ m : List β, Paired R l m ∧ m.length = l.length ∧ ∀ y ∈ m, ∃ x ∈ l, R x y
  | [], _ => ⟨[], .nil, rfl, fun _ h => (nomatch h)⟩
  | x :: l, h => by
    obtain ⟨m, h1, h2, h3⟩ := pair_ex l fun y hy => h y (List.mem_cons_of_mem _ hy)
    obtain ⟨y, hy⟩ := h x List.mem_cons_self
    refine ⟨y :: m, .cons hy h1, by rw [List.length_cons, List.length_cons, h2], fun z hz => ?_⟩
    rcases List.mem_cons.mp hz with e | e
    · rw [e]
      exact ⟨x, List.mem_cons_self, hy⟩
    · obtain ⟨w, hw, q⟩ := h3 z e
      exact ⟨w, List.mem_cons_of_mem _ hw, q⟩
theorem perm_refs {ys : List V} {ps : List Addr} (h : ys.Perm (ps.map V.ref)) : ∃ qs : List Addr, ys = qs.map V.ref ∧ qs.length = ps.length ∧ ∀ q ∈ qs, q ∈ ps := by
  have h1 : ∀ y ∈ ys, ∃ p, p ∈ ps ∧ y = V.ref p := fun y hy => by
    obtain ⟨p, hp, e⟩ := List.mem_map.mp (h.mem_iff.mp hy)
    exact ⟨p, hp, e.symm⟩
  obtain ⟨qs, h2, h3, h4⟩ := pair_ex (R := fun y p => p ∈ ps ∧ y = V.ref p) ys h1
  refine ⟨qs, ?_, by rw [h3, h.length_eq, List.length_map], fun q hq => ?_⟩
  · clear h h1 h3 h4
    induction h2 with
    | nil => rfl
    | cons a _ ih => rw [List.map_cons, a.2, ← ih]
  · obtain ⟨x, _, hx, _⟩ := h4 q hq
    exact hx
end Rg
namespace K11
open PySem PySem.Spec PyProof.Rows L2 Rg Mach
theorem odd_ok : ∀ d ∈ oddMenu, Tg.few (.dat d) ∧ Tg.flatD (.dat d) ∧ Tg.nodD (.dat d) := by
  have z : ∀ d, d ∈ oddMenu → Tg.few (.dat d) := by
    intro d hd
    show PyData.bulk d ≤ 100000
    have h : oddMenu.all (fun d => decide (d.bulk ≤ 100000)) = true := by decide +kernel
    exact of_decide_eq_true (List.all_eq_true.mp h d hd)
  intro d hd
  refine ⟨z d hd, ?_⟩
  unfold oddMenu oddA deepD deepD zeroD at hd
  simp only [List.mem_append, List.mem_cons, List.not_mem_nil, or_false] at hd
  rcases hd with (rfl | rfl | rfl | rfl | rfl | rfl | rfl | rfl | rfl | rfl | rfl | rfl | rfl | rfl | rfl | rfl) | rfl | rfl
  all_goals first | exact ⟨trivial, trivial⟩ | skip
  · exact ⟨fun p hp => (nomatch hp), .nil⟩
  · refine ⟨fun p hp => ?_, ?_⟩
    · have : p = (kyD (.inl 0), .int 0) := List.mem_singleton.mp hp
      rw [this]
      decide +kernel
    · show ([_] : List PyData).Nodup
      simp
theorem odd_gd {K : PySem.W.Frag} {H : Hp} {v : V} {d : PyData} (h : Ap K H v d) (m : d ∈ oddMenu) : Gdd K H v := ⟨d, h.dq, odd_ok d m⟩
end K11

/-! things of any kind -/
namespace Rg
open PySem PySem.Spec PyProof.Rows L2 Mach
def signTexts : List Str := ["ab", "abc", "a", "mxyz"]
theorem signTexts_ok : ∀ s ∈ signTexts, 0 < s.cps.size ∧ s.cps.size ≤ 4 ∧ (revS s).cps.size ≤ 4 := by
  intro s hs
  have h : signTexts.all (fun s => decide (0 < s.cps.size) && decide (s.cps.size ≤ 4) && decide ((revS s).cps.size ≤ 4)) = true := by decide +kernel
  have h1 := List.all_eq_true.mp h s hs
  rw [Bool.and_eq_true, Bool.and_eq_true, decide_eq_true_iff, decide_eq_true_iff, decide_eq_true_iff] at h1
  exact ⟨h1.1.1, h1.1.2, h1.2⟩
def spThing (K : PySem.W.Frag) : Sp := fun vs H Q _ => ∃ (g c : Addr) (s : Str), vs = [.ref g, .str s] ∧ Bag H g c ∧ s ∈ signTexts ∧
  ∀ (H' : Hp) (v : V), Bag H' g c → But g H H' → Gdd K (newp H H') v → Q v H'
def wLetters : Str := "abcdefghijklmnopqrstuvwxyzA_1 "
theorem wLetters_len : wLetters.cps.size = 30 := by decide +kernel
/-- a tuple of a key and a plain value -/
def PairAt (K : PySem.W.Frag) (H : Hp) (p : Addr) (kv : Key × V) : Prop := H p = some (.tup [kV kv.1, kv.2]) ∧ (kyD kv.1).bulk ≤ 1000 ∧ Gw K H kv.2
theorem PairAt.sm {K : PySem.W.Frag} {H H' : Hp} {p : Addr} {kv : Key × V} (s : Same H H') (h : PairAt K H p kv) : PairAt K H' p kv := ⟨s _ _ h.1, h.2.1, h.2.2.sm s⟩
theorem key_bulk {z : Str} (h : z.cps.size ≤ 1000) : (kyD (.inr z)).bulk ≤ 1000 := by
  show PyData.bulk (.str z) ≤ _
  simpa only [PyData.bulk] using h
end Rg
namespace K11
open PySem PySem.Spec PyProof.Rows L2 Rg Mach
abbrev sThing : Stmt := topS 46
def nThing : List Str := ["_law_bag_here", "_law_signs", "_law_letters", "_law_word", "_law_text_here", "_law_key", "_law_table", "_law_odd_here", "_law_some", "_law_k", "_law_sign"]
theorem scThing : FnScope nThing ["_law_bag_here", "_law_signs"] (defScope sThing) := ⟨rfl, rfl, rfl, by decide +kernel, rfl, by decide +kernel, by decide +kernel⟩
section
variable {P : Program} {w : World} {K : PySem.W.Frag} {mg : Str → Option Value} {base : Heap}
theorem ok_thing {f fT fX fM fO : Addr} {fd fdT fdX fdM fdO : FuncData} {k : Nat} (F : Fun K "_law_thing" "_law_thing" sThing f fd)
    (FT : Fun K "_law_take" "_law_take" sTake fT fdT) (bT : Binds K fdT ["_law_bag_here", "_law_many"] []) (gT : mg "_law_take" = some (.ref fT))
    (FX : Fun K "_law_text" "_law_text" sDrawn fX fdX) (bX : Binds K fdX ["_law_bag_here", "_law_signs", "_law_longest"] []) (gX : mg "_law_text" = some (.ref fX))
    (FM : Fun K "_law_mixed" "_law_mixed" sMixed fM fdM) (bM : Binds K fdM ["_law_bag_here", "_law_things"] []) (gM : mg "_law_mixed" = some (.ref fM))
    (FO : Fun K "_law_odd" "_law_odd" sOdd fO fdO) (bO : Binds K fdO ["_law_bag_here"] []) (gO : mg "_law_odd" = some (.ref fO))
    (mi : mg "int" = none) (ml : mg "len" = none) (mr : mg "range" = none) (md : mg "dict" = none) (mso : mg "sorted" = none) (mse : mg "set" = none) :
    FnOk P w K mg base CX0 (k + 3) f fd ["_law_bag_here", "_law_signs"] (spThing K) := by
  have GT : FnOk P w K mg base CX0 (k + 2) fT fdT ["_law_bag_here", "_law_many"] spTake := ok_take FT mi
  have GX : FnOk P w K mg base CX0 (k + 2) fX fdX ["_law_bag_here", "_law_signs", "_law_longest"] spDrawn := ok_drawn FX FT bT gT mi ml mr
  have GM : FnOk P w K mg base CX0 (k + 2) fM fdM ["_law_bag_here", "_law_things"] spMixedV := ok_mixedV FM FT bT gT mi ml
  have GO : FnOk P w K mg base CX0 (k + 2) fO fdO ["_law_bag_here"] (spOddQ K) := ok_oddQ FO FT bT gT mi mr
  refine F.ok scThing (fun vs H Q E h => ?_) (fun cdv A outer s H vs Q E hr h => ?_)
  · obtain ⟨g, c, s', rfl, _⟩ := h
    rfl
  · obtain ⟨g, c, z, rfl, hB, hs, q⟩ := h
    obtain ⟨hz0, hz4, hzr⟩ := signTexts_ok z hs
    refine ⟨_, pss_cons (ps_set (i := 2) scThing.nd rfl (.inr rfl) pe_str)
      (pss_cons (ps_set (i := 3) scThing.nd rfl (.inl rfl) (pe_join pe_str (pe_lc (own := [("_law_k", 9)]) (g := gName 9) (tt := tYes)
        (te := tOp rIxS (tVar 2) (tCall spTake [] E0 (tCons (tVar 0) (tCons (tOp (rIxL K) (tLst (tCons (tC (.int 26)) (tCons (tC (.int 26)) (tCons (tC (.int 30)) tNil)))) (tCall spTake [] E0 (tCons (tVar 0) (tCons (tC (.int 3)) tNil)))) tNil)))) rfl scThing.nd
        (pi_range1 (by rfl) mr (pa_cons (pe_call GT hr (by rfl) gT FT.kp bT .nil pass0 (pa_cons (pv 0) (pa_cons pe_int pa_nil))) pa_nil))
        (blkOk_by (own := [("_law_k", 9)]) (N := nThing) (sc := defScope sThing) (by decide +kernel))
        (fun _ _ _ _ _ => pg_name (i := 9) scThing.nd rfl (Or.inl rfl)) (fun _ _ _ _ _ => pts_nil)
        (fun _ _ _ _ _ => pe_ix ix_str (pv 2) (pe_call GT hr (by rfl) gT FT.kp bT .nil pass0 (pa_cons (pv 0) (pa_cons (pe_ix ix_list (pe_lst (pa_cons pe_int (pa_cons pe_int (pa_cons pe_int pa_nil)))) (pe_call GT hr (by rfl) gT FT.kp bT .nil pass0 (pa_cons (pv 0) (pa_cons pe_int pa_nil))) (fun _ _ => rfl)) pa_nil))) (fun _ _ => rfl)))))
      (pss_cons (ps_asg (pe_tup (pa_cons (pe_call GX hr (by rfl) gX FX.kp bX .nil pass0 (pa_cons (pv 0) (pa_cons (pv 1) (pa_cons pe_int pa_nil))))
        (pa_cons (pe_ix ix_str (pe_op op_add_str (pv 1) pe_str) (pe_call GT hr (by rfl) gT FT.kp bT .nil pass0 (pa_cons (pv 0) (pa_cons (pe_op op_add (pe_callB call_len_str (by rfl) ml bLen (pa_cons (pv 1) pa_nil)) pe_int) pa_nil))) (fun _ _ => rfl)) pa_nil))) (pg_tup rfl (pgs_cons (pg_name (i := 4) scThing.nd rfl (.inr rfl)) (pgs_cons (pg_name (i := 5) scThing.nd rfl (.inl rfl)) pgs_nil))))
      (pss_cons (ps_par (i := 6) (j := 7) rfl scThing.nd rfl rfl (by decide) rfl rfl (pa_cons (pe_lc (own := [("_law_sign", 10)]) (g := gName 10) (tt := tYes) (te := tTup (tCons (tVar 10) (tCons (tVar 4) tNil))) rfl scThing.nd
        (pi_str (pe_slice sl_str (pv 1) po_none (po_some (pe_call GT hr (by rfl) gT FT.kp bT .nil pass0 (pa_cons (pv 0) (pa_cons pe_int pa_nil))))))
        (blkOk_by (own := [("_law_sign", 10)]) (N := nThing) (sc := defScope sThing) (by decide +kernel))
        (fun _ _ _ _ _ => pg_name (i := 10) scThing.nd rfl (Or.inl rfl)) (fun _ _ _ _ _ => pts_nil)
        (fun _ _ _ _ _ => pe_tup (pa_cons (pv 10) (pa_cons (pv 4) pa_nil))))
        (pa_cons (pe_lst (pa_cons (pv 4) (pa_cons (pe_op op_add_str (pv 4) pe_str) (pa_cons pe_non (pa_cons pe_int (pa_cons (pe_lst (pa_cons (pv 4) pa_nil)) pa_nil)))))) pa_nil)) (by rfl))
      (pss_cons (ps_set (i := 6) scThing.nd rfl (.inl rfl) (pe_callTy (call_dictP rfl) (by rfl) md bDict (pa_cons (pe_call GM hr (by rfl) gM FM.kp bM .nil pass0 (pa_cons (pv 0) (pa_cons
        (pe_op op_cat (pv 6) (pe_lst (pa_cons (pe_tup (pa_cons (pv 5) (pa_cons (pe_ix ix_list (pv 7) (pe_call GT hr (by rfl) gT FT.kp bT .nil pass0 (pa_cons (pv 0) (pa_cons pe_int pa_nil))) (fun _ _ => rfl)) pa_nil))) pa_nil))) pa_nil))) pa_nil)))
      (pss_cons (ps_set (i := 8) scThing.nd rfl (.inl rfl) (pe_lst (pa_cons (pv 3) (pa_cons (pv 4) (pa_cons (pe_join pe_str (pe_sortSet (by rfl) mso (by rfl) mse (pv 3))) (pa_cons (pe_slice sl_str (pv 3) po_none (po_some pe_int)) (pa_cons (pv 6) (pa_cons pe_dnewK
        (pa_cons (pe_disp (pps_cons (pv 4) (pv 4) pps_nil) (by rfl) (by rfl) (fun z => by cases z) (by decide)) (pa_cons (pe_disp (pps_cons pe_int (pv 4) pps_nil) (by rfl) (by rfl) (fun z => by cases z) (by decide))
        (pa_cons (pe_call GO hr (by rfl) gO FO.kp bO .nil pass0 (pa_cons (pv 0) pa_nil)) pa_nil)))))))))))
      (pss_one (ps_ret (pe_ix ix_list (pe_op op_cat (pv 8) (pe_lst (pa_cons (pe_call GT hr (by rfl) gT FT.kp bT .nil pass0 (pa_cons (pv 0) (pa_cons pe_int pa_nil))) (pa_cons (pe_un un_neg pe_int) (pa_cons (pv 1) (pa_cons (pe_revS (pv 1)) pa_nil))))))
        (pe_call GT hr (by rfl) gT FT.kp bT .nil pass0 (pa_cons (pv 0) (pa_cons pe_int pa_nil))) (fun _ _ => rfl))))))))), ?_⟩
    -- the word
    refine ⟨⟨_, rfl⟩, _, rfl, g, c, 10, rfl, hB, by decide, by decide, fun H1 r hr1 hB1 b1 => ?_⟩
    refine ⟨(r : Int), rfl, by omega, by omega, fun D nD => ?_⟩
    refine lc_range (n := ((r : Int)).toNat) (fun i H2 => ∃ cs : List Nat, cs.length = i ∧ H2 D = some (.lst ((cs.map one1).map V.str)) ∧ Bag H2 g c ∧ But g H1 H2) ⟨[], rfl, by rw [upd_same]; rfl, hB1.new nD, (But.refl g H1).new nD⟩ ?_ ?_
    · rintro i H2 hi ⟨cs, cl, hD, hB2, b2⟩
      refine ⟨rfl, _, rfl, _, rfl, by show 3 ≤ sizeLine; decide, fun p np => ?_⟩
      have hp2 : (upd H2 p (.lst [.int 26, .int 26, .int 30])) p = some (.lst [.int 26, .int 26, .int 30]) := upd_same
      have s2 : Same H2 (upd H2 p (.lst [.int 26, .int 26, .int 30])) := same_new np
      generalize (upd H2 p (.lst [.int 26, .int 26, .int 30])) = H3 at hp2 s2
      have hB3 := hB2.same s2
      refine ⟨_, rfl, g, c, 3, rfl, hB3, by decide, by decide, fun H4 j hj hB4 b4 => ?_⟩
      have hp4 := b4 _ _ (hB2.ne np) hp2
      have hm : ∃ m : Int, ([.int 26, .int 26, .int 30] : List V)[j]? = some (.int m) ∧ 0 < m ∧ m ≤ 30 := by
        match j, hj with
        | 0, _ => exact ⟨26, rfl, by decide, by decide⟩
        | 1, _ => exact ⟨26, rfl, by decide, by decide⟩
        | 2, _ => exact ⟨30, rfl, by decide, by decide⟩
      obtain ⟨m, em, m0, m30⟩ := hm
      refine ⟨p, _, _, _, rfl, rfl, SqL.of hp4, atI_nat em, g, c, m, rfl, hB4, m0, by omega, fun H5 l hl hB5 b5 => ?_⟩
      have hl' : l < wLetters.cps.size := by
        rw [wLetters_len]
        omega
      have ej : wLetters.cps.toList[l]? = some wLetters.cps[l] := by
        rw [Array.getElem?_toList]
        exact Array.getElem?_eq_getElem hl'
      refine ⟨wLetters, _, _, rfl, rfl, szBigLe (by show wLetters.cps.size ≤ 100000; rw [wLetters_len]; decide), atI_nat ej, ?_⟩
      have nDg := hB1.ne nD
      have hD5 := b5 _ _ nDg (b4 _ _ nDg (s2 _ _ hD))
      refine ⟨_, hD5, by rw [List.length_map, List.length_map]; exact szBig (by omega), cs ++ [wLetters.cps[l]], by rw [List.length_append, cl]; rfl, ?_, hB5.upd_other nDg (hB1.ne2 nD), ?_⟩
      · rw [upd_same, List.map_append, List.map_append]
        rfl
      · intro b' o n' e'
        rw [upd_ne (fun z => by rw [z, nD] at e'; cases e')]
        exact b5 _ _ n' (b4 _ _ n' (s2 _ _ (b2 _ _ n' e')))
    rintro H2 ⟨cs, cl, hD, hB2, b2⟩
    refine ⟨_, _, cs.map one1, rfl, rfl, .inl (SqL.of hD), ?_, ?_⟩
    · rw [sum_one, List.length_map]
      show cs.length + cs.length * 0 ≤ _
      omega
    rw [Rg.join_one]
    have hW : (⟨cs.toArray⟩ : Str).cps.size ≤ 9 := by
      show cs.toArray.size ≤ 9
      rw [List.size_toArray]
      omega
    generalize (⟨cs.toArray⟩ : Str) = W at hW
    have B2 := b1.trans b2
    clear hD nD b1 b2 hB1 hr1 cl
    -- a text and a key
    refine ⟨_, rfl, _, rfl, g, c, z, 5, rfl, hB2, hz0, by omega, by omega, fun H3 ds hB3 b3 dl dm => ?_⟩
    refine ⟨_, rfl, z, "q", rfl, rfl, ?_, _, rfl, _, rfl, z, rfl, szBigLe (by show z.cps.size ≤ 100000; omega), _, _, rfl, rfl, g, c, _, rfl, hB3, ?_, ?_, fun H4 j hj hB4 b4 => ?_⟩
    · rw [show (("q" : Str).length) = 1 from by decide +kernel]
      exact szBigLe (by show z.cps.size + 1 ≤ 100000; omega)
    · show (0 : Int) < ((z.cps.size : Nat) : Int) + 1
      omega
    · show ((z.cps.size : Nat) : Int) + 1 < _
      omega
    have hzq : (z ++ "q").cps.size = z.cps.size + 1 := by
      have h1 := PySem.Str.length_append z "q"
      rw [show (("q" : Str).length) = 1 from by decide +kernel] at h1
      exact h1
    have hj' : j < (z ++ "q").cps.size := by
      have : (j : Int) < ((z.cps.size : Nat) : Int) + 1 := hj
      omega
    have ej : (z ++ "q").cps.toList[j]? = some (z ++ "q").cps[j] := by
      rw [Array.getElem?_toList]
      exact Array.getElem?_eq_getElem hj'
    generalize (z ++ "q").cps[j] = kc at ej
    refine ⟨z ++ "q", _, kc, rfl, rfl, szBigLe (by show (z ++ "q").cps.size ≤ 100000; omega), atI_nat ej, ?_⟩
    refine ⟨by show 2 ≤ sizeLine; decide, fun tq ntq => ?_⟩
    refine ⟨tq, _, rfl, SqT.of upd_same, rfl, _, _, rfl, _, _, rfl, rfl, ?_⟩
    have hT : (⟨ds.toArray⟩ : Str).cps.size ≤ 5 := by
      show ds.toArray.size ≤ 5
      rw [List.size_toArray]
      exact dl
    generalize (⟨ds.toArray⟩ : Str) = T at hT
    have s5 : Same H4 (upd H4 tq (.tup [.str T, .str ⟨#[kc]⟩])) := same_new ntq
    generalize (upd H4 tq (.tup [.str T, .str ⟨#[kc]⟩])) = H5 at s5
    have hB5 := hB4.same s5
    have B5 := ((B2.trans b3).trans b4).trans (.of_same s5)
    clear B2 b3 b4 s5 hB2 hB3 hB4 hj hj' ej hzq dl dm ntq
    -- pairs
    refine ⟨_, rfl, _, rfl, g, c, 4, rfl, hB5, by decide, by decide, fun H6 r6 hr6 hB6 b6 => ?_⟩
    have hx : (cutS z none (some (r6 : Int))).cps.size ≤ 4 := Nat.le_trans (cutS_length z none (some (r6 : Int))) hz4
    refine ⟨(r6 : Int), rfl, z, rfl, szBigLe (by show z.cps.size ≤ 100000; omega), cutS z none (some (r6 : Int)), rfl, fun D nD => ?_⟩
    generalize (cutS z none (some (r6 : Int))) = x at hx
    have B6 := B5.trans b6
    obtain ⟨o6, hg6⟩ := hB6.at
    have gD : H D = none := B6.free hg6 nD
    refine lc_str (x := x) (fun i H7 => Same H6 H7 ∧ ∃ ps : List Addr, ps.length = i ∧ H7 D = some (.lst (ps.map V.ref)) ∧ ∀ p ∈ ps, H p = none ∧ ∃ ch, H7 p = some (.tup [.str (one1 ch), .str T])) ⟨same_new nD, [], rfl, upd_same, fun p hp => (nomatch hp)⟩ ?_ ?_
    · rintro i ch H7 hi ⟨s7, ps, pl, hD, hp⟩
      have hi' : i < x.cps.size := (Array.getElem?_eq_some_iff.mp hi).1
      refine ⟨rfl, _, rfl, _, rfl, by show 2 ≤ sizeLine; decide, fun p np => ?_⟩
      have s8 : Same H7 (upd H7 p (.tup [.str ⟨#[ch]⟩, .str T])) := same_new np
      have hp8 : (upd H7 p (.tup [.str ⟨#[ch]⟩, .str T])) p = some (.tup [.str (one1 ch), .str T]) := upd_same
      have gp : H p = none := B6.free hg6 (s7.free np)
      generalize (upd H7 p (.tup [.str ⟨#[ch]⟩, .str T])) = H8 at s8 hp8
      have hD8 := s8 _ _ hD
      refine ⟨_, hD8, by rw [List.length_map]; exact szBig (by omega), ?_, ps ++ [p], by rw [List.length_append, pl]; rfl, ?_, ?_⟩
      · intro b o e
        rw [upd_ne (ne_of_none e nD)]
        exact s8 _ _ (s7 _ _ e)
      · rw [upd_same, List.map_append]
        rfl
      · intro p' hp'
        rcases List.mem_append.mp hp' with m | m
        · obtain ⟨g1, ch', e⟩ := hp p' m
          have e8 := s8 _ _ e
          exact ⟨g1, ch', by rw [upd_ne (ne_of e8 hD8 (fun y => by cases y))]; exact e8⟩
        · rw [List.mem_singleton] at m
          rw [m]
          exact ⟨gp, ch, by rw [upd_ne (ne_of hp8 hD8 (fun y => by cases y))]; exact hp8⟩
    rintro H7 ⟨s7, ps, pl, hD7, hp7⟩
    refine ⟨_, rfl, _, rfl, T, "q", rfl, rfl, ?_, _, rfl, by show 1 ≤ sizeLine; decide, fun l1 nl1 => ?_⟩
    · rw [show (("q" : Str).length) = 1 from by decide +kernel]
      exact szBigLe (by show T.cps.size + 1 ≤ 100000; omega)
    have hTq : (T ++ "q").cps.size ≤ 6 := by
      have h1 := PySem.Str.length_append T "q"
      rw [show (("q" : Str).length) = 1 from by decide +kernel] at h1
      have h2 : (T ++ "q").cps.size = T.cps.size + 1 := h1
      omega
    have B7 := B6.trans (.of_same s7)
    have hB7 := hB6.same s7
    obtain ⟨o7, hg7⟩ := hB7.at
    have gl1 : H l1 = none := B7.free hg7 nl1
    have hl1 : (upd H7 l1 (.lst [.str T])) l1 = some (.lst [.str T]) := upd_same
    have s8 : Same H7 (upd H7 l1 (.lst [.str T])) := same_new nl1
    generalize (upd H7 l1 (.lst [.str T])) = H8 at hl1 s8
    refine ⟨by show 5 ≤ sizeLine; decide, fun lo nlo => ⟨_, _, rfl, ?_⟩⟩
    have hlo : (upd H8 lo (.lst [.str T, .str (T ++ "q"), .non, .int 0, .ref l1])) lo = some (.lst [.str T, .str (T ++ "q"), .non, .int 0, .ref l1]) := upd_same
    have s9 : Same H8 (upd H8 lo (.lst [.str T, .str (T ++ "q"), .non, .int 0, .ref l1])) := same_new nlo
    have gl9 : ∀ v ∈ ([.str T, .str (T ++ "q"), .non, .int 0, .ref l1] : List V), Gw K (newp H (upd H8 lo (.lst [.str T, .str (T ++ "q"), .non, .int 0, .ref l1]))) v := by
      intro v hv
      simp only [List.mem_cons, List.not_mem_nil, or_false] at hv
      rcases hv with rfl | rfl | rfl | rfl | rfl
      · exact Gw.str (by omega)
      · exact Gw.str (by omega)
      · exact Gw.non
      · exact Gw.int _
      · exact Gw.one (nw_at (s9 _ _ hl1) gl1) (by omega)
    show ∃ v, _
    generalize (upd H8 lo (.lst [.str T, .str (T ++ "q"), .non, .int 0, .ref l1])) = H9 at hlo s9 gl9
    have s79 := s8.trans s9
    have B9 := B7.trans (.of_same s79)
    have hB9 := hB7.same s79
    have hD9 := s79 _ _ hD7
    have hp9 : ∀ p ∈ ps, ∃ kv, PairAt K (newp H H9) p kv := by
      intro p hp
      obtain ⟨g1, ch, e⟩ := hp7 p hp
      exact ⟨(.inr (one1 ch), .str T), nw_at (s79 _ _ e) g1, key_bulk (by show 1 ≤ 1000; decide), Gw.str (by omega)⟩
    obtain ⟨o9, hg9⟩ := hB9.at
    have nDg : D ≠ g := fun e => by rw [e] at gD; obtain ⟨o, ho⟩ := hB.at; rw [ho] at gD; cases gD
    have glo : H lo = none := B7.free hg7 (s8.free nlo)
    have nlog : lo ≠ g := fun e => by rw [e] at glo; obtain ⟨o, ho⟩ := hB.at; rw [ho] at glo; cases glo
    clear s8 s9 s79 hD7 hp7 hl1 nl1 nlo gl1 hB6 hB7 B6 B7 hg7 hg6 s7 b6 hB5 B5 nD
    -- the dict
    refine ⟨_, rfl, _, rfl, _, rfl, _, rfl, _, rfl, g, c, 5, rfl, hB9, by decide, by decide, fun H10 j hj hB10 b10 => ?_⟩
    have hlo10 := b10 _ _ nlog hlo
    have hj5 : j < ([.str T, .str (T ++ "q"), .non, .int 0, .ref l1] : List V).length := by
      show j < 5
      omega
    have ej : ([.str T, .str (T ++ "q"), .non, .int 0, .ref l1] : List V)[j]? = some ([.str T, .str (T ++ "q"), .non, .int 0, .ref l1] : List V)[j] := List.getElem?_eq_getElem hj5
    have gv := gl9 _ (List.getElem_mem hj5)
    generalize ([.str T, .str (T ++ "q"), .non, .int 0, .ref l1] : List V)[j] = v0 at ej gv
    refine ⟨lo, _, _, _, rfl, rfl, SqL.of hlo10, atI_nat ej, by show 2 ≤ sizeLine; decide, fun p np => ?_⟩
    have B10 := B9.trans b10
    obtain ⟨o10, hg10⟩ := hB10.at
    have gp : H p = none := B10.free hg10 np
    have s11 : Same H10 (upd H10 p (.tup [.str ⟨#[kc]⟩, v0])) := same_new np
    have hp11 : (upd H10 p (.tup [.str ⟨#[kc]⟩, v0])) p = some (.tup [.str (one1 kc), v0]) := upd_same
    have m11 := (nw_but hB.at b10).trans (nw_sm (H0 := H) s11)
    have pa11 : PairAt K (newp H (upd H10 p (.tup [.str ⟨#[kc]⟩, v0]))) p (.inr (one1 kc), v0) := ⟨nw_at hp11 gp, key_bulk (by show 1 ≤ 1000; decide), gv.sm m11⟩
    show _ ∧ ∀ l, (upd H10 p (.tup [.str ⟨#[kc]⟩, v0])) l = none → _
    generalize (upd H10 p (.tup [.str ⟨#[kc]⟩, v0])) = H11 at s11 hp11 m11 pa11
    refine ⟨by show 1 ≤ sizeLine; decide, fun l nl => ?_⟩
    have s12 : Same H11 (upd H11 l (.lst [.ref p])) := same_new nl
    have hl12 : (upd H11 l (.lst [.ref p])) l = some (.lst [.ref p]) := upd_same
    generalize (upd H11 l (.lst [.ref p])) = H12 at s12 hl12
    refine ⟨D, l, _, _, rfl, rfl, s12 _ _ (s11 _ _ (b10 _ _ nDg hD9)), hl12, ?_, fun l2 nl2 => ?_⟩
    · rw [List.length_map]
      exact szBigLe (by show ps.length + 1 ≤ 100000; omega)
    have exs : ps.map V.ref ++ [V.ref p] = (ps ++ [p]).map V.ref := by
      rw [List.map_append]
      rfl
    rw [exs]
    have s13 : Same H12 (upd H12 l2 (.lst ((ps ++ [p]).map V.ref))) := same_new nl2
    have hl13 : (upd H12 l2 (.lst ((ps ++ [p]).map V.ref))) l2 = some (.lst ((ps ++ [p]).map V.ref)) := upd_same
    generalize (upd H12 l2 (.lst ((ps ++ [p]).map V.ref))) = H13 at s13 hl13
    have s1013 := (s11.trans s12).trans s13
    have hB13 := hB10.same s1013
    have B13 := B10.trans (.of_same s1013)
    have hps : ∀ p' ∈ ps ++ [p], ∃ kv, PairAt K (newp H H13) p' kv := by
      intro p' hp'
      rcases List.mem_append.mp hp' with m | m
      · obtain ⟨kv, h⟩ := hp9 p' m
        exact ⟨kv, h.sm ((nw_but hB.at b10).trans (nw_sm s1013))⟩
      · rw [List.mem_singleton] at m
        rw [m]
        exact ⟨_, pa11.sm (nw_sm (s12.trans s13))⟩
    refine ⟨g, c, l2, _, rfl, hB13, hl13, (hB10.same (s11.trans s12)).ne nl2, ?_, fun H14 pm ys hB14 b14 n14 hpm perm => ?_⟩
    · rw [List.length_map, List.length_append]
      show ps.length + 1 ≤ 4000
      omega
    obtain ⟨qs, rfl, ql, qm⟩ := perm_refs perm
    have hqs : ∀ p' ∈ qs, ∃ kv, PairAt K (newp H H14) p' kv := by
      intro p' hp'
      obtain ⟨kv, h⟩ := hps p' (qm p' hp')
      exact ⟨kv, h.sm (nw_but hB.at b14)⟩
    obtain ⟨kvs, pk, kl, km⟩ := pair_ex qs hqs
    refine ⟨pm, qs, kvs, rfl, SqL.of hpm, L2.Paired.mapP pk fun a b h => SqT.of (nw_same _ _ h.1), fun pd npd => ?_⟩
    have B14 := B13.trans b14
    obtain ⟨o14, hg14⟩ := hB14.at
    have gpd : H pd = none := B14.free hg14 npd
    have s15 : Same H14 (upd H14 pd (.dK (mergeK [] kvs))) := same_new npd
    have gd15 : Gdd K (newp H (upd H14 pd (.dK (mergeK [] kvs)))) (.ref pd) := by
      refine Gdd.dict (nw_at upd_same gpd) (mergeK_keys kvs [] .nil) ?_ fun kv hkv => ?_
      · have h1 := length_mergeK kvs []
        rw [List.length_append] at ql
        have h2 : ([p] : List Addr).length = 1 := rfl
        have h3 : ([] : List (Key × V)).length = 0 := rfl
        omega
      · rcases mergeK_mem kvs [] kv hkv with m | m
        · cases m
        · obtain ⟨p', _, h⟩ := km kv m
          exact (h.sm (nw_sm s15)).2
    show ∃ v, _
    generalize (upd H14 pd (.dK (mergeK [] kvs))) = H15 at s15 gd15
    have hB15 := hB14.same s15
    have B15 := B14.trans (.of_same s15)
    clear s11 s12 s13 s1013 hB13 B13 hps hqs pk km kl ql qm perm hpm n14 b14 hl13 hl12 pa11 hp11 m11 gv ej hj5 hlo10 b10 hB10 B10 hg10 gp np nl nl2 hp9 hD9 hB9 B9 hg9 gl9 hlo glo nlog nDg gD hB14 B14 hg14 gpd npd exs hj
    -- all things
    refine ⟨_, rfl, _, rfl, ⟨_, rfl⟩, _, rfl, W, rfl, by omega, fun ys r ys1 ys2 ys3 nr => ?_⟩
    obtain ⟨us, rfl⟩ : ∃ us : List Nat, ys = us.map one1 := all_one1 (P := fun _ => True) fun y hy => by
      obtain ⟨ch, _, e⟩ := (ys3 y).mp hy
      exact ⟨ch, trivial, e⟩
    have ul : us.length ≤ 9 := by
      have h1 : (us.map one1).length ≤ (W.cps.toList.map one1).length := length_le_of_sub ys2 fun y hy => by
        obtain ⟨ch, hc, e⟩ := (ys3 y).mp hy
        exact List.mem_map.mpr ⟨ch, hc, e.symm⟩
      rw [List.length_map, List.length_map] at h1
      have h2 : W.cps.toList.length = W.cps.size := Array.length_toList
      omega
    have s16 : Same H15 (upd H15 r (.lst ((us.map one1).map V.str))) := same_new nr
    have hr16 : (upd H15 r (.lst ((us.map one1).map V.str))) r = some (.lst ((us.map one1).map V.str)) := upd_same
    generalize (upd H15 r (.lst ((us.map one1).map V.str))) = H16 at s16 hr16
    refine ⟨_, _, us.map one1, rfl, rfl, .inl (SqL.of hr16), ?_, ?_⟩
    · rw [sum_one, List.length_map]
      show us.length + us.length * 0 ≤ _
      omega
    rw [Rg.join_one]
    have hU : (⟨us.toArray⟩ : Str).cps.size ≤ 9 := by
      show us.toArray.size ≤ 9
      rw [List.size_toArray]
      exact ul
    generalize (⟨us.toArray⟩ : Str) = U at hU
    have hW3 : (cutS W none (some 3)).cps.size ≤ 9 := Nat.le_trans (cutS_length W none (some 3)) hW
    refine ⟨_, rfl, 3, rfl, W, rfl, szBigLe (by show W.cps.size ≤ 100000; omega), _, rfl, fun a1 n1 => ?_⟩
    generalize (cutS W none (some 3)) = W3 at hW3
    have hB16 := hB15.same s16
    have B16 := B15.trans (.of_same s16)
    have gd16 := gd15.sm (nw_sm (H0 := H) s16)
    obtain ⟨o16, hg16⟩ := hB16.at
    have ga1 : H a1 = none := B16.free hg16 n1
    have s17 : Same H16 (upd H16 a1 (.dK [])) := same_new n1
    have d17 : Gdd K (newp H (upd H16 a1 (.dK []))) (.ref a1) := Gdd.dict (nw_at upd_same ga1) .nil (by decide) fun kv h => (nomatch h)
    show ∀ p, (upd H16 a1 (.dK [])) p = none → _
    generalize (upd H16 a1 (.dK [])) = H17 at s17 d17
    intro a2 n2
    refine ⟨_, rfl, _, rfl, upd_same, [(.inr T, .str T)], rfl, by show 1 ≤ 15; decide, ?_⟩
    have e2 : mergeK [] [((Sum.inr T : Key), V.str T)] = [(Sum.inr T, V.str T)] := rfl
    rw [e2]
    have ga2 : H a2 = none := B16.free hg16 (s17.free n2)
    have s18 : Same H17 (upd (upd H17 a2 (.dK [])) a2 (.dK [(.inr T, .str T)])) := fun b o e => by
      rw [upd_ne (ne_of_none e n2), upd_ne (ne_of_none e n2)]
      exact e
    have d18 : Gdd K (newp H (upd (upd H17 a2 (.dK [])) a2 (.dK [(.inr T, .str T)]))) (.ref a2) := Gdd.dict (nw_at upd_same ga2) (by simp) (by show 1 ≤ 20; decide) fun kv h => by
      rw [List.mem_singleton] at h
      rw [h]
      exact ⟨key_bulk (by omega), Gw.str (by omega)⟩
    show ∀ p, (upd (upd H17 a2 (.dK [])) a2 (.dK [(.inr T, .str T)])) p = none → _
    generalize (upd (upd H17 a2 (.dK [])) a2 (.dK [(.inr T, .str T)])) = H18 at s18 d18
    intro a3 n3
    refine ⟨_, rfl, upd_same, [(.inl 0, .str T)], rfl, by show 1 ≤ 15; decide, ?_⟩
    have e3 : mergeK [] [((Sum.inl 0 : Key), V.str T)] = [(Sum.inl 0, V.str T)] := rfl
    rw [e3]
    have ga3 : H a3 = none := B16.free hg16 (s17.free (s18.free n3))
    have s19 : Same H18 (upd (upd H18 a3 (.dK [])) a3 (.dK [(.inl 0, .str T)])) := fun b o e => by
      rw [upd_ne (ne_of_none e n3), upd_ne (ne_of_none e n3)]
      exact e
    have d19 : Gdd K (newp H (upd (upd H18 a3 (.dK [])) a3 (.dK [(.inl 0, .str T)]))) (.ref a3) := Gdd.dict (nw_at upd_same ga3) (by simp) (by show 1 ≤ 20; decide) fun kv h => by
      rw [List.mem_singleton] at h
      rw [h]
      exact ⟨by show PyData.bulk (.int 0) ≤ 1000; simp only [PyData.bulk]; omega, Gw.str (by omega)⟩
    show ∃ v, _
    generalize (upd (upd H18 a3 (.dK [])) a3 (.dK [(.inl 0, .str T)])) = H19 at s19 d19
    have s1619 := (s17.trans s18).trans s19
    have hB19 := hB16.same s1619
    have B19 := B16.trans (.of_same s1619)
    refine ⟨_, rfl, g, c, rfl, hB19, fun H20 v d hB20 b20 hd dm => ?_⟩
    have old19 : ∀ b, H b ≠ none → H19 b ≠ none := fun b hb => by
      obtain ⟨o, ho⟩ := Option.ne_none_iff_exists'.mp hb
      by_cases e : b = g
      · obtain ⟨o', ho'⟩ := hB19.at
        rw [e, ho']
        simp
      · rw [B19 _ _ e ho]
        simp
    have gv : Gdd K (newp H H20) v := odd_gd (hd.sm (nw_old old19)) dm
    have m20 := nw_but (H0 := H) hB.at b20
    have B20 := B19.trans b20
    have LL : ∀ y ∈ ([.str W, .str T, .str U, .str W3, .ref pd, .ref a1, .ref a2, .ref a3, v] : List V), Gdd K (newp H H20) y := by
      intro y hy
      simp only [List.mem_cons, List.not_mem_nil, or_false] at hy
      rcases hy with rfl | rfl | rfl | rfl | rfl | rfl | rfl | rfl | rfl
      · exact Gdd.str (by omega)
      · exact Gdd.str (by omega)
      · exact Gdd.str (by omega)
      · exact Gdd.str (by omega)
      · exact gd16.sm ((nw_sm s1619).trans m20)
      · exact d17.sm ((nw_sm (s18.trans s19)).trans m20)
      · exact d18.sm ((nw_sm s19).trans m20)
      · exact d19.sm m20
      · exact gv
    refine ⟨by show 9 ≤ sizeLine; decide, fun ls nls => ?_⟩
    have hLen : ([.str W, .str T, .str U, .str W3, .ref pd, .ref a1, .ref a2, .ref a3, v] : List V).length = 9 := rfl
    generalize ([.str W, .str T, .str U, .str W3, .ref pd, .ref a1, .ref a2, .ref a3, v] : List V) = L9 at LL hLen
    have s21 : Same H20 (upd H20 ls (.lst L9)) := same_new nls
    have hls : (upd H20 ls (.lst L9)) ls = some (.lst L9) := upd_same
    show ∃ v, _
    generalize (upd H20 ls (.lst L9)) = H21 at s21 hls
    have hB21 := hB20.same s21
    have B21 := B20.trans (.of_same s21)
    have nlsg : ls ≠ g := hB20.ne nls
    clear gd15 gd16 d17 d18 d19 s16 s17 s18 s19 s1619 hB15 hB16 hB19 B15 B16 B19 b20 hd dm gv m20 nr hr16 n1 n2 n3 ga1 ga2 ga3 hg16 old19
    -- one of them
    refine ⟨_, rfl, _, rfl, g, c, 9, rfl, hB21, by decide, by decide, fun H22 r22 hr22 hB22 b22 => ?_⟩
    refine ⟨1, rfl, _, rfl, _, rfl, z, rfl, szBigLe (by show (revS z).cps.size ≤ 100000; omega), by show 4 ≤ sizeLine; decide, fun l4 nl4 => ?_⟩
    have s23 : Same H22 (upd H22 l4 (.lst [nV r22, .int (-1), .str z, .str (revS z)])) := same_new nl4
    have hl4 : (upd H22 l4 (.lst [nV r22, .int (-1), .str z, .str (revS z)])) l4 = some (.lst [nV r22, .int (-1), .str z, .str (revS z)]) := upd_same
    show ∃ l, _
    generalize (upd H22 l4 (.lst [nV r22, .int (-1), .str z, .str (revS z)])) = H23 at s23 hl4
    refine ⟨ls, l4, _, _, rfl, rfl, s23 _ _ (b22 _ _ nlsg hls), hl4, ?_, fun l5 nl5 => ?_⟩
    · rw [hLen]
      show 9 + 4 ≤ sizeLine
      decide
    have s24 : Same H23 (upd H23 l5 (.lst (L9 ++ [nV r22, .int (-1), .str z, .str (revS z)]))) := same_new nl5
    have hl5 : (upd H23 l5 (.lst (L9 ++ [nV r22, .int (-1), .str z, .str (revS z)]))) l5 = some (.lst (L9 ++ [nV r22, .int (-1), .str z, .str (revS z)])) := upd_same
    have hB23 := hB22.same s23
    have m24 := ((nw_sm (H0 := H) s21).trans (nw_but hB.at b22)).trans (nw_sm (s23.trans s24))
    have LA : ∀ y ∈ L9 ++ [nV r22, .int (-1), .str z, .str (revS z)], Gdd K (newp H (upd H23 l5 (.lst (L9 ++ [nV r22, .int (-1), .str z, .str (revS z)])))) y := by
      intro y hy
      rcases List.mem_append.mp hy with m | m
      · exact (LL y m).sm m24
      · simp only [List.mem_cons, List.not_mem_nil, or_false] at m
        rcases m with rfl | rfl | rfl | rfl
        · exact Gdd.int _
        · exact Gdd.int _
        · exact Gdd.str (by omega)
        · exact Gdd.str (by omega)
    have hLA : (L9 ++ [nV r22, .int (-1), .str z, .str (revS z)]).length = 13 := by
      rw [List.length_append, hLen]
      rfl
    generalize (L9 ++ [nV r22, .int (-1), .str z, .str (revS z)]) = LA13 at s24 hl5 LA hLA m24
    generalize (upd H23 l5 (.lst LA13)) = H24 at s24 hl5 LA m24
    have hB24 := hB23.same s24
    refine ⟨_, rfl, g, c, 13, rfl, hB24, by decide, by decide, fun H25 r25 hr25 hB25 b25 => ?_⟩
    have h13 : r25 < LA13.length := by omega
    have e25 : LA13[r25]? = some LA13[r25] := List.getElem?_eq_getElem h13
    have g25 := (LA _ (List.getElem_mem h13)).sm (nw_but hB.at b25)
    exact ⟨l5, _, _, _, rfl, rfl, SqL.of (b25 _ _ (hB23.ne nl5) hl5), atI_nat e25, q H25 _ hB25 (((B21.trans b22).trans (.of_same (s23.trans s24))).trans b25) g25⟩
end
end K11

namespace Rg
open PySem PySem.Spec PyProof.Rows L2 Mach
/-- the bag made of a script -/
def spBag (K : PySem.W.Frag) : Sp := fun vs H Q _ => ∃ (a : Addr) (ns : List Int), vs = [.ref a] ∧ SqL K H a (ns.map V.int) ∧ ns.length ≤ 63 ∧
  ∀ (H' : Hp) (g l : Addr), Same H H' → H g = none → H l = none → Bag H' g l → Q (.ref g) H'
end Rg
namespace K11
open PySem PySem.Spec PyProof.Rows L2 Rg Mach
abbrev sBag : Stmt := topS 33
theorem scBag : FnScope ["_law_script", "_law_cell"] ["_law_script"] (defScope sBag) := ⟨rfl, rfl, rfl, by decide +kernel, rfl, by decide +kernel, by decide +kernel⟩
section
variable {P : Program} {w : World} {K : PySem.W.Frag} {mg : Str → Option Value} {base : Heap}
theorem ok_bag {f : Addr} {fd : FuncData} {k : Nat} (F : Fun K "_law_bag" "_law_bag" sBag f fd) (ma : mg "abs" = none) :
    FnOk P w K mg base CX0 (k + 1) f fd ["_law_script"] (spBag K) := by
  refine F.ok scBag (fun vs H Q E h => ?_) (fun cdv A outer s H vs Q E hr h => ?_)
  · obtain ⟨a, ns, rfl, _⟩ := h
    rfl
  · obtain ⟨a, ns, rfl, hS, hl, q⟩ := h
    refine ⟨_, pss_one (ps_ret (pe_lst (pa_cons pe_int (pa_cons pe_int (pa_cons pe_int (pa_cons
      (pe_lc (own := [("_law_cell", 1)]) (g := gName 1) (tt := tYes) rfl scBag.nd (pi_list (pe_slice sl_list (pv 0) po_none (po_some pe_int))) (blkOk_by (own := [("_law_cell", 1)]) (N := ["_law_script", "_law_cell"]) (sc := defScope sBag) (by decide +kernel))
        (fun _ _ _ _ _ => pg_name (i := 1) scBag.nd rfl (Or.inl rfl)) (fun _ _ _ _ _ => pts_nil) (fun _ _ _ _ _ => pe_callB call_abs (by rfl) ma bAbs (pa_cons (pv 1) pa_nil))) pa_nil)))))), ?_⟩
    refine ⟨_, rfl, 63, rfl, a, _, rfl, hS, fun p1 n1 => ?_⟩
    obtain ⟨zs, ez, hz, hzl⟩ := cut_ints ns none (some 63)
    rw [ez]
    have h1 : (upd H p1 (.lst (zs.map V.int))) p1 = some (.lst (zs.map V.int)) := upd_same
    have s1 : Same H (upd H p1 (.lst (zs.map V.int))) := same_new n1
    generalize (upd H p1 (.lst (zs.map V.int))) = H1 at h1 s1
    refine ⟨p1, rfl, ⟨_, SqL.of h1⟩, fun D0 nD => ?_⟩
    refine lc_list (K := K) (a := p1) (xs := zs.map V.int) (fun i H2 => Same H1 H2 ∧ ∃ cs : List Int, cs.length = i ∧ (∀ c ∈ cs, 0 ≤ c) ∧ H2 D0 = some (.lst (cs.map V.int))) ⟨same_new nD, [], rfl, fun c hc => (nomatch hc), by rw [upd_same]; rfl⟩
      (fun i H2 _ ⟨s2, _⟩ => SqL.of (s2 _ _ h1)) ?_ ?_
    · rintro i v H2 hi ⟨s2, cs, cl, cp, hD⟩
      rw [List.getElem?_map] at hi
      obtain ⟨c, hc, rfl⟩ := Option.map_eq_some_iff.mp hi
      have hi' : i < zs.length := (List.getElem?_eq_some_iff.mp hc).1
      refine ⟨rfl, ?_⟩
      refine ⟨_, rfl, _, rfl, _, hD, by rw [List.length_map]; exact szBig (by omega), ?_, cs ++ [if c < 0 then -c else c], by rw [List.length_append, List.length_singleton, cl], ?_, ?_⟩
      · intro b o e
        rw [upd_ne (ne_of_none e nD)]
        exact s2 _ _ e
      · intro x hx
        rcases List.mem_append.mp hx with z | z
        · exact cp x z
        · rw [List.mem_singleton] at z
          rw [z]
          split <;> omega
      · rw [upd_same, List.map_append]
        rfl
    · rintro H2 ⟨s2, cs, cl, cp, hD⟩
      rw [List.length_map] at cl
      refine ⟨by show 4 ≤ sizeLine; decide, fun g ng => ?_⟩
      have s3 : Same H2 (upd H2 g (BagL 0 1234567891 0 D0)) := same_new ng
      refine q _ g D0 (s1.trans (s2.trans s3)) ((s1.trans s2).free ng) (s1.free nD) ⟨0, 1234567891, 0, cs, upd_same, s3 _ _ hD, by decide, by decide, by decide, cp, by omega⟩
end
end K11

namespace K11
open PySem PySem.Spec PyProof.Rows L2 Rg Mach
abbrev sLaw : Stmt := topS 47
def nLaw : List Str := ["_law_script", "_law_bag_here", "_law_turn", "_law_signs", "_law_thing_here", "_law_many", "_law_whole", "_law_due", "_law_told", "_law_text_here"]
theorem scLaw : FnScope nLaw ["_law_script"] (defScope sLaw) := ⟨rfl, rfl, rfl, by decide +kernel, rfl, by decide +kernel, by decide +kernel⟩
def spLaw (K : PySem.W.Frag) : Sp := fun vs H Q _ => ∃ (a : Addr) (ns : List Int), vs = [.ref a] ∧ SqL K H a (ns.map V.int) ∧ ns.length ≤ 63 ∧ ∀ H' : Hp, Q (.bl true) H'
theorem odd_gq : ∀ d ∈ oddMenu, Gq 20 1000 d := by
  intro d hd
  have h : oddMenu.all (fun d => gqB 20 1000 d) = true := by decide +kernel
  exact gq_of (List.all_eq_true.mp h d hd)
theorem bag_keep {H H' : Hp} {g c : Addr} (h : Bag H g c) (k1 : ∀ o, H g = some o → H' g = some o) (k2 : ∀ o, H c = some o → H' c = some o) : Bag H' g c := by
  obtain ⟨x0, x1, x2, cs, hg, hl, r⟩ := h
  exact ⟨x0, x1, x2, cs, k1 _ hg, k2 _ hl, r⟩
theorem sign_low : ∀ s ∈ signTexts, PyData.strOk s = true := by
  intro s hs
  have h : signTexts.all (fun s => PyData.strOk s) = true := by decide +kernel
  exact List.all_eq_true.mp h s hs
theorem strOk_sub {s : Str} {ds : List Nat} (h : PyData.strOk s = true) (m : ∀ d ∈ ds, d ∈ s.cps.toList) : PyData.strOk ⟨ds.toArray⟩ = true := by
  unfold PyData.strOk at *
  rw [Array.all_eq_true] at *
  intro i hi
  have hi' : i < ds.length := by simpa using hi
  have h1 := m ds[i] (List.getElem_mem hi')
  obtain ⟨j, hj, e⟩ := List.mem_iff_getElem.mp h1
  rw [Array.length_toList] at hj
  have h2 := h j hj
  rw [Array.getElem_toList] at e
  rw [e] at h2
  exact h2
theorem gdAll_bools : ∀ bs : List Bool, GdAll 0 (bs.length) (bs.map PyData.bool)
  | [] => gdAll_nil
  | b :: bs => by
    have h1 : Gd 0 0 (.bool b) := ⟨rfl, rfl, rfl, Nat.le_refl _, Nat.le_refl _⟩
    have h2 := gdAll_cons h1 (gdAll_bools bs)
    rw [List.map_cons, List.length_cons]
    have e : 0 + 1 + bs.length = bs.length + 1 := by omega
    rw [e] at h2
    exact h2
abbrev sE0 : Stmt := inClass (topS 14) 0
theorem scE0 : SuScope ["self", "place"] ["self", "place"] (defScope sE0) := ⟨rfl, rfl, rfl, by decide +kernel, rfl, by decide +kernel, by decide +kernel, by decide +kernel, by decide +kernel, by decide +kernel⟩
abbrev sE1 : Stmt := inClass (topS 16) 0
theorem scE1 : SuScope ["self", "at"] ["self", "at"] (defScope sE1) := ⟨rfl, rfl, rfl, by decide +kernel, rfl, by decide +kernel, by decide +kernel, by decide +kernel, by decide +kernel, by decide +kernel⟩
abbrev sE2 : Stmt := inClass (topS 18) 0
theorem scE2 : SuScope ["self", "name"] ["self", "name"] (defScope sE2) := ⟨rfl, rfl, rfl, by decide +kernel, rfl, by decide +kernel, by decide +kernel, by decide +kernel, by decide +kernel, by decide +kernel⟩
abbrev sE3 : Stmt := inClass (topS 20) 0
theorem scE3 : SuScope ["self", "name"] ["self", "name"] (defScope sE3) := ⟨rfl, rfl, rfl, by decide +kernel, rfl, by decide +kernel, by decide +kernel, by decide +kernel, by decide +kernel, by decide +kernel⟩
abbrev sE4 : Stmt := inClass (topS 22) 0
theorem scE4 : SuScope ["self", "limit"] ["self", "limit"] (defScope sE4) := ⟨rfl, rfl, rfl, by decide +kernel, rfl, by decide +kernel, by decide +kernel, by decide +kernel, by decide +kernel, by decide +kernel⟩
abbrev sE5 : Stmt := inClass (topS 23) 0
theorem scE5 : SuScope ["self", "at"] ["self", "at"] (defScope sE5) := ⟨rfl, rfl, rfl, by decide +kernel, rfl, by decide +kernel, by decide +kernel, by decide +kernel, by decide +kernel, by decide +kernel⟩
abbrev sE6 : Stmt := inClass (topS 25) 0
theorem scE6 : SuScope ["self", "limit"] ["self", "limit"] (defScope sE6) := ⟨rfl, rfl, rfl, by decide +kernel, rfl, by decide +kernel, by decide +kernel, by decide +kernel, by decide +kernel, by decide +kernel⟩
abbrev sE7 : Stmt := inClass (topS 28) 0
theorem scE7 : SuScope ["self", "deed"] ["self", "deed"] (defScope sE7) := ⟨rfl, rfl, rfl, by decide +kernel, rfl, by decide +kernel, by decide +kernel, by decide +kernel, by decide +kernel, by decide +kernel⟩
abbrev sE8 : Stmt := inClass (topS 29) 0
theorem scE8 : SuScope ["self", "at"] ["self", "at"] (defScope sE8) := ⟨rfl, rfl, rfl, by decide +kernel, rfl, by decide +kernel, by decide +kernel, by decide +kernel, by decide +kernel, by decide +kernel⟩
abbrev sE16 : Stmt := inClass (topS 19) 0
theorem scE16 : SuScope ["self", "function", "address"] ["self", "function", "address"] (defScope sE16) := ⟨rfl, rfl, rfl, by decide +kernel, rfl, by decide +kernel, by decide +kernel, by decide +kernel, by decide +kernel, by decide +kernel⟩
abbrev sE17 : Stmt := inClass (topS 21) 0
theorem scE17 : SuScope ["self", "function", "address"] ["self", "function", "address"] (defScope sE17) := ⟨rfl, rfl, rfl, by decide +kernel, rfl, by decide +kernel, by decide +kernel, by decide +kernel, by decide +kernel, by decide +kernel⟩
structure Txt (K : PySem.W.Frag) (mg : Str → Option Value) (f4 f10 f6 f7 f8 f5 f9 f11 f33 f34 f35 f36 f37 f38 f39 f40 f41 f42 f43 f44 f45 f46  : Addr) (fd4 fd10 fd6 fd7 fd8 fd5 fd9 fd11 fd33 fd34 fd35 fd36 fd37 fd38 fd39 fd40 fd41 fd42 fd43 fd44 fd45 fd46  : FuncData) : Prop where
  F4 : Fun K "is_integer" "is_integer" sIsInt f4 fd4
  b4 : Binds K fd4 ["thing"] []
  g4 : mg "is_integer" = some (.ref f4)
  F10 : Fun K "is_number" "is_number" sIsNum f10 fd10
  b10 : Binds K fd10 ["many", "thing"] []
  g10 : mg "is_number" = some (.ref f10)
  F6 : Fun K "is_signs" "is_signs" sIsSg f6 fd6
  b6 : Binds K fd6 ["thing"] []
  g6 : mg "is_signs" = some (.ref f6)
  F7 : Fun K "is_text" "is_text" sIsText f7 fd7
  b7 : Binds K fd7 ["signs", "thing"] []
  g7 : mg "is_text" = some (.ref f7)
  F8 : Fun K "is_sign" "is_sign" sIsSign f8 fd8
  b8 : Binds K fd8 ["signs", "thing"] []
  g8 : mg "is_sign" = some (.ref f8)
  F5 : Fun K "is_name" "is_name" sIsName f5 fd5
  b5 : Binds K fd5 ["thing"] []
  g5 : mg "is_name" = some (.ref f5)
  F9 : Fun K "is_map" "is_map" sIsMap f9 fd9
  b9 : Binds K fd9 ["signs", "thing"] []
  g9 : mg "is_map" = some (.ref f9)
  F11 : Fun K "text_key" "text_key" sTkey f11 fd11
  b11 : Binds K fd11 ["text"] []
  g11 : mg "text_key" = some (.ref f11)
  F33 : Fun K "_law_bag" "_law_bag" sBag f33 fd33
  b33 : Binds K fd33 ["_law_script"] []
  g33 : mg "_law_bag" = some (.ref f33)
  F34 : Fun K "_law_take" "_law_take" sTake f34 fd34
  b34 : Binds K fd34 ["_law_bag_here", "_law_many"] []
  g34 : mg "_law_take" = some (.ref f34)
  F35 : Fun K "_law_alike" "_law_alike" sAlk f35 fd35
  b35 : Binds K fd35 ["_law_found", "_law_due"] []
  g35 : mg "_law_alike" = some (.ref f35)
  F36 : Fun K "_law_odd" "_law_odd" sOdd f36 fd36
  b36 : Binds K fd36 ["_law_bag_here"] []
  g36 : mg "_law_odd" = some (.ref f36)
  F37 : Fun K "_law_text" "_law_text" sDrawn f37 fd37
  b37 : Binds K fd37 ["_law_bag_here", "_law_signs", "_law_longest"] []
  g37 : mg "_law_text" = some (.ref f37)
  F38 : Fun K "_law_errors" "_law_errors" sErrs f38 fd38
  b38 : Binds K fd38 ["_law_x", "_law_y"] []
  g38 : mg "_law_errors" = some (.ref f38)
  F39 : Fun K "_law_flags" "_law_flags" sFlags f39 fd39
  b39 : Binds K fd39 ["_law_e"] []
  g39 : mg "_law_flags" = some (.ref f39)
  F40 : Fun K "_law_errors_right" "_law_errors_right" sER f40 fd40
  b40 : Binds K fd40 ["_law_x", "_law_y"] []
  g40 : mg "_law_errors_right" = some (.ref f40)
  F41 : Fun K "_law_mixed" "_law_mixed" sMixed f41 fd41
  b41 : Binds K fd41 ["_law_bag_here", "_law_things"] []
  g41 : mg "_law_mixed" = some (.ref f41)
  F42 : Fun K "_law_is_name" "_law_is_name" sLName f42 fd42
  b42 : Binds K fd42 ["_law_thing_here"] []
  g42 : mg "_law_is_name" = some (.ref f42)
  F43 : Fun K "_law_is_signs" "_law_is_signs" sLSg f43 fd43
  b43 : Binds K fd43 ["_law_thing_here"] []
  g43 : mg "_law_is_signs" = some (.ref f43)
  F44 : Fun K "_law_is_text" "_law_is_text" sLText f44 fd44
  b44 : Binds K fd44 ["_law_signs", "_law_thing_here"] []
  g44 : mg "_law_is_text" = some (.ref f44)
  F45 : Fun K "_law_is_map" "_law_is_map" sLMap f45 fd45
  b45 : Binds K fd45 ["_law_signs", "_law_thing_here"] []
  g45 : mg "_law_is_map" = some (.ref f45)
  F46 : Fun K "_law_thing" "_law_thing" sThing f46 fd46
  b46 : Binds K fd46 ["_law_bag_here", "_law_signs"] []
  g46 : mg "_law_thing" = some (.ref f46)
  c_LETTERS : ∃ u, mg "LETTERS" = some u ∧ RelV (.str letters) u
  c_MOST_SIGNS : ∃ u, mg "MOST_SIGNS" = some u ∧ RelV (.int 4) u
  c_MOST_LETTERS : ∃ u, mg "MOST_LETTERS" = some u ∧ RelV (.int 8) u
  z_abs : mg "abs" = none
  z_int : mg "int" = none
  z_len : mg "len" = none
  z_range : mg "range" = none
  z_repr : mg "repr" = none
  z_isinstance : mg "isinstance" = none
  z_str : mg "str" = none
  z_bool : mg "bool" = none
  z_list : mg "list" = none
  z_dict : mg "dict" = none
  z_set : mg "set" = none
  z_sorted : mg "sorted" = none
  z_all : mg "all" = none
  z_zip : mg "zip" = none
  z_ValueError : mg "ValueError" = none
section
variable {P : Program} {w : World} {K : PySem.W.Frag} {mg : Str → Option Value} {base : Heap}
theorem ok_law {f : Addr} {fd : FuncData} {f4 f10 f6 f7 f8 f5 f9 f11 f33 f34 f35 f36 f37 f38 f39 f40 f41 f42 f43 f44 f45 f46  : Addr} {fd4 fd10 fd6 fd7 fd8 fd5 fd9 fd11 fd33 fd34 fd35 fd36 fd37 fd38 fd39 fd40 fd41 fd42 fd43 fd44 fd45 fd46  : FuncData} {c0 c1 c2 c3 c4 c5 c6 c7 c8 c9 c10 c11 c12 c13 c14 c15 c16 c17 TE : Addr} (F : Fun K "law" "law" sLaw f fd)
    (T : Txt K mg f4 f10 f6 f7 f8 f5 f9 f11 f33 f34 f35 f36 f37 f38 f39 f40 f41 f42 f43 f44 f45 f46 fd4 fd10 fd6 fd7 fd8 fd5 fd9 fd11 fd33 fd34 fd35 fd36 fd37 fd38 fd39 fd40 fd41 fd42 fd43 fd44 fd45 fd46) (KK : Kls P w K mg base c0 c1 c2 c3 c4 c5 c6 c7 c8 c9 c10 c11 c12 c13 c14 c15 c16 c17 TE) :
    GFn P w K mg base CX0 10 f fd ["_law_script"] (spLaw K) := by
  obtain ⟨uL, gL, rL⟩ := T.c_LETTERS
  obtain ⟨uM, gM, rM⟩ := T.c_MOST_SIGNS
  obtain ⟨uN, gN, rN⟩ := T.c_MOST_LETTERS
  have GB : FnOk P w K mg base CX0 9 f33 fd33 ["_law_script"] (spBag K) := ok_bag T.F33 T.z_abs
  have GT : FnOk P w K mg base CX0 9 f34 fd34 ["_law_bag_here", "_law_many"] spTake := ok_take T.F34 T.z_int
  have GO : FnOk P w K mg base CX0 9 f36 fd36 ["_law_bag_here"] (spOddQ K) := ok_oddQ T.F36 T.F34 T.b34 T.g34 T.z_int T.z_range
  have GD : FnOk P w K mg base CX0 9 f37 fd37 ["_law_bag_here", "_law_signs", "_law_longest"] spDrawn := ok_drawn T.F37 T.F34 T.b34 T.g34 T.z_int T.z_len T.z_range
  have GTh : FnOk P w K mg base CX0 9 f46 fd46 ["_law_bag_here", "_law_signs"] (spThing K) := ok_thing T.F46 T.F34 T.b34 T.g34 T.F37 T.b37 T.g37 T.F41 T.b41 T.g41 T.F36 T.b36 T.g36 T.z_int T.z_len T.z_range T.z_dict T.z_sorted T.z_set
  have GE : GFn P w K mg base CX0 9 f40 fd40 ["_law_x", "_law_y"] (spErR K) := ok_eR T.F40 KK T.F38 T.b38 T.g38 T.F39 T.b39 T.g39 T.F35 T.b35 T.g35 T.z_isinstance T.z_ValueError T.z_list T.z_len T.z_range T.z_repr
  have GA : GFn P w K mg base CX0 9 f35 fd35 ["_law_found", "_law_due"] (spAlk K) := ok_alk T.F35 T.z_repr
  have GI1 : FnOk P w K mg base CX0 9 f4 fd4 ["thing"] (spIsInt0 K) := ok_isIntQ T.F4 T.z_isinstance T.z_int T.z_bool
  have GU1 : FnOk P w K mg base CX0 9 f10 fd10 ["many", "thing"] (spIsNum0 K) := ok_isNumQ T.F10 T.F4 T.b4 T.g4 T.z_isinstance T.z_int T.z_bool
  have GS1 : FnOk P w K mg base CX0 9 f6 fd6 ["thing"] (spIsSg0 K) := ok_isSgQ T.F6 gL rL gM rM T.z_isinstance T.z_str T.z_len T.z_all T.z_zip
  have GX1 : FnOk P w K mg base CX0 9 f7 fd7 ["signs", "thing"] (spText0 K) := ok_isText0 T.F7 T.z_isinstance T.z_str T.z_all
  have GN1 : FnOk P w K mg base CX0 9 f5 fd5 ["thing"] (spName0 K) := ok_isName0 T.F5 gL rL gN rN T.z_isinstance T.z_str T.z_len T.z_all
  have GM1 : FnOk P w K mg base CX0 9 f9 fd9 ["signs", "thing"] (spMap0 K) := ok_isMap T.F9 T.F8 T.b8 T.g8 T.F7 T.b7 T.g7 T.z_isinstance T.z_str T.z_all T.z_len T.z_dict
  have GK : FnOk P w K mg base CX0 9 f11 fd11 ["text"] spTkey := ok_tkey T.F11 T.z_len
  have GN2 : FnOk P w K mg base CX0 9 f42 fd42 ["_law_thing_here"] (spName0 K) := ok_lName T.F42 T.z_isinstance T.z_str T.z_len
  have GS2 : FnOk P w K mg base CX0 9 f43 fd43 ["_law_thing_here"] (spIsSg0 K) := ok_lSg T.F43 T.F42 T.b42 T.g42 T.z_isinstance T.z_str T.z_len T.z_list T.z_sorted T.z_set
  have GX2 : FnOk P w K mg base CX0 9 f44 fd44 ["_law_signs", "_law_thing_here"] (spText0 K) := ok_lText T.F44 T.z_isinstance T.z_str
  have GM2 : FnOk P w K mg base CX0 9 f45 fd45 ["_law_signs", "_law_thing_here"] (spLMap0 K) := ok_lMap T.F45 T.F44 T.b44 T.g44 T.z_isinstance T.z_str T.z_len T.z_dict
  refine fun_okG F scLaw (fun vs H Q E h => ?_) (fun cdv A outer s H vs Q E hr hg h => ?_)
  · obtain ⟨a, ns, rfl, _⟩ := h
    rfl
  · obtain ⟨a, ns, rfl, hS, hns, q⟩ := h
    refine ⟨_, (pss_cons (ps_set (i := 1) scLaw.nd rfl (.inl rfl) (pe_call GB hr (by rfl) T.g33 T.F33.kp T.b33 .nil pass0 (pa_cons (pv 0) pa_nil)))
      (pss_cons (ps_for PassesOwn.never rfl (pi_range1 (by rfl) T.z_range (pa_cons pe_int pa_nil)) (pg_name (i := 2) scLaw.nd rfl (.inl rfl))
        (pss_one (ps_if (pw_or (pt_not (pt_val (pe_callG GE hr hg (by rfl) T.g40 T.F40.kp T.b40 .nil pass0 (pa_cons (pe_lst (pa_cons (pe_call GT hr (by rfl) T.g34 T.F34.kp T.b34 .nil pass0 (pa_cons (pv 1) (pa_cons pe_int pa_nil))) pa_nil)) (pa_cons (pe_call GO hr (by rfl) T.g36 T.F36.kp T.b36 .nil pass0 (pa_cons (pv 1) pa_nil)) pa_nil))))) (pw_or1 (pt_not (pt_val (pe_callG GE hr hg (by rfl) T.g40 T.F40.kp T.b40 .nil pass0 (pa_cons (pe_call GO hr (by rfl) T.g36 T.F36.kp T.b36 .nil pass0 (pa_cons (pv 1) pa_nil)) (pa_cons (pe_tup (pa_cons pe_int (pa_cons pe_int pa_nil))) pa_nil))))))).pt (pss_one (ps_ret pe_bl)) pss_nil)))
      (pss_cons (ps_for PassesOwn.never rfl (pi_range1 (by rfl) T.z_range (pa_cons pe_int pa_nil)) (pg_name (i := 2) scLaw.nd rfl (.inl rfl))
        (pss_cons (ps_set (i := 3) scLaw.nd rfl (.inl rfl) (pe_ix ix_list (pe_lst (pa_cons pe_str (pa_cons pe_str (pa_cons pe_str (pa_cons pe_str pa_nil))))) (pe_call GT hr (by rfl) T.g34 T.F34.kp T.b34 .nil pass0 (pa_cons (pv 1) (pa_cons pe_int pa_nil))) (fun _ _ => rfl)))
      (pss_cons (ps_par rfl scLaw.nd (i := 4) (j := 5) rfl rfl (by decide) rfl rfl (pa_cons (pe_call GTh hr (by rfl) T.g46 T.F46.kp T.b46 .nil pass0 (pa_cons (pv 1) (pa_cons (pv 3) pa_nil))) (pa_cons (pe_call GT hr (by rfl) T.g34 T.F34.kp T.b34 .nil pass0 (pa_cons (pv 1) (pa_cons pe_int pa_nil))) pa_nil)) (by rfl))
      (C8.pss_cut (ps_set (i := 6) scLaw.nd rfl (.inl rfl) (pe_and (pe_callB call_isi (by rfl) T.z_isinstance bIsi (pa_cons (pv 4) (pa_cons (pe_bltn (v := .ty "int") (by rfl) T.z_int bInt rfl) pa_nil))) (pe_one (pe_not (pe_callB call_isi (by rfl) T.z_isinstance bIsi (pa_cons (pv 4) (pa_cons (pe_bltn (v := .ty "bool") (by rfl) T.z_bool bBool rfl) pa_nil)))))))
      (pss_cons (ps_set (i := 7) scLaw.nd rfl (.inl rfl) (pe_lst (pa_cons (pv 6) (pa_cons (pe_call GN2 hr (by rfl) T.g42 T.F42.kp T.b42 .nil pass0 (pa_cons (pv 4) pa_nil)) (pa_cons (pe_call GS2 hr (by rfl) T.g43 T.F43.kp T.b43 .nil pass0 (pa_cons (pv 4) pa_nil)) (pa_cons (pe_call GX2 hr (by rfl) T.g44 T.F44.kp T.b44 .nil pass0 (pa_cons (pv 3) (pa_cons (pv 4) pa_nil))) (pa_cons (pe_call GM2 hr (by rfl) T.g45 T.F45.kp T.b45 .nil pass0 (pa_cons (pv 3) (pa_cons (pv 4) pa_nil))) pa_nil)))))))
      (C8.pss_cut (ps_expr (pe_bm PySem.F.plainAttrs_list PySem.F.slot_list_append PySem.F.type_list_append mt_append (pv 7) (pa_cons (pe_and (pv 6) (pe_one (pe_chain op_le op_lt pe_int (pv 4) (pv 5)))) pa_nil)))
      (pss_cons (ps_set (i := 8) scLaw.nd rfl (.inl rfl) (pe_lst (pa_cons (pe_call GI1 hr (by rfl) T.g4 T.F4.kp T.b4 .nil pass0 (pa_cons (pv 4) pa_nil)) (pa_cons (pe_call GN1 hr (by rfl) T.g5 T.F5.kp T.b5 .nil pass0 (pa_cons (pv 4) pa_nil)) (pa_cons (pe_call GS1 hr (by rfl) T.g6 T.F6.kp T.b6 .nil pass0 (pa_cons (pv 4) pa_nil)) (pa_cons (pe_call GX1 hr (by rfl) T.g7 T.F7.kp T.b7 .nil pass0 (pa_cons (pv 3) (pa_cons (pv 4) pa_nil))) (pa_cons (pe_call GM1 hr (by rfl) T.g9 T.F9.kp T.b9 .nil pass0 (pa_cons (pv 3) (pa_cons (pv 4) pa_nil))) pa_nil)))))))
      (pss_cons (ps_if (pt_not (pt_val (pe_callG GA hr hg (by rfl) T.g35 T.F35.kp T.b35 .nil pass0 (pa_cons (pe_op op_cat (pv 8) (pe_lst (pa_cons (pe_call GU1 hr (by rfl) T.g10 T.F10.kp T.b10 .nil pass0 (pa_cons (pv 5) (pa_cons (pv 4) pa_nil))) pa_nil))) (pa_cons (pv 7) pa_nil))))) (pss_one (ps_ret pe_bl)) pss_nil)
      (pss_cons (ps_set (i := 9) scLaw.nd rfl (.inl rfl) (pe_call GD hr (by rfl) T.g37 T.F37.kp T.b37 .nil pass0 (pa_cons (pv 1) (pa_cons (pv 3) (pa_cons pe_int pa_nil)))))
      (pss_one (ps_if (pt_not (pt_val (pe_callG GA hr hg (by rfl) T.g35 T.F35.kp T.b35 .nil pass0 (pa_cons (pe_call GK hr (by rfl) T.g11 T.F11.kp T.b11 .nil pass0 (pa_cons (pv 9) pa_nil)) (pa_cons (pe_tup (pa_cons (pe_callB call_len_str (by rfl) T.z_len bLen (pa_cons (pv 9) pa_nil)) (pa_cons (pv 9) pa_nil))) pa_nil))))) (pss_one (ps_ret pe_bl)) pss_nil)))))))))))
      (pss_one (ps_ret pe_bl))))), ?_⟩
    -- bag
    refine ⟨_, rfl, a, ns, rfl, hS, hns, fun H0 g c s0 ng nc hB0 => ?_⟩
    refine ⟨3, rfl, by decide, by decide, ?_⟩
    refine for_range (n := 3) (fun i σ H => (∃ (y2 y3 y4 y5 y6 y7 y8 y9 : Option V), σ = [some (.ref a), some (.ref g), y2, y3, y4, y5, y6, y7, y8, y9]) ∧ Bag H g c) ⟨⟨none, none, none, none, none, none, none, none, rfl⟩, hB0⟩ ?_ ?_
    · clear hB0 s0 ng nc H0 hS hns q
      rintro i σ H0 hi ⟨⟨y2, y3, y4, y5, y6, y7, y8, y9, rfl⟩, hB0⟩
      refine ⟨_, rfl, g, c, 9, rfl, hB0, by decide, by decide, fun H1 r hr1 hB1 b1 => ?_⟩
      refine ⟨by show 1 ≤ sizeLine; decide, fun p np => ?_⟩
      have s2 : Same H1 (upd H1 p (.lst [nV r])) := same_new np
      have hp2 : (upd H1 p (.lst [nV r])) p = some (.lst [nV r]) := upd_same
      show ∃ v, _
      generalize (upd H1 p (.lst [nV r])) = H2 at s2 hp2
      have hB2 := hB1.same s2
      have npg := hB1.ne np
      have npc := hB1.ne2 np
      refine ⟨_, rfl, g, c, rfl, hB2, fun H3 v d hB3 b3 hd hm => ?_⟩
      have hp3 := b3 _ _ npg hp2
      have gr : Gq 20 1000 (.list [.int (r : Int)]) := (gq_list (gqAll_cons (gq_num (n := r) (by omega)) gqAll_nil)).le (by decide) (by decide)
      refine ⟨.ref p, v, .list [.int (r : Int)], d, rfl, .inl ⟨p, _, _, rfl, rfl, hp3, .cons (.int _) .nil⟩, hd.dq.sm nw_same, fun a' e => .inl ?_, gr, odd_gq d hm, fun H4 k4 => ⟨true, rfl, ?_⟩⟩
      · injection e with e
        rw [← e]
        exact hd.dq.sm (nw_mask ⟨_, hp2⟩)
      have hB4 : Bag H4 g c := bag_keep hB3 (fun o e => k4 g o (fun z => by injection z with z; exact absurd z npg) e) (fun o e => k4 c o (fun z => by injection z with z; exact absurd z npc) e)
      clear k4 hp3 hd hm b3 hp2 s2 hB2 hB3 gr b1 hB1 np
      refine ⟨_, rfl, g, c, rfl, hB4, fun H5 v5 d5 hB5 b5 hd5 hm5 => ?_⟩
      refine ⟨by show 2 ≤ sizeLine; decide, fun t nt => ?_⟩
      have s6 : Same H5 (upd H5 t (.tup [.int 0, .int 1])) := same_new nt
      have ht6 : (upd H5 t (.tup [.int 0, .int 1])) t = some (.tup [.int 0, .int 1]) := upd_same
      generalize (upd H5 t (.tup [.int 0, .int 1])) = H6 at s6 ht6
      have hB6 := hB5.same s6
      have hx6 : Ap K H6 v5 d5 := (hd5.sm nw_same).sm s6
      refine ⟨v5, .ref t, d5, .tuple [.int 0, .int 1], rfl, hx6, .tup (SqT.of ht6) (.cons (.int 0) (.cons (.int 1) .nil)), fun a' e => ?_, odd_gq d5 hm5, gq_of (by decide +kernel), fun H7 k7 => ⟨true, rfl, ?_⟩⟩
      · rcases hx6 with ⟨a2, xs, ds, e2, _, ha, _⟩ | ⟨_, e2⟩
        · rw [e] at e2
          injection e2 with e2
          rw [← e2] at ha
          exact .inl (.tup (SqT.of (mask_at ht6 (ne_of ht6 ha (fun y => by cases y)))) (.cons (.int 0) (.cons (.int 1) .nil)))
        · exact .inr e2
      have keep : ∀ b, (∃ o, H4 b = some o) → v5 = .ref b → (Tg.dat d5).isL = false := by
        intro b hb e
        rcases hd5 with ⟨a2, xs, ds, e2, _, ha, _⟩ | ⟨_, e2⟩
        · rw [e] at e2
          injection e2 with e2
          rw [← e2] at ha
          obtain ⟨n, _⟩ := nw_inv ha
          obtain ⟨o, hb⟩ := hb
          rw [hb] at n
          cases n
        · exact e2
      exact ⟨⟨_, _, _, _, _, _, _, _, rfl⟩, bag_keep hB6 (fun o e => k7 g o (keep g hB4.at) e) (fun o e => k7 c o (keep c hB4.at2) e)⟩
    rintro σ H1 ⟨⟨y2, y3, y4, y5, y6, y7, y8, y9, rfl⟩, hB1⟩
    refine ⟨25, rfl, by decide, by decide, ?_⟩
    refine for_range (n := 25) (fun i σ H => (∃ (y2 y3 y4 y5 y6 y7 y8 y9 : Option V), σ = [some (.ref a), some (.ref g), y2, y3, y4, y5, y6, y7, y8, y9]) ∧ Bag H g c) ⟨⟨_, _, _, _, _, _, _, _, rfl⟩, hB1⟩ ?_ ?_
    · clear hB1 hB0 s0 ng nc H0 H1 hS hns q
      rintro i σ H0 hi ⟨⟨y2, y3, y4, y5, y6, y7, y8, y9, rfl⟩, hB0⟩
      refine ⟨by show 4 ≤ sizeLine; decide, fun p np => ?_⟩
      have s1 : Same H0 (upd H0 p (.lst [.str "ab", .str "abc", .str "a", .str "mxyz"])) := same_new np
      have hp1 : (upd H0 p (.lst [.str "ab", .str "abc", .str "a", .str "mxyz"])) p = some (.lst [.str "ab", .str "abc", .str "a", .str "mxyz"]) := upd_same
      generalize (upd H0 p (.lst [.str "ab", .str "abc", .str "a", .str "mxyz"])) = H1 at s1 hp1
      have hB1 := hB0.same s1
      have npg := hB0.ne np
      refine ⟨_, rfl, g, c, 4, rfl, hB1, by decide, by decide, fun H2 r hr2 hB2 b2 => ?_⟩
      have hall : ∀ r : Nat, r < 4 → ∃ z : Str, ([.str "ab", .str "abc", .str "a", .str "mxyz"] : List V)[r]? = some (.str z) ∧ z ∈ signTexts := by
        intro r hr
        match r, hr with
        | 0, _ => exact ⟨"ab", rfl, by unfold signTexts; simp⟩
        | 1, _ => exact ⟨"abc", rfl, by unfold signTexts; simp⟩
        | 2, _ => exact ⟨"a", rfl, by unfold signTexts; simp⟩
        | 3, _ => exact ⟨"mxyz", rfl, by unfold signTexts; simp⟩
      obtain ⟨z, ez, hz⟩ := hall r (by omega)
      obtain ⟨hz0, hz4, _⟩ := signTexts_ok z hz
      refine ⟨p, _, _, _, rfl, rfl, SqL.of (b2 _ _ npg hp1), atI_nat ez, ?_⟩
      clear s1 hp1 hB1 npg b2 hr2 ez hall np hB0 H0 H1
      -- a thing
      refine ⟨_, rfl, _, rfl, g, c, z, rfl, hB2, hz, fun H3 v hB3 b3 hg3 => ?_⟩
      refine ⟨_, rfl, g, c, 9, rfl, hB3, by decide, by decide, fun H4 m hm hB4 b4 => ⟨_, _, rfl, ?_⟩⟩
      obtain ⟨d, hd3, hf, hfl, hnd⟩ := hg3
      have hv : Tq0 K H4 v (.dat d) := Tq0.mk ((hd3.sm (nw_but hB2.at b4)).sm nw_same)
      clear hd3 b3 b4 hB3 hB2 H3 H2
      generalize ht : (Tg.dat d) = t at hv hf hfl hnd
      -- whole
      refine ⟨fun σ H => σ = [some (.ref a), some (.ref g), some (.int (0 + (i : Int))), some (.str z), some v, some (nV m), some (.bl t.isW), y7, y8, y9] ∧ H = H4, ?_, ?_⟩
      · obtain ⟨_, _, kc, kt, kk⟩ := hv.qI
        refine ⟨_, rfl, _, _, _, _, _, rfl, kc, kt, kk, _, rfl, ite2 (fun e => ?_) (fun e => ?_)⟩
        · obtain ⟨_, _, kc, kt, kk⟩ := hv.qB
          refine ⟨_, rfl, _, _, _, _, _, rfl, kc, kt, kk, _, rfl, ?_⟩
          have e2 : t.isW = !t.isB := by unfold Tg.isW; rw [e]; rfl
          rw [e2]
          exact ⟨rfl, rfl⟩
        · have e2 : t.isW = false := by
            unfold Tg.isW
            rw [Bool.eq_false_iff.mpr e]
            rfl
          rw [e2]
          exact ⟨rfl, rfl⟩
      rintro σ H ⟨rfl, rfl⟩
      have hso : ∀ H', Same H H' → StrOr K H' v (strOf t) := fun H' s => (hv.sm s).so hf
      -- due
      refine ⟨_, rfl, _, rfl, v, strOf t, rfl, hso H (fun _ _ z => z), fun H5 s5 => ?_⟩
      refine ⟨_, rfl, v, t, rfl, hv.sm s5, hf, fun H6 s6 => ?_⟩
      have s06 := s5.trans s6
      refine ⟨_, rfl, _, rfl, z, v, strOf t, rfl, hso _ s06, fun H7 s7 => ?_⟩
      have s07 := s06.trans s7
      refine ⟨_, rfl, _, rfl, z, v, t, rfl, hv.sm s07, hf, hfl, hnd, fun H8 s8 => ?_⟩
      have s08 := s07.trans s8
      refine ⟨by show 5 ≤ sizeLine; decide, fun pd npd => ?_⟩
      have s9 : Same H8 (upd H8 pd (.lst [.bl t.isW, .bl (nameO (strOf t)), .bl (sgQ t), .bl (textO z (strOf t)), .bl (mapQ z t)])) := same_new npd
      have hp9 : (upd H8 pd (.lst [.bl t.isW, .bl (nameO (strOf t)), .bl (sgQ t), .bl (textO z (strOf t)), .bl (mapQ z t)])) pd = some (.lst [.bl t.isW, .bl (nameO (strOf t)), .bl (sgQ t), .bl (textO z (strOf t)), .bl (mapQ z t)]) := upd_same
      generalize (upd H8 pd (.lst [.bl t.isW, .bl (nameO (strOf t)), .bl (sgQ t), .bl (textO z (strOf t)), .bl (mapQ z t)])) = H9 at s9 hp9
      have s09 := s08.trans s9
      have gpd : H pd = none := s08.free npd
      clear s5 s6 s7 s8 s9 s06 s07 s08 npd H5 H6 H7 H8
      -- the last due
      refine ⟨fun σ H' => σ = [some (.ref a), some (.ref g), some (.int (0 + (i : Int))), some (.str z), some v, some (nV m), some (.bl t.isW), some (.ref pd), y8, y9] ∧ H' = upd H9 pd (.lst ([.bl t.isW, .bl (nameO (strOf t)), .bl (sgQ t), .bl (textO z (strOf t)), .bl (mapQ z t)] ++ [.bl (numQ m t)])), ?_, ?_⟩
      · refine ⟨_, rfl, .inl ⟨rfl, _, SqL.of hp9⟩, _, rfl, _, rfl, ite2 (fun e => ?_) (fun e => ?_)⟩
        · obtain ⟨j, hj⟩ := Tg.isW_num e
          have hvj : v = .int j := by
            rw [hj] at hv
            exact hv.int
          have e2 : numQ m t = (decide (0 ≤ j) && decide (j < (m : Int))) := by rw [hj]; rfl
          rw [e2, hvj]
          refine ⟨_, rfl, _, _, rfl, rfl, _, rfl, ?_⟩
          by_cases h0 : (0 : Int) ≤ j
          · rw [decide_eq_true h0, Bool.true_and]
            refine ite2 (fun _ => ⟨_, rfl, _, _, rfl, rfl, ?_⟩) (fun z => absurd rfl z)
            exact ⟨pd, _, _, rfl, rfl, hp9, by show 5 < sizeLine; decide, rfl, rfl⟩
          · rw [decide_eq_false h0, Bool.false_and]
            refine ite2 (fun z => by cases z) (fun _ => ?_)
            exact ⟨pd, _, _, rfl, rfl, hp9, by show 5 < sizeLine; decide, rfl, rfl⟩
        · rw [numQ_isW (Bool.eq_false_iff.mpr e)]
          exact ⟨pd, _, _, rfl, rfl, hp9, by show 5 < sizeLine; decide, rfl, rfl⟩
      rintro σ H10 ⟨rfl, eH⟩
      have s010 : Same H H10 := fun b o e => by
        rw [eH, upd_ne (ne_of_none e gpd)]
        exact s09 _ _ e
      have hp10 : H10 pd = some (.lst ([t.isW, nameO (strOf t), sgQ t, textO z (strOf t), mapQ z t, numQ m t].map V.bl)) := by
        rw [eH, upd_same]
        rfl
      clear eH hp9 s09 gpd
      -- told
      refine ⟨_, rfl, v, t, rfl, hv.sm s010, ?_⟩
      refine ⟨_, rfl, v, strOf t, rfl, hso _ s010, fun H11 s11 => ?_⟩
      have s011 := s010.trans s11
      refine ⟨_, rfl, v, t, rfl, hv.sm s011, hf, fun H12 s12 => ?_⟩
      have s012 := s011.trans s12
      refine ⟨_, rfl, _, rfl, z, v, strOf t, rfl, hso _ s012, fun H13 s13 => ?_⟩
      have s013 := s012.trans s13
      refine ⟨_, rfl, _, rfl, z, v, t, rfl, hv.sm s013, hf, hfl, fun H14 s14 => ?_⟩
      have s014 := s013.trans s14
      refine ⟨by show 5 ≤ sizeLine; decide, fun pt npt => ?_⟩
      have s15 : Same H14 (upd H14 pt (.lst [.bl t.isW, .bl (nameO (strOf t)), .bl (sgQ t), .bl (textO z (strOf t)), .bl (mapQ z t)])) := same_new npt
      have hp15 : (upd H14 pt (.lst [.bl t.isW, .bl (nameO (strOf t)), .bl (sgQ t), .bl (textO z (strOf t)), .bl (mapQ z t)])) pt = some (.lst [.bl t.isW, .bl (nameO (strOf t)), .bl (sgQ t), .bl (textO z (strOf t)), .bl (mapQ z t)]) := upd_same
      generalize (upd H14 pt (.lst [.bl t.isW, .bl (nameO (strOf t)), .bl (sgQ t), .bl (textO z (strOf t)), .bl (mapQ z t)])) = H15 at s15 hp15
      have s015 := s014.trans s15
      have s1015 := (((s11.trans s12).trans s13).trans s14).trans s15
      refine ⟨_, rfl, _, rfl, _, rfl, m, v, t, rfl, hv.sm s015, by show 1 ≤ sizeLine; decide, fun l nl => ?_⟩
      have s16 : Same H15 (upd H15 l (.lst [.bl (numQ m t)])) := same_new nl
      have hl16 : (upd H15 l (.lst [.bl (numQ m t)])) l = some (.lst [.bl (numQ m t)]) := upd_same
      generalize (upd H15 l (.lst [.bl (numQ m t)])) = H16 at s16 hl16
      refine ⟨pt, l, _, _, rfl, rfl, s16 _ _ hp15, hl16, by show 5 + 1 ≤ sizeLine; decide, fun l2 nl2 => ?_⟩
      generalize hEq : upd H16 l2 _ = H17
      have s17 : Same H16 H17 := by
        rw [← hEq]
        exact same_new nl2
      have hl17 : H17 l2 = some (.lst ([t.isW, nameO (strOf t), sgQ t, textO z (strOf t), mapQ z t, numQ m t].map V.bl)) := by
        rw [← hEq, upd_same]
        rfl
      clear hEq
      have s1017 := (s1015.trans s16).trans s17
      have gb := gd_list (gdAll_bools [t.isW, nameO (strOf t), sgQ t, textO z (strOf t), mapQ z t, numQ m t])
      refine ⟨_, rfl, l2, pd, _, _, _, rfl, .lst (SqL.of hl17) (dpAll_bools _), .lst (SqL.of (s1017 _ _ hp10)) (dpAll_bools _), gb, by decide, by show 6 ≤ 100000; decide, true, rfl, ?_⟩
      have hB17 : Bag H17 g c := hB4.same ((s015.trans s16).trans s17)
      clear s11 s12 s13 s14 s15 s16 s17 s011 s012 s013 s014 s015 s1015 s1017 hp15 hl16 hl17 hp10 s010 npt nl nl2 gb hso hv hB4
      -- a text
      refine ⟨_, rfl, _, rfl, g, c, z, 6, rfl, hB17, hz0, by omega, by omega, fun H18 ds hB18 b18 dl dm => ?_⟩
      have hok := strOk_sub (sign_low z hz) dm
      have hT : (⟨ds.toArray⟩ : Str).cps.size ≤ 6 := by
        show ds.toArray.size ≤ 6
        rw [List.size_toArray]
        exact dl
      generalize (⟨ds.toArray⟩ : Str) = T at hT hok
      have hTl : T.length = T.cps.size := rfl
      refine ⟨_, rfl, T, rfl, by omega, fun p1 n1 => ?_⟩
      have s19 : Same H18 (upd H18 p1 (.tup [.int (T.length : Nat), .str T])) := same_new n1
      have hp19 : (upd H18 p1 (.tup [.int (T.length : Nat), .str T])) p1 = some (.tup [.int (T.length : Nat), .str T]) := upd_same
      generalize (upd H18 p1 (.tup [.int (T.length : Nat), .str T])) = H19 at s19 hp19
      refine ⟨_, rfl, T, rfl, szBigLe (by omega), _, rfl, by show 2 ≤ sizeLine; decide, fun p2 n2 => ?_⟩
      have s20 : Same H19 (upd H19 p2 (.tup [.int (T.length : Nat), .str T])) := same_new n2
      have hp20 : (upd H19 p2 (.tup [.int (T.length : Nat), .str T])) p2 = some (.tup [.int (T.length : Nat), .str T]) := upd_same
      generalize (upd H19 p2 (.tup [.int (T.length : Nat), .str T])) = H20 at s20 hp20
      have gt : Gd 1 (8 + 1 + (6 + 1 + 0)) (.tuple [.int (T.length : Nat), .str T]) := gd_tuple (gdAll_cons (gd_num (n := T.length) (by omega)) (gdAll_cons (gd_str hok hT) gdAll_nil))
      refine ⟨p1, p2, _, _, _, rfl, .tup (SqT.of (s20 _ _ hp19)) (.cons (.int _) (.cons (.str _) .nil)), .tup (SqT.of hp20) (.cons (.int _) (.cons (.str _) .nil)), gt, by decide, by decide, true, rfl, ?_⟩
      exact ⟨⟨_, _, _, _, _, _, _, _, rfl⟩, hB18.same (s19.trans s20)⟩
    · rintro σ H2 ⟨⟨z2, z3, z4, z5, z6, z7, z8, z9, rfl⟩, hB2⟩
      exact q H2
end
end K11

namespace K11
open PySem PySem.Spec PyProof.Rows L2 Rg Mach
theorem all_mk {l : PySem.W.OpenLaw} {w : World} {K : PySem.W.Frag} {h : Heap} {mg : Str → Option Value} {fa f4 f10 f6 f7 f8 f5 f9 f11 f33 f34 f35 f36 f37 f38 f39 f40 f41 f42 f43 f44 f45 f46 f47  : Addr} (X : K.In h) (G : h.Ns mainGlobals mg) (hfa : mg "law" = some (.ref fa))
    {od4 od10 od6 od7 od8 od5 od9 od11 od33 od34 od35 od36 od37 od38 od39 od40 od41 od42 od43 od44 od45 od46 od47 an4 an10 an6 an7 an8 an5 an9 an11 an33 an34 an35 an36 an37 an38 an39 an40 an41 an42 an43 an44 an45 an46 an47 : Option Addr} {sl4 sl10 sl6 sl7 sl8 sl5 sl9 sl11 sl33 sl34 sl35 sl36 sl37 sl38 sl39 sl40 sl41 sl42 sl43 sl44 sl45 sl46 sl47 : Array (Option Value)} {oc4 oc10 oc6 oc7 oc8 oc5 oc9 oc11 oc33 oc34 oc35 oc36 oc37 oc38 oc39 oc40 oc41 oc42 oc43 oc44 oc45 oc46 oc47 u_LETTERS u_MOST_SIGNS u_MOST_LETTERS kV4 kV10 kV6 kV7 kV8 kV5 kV9 kV11 kV33 kV34 kV35 kV36 kV37 kV38 kV39 kV40 kV41 kV42 kV43 kV44 kV45 kV46 kV47 dc4 dc10 dc6 dc7 dc8 dc5 dc9 dc11 dc33 dc34 dc35 dc36 dc37 dc38 dc39 dc40 dc41 dc42 dc43 dc44 dc45 dc46 dc47 pm4 pm10 pm6 pm7 pm8 pm5 pm9 pm11 pm33 pm34 pm35 pm36 pm37 pm38 pm39 pm40 pm41 pm42 pm43 pm44 pm45 pm46 pm47 cd4 cd10 cd6 cd7 cd8 cd5 cd9 cd11 cd33 cd34 cd35 cd36 cd37 cd38 cd39 cd40 cd41 cd42 cd43 cd44 cd45 cd46 cd47 ct4 ct10 ct6 ct7 ct8 ct5 ct9 ct11 ct33 ct34 ct35 ct36 ct37 ct38 ct39 ct40 ct41 ct42 ct43 ct44 ct45 ct46 ct47 : Value}  {ec0 ec1 ec2 ec3 ec4 ec5 ec6 ec7 ec8 ec9 ec10 ec11 ec12 ec13 ec14 ec15 ec16 ec17 TE : Addr} {cdD0 : ClassData} {fW0 cdaW0 ccW0 NW0 : Addr} {nmW0 qW0 fileW0 : Str} {bsW0 bmW0 subW0 : List Value} {snW0 : List Str} {abW0 : Bool} {colW0 : Option Bool} {ddW0 odW0 anW0 clV0 cdV0 : Option Addr} {k0W0 k1W0 k2W0 k3W0 k5W0 : Option Value} {ocW0 kVW0 dcW0 pmW0 ctW0 clW0 cdW0 : Value} {slW0 csW0 cdsW0 : Array (Option Value)} {vsW0 : Array Value} {tfW0 : Tok} {cdD1 : ClassData} {fW1 cdaW1 ccW1 NW1 : Addr} {nmW1 qW1 fileW1 : Str} {bsW1 bmW1 subW1 : List Value} {snW1 : List Str} {abW1 : Bool} {colW1 : Option Bool} {ddW1 odW1 anW1 clV1 cdV1 : Option Addr} {k0W1 k1W1 k2W1 k3W1 k5W1 : Option Value} {ocW1 kVW1 dcW1 pmW1 ctW1 clW1 cdW1 : Value} {slW1 csW1 cdsW1 : Array (Option Value)} {vsW1 : Array Value} {tfW1 : Tok} {cdD2 : ClassData} {fW2 cdaW2 ccW2 NW2 : Addr} {nmW2 qW2 fileW2 : Str} {bsW2 bmW2 subW2 : List Value} {snW2 : List Str} {abW2 : Bool} {colW2 : Option Bool} {ddW2 odW2 anW2 clV2 cdV2 : Option Addr} {k0W2 k1W2 k2W2 k3W2 k5W2 : Option Value} {ocW2 kVW2 dcW2 pmW2 ctW2 clW2 cdW2 : Value} {slW2 csW2 cdsW2 : Array (Option Value)} {vsW2 : Array Value} {tfW2 : Tok} {cdD3 : ClassData} {fW3 cdaW3 ccW3 NW3 : Addr} {nmW3 qW3 fileW3 : Str} {bsW3 bmW3 subW3 : List Value} {snW3 : List Str} {abW3 : Bool} {colW3 : Option Bool} {ddW3 odW3 anW3 clV3 cdV3 : Option Addr} {k0W3 k1W3 k2W3 k3W3 k5W3 : Option Value} {ocW3 kVW3 dcW3 pmW3 ctW3 clW3 cdW3 : Value} {slW3 csW3 cdsW3 : Array (Option Value)} {vsW3 : Array Value} {tfW3 : Tok} {cdD4 : ClassData} {fW4 cdaW4 ccW4 NW4 : Addr} {nmW4 qW4 fileW4 : Str} {bsW4 bmW4 subW4 : List Value} {snW4 : List Str} {abW4 : Bool} {colW4 : Option Bool} {ddW4 odW4 anW4 clV4 cdV4 : Option Addr} {k0W4 k1W4 k2W4 k3W4 k5W4 : Option Value} {ocW4 kVW4 dcW4 pmW4 ctW4 clW4 cdW4 : Value} {slW4 csW4 cdsW4 : Array (Option Value)} {vsW4 : Array Value} {tfW4 : Tok} {cdD5 : ClassData} {fW5 cdaW5 ccW5 NW5 : Addr} {nmW5 qW5 fileW5 : Str} {bsW5 bmW5 subW5 : List Value} {snW5 : List Str} {abW5 : Bool} {colW5 : Option Bool} {ddW5 odW5 anW5 clV5 cdV5 : Option Addr} {k0W5 k1W5 k2W5 k3W5 k5W5 : Option Value} {ocW5 kVW5 dcW5 pmW5 ctW5 clW5 cdW5 : Value} {slW5 csW5 cdsW5 : Array (Option Value)} {vsW5 : Array Value} {tfW5 : Tok} {cdD6 : ClassData} {fW6 cdaW6 ccW6 NW6 : Addr} {nmW6 qW6 fileW6 : Str} {bsW6 bmW6 subW6 : List Value} {snW6 : List Str} {abW6 : Bool} {colW6 : Option Bool} {ddW6 odW6 anW6 clV6 cdV6 : Option Addr} {k0W6 k1W6 k2W6 k3W6 k5W6 : Option Value} {ocW6 kVW6 dcW6 pmW6 ctW6 clW6 cdW6 : Value} {slW6 csW6 cdsW6 : Array (Option Value)} {vsW6 : Array Value} {tfW6 : Tok} {cdD7 : ClassData} {fW7 cdaW7 ccW7 NW7 : Addr} {nmW7 qW7 fileW7 : Str} {bsW7 bmW7 subW7 : List Value} {snW7 : List Str} {abW7 : Bool} {colW7 : Option Bool} {ddW7 odW7 anW7 clV7 cdV7 : Option Addr} {k0W7 k1W7 k2W7 k3W7 k5W7 : Option Value} {ocW7 kVW7 dcW7 pmW7 ctW7 clW7 cdW7 : Value} {slW7 csW7 cdsW7 : Array (Option Value)} {vsW7 : Array Value} {tfW7 : Tok} {cdD8 : ClassData} {fW8 cdaW8 ccW8 NW8 : Addr} {nmW8 qW8 fileW8 : Str} {bsW8 bmW8 subW8 : List Value} {snW8 : List Str} {abW8 : Bool} {colW8 : Option Bool} {ddW8 odW8 anW8 clV8 cdV8 : Option Addr} {k0W8 k1W8 k2W8 k3W8 k5W8 : Option Value} {ocW8 kVW8 dcW8 pmW8 ctW8 clW8 cdW8 : Value} {slW8 csW8 cdsW8 : Array (Option Value)} {vsW8 : Array Value} {tfW8 : Tok} {cdD9 : ClassData} {cdD10 : ClassData} {cdD11 : ClassData} {cdD12 : ClassData} {cdD13 : ClassData} {cdD14 : ClassData} {cdD15 : ClassData} {cdD16 : ClassData} {fW16 cdaW16 ccW16 NW16 : Addr} {nmW16 qW16 fileW16 : Str} {bsW16 bmW16 subW16 : List Value} {snW16 : List Str} {abW16 : Bool} {colW16 : Option Bool} {ddW16 odW16 anW16 clV16 cdV16 : Option Addr} {k0W16 k1W16 k2W16 k3W16 k5W16 : Option Value} {ocW16 kVW16 dcW16 pmW16 ctW16 clW16 cdW16 : Value} {slW16 csW16 cdsW16 : Array (Option Value)} {vsW16 : Array Value} {tfW16 : Tok} {cdD17 : ClassData} {fW17 cdaW17 ccW17 NW17 : Addr} {nmW17 qW17 fileW17 : Str} {bsW17 bmW17 subW17 : List Value} {snW17 : List Str} {abW17 : Bool} {colW17 : Option Bool} {ddW17 odW17 anW17 clV17 cdV17 : Option Addr} {k0W17 k1W17 k2W17 k3W17 k5W17 : Option Value} {ocW17 kVW17 dcW17 pmW17 ctW17 clW17 cdW17 : Value} {slW17 csW17 cdsW17 : Array (Option Value)} {vsW17 : Array Value} {tfW17 : Tok} {cdDT : ClassData}
    (a4 : PySem.W.nsIn K mainGlobals "is_integer" = some (some (.ref f4)))
    (l4 : K.lookup f4 = some ⟨oc4, od4, .func (PySem.W.fnOf "is_integer" "is_integer" (defArgs sIsInt) (defBody sIsInt) (defScope sIsInt) .none kV4 dc4 pm4 an4 cd4 ct4), sl4⟩)
    (c4 : PySem.W.codeIn K cd4 "is_integer" = true)
    (k4 : PySem.W.keepIn K (.ref f4) = true)
    (a10 : PySem.W.nsIn K mainGlobals "is_number" = some (some (.ref f10)))
    (l10 : K.lookup f10 = some ⟨oc10, od10, .func (PySem.W.fnOf "is_number" "is_number" (defArgs sIsNum) (defBody sIsNum) (defScope sIsNum) .none kV10 dc10 pm10 an10 cd10 ct10), sl10⟩)
    (c10 : PySem.W.codeIn K cd10 "is_number" = true)
    (k10 : PySem.W.keepIn K (.ref f10) = true)
    (a6 : PySem.W.nsIn K mainGlobals "is_signs" = some (some (.ref f6)))
    (l6 : K.lookup f6 = some ⟨oc6, od6, .func (PySem.W.fnOf "is_signs" "is_signs" (defArgs sIsSg) (defBody sIsSg) (defScope sIsSg) .none kV6 dc6 pm6 an6 cd6 ct6), sl6⟩)
    (c6 : PySem.W.codeIn K cd6 "is_signs" = true)
    (k6 : PySem.W.keepIn K (.ref f6) = true)
    (a7 : PySem.W.nsIn K mainGlobals "is_text" = some (some (.ref f7)))
    (l7 : K.lookup f7 = some ⟨oc7, od7, .func (PySem.W.fnOf "is_text" "is_text" (defArgs sIsText) (defBody sIsText) (defScope sIsText) .none kV7 dc7 pm7 an7 cd7 ct7), sl7⟩)
    (c7 : PySem.W.codeIn K cd7 "is_text" = true)
    (k7 : PySem.W.keepIn K (.ref f7) = true)
    (a8 : PySem.W.nsIn K mainGlobals "is_sign" = some (some (.ref f8)))
    (l8 : K.lookup f8 = some ⟨oc8, od8, .func (PySem.W.fnOf "is_sign" "is_sign" (defArgs sIsSign) (defBody sIsSign) (defScope sIsSign) .none kV8 dc8 pm8 an8 cd8 ct8), sl8⟩)
    (c8 : PySem.W.codeIn K cd8 "is_sign" = true)
    (k8 : PySem.W.keepIn K (.ref f8) = true)
    (a5 : PySem.W.nsIn K mainGlobals "is_name" = some (some (.ref f5)))
    (l5 : K.lookup f5 = some ⟨oc5, od5, .func (PySem.W.fnOf "is_name" "is_name" (defArgs sIsName) (defBody sIsName) (defScope sIsName) .none kV5 dc5 pm5 an5 cd5 ct5), sl5⟩)
    (c5 : PySem.W.codeIn K cd5 "is_name" = true)
    (k5 : PySem.W.keepIn K (.ref f5) = true)
    (a9 : PySem.W.nsIn K mainGlobals "is_map" = some (some (.ref f9)))
    (l9 : K.lookup f9 = some ⟨oc9, od9, .func (PySem.W.fnOf "is_map" "is_map" (defArgs sIsMap) (defBody sIsMap) (defScope sIsMap) .none kV9 dc9 pm9 an9 cd9 ct9), sl9⟩)
    (c9 : PySem.W.codeIn K cd9 "is_map" = true)
    (k9 : PySem.W.keepIn K (.ref f9) = true)
    (a11 : PySem.W.nsIn K mainGlobals "text_key" = some (some (.ref f11)))
    (l11 : K.lookup f11 = some ⟨oc11, od11, .func (PySem.W.fnOf "text_key" "text_key" (defArgs sTkey) (defBody sTkey) (defScope sTkey) .none kV11 dc11 pm11 an11 cd11 ct11), sl11⟩)
    (c11 : PySem.W.codeIn K cd11 "text_key" = true)
    (k11 : PySem.W.keepIn K (.ref f11) = true)
    (a33 : PySem.W.nsIn K mainGlobals "_law_bag" = some (some (.ref f33)))
    (l33 : K.lookup f33 = some ⟨oc33, od33, .func (PySem.W.fnOf "_law_bag" "_law_bag" (defArgs sBag) (defBody sBag) (defScope sBag) .none kV33 dc33 pm33 an33 cd33 ct33), sl33⟩)
    (c33 : PySem.W.codeIn K cd33 "_law_bag" = true)
    (k33 : PySem.W.keepIn K (.ref f33) = true)
    (a34 : PySem.W.nsIn K mainGlobals "_law_take" = some (some (.ref f34)))
    (l34 : K.lookup f34 = some ⟨oc34, od34, .func (PySem.W.fnOf "_law_take" "_law_take" (defArgs sTake) (defBody sTake) (defScope sTake) .none kV34 dc34 pm34 an34 cd34 ct34), sl34⟩)
    (c34 : PySem.W.codeIn K cd34 "_law_take" = true)
    (k34 : PySem.W.keepIn K (.ref f34) = true)
    (a35 : PySem.W.nsIn K mainGlobals "_law_alike" = some (some (.ref f35)))
    (l35 : K.lookup f35 = some ⟨oc35, od35, .func (PySem.W.fnOf "_law_alike" "_law_alike" (defArgs sAlk) (defBody sAlk) (defScope sAlk) .none kV35 dc35 pm35 an35 cd35 ct35), sl35⟩)
    (c35 : PySem.W.codeIn K cd35 "_law_alike" = true)
    (k35 : PySem.W.keepIn K (.ref f35) = true)
    (a36 : PySem.W.nsIn K mainGlobals "_law_odd" = some (some (.ref f36)))
    (l36 : K.lookup f36 = some ⟨oc36, od36, .func (PySem.W.fnOf "_law_odd" "_law_odd" (defArgs sOdd) (defBody sOdd) (defScope sOdd) .none kV36 dc36 pm36 an36 cd36 ct36), sl36⟩)
    (c36 : PySem.W.codeIn K cd36 "_law_odd" = true)
    (k36 : PySem.W.keepIn K (.ref f36) = true)
    (a37 : PySem.W.nsIn K mainGlobals "_law_text" = some (some (.ref f37)))
    (l37 : K.lookup f37 = some ⟨oc37, od37, .func (PySem.W.fnOf "_law_text" "_law_text" (defArgs sDrawn) (defBody sDrawn) (defScope sDrawn) .none kV37 dc37 pm37 an37 cd37 ct37), sl37⟩)
    (c37 : PySem.W.codeIn K cd37 "_law_text" = true)
    (k37 : PySem.W.keepIn K (.ref f37) = true)
    (a38 : PySem.W.nsIn K mainGlobals "_law_errors" = some (some (.ref f38)))
    (l38 : K.lookup f38 = some ⟨oc38, od38, .func (PySem.W.fnOf "_law_errors" "_law_errors" (defArgs sErrs) (defBody sErrs) (defScope sErrs) .none kV38 dc38 pm38 an38 cd38 ct38), sl38⟩)
    (c38 : PySem.W.codeIn K cd38 "_law_errors" = true)
    (k38 : PySem.W.keepIn K (.ref f38) = true)
    (a39 : PySem.W.nsIn K mainGlobals "_law_flags" = some (some (.ref f39)))
    (l39 : K.lookup f39 = some ⟨oc39, od39, .func (PySem.W.fnOf "_law_flags" "_law_flags" (defArgs sFlags) (defBody sFlags) (defScope sFlags) .none kV39 dc39 pm39 an39 cd39 ct39), sl39⟩)
    (c39 : PySem.W.codeIn K cd39 "_law_flags" = true)
    (k39 : PySem.W.keepIn K (.ref f39) = true)
    (a40 : PySem.W.nsIn K mainGlobals "_law_errors_right" = some (some (.ref f40)))
    (l40 : K.lookup f40 = some ⟨oc40, od40, .func (PySem.W.fnOf "_law_errors_right" "_law_errors_right" (defArgs sER) (defBody sER) (defScope sER) .none kV40 dc40 pm40 an40 cd40 ct40), sl40⟩)
    (c40 : PySem.W.codeIn K cd40 "_law_errors_right" = true)
    (k40 : PySem.W.keepIn K (.ref f40) = true)
    (a41 : PySem.W.nsIn K mainGlobals "_law_mixed" = some (some (.ref f41)))
    (l41 : K.lookup f41 = some ⟨oc41, od41, .func (PySem.W.fnOf "_law_mixed" "_law_mixed" (defArgs sMixed) (defBody sMixed) (defScope sMixed) .none kV41 dc41 pm41 an41 cd41 ct41), sl41⟩)
    (c41 : PySem.W.codeIn K cd41 "_law_mixed" = true)
    (k41 : PySem.W.keepIn K (.ref f41) = true)
    (a42 : PySem.W.nsIn K mainGlobals "_law_is_name" = some (some (.ref f42)))
    (l42 : K.lookup f42 = some ⟨oc42, od42, .func (PySem.W.fnOf "_law_is_name" "_law_is_name" (defArgs sLName) (defBody sLName) (defScope sLName) .none kV42 dc42 pm42 an42 cd42 ct42), sl42⟩)
    (c42 : PySem.W.codeIn K cd42 "_law_is_name" = true)
    (k42 : PySem.W.keepIn K (.ref f42) = true)
    (a43 : PySem.W.nsIn K mainGlobals "_law_is_signs" = some (some (.ref f43)))
    (l43 : K.lookup f43 = some ⟨oc43, od43, .func (PySem.W.fnOf "_law_is_signs" "_law_is_signs" (defArgs sLSg) (defBody sLSg) (defScope sLSg) .none kV43 dc43 pm43 an43 cd43 ct43), sl43⟩)
    (c43 : PySem.W.codeIn K cd43 "_law_is_signs" = true)
    (k43 : PySem.W.keepIn K (.ref f43) = true)
    (a44 : PySem.W.nsIn K mainGlobals "_law_is_text" = some (some (.ref f44)))
    (l44 : K.lookup f44 = some ⟨oc44, od44, .func (PySem.W.fnOf "_law_is_text" "_law_is_text" (defArgs sLText) (defBody sLText) (defScope sLText) .none kV44 dc44 pm44 an44 cd44 ct44), sl44⟩)
    (c44 : PySem.W.codeIn K cd44 "_law_is_text" = true)
    (k44 : PySem.W.keepIn K (.ref f44) = true)
    (a45 : PySem.W.nsIn K mainGlobals "_law_is_map" = some (some (.ref f45)))
    (l45 : K.lookup f45 = some ⟨oc45, od45, .func (PySem.W.fnOf "_law_is_map" "_law_is_map" (defArgs sLMap) (defBody sLMap) (defScope sLMap) .none kV45 dc45 pm45 an45 cd45 ct45), sl45⟩)
    (c45 : PySem.W.codeIn K cd45 "_law_is_map" = true)
    (k45 : PySem.W.keepIn K (.ref f45) = true)
    (a46 : PySem.W.nsIn K mainGlobals "_law_thing" = some (some (.ref f46)))
    (l46 : K.lookup f46 = some ⟨oc46, od46, .func (PySem.W.fnOf "_law_thing" "_law_thing" (defArgs sThing) (defBody sThing) (defScope sThing) .none kV46 dc46 pm46 an46 cd46 ct46), sl46⟩)
    (c46 : PySem.W.codeIn K cd46 "_law_thing" = true)
    (k46 : PySem.W.keepIn K (.ref f46) = true)
    (a47 : PySem.W.nsIn K mainGlobals "law" = some (some (.ref f47)))
    (l47 : K.lookup f47 = some ⟨oc47, od47, .func (PySem.W.fnOf "law" "law" (defArgs sLaw) (defBody sLaw) (defScope sLaw) .none kV47 dc47 pm47 an47 cd47 ct47), sl47⟩)
    (c47 : PySem.W.codeIn K cd47 "law" = true)
    (k47 : PySem.W.keepIn K (.ref f47) = true)
    (hn : PySem.W.specialIn K (.builtin "object.__class__") "__get__" = some (some (.builtin "getset_descriptor.__get__")))
    (ht : PySem.W.takesIn K (.builtin "object.__class__") = some true)
    (w21 : PySem.W.nsIn K cStatics "thirdparty.any" = some none)
    (w22 : PySem.W.nsIn K mainGlobals "super" = some none)
    (w23 : (l.prog.main.scope.names.lookup ("super" : Str)).isSome = false)
    (n0_ : PySem.W.nsIn K mainGlobals "Wrong" = some (some (.ref ec0)))
    (k0_ : PySem.W.keepIn K (.ref ec0) = true)
    (b0_ : PySem.W.subIn K (.ref ec0) (.type "BaseException") = some true)
    (t0_ : PySem.W.typeIn K (.ref ec0) = some (.type "type"))
    (g0_ : PySem.W.findIn K (.ref ec0) "__getattribute__" = some (some (.builtin "BaseException.__getattribute__")))
    (h0_ : PySem.W.findIn K (.ref ec0) "__getattr__" = some none)
    (d0_ : PySem.W.hasDictIn K ec0 = true)
    (c0_ : PySem.W.findIn K (.ref ec0) "__class__" = some (some (.builtin "object.__class__")))
    (o0_ : PySem.W.mroIn K ec0 (.type "object") = some true)
    (D0_ : PySem.W.clsIn K ec0 = some cdD0)
    (M0_ : cdD0.mro = [.ref ec0, .ref TE, .type "ValueError", .type "Exception", .type "BaseException", .type "object"])
    (w2_0 : K.lookup ec0 = some (excClassObj nmW0 qW0 ec0 NW0 bsW0 bmW0 true snW0 subW0 abW0 colW0 ddW0 k0W0 k1W0 k2W0 k3W0 k5W0 "ValueError.__new__"))
    (w3_0 : HandSPX.refsVE bmW0 = true)
    (w4_0 : PySem.W.findIn K (.ref ec0) "__setattr__" = some (some (.builtin "object.__setattr__")))
    (w8_0_0 : PySem.W.findIn K (.ref ec0) "place" = some none)
    (w9_0 : PySem.W.findIn K (.ref ec0) "__init__" = some (some (.ref fW0)))
    (w10_0 : PySem.W.typeIn K (.ref fW0) = some (.type "function"))
    (w11_0 : K.lookup fW0 = some ⟨ocW0, odW0, .func (PySem.W.ksFn "__init__" "Wrong.__init__" (defArgs sE0) (defBody sE0) (defScope sE0) .none kVW0 dcW0 pmW0 anW0 (.ref cdaW0) ctW0 ccW0), slW0⟩)
    (w12_0 : PySem.W.codeIn K (.ref cdaW0) "Wrong.__init__" = true)
    (w13_0 : K.lookup cdaW0 = some ⟨cdW0, cdV0, .fields vsW0, cdsW0⟩)
    (w14_0 : vsW0[2]? = some (.str fileW0 tfW0))
    (w15_0 : ((l.prog.main.file : Str) == fileW0) = true)
    (w16_0 : K.lookup ccW0 = some ⟨clW0, clV0, .cell (some (.ref ec0)), csW0⟩)
    (w18_0 : PySem.W.mroIn K ec0 (.ref ec0) = some true)
    (w19_0 : PySem.W.ks_superIn K ec0 ec0 "__init__" = some (some (.builtin "ValueError.__init__")))
    (w20_0 : PySem.W.subIn K (.ref ec0) (.type "ValueError") = some true)
    (n1_ : PySem.W.nsIn K mainGlobals "NoItem" = some (some (.ref ec1)))
    (k1_ : PySem.W.keepIn K (.ref ec1) = true)
    (b1_ : PySem.W.subIn K (.ref ec1) (.type "BaseException") = some true)
    (t1_ : PySem.W.typeIn K (.ref ec1) = some (.type "type"))
    (g1_ : PySem.W.findIn K (.ref ec1) "__getattribute__" = some (some (.builtin "BaseException.__getattribute__")))
    (h1_ : PySem.W.findIn K (.ref ec1) "__getattr__" = some none)
    (d1_ : PySem.W.hasDictIn K ec1 = true)
    (c1_ : PySem.W.findIn K (.ref ec1) "__class__" = some (some (.builtin "object.__class__")))
    (o1_ : PySem.W.mroIn K ec1 (.type "object") = some true)
    (D1_ : PySem.W.clsIn K ec1 = some cdD1)
    (M1_ : cdD1.mro = [.ref ec1, .ref TE, .type "ValueError", .type "Exception", .type "BaseException", .type "object"])
    (w2_1 : K.lookup ec1 = some (excClassObj nmW1 qW1 ec1 NW1 bsW1 bmW1 true snW1 subW1 abW1 colW1 ddW1 k0W1 k1W1 k2W1 k3W1 k5W1 "ValueError.__new__"))
    (w3_1 : HandSPX.refsVE bmW1 = true)
    (w4_1 : PySem.W.findIn K (.ref ec1) "__setattr__" = some (some (.builtin "object.__setattr__")))
    (w8_1_0 : PySem.W.findIn K (.ref ec1) "at" = some none)
    (w9_1 : PySem.W.findIn K (.ref ec1) "__init__" = some (some (.ref fW1)))
    (w10_1 : PySem.W.typeIn K (.ref fW1) = some (.type "function"))
    (w11_1 : K.lookup fW1 = some ⟨ocW1, odW1, .func (PySem.W.ksFn "__init__" "NoItem.__init__" (defArgs sE1) (defBody sE1) (defScope sE1) .none kVW1 dcW1 pmW1 anW1 (.ref cdaW1) ctW1 ccW1), slW1⟩)
    (w12_1 : PySem.W.codeIn K (.ref cdaW1) "NoItem.__init__" = true)
    (w13_1 : K.lookup cdaW1 = some ⟨cdW1, cdV1, .fields vsW1, cdsW1⟩)
    (w14_1 : vsW1[2]? = some (.str fileW1 tfW1))
    (w15_1 : ((l.prog.main.file : Str) == fileW1) = true)
    (w16_1 : K.lookup ccW1 = some ⟨clW1, clV1, .cell (some (.ref ec1)), csW1⟩)
    (w18_1 : PySem.W.mroIn K ec1 (.ref ec1) = some true)
    (w19_1 : PySem.W.ks_superIn K ec1 ec1 "__init__" = some (some (.builtin "ValueError.__init__")))
    (w20_1 : PySem.W.subIn K (.ref ec1) (.type "ValueError") = some true)
    (n2_ : PySem.W.nsIn K mainGlobals "BadSet" = some (some (.ref ec2)))
    (k2_ : PySem.W.keepIn K (.ref ec2) = true)
    (b2_ : PySem.W.subIn K (.ref ec2) (.type "BaseException") = some true)
    (t2_ : PySem.W.typeIn K (.ref ec2) = some (.type "type"))
    (g2_ : PySem.W.findIn K (.ref ec2) "__getattribute__" = some (some (.builtin "BaseException.__getattribute__")))
    (h2_ : PySem.W.findIn K (.ref ec2) "__getattr__" = some none)
    (d2_ : PySem.W.hasDictIn K ec2 = true)
    (c2_ : PySem.W.findIn K (.ref ec2) "__class__" = some (some (.builtin "object.__class__")))
    (o2_ : PySem.W.mroIn K ec2 (.type "object") = some true)
    (D2_ : PySem.W.clsIn K ec2 = some cdD2)
    (M2_ : cdD2.mro = [.ref ec2, .ref TE, .type "ValueError", .type "Exception", .type "BaseException", .type "object"])
    (w2_2 : K.lookup ec2 = some (excClassObj nmW2 qW2 ec2 NW2 bsW2 bmW2 true snW2 subW2 abW2 colW2 ddW2 k0W2 k1W2 k2W2 k3W2 k5W2 "ValueError.__new__"))
    (w3_2 : HandSPX.refsVE bmW2 = true)
    (w4_2 : PySem.W.findIn K (.ref ec2) "__setattr__" = some (some (.builtin "object.__setattr__")))
    (w8_2_0 : PySem.W.findIn K (.ref ec2) "name" = some none)
    (w9_2 : PySem.W.findIn K (.ref ec2) "__init__" = some (some (.ref fW2)))
    (w10_2 : PySem.W.typeIn K (.ref fW2) = some (.type "function"))
    (w11_2 : K.lookup fW2 = some ⟨ocW2, odW2, .func (PySem.W.ksFn "__init__" "BadSet.__init__" (defArgs sE2) (defBody sE2) (defScope sE2) .none kVW2 dcW2 pmW2 anW2 (.ref cdaW2) ctW2 ccW2), slW2⟩)
    (w12_2 : PySem.W.codeIn K (.ref cdaW2) "BadSet.__init__" = true)
    (w13_2 : K.lookup cdaW2 = some ⟨cdW2, cdV2, .fields vsW2, cdsW2⟩)
    (w14_2 : vsW2[2]? = some (.str fileW2 tfW2))
    (w15_2 : ((l.prog.main.file : Str) == fileW2) = true)
    (w16_2 : K.lookup ccW2 = some ⟨clW2, clV2, .cell (some (.ref ec2)), csW2⟩)
    (w18_2 : PySem.W.mroIn K ec2 (.ref ec2) = some true)
    (w19_2 : PySem.W.ks_superIn K ec2 ec2 "__init__" = some (some (.builtin "ValueError.__init__")))
    (w20_2 : PySem.W.subIn K (.ref ec2) (.type "ValueError") = some true)
    (n3_ : PySem.W.nsIn K mainGlobals "Unknown" = some (some (.ref ec3)))
    (k3_ : PySem.W.keepIn K (.ref ec3) = true)
    (b3_ : PySem.W.subIn K (.ref ec3) (.type "BaseException") = some true)
    (t3_ : PySem.W.typeIn K (.ref ec3) = some (.type "type"))
    (g3_ : PySem.W.findIn K (.ref ec3) "__getattribute__" = some (some (.builtin "BaseException.__getattribute__")))
    (h3_ : PySem.W.findIn K (.ref ec3) "__getattr__" = some none)
    (d3_ : PySem.W.hasDictIn K ec3 = true)
    (c3_ : PySem.W.findIn K (.ref ec3) "__class__" = some (some (.builtin "object.__class__")))
    (o3_ : PySem.W.mroIn K ec3 (.type "object") = some true)
    (D3_ : PySem.W.clsIn K ec3 = some cdD3)
    (M3_ : cdD3.mro = [.ref ec3, .ref TE, .type "ValueError", .type "Exception", .type "BaseException", .type "object"])
    (w2_3 : K.lookup ec3 = some (excClassObj nmW3 qW3 ec3 NW3 bsW3 bmW3 true snW3 subW3 abW3 colW3 ddW3 k0W3 k1W3 k2W3 k3W3 k5W3 "ValueError.__new__"))
    (w3_3 : HandSPX.refsVE bmW3 = true)
    (w4_3 : PySem.W.findIn K (.ref ec3) "__setattr__" = some (some (.builtin "object.__setattr__")))
    (w8_3_0 : PySem.W.findIn K (.ref ec3) "name" = some none)
    (w9_3 : PySem.W.findIn K (.ref ec3) "__init__" = some (some (.ref fW3)))
    (w10_3 : PySem.W.typeIn K (.ref fW3) = some (.type "function"))
    (w11_3 : K.lookup fW3 = some ⟨ocW3, odW3, .func (PySem.W.ksFn "__init__" "Unknown.__init__" (defArgs sE3) (defBody sE3) (defScope sE3) .none kVW3 dcW3 pmW3 anW3 (.ref cdaW3) ctW3 ccW3), slW3⟩)
    (w12_3 : PySem.W.codeIn K (.ref cdaW3) "Unknown.__init__" = true)
    (w13_3 : K.lookup cdaW3 = some ⟨cdW3, cdV3, .fields vsW3, cdsW3⟩)
    (w14_3 : vsW3[2]? = some (.str fileW3 tfW3))
    (w15_3 : ((l.prog.main.file : Str) == fileW3) = true)
    (w16_3 : K.lookup ccW3 = some ⟨clW3, clV3, .cell (some (.ref ec3)), csW3⟩)
    (w18_3 : PySem.W.mroIn K ec3 (.ref ec3) = some true)
    (w19_3 : PySem.W.ks_superIn K ec3 ec3 "__init__" = some (some (.builtin "ValueError.__init__")))
    (w20_3 : PySem.W.subIn K (.ref ec3) (.type "ValueError") = some true)
    (n4_ : PySem.W.nsIn K mainGlobals "TooMany" = some (some (.ref ec4)))
    (k4_ : PySem.W.keepIn K (.ref ec4) = true)
    (b4_ : PySem.W.subIn K (.ref ec4) (.type "BaseException") = some true)
    (t4_ : PySem.W.typeIn K (.ref ec4) = some (.type "type"))
    (g4_ : PySem.W.findIn K (.ref ec4) "__getattribute__" = some (some (.builtin "BaseException.__getattribute__")))
    (h4_ : PySem.W.findIn K (.ref ec4) "__getattr__" = some none)
    (d4_ : PySem.W.hasDictIn K ec4 = true)
    (c4_ : PySem.W.findIn K (.ref ec4) "__class__" = some (some (.builtin "object.__class__")))
    (o4_ : PySem.W.mroIn K ec4 (.type "object") = some true)
    (D4_ : PySem.W.clsIn K ec4 = some cdD4)
    (M4_ : cdD4.mro = [.ref ec4, .ref TE, .type "ValueError", .type "Exception", .type "BaseException", .type "object"])
    (w2_4 : K.lookup ec4 = some (excClassObj nmW4 qW4 ec4 NW4 bsW4 bmW4 true snW4 subW4 abW4 colW4 ddW4 k0W4 k1W4 k2W4 k3W4 k5W4 "ValueError.__new__"))
    (w3_4 : HandSPX.refsVE bmW4 = true)
    (w4_4 : PySem.W.findIn K (.ref ec4) "__setattr__" = some (some (.builtin "object.__setattr__")))
    (w8_4_0 : PySem.W.findIn K (.ref ec4) "limit" = some none)
    (w9_4 : PySem.W.findIn K (.ref ec4) "__init__" = some (some (.ref fW4)))
    (w10_4 : PySem.W.typeIn K (.ref fW4) = some (.type "function"))
    (w11_4 : K.lookup fW4 = some ⟨ocW4, odW4, .func (PySem.W.ksFn "__init__" "TooMany.__init__" (defArgs sE4) (defBody sE4) (defScope sE4) .none kVW4 dcW4 pmW4 anW4 (.ref cdaW4) ctW4 ccW4), slW4⟩)
    (w12_4 : PySem.W.codeIn K (.ref cdaW4) "TooMany.__init__" = true)
    (w13_4 : K.lookup cdaW4 = some ⟨cdW4, cdV4, .fields vsW4, cdsW4⟩)
    (w14_4 : vsW4[2]? = some (.str fileW4 tfW4))
    (w15_4 : ((l.prog.main.file : Str) == fileW4) = true)
    (w16_4 : K.lookup ccW4 = some ⟨clW4, clV4, .cell (some (.ref ec4)), csW4⟩)
    (w18_4 : PySem.W.mroIn K ec4 (.ref ec4) = some true)
    (w19_4 : PySem.W.ks_superIn K ec4 ec4 "__init__" = some (some (.builtin "ValueError.__init__")))
    (w20_4 : PySem.W.subIn K (.ref ec4) (.type "ValueError") = some true)
    (n5_ : PySem.W.nsIn K mainGlobals "Broken" = some (some (.ref ec5)))
    (k5_ : PySem.W.keepIn K (.ref ec5) = true)
    (b5_ : PySem.W.subIn K (.ref ec5) (.type "BaseException") = some true)
    (t5_ : PySem.W.typeIn K (.ref ec5) = some (.type "type"))
    (g5_ : PySem.W.findIn K (.ref ec5) "__getattribute__" = some (some (.builtin "BaseException.__getattribute__")))
    (h5_ : PySem.W.findIn K (.ref ec5) "__getattr__" = some none)
    (d5_ : PySem.W.hasDictIn K ec5 = true)
    (c5_ : PySem.W.findIn K (.ref ec5) "__class__" = some (some (.builtin "object.__class__")))
    (o5_ : PySem.W.mroIn K ec5 (.type "object") = some true)
    (D5_ : PySem.W.clsIn K ec5 = some cdD5)
    (M5_ : cdD5.mro = [.ref ec5, .ref TE, .type "ValueError", .type "Exception", .type "BaseException", .type "object"])
    (w2_5 : K.lookup ec5 = some (excClassObj nmW5 qW5 ec5 NW5 bsW5 bmW5 true snW5 subW5 abW5 colW5 ddW5 k0W5 k1W5 k2W5 k3W5 k5W5 "ValueError.__new__"))
    (w3_5 : HandSPX.refsVE bmW5 = true)
    (w4_5 : PySem.W.findIn K (.ref ec5) "__setattr__" = some (some (.builtin "object.__setattr__")))
    (w8_5_0 : PySem.W.findIn K (.ref ec5) "at" = some none)
    (w9_5 : PySem.W.findIn K (.ref ec5) "__init__" = some (some (.ref fW5)))
    (w10_5 : PySem.W.typeIn K (.ref fW5) = some (.type "function"))
    (w11_5 : K.lookup fW5 = some ⟨ocW5, odW5, .func (PySem.W.ksFn "__init__" "Broken.__init__" (defArgs sE5) (defBody sE5) (defScope sE5) .none kVW5 dcW5 pmW5 anW5 (.ref cdaW5) ctW5 ccW5), slW5⟩)
    (w12_5 : PySem.W.codeIn K (.ref cdaW5) "Broken.__init__" = true)
    (w13_5 : K.lookup cdaW5 = some ⟨cdW5, cdV5, .fields vsW5, cdsW5⟩)
    (w14_5 : vsW5[2]? = some (.str fileW5 tfW5))
    (w15_5 : ((l.prog.main.file : Str) == fileW5) = true)
    (w16_5 : K.lookup ccW5 = some ⟨clW5, clV5, .cell (some (.ref ec5)), csW5⟩)
    (w18_5 : PySem.W.mroIn K ec5 (.ref ec5) = some true)
    (w19_5 : PySem.W.ks_superIn K ec5 ec5 "__init__" = some (some (.builtin "ValueError.__init__")))
    (w20_5 : PySem.W.subIn K (.ref ec5) (.type "ValueError") = some true)
    (n6_ : PySem.W.nsIn K mainGlobals "Full" = some (some (.ref ec6)))
    (k6_ : PySem.W.keepIn K (.ref ec6) = true)
    (b6_ : PySem.W.subIn K (.ref ec6) (.type "BaseException") = some true)
    (t6_ : PySem.W.typeIn K (.ref ec6) = some (.type "type"))
    (g6_ : PySem.W.findIn K (.ref ec6) "__getattribute__" = some (some (.builtin "BaseException.__getattribute__")))
    (h6_ : PySem.W.findIn K (.ref ec6) "__getattr__" = some none)
    (d6_ : PySem.W.hasDictIn K ec6 = true)
    (c6_ : PySem.W.findIn K (.ref ec6) "__class__" = some (some (.builtin "object.__class__")))
    (o6_ : PySem.W.mroIn K ec6 (.type "object") = some true)
    (D6_ : PySem.W.clsIn K ec6 = some cdD6)
    (M6_ : cdD6.mro = [.ref ec6, .ref TE, .type "ValueError", .type "Exception", .type "BaseException", .type "object"])
    (w2_6 : K.lookup ec6 = some (excClassObj nmW6 qW6 ec6 NW6 bsW6 bmW6 true snW6 subW6 abW6 colW6 ddW6 k0W6 k1W6 k2W6 k3W6 k5W6 "ValueError.__new__"))
    (w3_6 : HandSPX.refsVE bmW6 = true)
    (w4_6 : PySem.W.findIn K (.ref ec6) "__setattr__" = some (some (.builtin "object.__setattr__")))
    (w8_6_0 : PySem.W.findIn K (.ref ec6) "limit" = some none)
    (w9_6 : PySem.W.findIn K (.ref ec6) "__init__" = some (some (.ref fW6)))
    (w10_6 : PySem.W.typeIn K (.ref fW6) = some (.type "function"))
    (w11_6 : K.lookup fW6 = some ⟨ocW6, odW6, .func (PySem.W.ksFn "__init__" "Full.__init__" (defArgs sE6) (defBody sE6) (defScope sE6) .none kVW6 dcW6 pmW6 anW6 (.ref cdaW6) ctW6 ccW6), slW6⟩)
    (w12_6 : PySem.W.codeIn K (.ref cdaW6) "Full.__init__" = true)
    (w13_6 : K.lookup cdaW6 = some ⟨cdW6, cdV6, .fields vsW6, cdsW6⟩)
    (w14_6 : vsW6[2]? = some (.str fileW6 tfW6))
    (w15_6 : ((l.prog.main.file : Str) == fileW6) = true)
    (w16_6 : K.lookup ccW6 = some ⟨clW6, clV6, .cell (some (.ref ec6)), csW6⟩)
    (w18_6 : PySem.W.mroIn K ec6 (.ref ec6) = some true)
    (w19_6 : PySem.W.ks_superIn K ec6 ec6 "__init__" = some (some (.builtin "ValueError.__init__")))
    (w20_6 : PySem.W.subIn K (.ref ec6) (.type "ValueError") = some true)
    (n7_ : PySem.W.nsIn K mainGlobals "Refused" = some (some (.ref ec7)))
    (k7_ : PySem.W.keepIn K (.ref ec7) = true)
    (b7_ : PySem.W.subIn K (.ref ec7) (.type "BaseException") = some true)
    (t7_ : PySem.W.typeIn K (.ref ec7) = some (.type "type"))
    (g7_ : PySem.W.findIn K (.ref ec7) "__getattribute__" = some (some (.builtin "BaseException.__getattribute__")))
    (h7_ : PySem.W.findIn K (.ref ec7) "__getattr__" = some none)
    (d7_ : PySem.W.hasDictIn K ec7 = true)
    (c7_ : PySem.W.findIn K (.ref ec7) "__class__" = some (some (.builtin "object.__class__")))
    (o7_ : PySem.W.mroIn K ec7 (.type "object") = some true)
    (D7_ : PySem.W.clsIn K ec7 = some cdD7)
    (M7_ : cdD7.mro = [.ref ec7, .ref TE, .type "ValueError", .type "Exception", .type "BaseException", .type "object"])
    (w2_7 : K.lookup ec7 = some (excClassObj nmW7 qW7 ec7 NW7 bsW7 bmW7 true snW7 subW7 abW7 colW7 ddW7 k0W7 k1W7 k2W7 k3W7 k5W7 "ValueError.__new__"))
    (w3_7 : HandSPX.refsVE bmW7 = true)
    (w4_7 : PySem.W.findIn K (.ref ec7) "__setattr__" = some (some (.builtin "object.__setattr__")))
    (w8_7_0 : PySem.W.findIn K (.ref ec7) "deed" = some none)
    (w9_7 : PySem.W.findIn K (.ref ec7) "__init__" = some (some (.ref fW7)))
    (w10_7 : PySem.W.typeIn K (.ref fW7) = some (.type "function"))
    (w11_7 : K.lookup fW7 = some ⟨ocW7, odW7, .func (PySem.W.ksFn "__init__" "Refused.__init__" (defArgs sE7) (defBody sE7) (defScope sE7) .none kVW7 dcW7 pmW7 anW7 (.ref cdaW7) ctW7 ccW7), slW7⟩)
    (w12_7 : PySem.W.codeIn K (.ref cdaW7) "Refused.__init__" = true)
    (w13_7 : K.lookup cdaW7 = some ⟨cdW7, cdV7, .fields vsW7, cdsW7⟩)
    (w14_7 : vsW7[2]? = some (.str fileW7 tfW7))
    (w15_7 : ((l.prog.main.file : Str) == fileW7) = true)
    (w16_7 : K.lookup ccW7 = some ⟨clW7, clV7, .cell (some (.ref ec7)), csW7⟩)
    (w18_7 : PySem.W.mroIn K ec7 (.ref ec7) = some true)
    (w19_7 : PySem.W.ks_superIn K ec7 ec7 "__init__" = some (some (.builtin "ValueError.__init__")))
    (w20_7 : PySem.W.subIn K (.ref ec7) (.type "ValueError") = some true)
    (n8_ : PySem.W.nsIn K mainGlobals "NoEntry" = some (some (.ref ec8)))
    (k8_ : PySem.W.keepIn K (.ref ec8) = true)
    (b8_ : PySem.W.subIn K (.ref ec8) (.type "BaseException") = some true)
    (t8_ : PySem.W.typeIn K (.ref ec8) = some (.type "type"))
    (g8_ : PySem.W.findIn K (.ref ec8) "__getattribute__" = some (some (.builtin "BaseException.__getattribute__")))
    (h8_ : PySem.W.findIn K (.ref ec8) "__getattr__" = some none)
    (d8_ : PySem.W.hasDictIn K ec8 = true)
    (c8_ : PySem.W.findIn K (.ref ec8) "__class__" = some (some (.builtin "object.__class__")))
    (o8_ : PySem.W.mroIn K ec8 (.type "object") = some true)
    (D8_ : PySem.W.clsIn K ec8 = some cdD8)
    (M8_ : cdD8.mro = [.ref ec8, .ref TE, .type "ValueError", .type "Exception", .type "BaseException", .type "object"])
    (w2_8 : K.lookup ec8 = some (excClassObj nmW8 qW8 ec8 NW8 bsW8 bmW8 true snW8 subW8 abW8 colW8 ddW8 k0W8 k1W8 k2W8 k3W8 k5W8 "ValueError.__new__"))
    (w3_8 : HandSPX.refsVE bmW8 = true)
    (w4_8 : PySem.W.findIn K (.ref ec8) "__setattr__" = some (some (.builtin "object.__setattr__")))
    (w8_8_0 : PySem.W.findIn K (.ref ec8) "at" = some none)
    (w9_8 : PySem.W.findIn K (.ref ec8) "__init__" = some (some (.ref fW8)))
    (w10_8 : PySem.W.typeIn K (.ref fW8) = some (.type "function"))
    (w11_8 : K.lookup fW8 = some ⟨ocW8, odW8, .func (PySem.W.ksFn "__init__" "NoEntry.__init__" (defArgs sE8) (defBody sE8) (defScope sE8) .none kVW8 dcW8 pmW8 anW8 (.ref cdaW8) ctW8 ccW8), slW8⟩)
    (w12_8 : PySem.W.codeIn K (.ref cdaW8) "NoEntry.__init__" = true)
    (w13_8 : K.lookup cdaW8 = some ⟨cdW8, cdV8, .fields vsW8, cdsW8⟩)
    (w14_8 : vsW8[2]? = some (.str fileW8 tfW8))
    (w15_8 : ((l.prog.main.file : Str) == fileW8) = true)
    (w16_8 : K.lookup ccW8 = some ⟨clW8, clV8, .cell (some (.ref ec8)), csW8⟩)
    (w18_8 : PySem.W.mroIn K ec8 (.ref ec8) = some true)
    (w19_8 : PySem.W.ks_superIn K ec8 ec8 "__init__" = some (some (.builtin "ValueError.__init__")))
    (w20_8 : PySem.W.subIn K (.ref ec8) (.type "ValueError") = some true)
    (n9_ : PySem.W.nsIn K mainGlobals "NotFinite" = some (some (.ref ec9)))
    (k9_ : PySem.W.keepIn K (.ref ec9) = true)
    (b9_ : PySem.W.subIn K (.ref ec9) (.type "BaseException") = some true)
    (t9_ : PySem.W.typeIn K (.ref ec9) = some (.type "type"))
    (g9_ : PySem.W.findIn K (.ref ec9) "__getattribute__" = some (some (.builtin "BaseException.__getattribute__")))
    (h9_ : PySem.W.findIn K (.ref ec9) "__getattr__" = some none)
    (d9_ : PySem.W.hasDictIn K ec9 = true)
    (c9_ : PySem.W.findIn K (.ref ec9) "__class__" = some (some (.builtin "object.__class__")))
    (o9_ : PySem.W.mroIn K ec9 (.type "object") = some true)
    (D9_ : PySem.W.clsIn K ec9 = some cdD9)
    (M9_ : cdD9.mro = [.ref ec9, .ref TE, .type "ValueError", .type "Exception", .type "BaseException", .type "object"])
    (x9_ : PySem.W.excIn K ec9 [.type "ValueError", .type "Exception", .type "BaseException", .type "object"] "ValueError.__new__" = true)
    (n10_ : PySem.W.nsIn K mainGlobals "Unlike" = some (some (.ref ec10)))
    (k10_ : PySem.W.keepIn K (.ref ec10) = true)
    (b10_ : PySem.W.subIn K (.ref ec10) (.type "BaseException") = some true)
    (t10_ : PySem.W.typeIn K (.ref ec10) = some (.type "type"))
    (g10_ : PySem.W.findIn K (.ref ec10) "__getattribute__" = some (some (.builtin "BaseException.__getattribute__")))
    (h10_ : PySem.W.findIn K (.ref ec10) "__getattr__" = some none)
    (d10_ : PySem.W.hasDictIn K ec10 = true)
    (c10_ : PySem.W.findIn K (.ref ec10) "__class__" = some (some (.builtin "object.__class__")))
    (o10_ : PySem.W.mroIn K ec10 (.type "object") = some true)
    (D10_ : PySem.W.clsIn K ec10 = some cdD10)
    (M10_ : cdD10.mro = [.ref ec10, .ref TE, .type "ValueError", .type "Exception", .type "BaseException", .type "object"])
    (x10_ : PySem.W.excIn K ec10 [.type "ValueError", .type "Exception", .type "BaseException", .type "object"] "ValueError.__new__" = true)
    (n11_ : PySem.W.nsIn K mainGlobals "NotAppended" = some (some (.ref ec11)))
    (k11_ : PySem.W.keepIn K (.ref ec11) = true)
    (b11_ : PySem.W.subIn K (.ref ec11) (.type "BaseException") = some true)
    (t11_ : PySem.W.typeIn K (.ref ec11) = some (.type "type"))
    (g11_ : PySem.W.findIn K (.ref ec11) "__getattribute__" = some (some (.builtin "BaseException.__getattribute__")))
    (h11_ : PySem.W.findIn K (.ref ec11) "__getattr__" = some none)
    (d11_ : PySem.W.hasDictIn K ec11 = true)
    (c11_ : PySem.W.findIn K (.ref ec11) "__class__" = some (some (.builtin "object.__class__")))
    (o11_ : PySem.W.mroIn K ec11 (.type "object") = some true)
    (D11_ : PySem.W.clsIn K ec11 = some cdD11)
    (M11_ : cdD11.mro = [.ref ec11, .ref TE, .type "ValueError", .type "Exception", .type "BaseException", .type "object"])
    (x11_ : PySem.W.excIn K ec11 [.type "ValueError", .type "Exception", .type "BaseException", .type "object"] "ValueError.__new__" = true)
    (n12_ : PySem.W.nsIn K mainGlobals "NoDeed" = some (some (.ref ec12)))
    (k12_ : PySem.W.keepIn K (.ref ec12) = true)
    (b12_ : PySem.W.subIn K (.ref ec12) (.type "BaseException") = some true)
    (t12_ : PySem.W.typeIn K (.ref ec12) = some (.type "type"))
    (g12_ : PySem.W.findIn K (.ref ec12) "__getattribute__" = some (some (.builtin "BaseException.__getattribute__")))
    (h12_ : PySem.W.findIn K (.ref ec12) "__getattr__" = some none)
    (d12_ : PySem.W.hasDictIn K ec12 = true)
    (c12_ : PySem.W.findIn K (.ref ec12) "__class__" = some (some (.builtin "object.__class__")))
    (o12_ : PySem.W.mroIn K ec12 (.type "object") = some true)
    (D12_ : PySem.W.clsIn K ec12 = some cdD12)
    (M12_ : cdD12.mro = [.ref ec12, .ref TE, .type "ValueError", .type "Exception", .type "BaseException", .type "object"])
    (x12_ : PySem.W.excIn K ec12 [.type "ValueError", .type "Exception", .type "BaseException", .type "object"] "ValueError.__new__" = true)
    (n13_ : PySem.W.nsIn K mainGlobals "Nothing" = some (some (.ref ec13)))
    (k13_ : PySem.W.keepIn K (.ref ec13) = true)
    (b13_ : PySem.W.subIn K (.ref ec13) (.type "BaseException") = some true)
    (t13_ : PySem.W.typeIn K (.ref ec13) = some (.type "type"))
    (g13_ : PySem.W.findIn K (.ref ec13) "__getattribute__" = some (some (.builtin "BaseException.__getattribute__")))
    (h13_ : PySem.W.findIn K (.ref ec13) "__getattr__" = some none)
    (d13_ : PySem.W.hasDictIn K ec13 = true)
    (c13_ : PySem.W.findIn K (.ref ec13) "__class__" = some (some (.builtin "object.__class__")))
    (o13_ : PySem.W.mroIn K ec13 (.type "object") = some true)
    (D13_ : PySem.W.clsIn K ec13 = some cdD13)
    (M13_ : cdD13.mro = [.ref ec13, .ref TE, .type "ValueError", .type "Exception", .type "BaseException", .type "object"])
    (x13_ : PySem.W.excIn K ec13 [.type "ValueError", .type "Exception", .type "BaseException", .type "object"] "ValueError.__new__" = true)
    (n14_ : PySem.W.nsIn K mainGlobals "NoText" = some (some (.ref ec14)))
    (k14_ : PySem.W.keepIn K (.ref ec14) = true)
    (b14_ : PySem.W.subIn K (.ref ec14) (.type "BaseException") = some true)
    (t14_ : PySem.W.typeIn K (.ref ec14) = some (.type "type"))
    (g14_ : PySem.W.findIn K (.ref ec14) "__getattribute__" = some (some (.builtin "BaseException.__getattribute__")))
    (h14_ : PySem.W.findIn K (.ref ec14) "__getattr__" = some none)
    (d14_ : PySem.W.hasDictIn K ec14 = true)
    (c14_ : PySem.W.findIn K (.ref ec14) "__class__" = some (some (.builtin "object.__class__")))
    (o14_ : PySem.W.mroIn K ec14 (.type "object") = some true)
    (D14_ : PySem.W.clsIn K ec14 = some cdD14)
    (M14_ : cdD14.mro = [.ref ec14, .ref TE, .type "ValueError", .type "Exception", .type "BaseException", .type "object"])
    (x14_ : PySem.W.excIn K ec14 [.type "ValueError", .type "Exception", .type "BaseException", .type "object"] "ValueError.__new__" = true)
    (n15_ : PySem.W.nsIn K mainGlobals "NoCommand" = some (some (.ref ec15)))
    (k15_ : PySem.W.keepIn K (.ref ec15) = true)
    (b15_ : PySem.W.subIn K (.ref ec15) (.type "BaseException") = some true)
    (t15_ : PySem.W.typeIn K (.ref ec15) = some (.type "type"))
    (g15_ : PySem.W.findIn K (.ref ec15) "__getattribute__" = some (some (.builtin "BaseException.__getattribute__")))
    (h15_ : PySem.W.findIn K (.ref ec15) "__getattr__" = some none)
    (d15_ : PySem.W.hasDictIn K ec15 = true)
    (c15_ : PySem.W.findIn K (.ref ec15) "__class__" = some (some (.builtin "object.__class__")))
    (o15_ : PySem.W.mroIn K ec15 (.type "object") = some true)
    (D15_ : PySem.W.clsIn K ec15 = some cdD15)
    (M15_ : cdD15.mro = [.ref ec15, .ref TE, .type "ValueError", .type "Exception", .type "BaseException", .type "object"])
    (x15_ : PySem.W.excIn K ec15 [.type "ValueError", .type "Exception", .type "BaseException", .type "object"] "ValueError.__new__" = true)
    (n16_ : PySem.W.nsIn K mainGlobals "BadStatement" = some (some (.ref ec16)))
    (k16_ : PySem.W.keepIn K (.ref ec16) = true)
    (b16_ : PySem.W.subIn K (.ref ec16) (.type "BaseException") = some true)
    (t16_ : PySem.W.typeIn K (.ref ec16) = some (.type "type"))
    (g16_ : PySem.W.findIn K (.ref ec16) "__getattribute__" = some (some (.builtin "BaseException.__getattribute__")))
    (h16_ : PySem.W.findIn K (.ref ec16) "__getattr__" = some none)
    (d16_ : PySem.W.hasDictIn K ec16 = true)
    (c16_ : PySem.W.findIn K (.ref ec16) "__class__" = some (some (.builtin "object.__class__")))
    (o16_ : PySem.W.mroIn K ec16 (.type "object") = some true)
    (D16_ : PySem.W.clsIn K ec16 = some cdD16)
    (M16_ : cdD16.mro = [.ref ec16, .ref TE, .type "ValueError", .type "Exception", .type "BaseException", .type "object"])
    (w2_16 : K.lookup ec16 = some (excClassObj nmW16 qW16 ec16 NW16 bsW16 bmW16 true snW16 subW16 abW16 colW16 ddW16 k0W16 k1W16 k2W16 k3W16 k5W16 "ValueError.__new__"))
    (w3_16 : HandSPX.refsVE bmW16 = true)
    (w4_16 : PySem.W.findIn K (.ref ec16) "__setattr__" = some (some (.builtin "object.__setattr__")))
    (w8_16_0 : PySem.W.findIn K (.ref ec16) "function" = some none)
    (w8_16_1 : PySem.W.findIn K (.ref ec16) "address" = some none)
    (w9_16 : PySem.W.findIn K (.ref ec16) "__init__" = some (some (.ref fW16)))
    (w10_16 : PySem.W.typeIn K (.ref fW16) = some (.type "function"))
    (w11_16 : K.lookup fW16 = some ⟨ocW16, odW16, .func (PySem.W.ksFn "__init__" "BadStatement.__init__" (defArgs sE16) (defBody sE16) (defScope sE16) .none kVW16 dcW16 pmW16 anW16 (.ref cdaW16) ctW16 ccW16), slW16⟩)
    (w12_16 : PySem.W.codeIn K (.ref cdaW16) "BadStatement.__init__" = true)
    (w13_16 : K.lookup cdaW16 = some ⟨cdW16, cdV16, .fields vsW16, cdsW16⟩)
    (w14_16 : vsW16[2]? = some (.str fileW16 tfW16))
    (w15_16 : ((l.prog.main.file : Str) == fileW16) = true)
    (w16_16 : K.lookup ccW16 = some ⟨clW16, clV16, .cell (some (.ref ec16)), csW16⟩)
    (w18_16 : PySem.W.mroIn K ec16 (.ref ec16) = some true)
    (w19_16 : PySem.W.ks_superIn K ec16 ec16 "__init__" = some (some (.builtin "ValueError.__init__")))
    (w20_16 : PySem.W.subIn K (.ref ec16) (.type "ValueError") = some true)
    (n17_ : PySem.W.nsIn K mainGlobals "Tangled" = some (some (.ref ec17)))
    (k17_ : PySem.W.keepIn K (.ref ec17) = true)
    (b17_ : PySem.W.subIn K (.ref ec17) (.type "BaseException") = some true)
    (t17_ : PySem.W.typeIn K (.ref ec17) = some (.type "type"))
    (g17_ : PySem.W.findIn K (.ref ec17) "__getattribute__" = some (some (.builtin "BaseException.__getattribute__")))
    (h17_ : PySem.W.findIn K (.ref ec17) "__getattr__" = some none)
    (d17_ : PySem.W.hasDictIn K ec17 = true)
    (c17_ : PySem.W.findIn K (.ref ec17) "__class__" = some (some (.builtin "object.__class__")))
    (o17_ : PySem.W.mroIn K ec17 (.type "object") = some true)
    (D17_ : PySem.W.clsIn K ec17 = some cdD17)
    (M17_ : cdD17.mro = [.ref ec17, .ref TE, .type "ValueError", .type "Exception", .type "BaseException", .type "object"])
    (w2_17 : K.lookup ec17 = some (excClassObj nmW17 qW17 ec17 NW17 bsW17 bmW17 true snW17 subW17 abW17 colW17 ddW17 k0W17 k1W17 k2W17 k3W17 k5W17 "ValueError.__new__"))
    (w3_17 : HandSPX.refsVE bmW17 = true)
    (w4_17 : PySem.W.findIn K (.ref ec17) "__setattr__" = some (some (.builtin "object.__setattr__")))
    (w8_17_0 : PySem.W.findIn K (.ref ec17) "function" = some none)
    (w8_17_1 : PySem.W.findIn K (.ref ec17) "address" = some none)
    (w9_17 : PySem.W.findIn K (.ref ec17) "__init__" = some (some (.ref fW17)))
    (w10_17 : PySem.W.typeIn K (.ref fW17) = some (.type "function"))
    (w11_17 : K.lookup fW17 = some ⟨ocW17, odW17, .func (PySem.W.ksFn "__init__" "Tangled.__init__" (defArgs sE17) (defBody sE17) (defScope sE17) .none kVW17 dcW17 pmW17 anW17 (.ref cdaW17) ctW17 ccW17), slW17⟩)
    (w12_17 : PySem.W.codeIn K (.ref cdaW17) "Tangled.__init__" = true)
    (w13_17 : K.lookup cdaW17 = some ⟨cdW17, cdV17, .fields vsW17, cdsW17⟩)
    (w14_17 : vsW17[2]? = some (.str fileW17 tfW17))
    (w15_17 : ((l.prog.main.file : Str) == fileW17) = true)
    (w16_17 : K.lookup ccW17 = some ⟨clW17, clV17, .cell (some (.ref ec17)), csW17⟩)
    (w18_17 : PySem.W.mroIn K ec17 (.ref ec17) = some true)
    (w19_17 : PySem.W.ks_superIn K ec17 ec17 "__init__" = some (some (.builtin "ValueError.__init__")))
    (w20_17 : PySem.W.subIn K (.ref ec17) (.type "ValueError") = some true)
    (nT_ : PySem.W.nsIn K mainGlobals "TextError" = some (some (.ref TE)))
    (kT_ : PySem.W.keepIn K (.ref TE) = true)
    (bT_ : PySem.W.subIn K (.ref TE) (.type "BaseException") = some true)
    (tT_ : PySem.W.typeIn K (.ref TE) = some (.type "type"))
    (gT_ : PySem.W.findIn K (.ref TE) "__getattribute__" = some (some (.builtin "BaseException.__getattribute__")))
    (hT_ : PySem.W.findIn K (.ref TE) "__getattr__" = some none)
    (dT_ : PySem.W.hasDictIn K TE = true)
    (cT_ : PySem.W.findIn K (.ref TE) "__class__" = some (some (.builtin "object.__class__")))
    (oT_ : PySem.W.mroIn K TE (.type "object") = some true)
    (DT_ : PySem.W.clsIn K TE = some cdDT)
    (MT_ : cdDT.mro = [.ref TE, .type "ValueError", .type "Exception", .type "BaseException", .type "object"])
    (xT_ : PySem.W.excIn K TE [.type "ValueError", .type "Exception", .type "BaseException", .type "object"] "ValueError.__new__" = true)
    (nd_ : ([TE, ec0, ec1, ec2, ec3, ec4, ec5, ec6, ec7, ec8, ec9, ec10, ec11, ec12, ec13, ec14, ec15, ec16, ec17] : List Addr).Nodup)
    (c_LETTERS : PySem.W.nsIn K mainGlobals "LETTERS" = some (some u_LETTERS))
    (r_LETTERS : RelV (.str letters) u_LETTERS)
    (c_MOST_SIGNS : PySem.W.nsIn K mainGlobals "MOST_SIGNS" = some (some u_MOST_SIGNS))
    (r_MOST_SIGNS : RelV (.int 4) u_MOST_SIGNS)
    (c_MOST_LETTERS : PySem.W.nsIn K mainGlobals "MOST_LETTERS" = some (some u_MOST_LETTERS))
    (r_MOST_LETTERS : RelV (.int 8) u_MOST_LETTERS)
    (z_abs : PySem.W.nsIn K mainGlobals "abs" = some none)
    (z_int : PySem.W.nsIn K mainGlobals "int" = some none)
    (z_len : PySem.W.nsIn K mainGlobals "len" = some none)
    (z_range : PySem.W.nsIn K mainGlobals "range" = some none)
    (z_repr : PySem.W.nsIn K mainGlobals "repr" = some none)
    (z_isinstance : PySem.W.nsIn K mainGlobals "isinstance" = some none)
    (z_str : PySem.W.nsIn K mainGlobals "str" = some none)
    (z_bool : PySem.W.nsIn K mainGlobals "bool" = some none)
    (z_list : PySem.W.nsIn K mainGlobals "list" = some none)
    (z_dict : PySem.W.nsIn K mainGlobals "dict" = some none)
    (z_set : PySem.W.nsIn K mainGlobals "set" = some none)
    (z_sorted : PySem.W.nsIn K mainGlobals "sorted" = some none)
    (z_all : PySem.W.nsIn K mainGlobals "all" = some none)
    (z_zip : PySem.W.nsIn K mainGlobals "zip" = some none)
    (z_ValueError : PySem.W.nsIn K mainGlobals "ValueError" = some none) :
    ∃ fd : FuncData, (∀ (s : Shared) (v : Value), BindsTo s fd ⟨[v], []⟩ [("_law_script", v)]) ∧ ∀ base : Heap, K.In base → base.Ns mainGlobals mg → GFn l.prog w K mg base CX0 10 fa fd ["_law_script"] (spLaw K) := by
  have e := hfa.symm.trans (PySem.W.mg_of X G a47)
  cases e
  have F4 := fun_mk (st := sIsInt) l4 c4 k4
  have b4 := F4.binds (ps := ["thing"]) fun _ _ _ _ _ _ us hl => match us, hl with | [_], _ => rfl
  have F10 := fun_mk (st := sIsNum) l10 c10 k10
  have b10 := F10.binds (ps := ["many", "thing"]) fun _ _ _ _ _ _ us hl => match us, hl with | [_, _], _ => rfl
  have F6 := fun_mk (st := sIsSg) l6 c6 k6
  have b6 := F6.binds (ps := ["thing"]) fun _ _ _ _ _ _ us hl => match us, hl with | [_], _ => rfl
  have F7 := fun_mk (st := sIsText) l7 c7 k7
  have b7 := F7.binds (ps := ["signs", "thing"]) fun _ _ _ _ _ _ us hl => match us, hl with | [_, _], _ => rfl
  have F8 := fun_mk (st := sIsSign) l8 c8 k8
  have b8 := F8.binds (ps := ["signs", "thing"]) fun _ _ _ _ _ _ us hl => match us, hl with | [_, _], _ => rfl
  have F5 := fun_mk (st := sIsName) l5 c5 k5
  have b5 := F5.binds (ps := ["thing"]) fun _ _ _ _ _ _ us hl => match us, hl with | [_], _ => rfl
  have F9 := fun_mk (st := sIsMap) l9 c9 k9
  have b9 := F9.binds (ps := ["signs", "thing"]) fun _ _ _ _ _ _ us hl => match us, hl with | [_, _], _ => rfl
  have F11 := fun_mk (st := sTkey) l11 c11 k11
  have b11 := F11.binds (ps := ["text"]) fun _ _ _ _ _ _ us hl => match us, hl with | [_], _ => rfl
  have F33 := fun_mk (st := sBag) l33 c33 k33
  have b33 := F33.binds (ps := ["_law_script"]) fun _ _ _ _ _ _ us hl => match us, hl with | [_], _ => rfl
  have F34 := fun_mk (st := sTake) l34 c34 k34
  have b34 := F34.binds (ps := ["_law_bag_here", "_law_many"]) fun _ _ _ _ _ _ us hl => match us, hl with | [_, _], _ => rfl
  have F35 := fun_mk (st := sAlk) l35 c35 k35
  have b35 := F35.binds (ps := ["_law_found", "_law_due"]) fun _ _ _ _ _ _ us hl => match us, hl with | [_, _], _ => rfl
  have F36 := fun_mk (st := sOdd) l36 c36 k36
  have b36 := F36.binds (ps := ["_law_bag_here"]) fun _ _ _ _ _ _ us hl => match us, hl with | [_], _ => rfl
  have F37 := fun_mk (st := sDrawn) l37 c37 k37
  have b37 := F37.binds (ps := ["_law_bag_here", "_law_signs", "_law_longest"]) fun _ _ _ _ _ _ us hl => match us, hl with | [_, _, _], _ => rfl
  have F38 := fun_mk (st := sErrs) l38 c38 k38
  have b38 := F38.binds (ps := ["_law_x", "_law_y"]) fun _ _ _ _ _ _ us hl => match us, hl with | [_, _], _ => rfl
  have F39 := fun_mk (st := sFlags) l39 c39 k39
  have b39 := F39.binds (ps := ["_law_e"]) fun _ _ _ _ _ _ us hl => match us, hl with | [_], _ => rfl
  have F40 := fun_mk (st := sER) l40 c40 k40
  have b40 := F40.binds (ps := ["_law_x", "_law_y"]) fun _ _ _ _ _ _ us hl => match us, hl with | [_, _], _ => rfl
  have F41 := fun_mk (st := sMixed) l41 c41 k41
  have b41 := F41.binds (ps := ["_law_bag_here", "_law_things"]) fun _ _ _ _ _ _ us hl => match us, hl with | [_, _], _ => rfl
  have F42 := fun_mk (st := sLName) l42 c42 k42
  have b42 := F42.binds (ps := ["_law_thing_here"]) fun _ _ _ _ _ _ us hl => match us, hl with | [_], _ => rfl
  have F43 := fun_mk (st := sLSg) l43 c43 k43
  have b43 := F43.binds (ps := ["_law_thing_here"]) fun _ _ _ _ _ _ us hl => match us, hl with | [_], _ => rfl
  have F44 := fun_mk (st := sLText) l44 c44 k44
  have b44 := F44.binds (ps := ["_law_signs", "_law_thing_here"]) fun _ _ _ _ _ _ us hl => match us, hl with | [_, _], _ => rfl
  have F45 := fun_mk (st := sLMap) l45 c45 k45
  have b45 := F45.binds (ps := ["_law_signs", "_law_thing_here"]) fun _ _ _ _ _ _ us hl => match us, hl with | [_, _], _ => rfl
  have F46 := fun_mk (st := sThing) l46 c46 k46
  have b46 := F46.binds (ps := ["_law_bag_here", "_law_signs"]) fun _ _ _ _ _ _ us hl => match us, hl with | [_, _], _ => rfl
  have F47 := fun_mk (st := sLaw) l47 c47 k47
  have T0x : OexC K ec0 := ⟨⟨nmW0, qW0, NW0, bsW0, bmW0, snW0, subW0, abW0, colW0, ddW0, k0W0, k1W0, k2W0, k3W0, k5W0, w2_0, w3_0⟩, w4_0, b0_, t0_, k0_⟩
  have S0x : SuFn l.prog K mg "Wrong.__init__" sE0 fW0 ec0 _ := ⟨⟨_, _, _, _, _, _, _, _, _, _, _, rfl, w11_0, w12_0, ⟨_, _, _, w11_0⟩, ⟨_, rfl, rfl⟩, ⟨_, _, _, _, _, _, w13_0, w14_0, w15_0⟩, ⟨_, _, _, w16_0⟩, ⟨_, D0_⟩, w18_0, w19_0, w20_0, w21, PySem.W.mg_none_of X G w22, w23⟩⟩
  have B0x : Binds K (PySem.W.ksFn "__init__" "Wrong.__init__" (defArgs sE0) (defBody sE0) (defScope sE0) .none kVW0 dcW0 pmW0 anW0 (.ref cdaW0) ctW0 ccW0) ["self", "place"] [] := .all fun us hl => match us, hl with | [_, _], _ => rfl
  have T1x : OexC K ec1 := ⟨⟨nmW1, qW1, NW1, bsW1, bmW1, snW1, subW1, abW1, colW1, ddW1, k0W1, k1W1, k2W1, k3W1, k5W1, w2_1, w3_1⟩, w4_1, b1_, t1_, k1_⟩
  have S1x : SuFn l.prog K mg "NoItem.__init__" sE1 fW1 ec1 _ := ⟨⟨_, _, _, _, _, _, _, _, _, _, _, rfl, w11_1, w12_1, ⟨_, _, _, w11_1⟩, ⟨_, rfl, rfl⟩, ⟨_, _, _, _, _, _, w13_1, w14_1, w15_1⟩, ⟨_, _, _, w16_1⟩, ⟨_, D1_⟩, w18_1, w19_1, w20_1, w21, PySem.W.mg_none_of X G w22, w23⟩⟩
  have B1x : Binds K (PySem.W.ksFn "__init__" "NoItem.__init__" (defArgs sE1) (defBody sE1) (defScope sE1) .none kVW1 dcW1 pmW1 anW1 (.ref cdaW1) ctW1 ccW1) ["self", "at"] [] := .all fun us hl => match us, hl with | [_, _], _ => rfl
  have T2x : OexC K ec2 := ⟨⟨nmW2, qW2, NW2, bsW2, bmW2, snW2, subW2, abW2, colW2, ddW2, k0W2, k1W2, k2W2, k3W2, k5W2, w2_2, w3_2⟩, w4_2, b2_, t2_, k2_⟩
  have S2x : SuFn l.prog K mg "BadSet.__init__" sE2 fW2 ec2 _ := ⟨⟨_, _, _, _, _, _, _, _, _, _, _, rfl, w11_2, w12_2, ⟨_, _, _, w11_2⟩, ⟨_, rfl, rfl⟩, ⟨_, _, _, _, _, _, w13_2, w14_2, w15_2⟩, ⟨_, _, _, w16_2⟩, ⟨_, D2_⟩, w18_2, w19_2, w20_2, w21, PySem.W.mg_none_of X G w22, w23⟩⟩
  have B2x : Binds K (PySem.W.ksFn "__init__" "BadSet.__init__" (defArgs sE2) (defBody sE2) (defScope sE2) .none kVW2 dcW2 pmW2 anW2 (.ref cdaW2) ctW2 ccW2) ["self", "name"] [] := .all fun us hl => match us, hl with | [_, _], _ => rfl
  have T3x : OexC K ec3 := ⟨⟨nmW3, qW3, NW3, bsW3, bmW3, snW3, subW3, abW3, colW3, ddW3, k0W3, k1W3, k2W3, k3W3, k5W3, w2_3, w3_3⟩, w4_3, b3_, t3_, k3_⟩
  have S3x : SuFn l.prog K mg "Unknown.__init__" sE3 fW3 ec3 _ := ⟨⟨_, _, _, _, _, _, _, _, _, _, _, rfl, w11_3, w12_3, ⟨_, _, _, w11_3⟩, ⟨_, rfl, rfl⟩, ⟨_, _, _, _, _, _, w13_3, w14_3, w15_3⟩, ⟨_, _, _, w16_3⟩, ⟨_, D3_⟩, w18_3, w19_3, w20_3, w21, PySem.W.mg_none_of X G w22, w23⟩⟩
  have B3x : Binds K (PySem.W.ksFn "__init__" "Unknown.__init__" (defArgs sE3) (defBody sE3) (defScope sE3) .none kVW3 dcW3 pmW3 anW3 (.ref cdaW3) ctW3 ccW3) ["self", "name"] [] := .all fun us hl => match us, hl with | [_, _], _ => rfl
  have T4x : OexC K ec4 := ⟨⟨nmW4, qW4, NW4, bsW4, bmW4, snW4, subW4, abW4, colW4, ddW4, k0W4, k1W4, k2W4, k3W4, k5W4, w2_4, w3_4⟩, w4_4, b4_, t4_, k4_⟩
  have S4x : SuFn l.prog K mg "TooMany.__init__" sE4 fW4 ec4 _ := ⟨⟨_, _, _, _, _, _, _, _, _, _, _, rfl, w11_4, w12_4, ⟨_, _, _, w11_4⟩, ⟨_, rfl, rfl⟩, ⟨_, _, _, _, _, _, w13_4, w14_4, w15_4⟩, ⟨_, _, _, w16_4⟩, ⟨_, D4_⟩, w18_4, w19_4, w20_4, w21, PySem.W.mg_none_of X G w22, w23⟩⟩
  have B4x : Binds K (PySem.W.ksFn "__init__" "TooMany.__init__" (defArgs sE4) (defBody sE4) (defScope sE4) .none kVW4 dcW4 pmW4 anW4 (.ref cdaW4) ctW4 ccW4) ["self", "limit"] [] := .all fun us hl => match us, hl with | [_, _], _ => rfl
  have T5x : OexC K ec5 := ⟨⟨nmW5, qW5, NW5, bsW5, bmW5, snW5, subW5, abW5, colW5, ddW5, k0W5, k1W5, k2W5, k3W5, k5W5, w2_5, w3_5⟩, w4_5, b5_, t5_, k5_⟩
  have S5x : SuFn l.prog K mg "Broken.__init__" sE5 fW5 ec5 _ := ⟨⟨_, _, _, _, _, _, _, _, _, _, _, rfl, w11_5, w12_5, ⟨_, _, _, w11_5⟩, ⟨_, rfl, rfl⟩, ⟨_, _, _, _, _, _, w13_5, w14_5, w15_5⟩, ⟨_, _, _, w16_5⟩, ⟨_, D5_⟩, w18_5, w19_5, w20_5, w21, PySem.W.mg_none_of X G w22, w23⟩⟩
  have B5x : Binds K (PySem.W.ksFn "__init__" "Broken.__init__" (defArgs sE5) (defBody sE5) (defScope sE5) .none kVW5 dcW5 pmW5 anW5 (.ref cdaW5) ctW5 ccW5) ["self", "at"] [] := .all fun us hl => match us, hl with | [_, _], _ => rfl
  have T6x : OexC K ec6 := ⟨⟨nmW6, qW6, NW6, bsW6, bmW6, snW6, subW6, abW6, colW6, ddW6, k0W6, k1W6, k2W6, k3W6, k5W6, w2_6, w3_6⟩, w4_6, b6_, t6_, k6_⟩
  have S6x : SuFn l.prog K mg "Full.__init__" sE6 fW6 ec6 _ := ⟨⟨_, _, _, _, _, _, _, _, _, _, _, rfl, w11_6, w12_6, ⟨_, _, _, w11_6⟩, ⟨_, rfl, rfl⟩, ⟨_, _, _, _, _, _, w13_6, w14_6, w15_6⟩, ⟨_, _, _, w16_6⟩, ⟨_, D6_⟩, w18_6, w19_6, w20_6, w21, PySem.W.mg_none_of X G w22, w23⟩⟩
  have B6x : Binds K (PySem.W.ksFn "__init__" "Full.__init__" (defArgs sE6) (defBody sE6) (defScope sE6) .none kVW6 dcW6 pmW6 anW6 (.ref cdaW6) ctW6 ccW6) ["self", "limit"] [] := .all fun us hl => match us, hl with | [_, _], _ => rfl
  have T7x : OexC K ec7 := ⟨⟨nmW7, qW7, NW7, bsW7, bmW7, snW7, subW7, abW7, colW7, ddW7, k0W7, k1W7, k2W7, k3W7, k5W7, w2_7, w3_7⟩, w4_7, b7_, t7_, k7_⟩
  have S7x : SuFn l.prog K mg "Refused.__init__" sE7 fW7 ec7 _ := ⟨⟨_, _, _, _, _, _, _, _, _, _, _, rfl, w11_7, w12_7, ⟨_, _, _, w11_7⟩, ⟨_, rfl, rfl⟩, ⟨_, _, _, _, _, _, w13_7, w14_7, w15_7⟩, ⟨_, _, _, w16_7⟩, ⟨_, D7_⟩, w18_7, w19_7, w20_7, w21, PySem.W.mg_none_of X G w22, w23⟩⟩
  have B7x : Binds K (PySem.W.ksFn "__init__" "Refused.__init__" (defArgs sE7) (defBody sE7) (defScope sE7) .none kVW7 dcW7 pmW7 anW7 (.ref cdaW7) ctW7 ccW7) ["self", "deed"] [] := .all fun us hl => match us, hl with | [_, _], _ => rfl
  have T8x : OexC K ec8 := ⟨⟨nmW8, qW8, NW8, bsW8, bmW8, snW8, subW8, abW8, colW8, ddW8, k0W8, k1W8, k2W8, k3W8, k5W8, w2_8, w3_8⟩, w4_8, b8_, t8_, k8_⟩
  have S8x : SuFn l.prog K mg "NoEntry.__init__" sE8 fW8 ec8 _ := ⟨⟨_, _, _, _, _, _, _, _, _, _, _, rfl, w11_8, w12_8, ⟨_, _, _, w11_8⟩, ⟨_, rfl, rfl⟩, ⟨_, _, _, _, _, _, w13_8, w14_8, w15_8⟩, ⟨_, _, _, w16_8⟩, ⟨_, D8_⟩, w18_8, w19_8, w20_8, w21, PySem.W.mg_none_of X G w22, w23⟩⟩
  have B8x : Binds K (PySem.W.ksFn "__init__" "NoEntry.__init__" (defArgs sE8) (defBody sE8) (defScope sE8) .none kVW8 dcW8 pmW8 anW8 (.ref cdaW8) ctW8 ccW8) ["self", "at"] [] := .all fun us hl => match us, hl with | [_, _], _ => rfl
  have T16x : OexC K ec16 := ⟨⟨nmW16, qW16, NW16, bsW16, bmW16, snW16, subW16, abW16, colW16, ddW16, k0W16, k1W16, k2W16, k3W16, k5W16, w2_16, w3_16⟩, w4_16, b16_, t16_, k16_⟩
  have S16x : SuFn l.prog K mg "BadStatement.__init__" sE16 fW16 ec16 _ := ⟨⟨_, _, _, _, _, _, _, _, _, _, _, rfl, w11_16, w12_16, ⟨_, _, _, w11_16⟩, ⟨_, rfl, rfl⟩, ⟨_, _, _, _, _, _, w13_16, w14_16, w15_16⟩, ⟨_, _, _, w16_16⟩, ⟨_, D16_⟩, w18_16, w19_16, w20_16, w21, PySem.W.mg_none_of X G w22, w23⟩⟩
  have B16x : Binds K (PySem.W.ksFn "__init__" "BadStatement.__init__" (defArgs sE16) (defBody sE16) (defScope sE16) .none kVW16 dcW16 pmW16 anW16 (.ref cdaW16) ctW16 ccW16) ["self", "function", "address"] [] := .all fun us hl => match us, hl with | [_, _, _], _ => rfl
  have T17x : OexC K ec17 := ⟨⟨nmW17, qW17, NW17, bsW17, bmW17, snW17, subW17, abW17, colW17, ddW17, k0W17, k1W17, k2W17, k3W17, k5W17, w2_17, w3_17⟩, w4_17, b17_, t17_, k17_⟩
  have S17x : SuFn l.prog K mg "Tangled.__init__" sE17 fW17 ec17 _ := ⟨⟨_, _, _, _, _, _, _, _, _, _, _, rfl, w11_17, w12_17, ⟨_, _, _, w11_17⟩, ⟨_, rfl, rfl⟩, ⟨_, _, _, _, _, _, w13_17, w14_17, w15_17⟩, ⟨_, _, _, w16_17⟩, ⟨_, D17_⟩, w18_17, w19_17, w20_17, w21, PySem.W.mg_none_of X G w22, w23⟩⟩
  have B17x : Binds K (PySem.W.ksFn "__init__" "Tangled.__init__" (defArgs sE17) (defBody sE17) (defScope sE17) .none kVW17 dcW17 pmW17 anW17 (.ref cdaW17) ctW17 ccW17) ["self", "function", "address"] [] := .all fun us hl => match us, hl with | [_, _, _], _ => rfl
  have FAM : Fam K [ec0, ec1, ec2, ec3, ec4, ec5, ec6, ec7, ec8, ec9, ec10, ec11, ec12, ec13, ec14, ec15, ec16, ec17] TE := by
    refine ⟨nd_, fun C hC => ?_, ⟨_, DT_, MT_⟩, fun C hC => ?_, fun C hC => ?_⟩
    · simp only [List.mem_cons, List.not_mem_nil, or_false] at hC
      rcases hC with rfl | rfl | rfl | rfl | rfl | rfl | rfl | rfl | rfl | rfl | rfl | rfl | rfl | rfl | rfl | rfl | rfl | rfl
      · exact ⟨_, D0_, M0_⟩
      · exact ⟨_, D1_, M1_⟩
      · exact ⟨_, D2_, M2_⟩
      · exact ⟨_, D3_, M3_⟩
      · exact ⟨_, D4_, M4_⟩
      · exact ⟨_, D5_, M5_⟩
      · exact ⟨_, D6_, M6_⟩
      · exact ⟨_, D7_, M7_⟩
      · exact ⟨_, D8_, M8_⟩
      · exact ⟨_, D9_, M9_⟩
      · exact ⟨_, D10_, M10_⟩
      · exact ⟨_, D11_, M11_⟩
      · exact ⟨_, D12_, M12_⟩
      · exact ⟨_, D13_, M13_⟩
      · exact ⟨_, D14_, M14_⟩
      · exact ⟨_, D15_, M15_⟩
      · exact ⟨_, D16_, M16_⟩
      · exact ⟨_, D17_, M17_⟩
    · simp only [List.mem_cons, List.not_mem_nil, or_false] at hC
      rcases hC with rfl | rfl | rfl | rfl | rfl | rfl | rfl | rfl | rfl | rfl | rfl | rfl | rfl | rfl | rfl | rfl | rfl | rfl | rfl
      · exact tT_
      · exact t0_
      · exact t1_
      · exact t2_
      · exact t3_
      · exact t4_
      · exact t5_
      · exact t6_
      · exact t7_
      · exact t8_
      · exact t9_
      · exact t10_
      · exact t11_
      · exact t12_
      · exact t13_
      · exact t14_
      · exact t15_
      · exact t16_
      · exact t17_
    · simp only [List.mem_cons, List.not_mem_nil, or_false] at hC
      rcases hC with rfl | rfl | rfl | rfl | rfl | rfl | rfl | rfl | rfl | rfl | rfl | rfl | rfl | rfl | rfl | rfl | rfl | rfl | rfl
      · exact ⟨gT_, hT_, bT_, dT_, cT_, hn, ht, oT_⟩
      · exact ⟨g0_, h0_, b0_, d0_, c0_, hn, ht, o0_⟩
      · exact ⟨g1_, h1_, b1_, d1_, c1_, hn, ht, o1_⟩
      · exact ⟨g2_, h2_, b2_, d2_, c2_, hn, ht, o2_⟩
      · exact ⟨g3_, h3_, b3_, d3_, c3_, hn, ht, o3_⟩
      · exact ⟨g4_, h4_, b4_, d4_, c4_, hn, ht, o4_⟩
      · exact ⟨g5_, h5_, b5_, d5_, c5_, hn, ht, o5_⟩
      · exact ⟨g6_, h6_, b6_, d6_, c6_, hn, ht, o6_⟩
      · exact ⟨g7_, h7_, b7_, d7_, c7_, hn, ht, o7_⟩
      · exact ⟨g8_, h8_, b8_, d8_, c8_, hn, ht, o8_⟩
      · exact ⟨g9_, h9_, b9_, d9_, c9_, hn, ht, o9_⟩
      · exact ⟨g10_, h10_, b10_, d10_, c10_, hn, ht, o10_⟩
      · exact ⟨g11_, h11_, b11_, d11_, c11_, hn, ht, o11_⟩
      · exact ⟨g12_, h12_, b12_, d12_, c12_, hn, ht, o12_⟩
      · exact ⟨g13_, h13_, b13_, d13_, c13_, hn, ht, o13_⟩
      · exact ⟨g14_, h14_, b14_, d14_, c14_, hn, ht, o14_⟩
      · exact ⟨g15_, h15_, b15_, d15_, c15_, hn, ht, o15_⟩
      · exact ⟨g16_, h16_, b16_, d16_, c16_, hn, ht, o16_⟩
      · exact ⟨g17_, h17_, b17_, d17_, c17_, hn, ht, o17_⟩
  refine ⟨PySem.W.fnOf "law" "law" (defArgs sLaw) (defBody sLaw) (defScope sLaw) .none kV47 dc47 pm47 an47 cd47 ct47, fun s v => .of_eq rfl, fun base _ _ => ?_⟩
  exact ok_law F47 ⟨F4, b4, PySem.W.mg_of X G a4, F10, b10, PySem.W.mg_of X G a10, F6, b6, PySem.W.mg_of X G a6, F7, b7, PySem.W.mg_of X G a7, F8, b8, PySem.W.mg_of X G a8, F5, b5, PySem.W.mg_of X G a5, F9, b9, PySem.W.mg_of X G a9, F11, b11, PySem.W.mg_of X G a11, F33, b33, PySem.W.mg_of X G a33, F34, b34, PySem.W.mg_of X G a34, F35, b35, PySem.W.mg_of X G a35, F36, b36, PySem.W.mg_of X G a36, F37, b37, PySem.W.mg_of X G a37, F38, b38, PySem.W.mg_of X G a38, F39, b39, PySem.W.mg_of X G a39, F40, b40, PySem.W.mg_of X G a40, F41, b41, PySem.W.mg_of X G a41, F42, b42, PySem.W.mg_of X G a42, F43, b43, PySem.W.mg_of X G a43, F44, b44, PySem.W.mg_of X G a44, F45, b45, PySem.W.mg_of X G a45, F46, b46, PySem.W.mg_of X G a46, ⟨_, PySem.W.mg_of X G c_LETTERS, r_LETTERS⟩, ⟨_, PySem.W.mg_of X G c_MOST_SIGNS, r_MOST_SIGNS⟩, ⟨_, PySem.W.mg_of X G c_MOST_LETTERS, r_MOST_LETTERS⟩, PySem.W.mg_none_of X G z_abs, PySem.W.mg_none_of X G z_int, PySem.W.mg_none_of X G z_len, PySem.W.mg_none_of X G z_range, PySem.W.mg_none_of X G z_repr, PySem.W.mg_none_of X G z_isinstance, PySem.W.mg_none_of X G z_str, PySem.W.mg_none_of X G z_bool, PySem.W.mg_none_of X G z_list, PySem.W.mg_none_of X G z_dict, PySem.W.mg_none_of X G z_set, PySem.W.mg_none_of X G z_sorted, PySem.W.mg_none_of X G z_all, PySem.W.mg_none_of X G z_zip, PySem.W.mg_none_of X G z_ValueError⟩ ⟨⟨T0x, ⟨fW0, _, w9_0, w10_0, ok_er1 S0x scE0 T0x w8_0_0 rfl rfl, B0x⟩, PySem.W.mg_of X G n0_, ⟨g0_, h0_, b0_, d0_⟩, w8_0_0⟩, ⟨T1x, ⟨fW1, _, w9_1, w10_1, ok_er1 S1x scE1 T1x w8_1_0 rfl rfl, B1x⟩, PySem.W.mg_of X G n1_, ⟨g1_, h1_, b1_, d1_⟩, w8_1_0⟩, ⟨T2x, ⟨fW2, _, w9_2, w10_2, ok_er1 S2x scE2 T2x w8_2_0 rfl rfl, B2x⟩, PySem.W.mg_of X G n2_, ⟨g2_, h2_, b2_, d2_⟩, w8_2_0⟩, ⟨T3x, ⟨fW3, _, w9_3, w10_3, ok_er1 S3x scE3 T3x w8_3_0 rfl rfl, B3x⟩, PySem.W.mg_of X G n3_, ⟨g3_, h3_, b3_, d3_⟩, w8_3_0⟩, ⟨T4x, ⟨fW4, _, w9_4, w10_4, ok_er1 S4x scE4 T4x w8_4_0 rfl rfl, B4x⟩, PySem.W.mg_of X G n4_, ⟨g4_, h4_, b4_, d4_⟩, w8_4_0⟩, ⟨T5x, ⟨fW5, _, w9_5, w10_5, ok_er1 S5x scE5 T5x w8_5_0 rfl rfl, B5x⟩, PySem.W.mg_of X G n5_, ⟨g5_, h5_, b5_, d5_⟩, w8_5_0⟩, ⟨T6x, ⟨fW6, _, w9_6, w10_6, ok_er1 S6x scE6 T6x w8_6_0 rfl rfl, B6x⟩, PySem.W.mg_of X G n6_, ⟨g6_, h6_, b6_, d6_⟩, w8_6_0⟩, ⟨T7x, ⟨fW7, _, w9_7, w10_7, ok_er1 S7x scE7 T7x w8_7_0 rfl rfl, B7x⟩, PySem.W.mg_of X G n7_, ⟨g7_, h7_, b7_, d7_⟩, w8_7_0⟩, ⟨T8x, ⟨fW8, _, w9_8, w10_8, ok_er1 S8x scE8 T8x w8_8_0 rfl rfl, B8x⟩, PySem.W.mg_of X G n8_, ⟨g8_, h8_, b8_, d8_⟩, w8_8_0⟩, ⟨x9_, k9_, PySem.W.mg_of X G n9_⟩, ⟨x10_, k10_, PySem.W.mg_of X G n10_⟩, ⟨x11_, k11_, PySem.W.mg_of X G n11_⟩, ⟨x12_, k12_, PySem.W.mg_of X G n12_⟩, ⟨x13_, k13_, PySem.W.mg_of X G n13_⟩, ⟨x14_, k14_, PySem.W.mg_of X G n14_⟩, ⟨x15_, k15_, PySem.W.mg_of X G n15_⟩, ⟨T16x, ⟨fW16, _, w9_16, w10_16, ok_er2 S16x scE16 T16x w8_16_0 w8_16_1 rfl rfl, B16x⟩, PySem.W.mg_of X G n16_, ⟨g16_, h16_, b16_, d16_⟩, w8_16_0, w8_16_1⟩, ⟨T17x, ⟨fW17, _, w9_17, w10_17, ok_er2 S17x scE17 T17x w8_17_0 w8_17_1 rfl rfl, B17x⟩, PySem.W.mg_of X G n17_, ⟨g17_, h17_, b17_, d17_⟩, w8_17_0, w8_17_1⟩, ⟨xT_, kT_, PySem.W.mg_of X G nT_⟩, FAM⟩
theorem walk {l : PySem.W.OpenLaw} {q : Program} {loose : List Str} {XP : (Str → Option Value) → Heap → Prop} {YP : World → Heap → Prop} {d : DefRec} {K : Params → PySem.W.Frag} (hn : l.most = some 63) (hdf : d.params.defaults = [])
    (hY : ∀ (w : World) (h : Heap), YP w h → (K w.params).In h)
    (F : ∀ (w : World) (mg : Str → Option Value) (fa : Addr) (h : Heap), (K w.params).In h → h.Ns mainGlobals mg → mg d.name = some (.ref fa) →
      ∃ fd : FuncData, (∀ (s : Shared) (u : Value), BindsTo s fd ⟨[u], []⟩ [("_law_script", u)]) ∧ ∀ base : Heap, (K w.params).In base → base.Ns mainGlobals mg → GFn l.prog w (K w.params) mg base CX0 10 fa fd ["_law_script"] (spLaw (K w.params))) :
    PySem.W.WalkO q loose XP YP l.row.toRowW d [] (fun f vs => PySem.call f vs) :=
  Rg.walk_ofG (n := 63) (k := 10) (x := "_law_script") (CX := fun _ => CX0) (sp := fun w => spLaw (K w.params)) hn (by decide) hdf ⟨rfl, by decide, by decide⟩ hY F (fun _ _ a ns hl _ hS => ⟨a, ns, rfl, hS, hl, fun _ => rfl⟩) fun _ _ _ _ _ z => z
end K11
open PySem PySem.W PyProof.Rows in
theorem PySem.Challenge.cw_builttexts_k11_errors_and_kinds_holds : PySem.Challenge.rw_builttexts_k11_errors_and_kinds.Holds := by
  w_on; o_law; k_head; (case hw => w_witness2)
  k_fill
  refine K11.walk (l := PySem.Challenge.rw_builttexts_k11_errors_and_kinds) rfl rfl (fun w h Y => PySem.W.kIn_of Y) ?F
  case F =>
    intro w mg fa h KX G hmg
    refine' K11.all_mk KX G hmg ?a4 ?l4 ?c4 ?k4 ?a10 ?l10 ?c10 ?k10 ?a6 ?l6 ?c6 ?k6 ?a7 ?l7 ?c7 ?k7 ?a8 ?l8 ?c8 ?k8 ?a5 ?l5 ?c5 ?k5 ?a9 ?l9 ?c9 ?k9 ?a11 ?l11 ?c11 ?k11 ?a33 ?l33 ?c33 ?k33 ?a34 ?l34 ?c34 ?k34 ?a35 ?l35 ?c35 ?k35 ?a36 ?l36 ?c36 ?k36 ?a37 ?l37 ?c37 ?k37 ?a38 ?l38 ?c38 ?k38 ?a39 ?l39 ?c39 ?k39 ?a40 ?l40 ?c40 ?k40 ?a41 ?l41 ?c41 ?k41 ?a42 ?l42 ?c42 ?k42 ?a43 ?l43 ?c43 ?k43 ?a44 ?l44 ?c44 ?k44 ?a45 ?l45 ?c45 ?k45 ?a46 ?l46 ?c46 ?k46 ?a47 ?l47 ?c47 ?k47 ?hn ?ht ?w21 ?w22 ?w23 ?n0_ ?k0_ ?b0_ ?t0_ ?g0_ ?h0_ ?d0_ ?c0_ ?o0_ ?D0_ ?M0_ ?w2_0 ?w3_0 ?w4_0 ?w8_0_0 ?w9_0 ?w10_0 ?w11_0 ?w12_0 ?w13_0 ?w14_0 ?w15_0 ?w16_0 ?w18_0 ?w19_0 ?w20_0 ?n1_ ?k1_ ?b1_ ?t1_ ?g1_ ?h1_ ?d1_ ?c1_ ?o1_ ?D1_ ?M1_ ?w2_1 ?w3_1 ?w4_1 ?w8_1_0 ?w9_1 ?w10_1 ?w11_1 ?w12_1 ?w13_1 ?w14_1 ?w15_1 ?w16_1 ?w18_1 ?w19_1 ?w20_1 ?n2_ ?k2_ ?b2_ ?t2_ ?g2_ ?h2_ ?d2_ ?c2_ ?o2_ ?D2_ ?M2_ ?w2_2 ?w3_2 ?w4_2 ?w8_2_0 ?w9_2 ?w10_2 ?w11_2 ?w12_2 ?w13_2 ?w14_2 ?w15_2 ?w16_2 ?w18_2 ?w19_2 ?w20_2 ?n3_ ?k3_ ?b3_ ?t3_ ?g3_ ?h3_ ?d3_ ?c3_ ?o3_ ?D3_ ?M3_ ?w2_3 ?w3_3 ?w4_3 ?w8_3_0 ?w9_3 ?w10_3 ?w11_3 ?w12_3 ?w13_3 ?w14_3 ?w15_3 ?w16_3 ?w18_3 ?w19_3 ?w20_3 ?n4_ ?k4_ ?b4_ ?t4_ ?g4_ ?h4_ ?d4_ ?c4_ ?o4_ ?D4_ ?M4_ ?w2_4 ?w3_4 ?w4_4 ?w8_4_0 ?w9_4 ?w10_4 ?w11_4 ?w12_4 ?w13_4 ?w14_4 ?w15_4 ?w16_4 ?w18_4 ?w19_4 ?w20_4 ?n5_ ?k5_ ?b5_ ?t5_ ?g5_ ?h5_ ?d5_ ?c5_ ?o5_ ?D5_ ?M5_ ?w2_5 ?w3_5 ?w4_5 ?w8_5_0 ?w9_5 ?w10_5 ?w11_5 ?w12_5 ?w13_5 ?w14_5 ?w15_5 ?w16_5 ?w18_5 ?w19_5 ?w20_5 ?n6_ ?k6_ ?b6_ ?t6_ ?g6_ ?h6_ ?d6_ ?c6_ ?o6_ ?D6_ ?M6_ ?w2_6 ?w3_6 ?w4_6 ?w8_6_0 ?w9_6 ?w10_6 ?w11_6 ?w12_6 ?w13_6 ?w14_6 ?w15_6 ?w16_6 ?w18_6 ?w19_6 ?w20_6 ?n7_ ?k7_ ?b7_ ?t7_ ?g7_ ?h7_ ?d7_ ?c7_ ?o7_ ?D7_ ?M7_ ?w2_7 ?w3_7 ?w4_7 ?w8_7_0 ?w9_7 ?w10_7 ?w11_7 ?w12_7 ?w13_7 ?w14_7 ?w15_7 ?w16_7 ?w18_7 ?w19_7 ?w20_7 ?n8_ ?k8_ ?b8_ ?t8_ ?g8_ ?h8_ ?d8_ ?c8_ ?o8_ ?D8_ ?M8_ ?w2_8 ?w3_8 ?w4_8 ?w8_8_0 ?w9_8 ?w10_8 ?w11_8 ?w12_8 ?w13_8 ?w14_8 ?w15_8 ?w16_8 ?w18_8 ?w19_8 ?w20_8 ?n9_ ?k9_ ?b9_ ?t9_ ?g9_ ?h9_ ?d9_ ?c9_ ?o9_ ?D9_ ?M9_ ?x9_ ?n10_ ?k10_ ?b10_ ?t10_ ?g10_ ?h10_ ?d10_ ?c10_ ?o10_ ?D10_ ?M10_ ?x10_ ?n11_ ?k11_ ?b11_ ?t11_ ?g11_ ?h11_ ?d11_ ?c11_ ?o11_ ?D11_ ?M11_ ?x11_ ?n12_ ?k12_ ?b12_ ?t12_ ?g12_ ?h12_ ?d12_ ?c12_ ?o12_ ?D12_ ?M12_ ?x12_ ?n13_ ?k13_ ?b13_ ?t13_ ?g13_ ?h13_ ?d13_ ?c13_ ?o13_ ?D13_ ?M13_ ?x13_ ?n14_ ?k14_ ?b14_ ?t14_ ?g14_ ?h14_ ?d14_ ?c14_ ?o14_ ?D14_ ?M14_ ?x14_ ?n15_ ?k15_ ?b15_ ?t15_ ?g15_ ?h15_ ?d15_ ?c15_ ?o15_ ?D15_ ?M15_ ?x15_ ?n16_ ?k16_ ?b16_ ?t16_ ?g16_ ?h16_ ?d16_ ?c16_ ?o16_ ?D16_ ?M16_ ?w2_16 ?w3_16 ?w4_16 ?w8_16_0 ?w8_16_1 ?w9_16 ?w10_16 ?w11_16 ?w12_16 ?w13_16 ?w14_16 ?w15_16 ?w16_16 ?w18_16 ?w19_16 ?w20_16 ?n17_ ?k17_ ?b17_ ?t17_ ?g17_ ?h17_ ?d17_ ?c17_ ?o17_ ?D17_ ?M17_ ?w2_17 ?w3_17 ?w4_17 ?w8_17_0 ?w8_17_1 ?w9_17 ?w10_17 ?w11_17 ?w12_17 ?w13_17 ?w14_17 ?w15_17 ?w16_17 ?w18_17 ?w19_17 ?w20_17 ?nT_ ?kT_ ?bT_ ?tT_ ?gT_ ?hT_ ?dT_ ?cT_ ?oT_ ?DT_ ?MT_ ?xT_ ?nd_ ?c_LETTERS ?r_LETTERS ?c_MOST_SIGNS ?r_MOST_SIGNS ?c_MOST_LETTERS ?r_MOST_LETTERS ?z_abs ?z_int ?z_len ?z_range ?z_repr ?z_isinstance ?z_str ?z_bool ?z_list ?z_dict ?z_set ?z_sorted ?z_all ?z_zip ?z_ValueError
    (case a4 => k_is)
    (case l4 => k_is)
    (case c4 => k_is)
    (case k4 => k_is)
    (case a10 => k_is)
    (case l10 => k_is)
    (case c10 => k_is)
    (case k10 => k_is)
    (case a6 => k_is)
    (case l6 => k_is)
    (case c6 => k_is)
    (case k6 => k_is)
    (case a7 => k_is)
    (case l7 => k_is)
    (case c7 => k_is)
    (case k7 => k_is)
    (case a8 => k_is)
    (case l8 => k_is)
    (case c8 => k_is)
    (case k8 => k_is)
    (case a5 => k_is)
    (case l5 => k_is)
    (case c5 => k_is)
    (case k5 => k_is)
    (case a9 => k_is)
    (case l9 => k_is)
    (case c9 => k_is)
    (case k9 => k_is)
    (case a11 => k_is)
    (case l11 => k_is)
    (case c11 => k_is)
    (case k11 => k_is)
    (case a33 => k_is)
    (case l33 => k_is)
    (case c33 => k_is)
    (case k33 => k_is)
    (case a34 => k_is)
    (case l34 => k_is)
    (case c34 => k_is)
    (case k34 => k_is)
    (case a35 => k_is)
    (case l35 => k_is)
    (case c35 => k_is)
    (case k35 => k_is)
    (case a36 => k_is)
    (case l36 => k_is)
    (case c36 => k_is)
    (case k36 => k_is)
    (case a37 => k_is)
    (case l37 => k_is)
    (case c37 => k_is)
    (case k37 => k_is)
    (case a38 => k_is)
    (case l38 => k_is)
    (case c38 => k_is)
    (case k38 => k_is)
    (case a39 => k_is)
    (case l39 => k_is)
    (case c39 => k_is)
    (case k39 => k_is)
    (case a40 => k_is)
    (case l40 => k_is)
    (case c40 => k_is)
    (case k40 => k_is)
    (case a41 => k_is)
    (case l41 => k_is)
    (case c41 => k_is)
    (case k41 => k_is)
    (case a42 => k_is)
    (case l42 => k_is)
    (case c42 => k_is)
    (case k42 => k_is)
    (case a43 => k_is)
    (case l43 => k_is)
    (case c43 => k_is)
    (case k43 => k_is)
    (case a44 => k_is)
    (case l44 => k_is)
    (case c44 => k_is)
    (case k44 => k_is)
    (case a45 => k_is)
    (case l45 => k_is)
    (case c45 => k_is)
    (case k45 => k_is)
    (case a46 => k_is)
    (case l46 => k_is)
    (case c46 => k_is)
    (case k46 => k_is)
    (case a47 => k_is)
    (case l47 => k_is)
    (case c47 => k_is)
    (case k47 => k_is)
    (case hn => k_is)
    (case ht => k_is)
    (case w21 => k_is)
    (case w22 => k_is)
    (case w23 => first | rfl | decide +kernel)
    (case n0_ => k_is)
    (case k0_ => k_is)
    (case b0_ => k_is)
    (case t0_ => k_is)
    (case g0_ => k_is)
    (case h0_ => k_is)
    (case d0_ => k_is)
    (case c0_ => k_is)
    (case o0_ => k_is)
    (case D0_ => k_is)
    (case M0_ => rfl)
    (case w2_0 => k_is)
    (case w3_0 => rfl)
    (case w4_0 => k_is)
    (case w8_0_0 => k_is)
    (case w9_0 => k_is)
    (case w10_0 => k_is)
    (case w11_0 => k_is)
    (case w12_0 => k_is)
    (case w13_0 => k_is)
    (case w14_0 => rfl)
    (case w15_0 => first | rfl | decide +kernel)
    (case w16_0 => k_is)
    (case w18_0 => k_is)
    (case w19_0 => ks_is)
    (case w20_0 => k_is)
    (case n1_ => k_is)
    (case k1_ => k_is)
    (case b1_ => k_is)
    (case t1_ => k_is)
    (case g1_ => k_is)
    (case h1_ => k_is)
    (case d1_ => k_is)
    (case c1_ => k_is)
    (case o1_ => k_is)
    (case D1_ => k_is)
    (case M1_ => rfl)
    (case w2_1 => k_is)
    (case w3_1 => rfl)
    (case w4_1 => k_is)
    (case w8_1_0 => k_is)
    (case w9_1 => k_is)
    (case w10_1 => k_is)
    (case w11_1 => k_is)
    (case w12_1 => k_is)
    (case w13_1 => k_is)
    (case w14_1 => rfl)
    (case w15_1 => first | rfl | decide +kernel)
    (case w16_1 => k_is)
    (case w18_1 => k_is)
    (case w19_1 => ks_is)
    (case w20_1 => k_is)
    (case n2_ => k_is)
    (case k2_ => k_is)
    (case b2_ => k_is)
    (case t2_ => k_is)
    (case g2_ => k_is)
    (case h2_ => k_is)
    (case d2_ => k_is)
    (case c2_ => k_is)
    (case o2_ => k_is)
    (case D2_ => k_is)
    (case M2_ => rfl)
    (case w2_2 => k_is)
    (case w3_2 => rfl)
    (case w4_2 => k_is)
    (case w8_2_0 => k_is)
    (case w9_2 => k_is)
    (case w10_2 => k_is)
    (case w11_2 => k_is)
    (case w12_2 => k_is)
    (case w13_2 => k_is)
    (case w14_2 => rfl)
    (case w15_2 => first | rfl | decide +kernel)
    (case w16_2 => k_is)
    (case w18_2 => k_is)
    (case w19_2 => ks_is)
    (case w20_2 => k_is)
    (case n3_ => k_is)
    (case k3_ => k_is)
    (case b3_ => k_is)
    (case t3_ => k_is)
    (case g3_ => k_is)
    (case h3_ => k_is)
    (case d3_ => k_is)
    (case c3_ => k_is)
    (case o3_ => k_is)
    (case D3_ => k_is)
    (case M3_ => rfl)
    (case w2_3 => k_is)
    (case w3_3 => rfl)
    (case w4_3 => k_is)
    (case w8_3_0 => k_is)
    (case w9_3 => k_is)
    (case w10_3 => k_is)
    (case w11_3 => k_is)
    (case w12_3 => k_is)
    (case w13_3 => k_is)
    (case w14_3 => rfl)
    (case w15_3 => first | rfl | decide +kernel)
    (case w16_3 => k_is)
    (case w18_3 => k_is)
    (case w19_3 => ks_is)
    (case w20_3 => k_is)
    (case n4_ => k_is)
    (case k4_ => k_is)
    (case b4_ => k_is)
    (case t4_ => k_is)
    (case g4_ => k_is)
    (case h4_ => k_is)
    (case d4_ => k_is)
    (case c4_ => k_is)
    (case o4_ => k_is)
    (case D4_ => k_is)
    (case M4_ => rfl)
    (case w2_4 => k_is)
    (case w3_4 => rfl)
    (case w4_4 => k_is)
    (case w8_4_0 => k_is)
    (case w9_4 => k_is)
    (case w10_4 => k_is)
    (case w11_4 => k_is)
    (case w12_4 => k_is)
    (case w13_4 => k_is)
    (case w14_4 => rfl)
    (case w15_4 => first | rfl | decide +kernel)
    (case w16_4 => k_is)
    (case w18_4 => k_is)
    (case w19_4 => ks_is)
    (case w20_4 => k_is)
    (case n5_ => k_is)
    (case k5_ => k_is)
    (case b5_ => k_is)
    (case t5_ => k_is)
    (case g5_ => k_is)
    (case h5_ => k_is)
    (case d5_ => k_is)
    (case c5_ => k_is)
    (case o5_ => k_is)
    (case D5_ => k_is)
    (case M5_ => rfl)
    (case w2_5 => k_is)
    (case w3_5 => rfl)
    (case w4_5 => k_is)
    (case w8_5_0 => k_is)
    (case w9_5 => k_is)
    (case w10_5 => k_is)
    (case w11_5 => k_is)
    (case w12_5 => k_is)
    (case w13_5 => k_is)
    (case w14_5 => rfl)
    (case w15_5 => first | rfl | decide +kernel)
    (case w16_5 => k_is)
    (case w18_5 => k_is)
    (case w19_5 => ks_is)
    (case w20_5 => k_is)
    (case n6_ => k_is)
    (case k6_ => k_is)
    (case b6_ => k_is)
    (case t6_ => k_is)
    (case g6_ => k_is)
    (case h6_ => k_is)
    (case d6_ => k_is)
    (case c6_ => k_is)
    (case o6_ => k_is)
    (case D6_ => k_is)
    (case M6_ => rfl)
    (case w2_6 => k_is)
    (case w3_6 => rfl)
    (case w4_6 => k_is)
    (case w8_6_0 => k_is)
    (case w9_6 => k_is)
    (case w10_6 => k_is)
    (case w11_6 => k_is)
    (case w12_6 => k_is)
    (case w13_6 => k_is)
    (case w14_6 => rfl)
    (case w15_6 => first | rfl | decide +kernel)
    (case w16_6 => k_is)
    (case w18_6 => k_is)
    (case w19_6 => ks_is)
    (case w20_6 => k_is)
    (case n7_ => k_is)
    (case k7_ => k_is)
    (case b7_ => k_is)
    (case t7_ => k_is)
    (case g7_ => k_is)
    (case h7_ => k_is)
    (case d7_ => k_is)
    (case c7_ => k_is)
    (case o7_ => k_is)
    (case D7_ => k_is)
    (case M7_ => rfl)
    (case w2_7 => k_is)
    (case w3_7 => rfl)
    (case w4_7 => k_is)
    (case w8_7_0 => k_is)
    (case w9_7 => k_is)
    (case w10_7 => k_is)
    (case w11_7 => k_is)
    (case w12_7 => k_is)
    (case w13_7 => k_is)
    (case w14_7 => rfl)
    (case w15_7 => first | rfl | decide +kernel)
    (case w16_7 => k_is)
    (case w18_7 => k_is)
    (case w19_7 => ks_is)
    (case w20_7 => k_is)
    (case n8_ => k_is)
    (case k8_ => k_is)
    (case b8_ => k_is)
    (case t8_ => k_is)
    (case g8_ => k_is)
    (case h8_ => k_is)
    (case d8_ => k_is)
    (case c8_ => k_is)
    (case o8_ => k_is)
    (case D8_ => k_is)
    (case M8_ => rfl)
    (case w2_8 => k_is)
    (case w3_8 => rfl)
    (case w4_8 => k_is)
    (case w8_8_0 => k_is)
    (case w9_8 => k_is)
    (case w10_8 => k_is)
    (case w11_8 => k_is)
    (case w12_8 => k_is)
    (case w13_8 => k_is)
    (case w14_8 => rfl)
    (case w15_8 => first | rfl | decide +kernel)
    (case w16_8 => k_is)
    (case w18_8 => k_is)
    (case w19_8 => ks_is)
    (case w20_8 => k_is)
    (case n9_ => k_is)
    (case k9_ => k_is)
    (case b9_ => k_is)
    (case t9_ => k_is)
    (case g9_ => k_is)
    (case h9_ => k_is)
    (case d9_ => k_is)
    (case c9_ => k_is)
    (case o9_ => k_is)
    (case D9_ => k_is)
    (case M9_ => rfl)
    (case x9_ => k_exc)
    (case n10_ => k_is)
    (case k10_ => k_is)
    (case b10_ => k_is)
    (case t10_ => k_is)
    (case g10_ => k_is)
    (case h10_ => k_is)
    (case d10_ => k_is)
    (case c10_ => k_is)
    (case o10_ => k_is)
    (case D10_ => k_is)
    (case M10_ => rfl)
    (case x10_ => k_exc)
    (case n11_ => k_is)
    (case k11_ => k_is)
    (case b11_ => k_is)
    (case t11_ => k_is)
    (case g11_ => k_is)
    (case h11_ => k_is)
    (case d11_ => k_is)
    (case c11_ => k_is)
    (case o11_ => k_is)
    (case D11_ => k_is)
    (case M11_ => rfl)
    (case x11_ => k_exc)
    (case n12_ => k_is)
    (case k12_ => k_is)
    (case b12_ => k_is)
    (case t12_ => k_is)
    (case g12_ => k_is)
    (case h12_ => k_is)
    (case d12_ => k_is)
    (case c12_ => k_is)
    (case o12_ => k_is)
    (case D12_ => k_is)
    (case M12_ => rfl)
    (case x12_ => k_exc)
    (case n13_ => k_is)
    (case k13_ => k_is)
    (case b13_ => k_is)
    (case t13_ => k_is)
    (case g13_ => k_is)
    (case h13_ => k_is)
    (case d13_ => k_is)
    (case c13_ => k_is)
    (case o13_ => k_is)
    (case D13_ => k_is)
    (case M13_ => rfl)
    (case x13_ => k_exc)
    (case n14_ => k_is)
    (case k14_ => k_is)
    (case b14_ => k_is)
    (case t14_ => k_is)
    (case g14_ => k_is)
    (case h14_ => k_is)
    (case d14_ => k_is)
    (case c14_ => k_is)
    (case o14_ => k_is)
    (case D14_ => k_is)
    (case M14_ => rfl)
    (case x14_ => k_exc)
    (case n15_ => k_is)
    (case k15_ => k_is)
    (case b15_ => k_is)
    (case t15_ => k_is)
    (case g15_ => k_is)
    (case h15_ => k_is)
    (case d15_ => k_is)
    (case c15_ => k_is)
    (case o15_ => k_is)
    (case D15_ => k_is)
    (case M15_ => rfl)
    (case x15_ => k_exc)
    (case n16_ => k_is)
    (case k16_ => k_is)
    (case b16_ => k_is)
    (case t16_ => k_is)
    (case g16_ => k_is)
    (case h16_ => k_is)
    (case d16_ => k_is)
    (case c16_ => k_is)
    (case o16_ => k_is)
    (case D16_ => k_is)
    (case M16_ => rfl)
    (case w2_16 => k_is)
    (case w3_16 => rfl)
    (case w4_16 => k_is)
    (case w8_16_0 => k_is)
    (case w8_16_1 => k_is)
    (case w9_16 => k_is)
    (case w10_16 => k_is)
    (case w11_16 => k_is)
    (case w12_16 => k_is)
    (case w13_16 => k_is)
    (case w14_16 => rfl)
    (case w15_16 => first | rfl | decide +kernel)
    (case w16_16 => k_is)
    (case w18_16 => k_is)
    (case w19_16 => ks_is)
    (case w20_16 => k_is)
    (case n17_ => k_is)
    (case k17_ => k_is)
    (case b17_ => k_is)
    (case t17_ => k_is)
    (case g17_ => k_is)
    (case h17_ => k_is)
    (case d17_ => k_is)
    (case c17_ => k_is)
    (case o17_ => k_is)
    (case D17_ => k_is)
    (case M17_ => rfl)
    (case w2_17 => k_is)
    (case w3_17 => rfl)
    (case w4_17 => k_is)
    (case w8_17_0 => k_is)
    (case w8_17_1 => k_is)
    (case w9_17 => k_is)
    (case w10_17 => k_is)
    (case w11_17 => k_is)
    (case w12_17 => k_is)
    (case w13_17 => k_is)
    (case w14_17 => rfl)
    (case w15_17 => first | rfl | decide +kernel)
    (case w16_17 => k_is)
    (case w18_17 => k_is)
    (case w19_17 => ks_is)
    (case w20_17 => k_is)
    (case nT_ => k_is)
    (case kT_ => k_is)
    (case bT_ => k_is)
    (case tT_ => k_is)
    (case gT_ => k_is)
    (case hT_ => k_is)
    (case dT_ => k_is)
    (case cT_ => k_is)
    (case oT_ => k_is)
    (case DT_ => k_is)
    (case MT_ => rfl)
    (case xT_ => k_exc)
    (case nd_ => first | decide | decide +kernel)
    (case c_LETTERS => k_is)
    (case r_LETTERS => exact ⟨_, rfl⟩)
    (case c_MOST_SIGNS => k_is)
    (case r_MOST_SIGNS => exact ⟨_, rfl⟩)
    (case c_MOST_LETTERS => k_is)
    (case r_MOST_LETTERS => exact ⟨_, rfl⟩)
    (case z_abs => k_is)
    (case z_int => k_is)
    (case z_len => k_is)
    (case z_range => k_is)
    (case z_repr => k_is)
    (case z_isinstance => k_is)
    (case z_str => k_is)
    (case z_bool => k_is)
    (case z_list => k_is)
    (case z_dict => k_is)
    (case z_set => k_is)
    (case z_sorted => k_is)
    (case z_all => k_is)
    (case z_zip => k_is)
    (case z_ValueError => k_is)
