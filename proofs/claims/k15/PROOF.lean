import PyProof.Rows.All
import Wide.All
import OpenK.AllK
import Wide.FinOn
import HandS.ForMost
import PyProof.ReprReads
import PyProof.ReprRoads
import HandS.Codes
import HandS.Dict
import KE.GoesEnum
import KE.GoesMore
import HandS.Property
import HandS.IsInst
import HandS.FStr
import KE.KOpsOwn
import OpenK.KMeth
import PyProof.InstNe
import HandS.DictComp
import HandS.Conv
import HandS.TupLen
import HandS.More
import HandS.Flow
import HandS.Defaults
import HandS.Zip
import PyProof.Rows.RegFStrParts
import PyProof.ReprBulk
import PyProof.StrLawsRepr
import PyProof.EqAt
import PyProof.NeKinds
import PyProof.ListStr
import PyProof.StrBlock2
import PySem.Challenge.RW_builttexts_k15_texts_refused
import KE.KDictList
import HandS.ListItems
import KE.KDictKeyed
import HandS.ExcInit
import KE.KExcSuper
import HandS.Words
import HandS.Exc
import HandS.ExcOwn
import HandS.ExcIs
import HandS.WordsExc
import KE.KExcIs
import HandS.ExcField
import HandS.Set
import HandS.SetTxt0
import HandS.SetTxtIn
import PyProof.StrWalks
import HandS.Style
import HandS.Small
set_option Elab.async false
set_option linter.all false
set_option maxRecDepth 100000
set_option maxHeartbeats 16000000
/-! repr of data, and defs that are called where no repr runs (guards told as empty) -/
namespace Rg
open PySem PySem.Spec PyProof.Rows L2

/-- a promise of a def for callers around whom no repr is under way -/
structure GFn (P : Program) (w : World) (K : PySem.W.Frag) (mg : Str → Option Value) (base : Heap)
    (CX : CXT) (k : Nat) (f : Addr) (fd : FuncData) (ps : List Str) (sp : Sp) : Prop where
  len : ∀ vs H Q E, sp vs H Q E → vs.length = ps.length
  run : ∀ (A : Around) (outer : List Env) (s : Shared) (H : Hp) (args : Args) (us : List Value) (vs : List V)
    (Q : VK) (E : XK), Room k A → A.guards = some [] → Env0 P w K mg base A outer s H →
    BindsTo s fd args (ps.zip us) → Vals vs us → sp vs H Q E →
    codeAny (model P w) A (.call (.ref f) args) (CR CX outer P w H s Q E) s

section
variable {P : Program} {w : World} {K : PySem.W.Frag} {mg : Str → Option Value} {base : Heap} {CX : CXT}
  {k : Nat} {f : Addr} {fd : FuncData} {ps : List Str} {sp : Sp}

theorem gfn_of_fnOk (F : FnOk P w K mg base CX k f fd ps sp) : GFn P w K mg base CX k f fd ps sp :=
  ⟨F.len, fun A outer s H args us vs Q E hr _ e0 hb r q => F.run A outer s H args us vs Q E hr e0 hb r q⟩

theorem deeper_guards {A : Around} (env : Env) (h : A.guards = some []) : (A.deeper env).guards = some [] := h

theorem gfn_of {name qual : Str} {params : Arguments} {body : List Stmt} {scope : Scope}
    {dV kV doc pm cdv ct oc : Value} {an od : Option Addr} {osl : Array (Option Value)} {N : List Str}
    (lk : K.lookup f = some ⟨oc, od, .func (PySem.W.fnOf name qual params body scope dV kV doc pm an cdv ct), osl⟩)
    (hcd : PySem.W.codeIn K cdv qual = true) (S : FnScope N ps scope)
    (len : ∀ vs H Q E, sp vs H Q E → vs.length = ps.length)
    (hbody : ∀ (A : Around) (outer : List Env) (s : Shared) (H : Hp) (vs : List V) (Q : VK) (E : XK),
      Room k (A.deeper (envOfC qual scope s.heap.objs.size f cdv)) →
      (A.deeper (envOfC qual scope s.heap.objs.size f cdv)).guards = some [] → sp vs H Q E →
      ∃ t, PSs (cxOf CX P w K mg base N qual scope f cdv A outer s H E) body t ∧
        t { nx := fun _ H' => Q .non H', rt := Q } (start N vs) H) :
    GFn P w K mg base CX (k + 1) f (PySem.W.fnOf name qual params body scope dV kV doc pm an cdv ct) ps sp := by
  refine ⟨len, ?_⟩
  intro A outer s H args us vs Q E hr hg e0 hb r hsp
  have hlen := len _ _ _ _ hsp
  have kin : K.In s.heap := e0.mod.kin.keeps (fun b o e => (e0.bs b o e).1)
  have nolim : s.heap.NoLimit := e0.mod.nolimit.keeps (fun b o e => (e0.bs b o e).1)
  have kinds : ∀ y ∈ ps.zip us, scope.names.lookup y.1 = some .local ∨
      (scope.names.lookup y.1 = some .cell ∧
        ((cellsFrom (s.heap.objs.size + 1) scope.names []).lookup y.1).isSome = true) := by
    rintro ⟨n, v⟩ hy
    rcases S.par n (List.of_mem_zip hy).1 with z | z
    · exact .inl z
    · exact .inr ⟨z, PySem.W.cellsFrom_some _ _ _ (.inl z)⟩
  refine codeAny_call_function hr.depth (kin _ _ lk) rfl S.co S.gen rfl
    (PySem.W.codeRec_of kin hcd) (hb _ _ _ _ ?_)
  refine wpAny_newFunctionEnv_cells S.kind kinds ?_
  intro env he s1 x
  subst he
  refine ⟨nolim.keeps x.toInCall.keep, codeAny_func ?_⟩
  obtain ⟨t, ht, hq⟩ := hbody A outer s H vs Q E (hr.deeper _) (deeper_guards _ hg) hsp
  have I0 : Inv (cxOf CX P w K mg base N qual scope f cdv A outer s H E) [] (start N vs) H s1 :=
    inv_start S hr.hd e0 hlen r x
  refine wpAny_mono (ht.run [] s1 (start N vs) H _ I0 hq) ?_ (fun _ _ z => z)
  intro fl s' hs
  cases fl with
  | ret u =>
    obtain ⟨v, σ', H', J, rv, q⟩ := hs
    exact ⟨v, H', J.os, J.bare, J.base, J.hok, rv, q⟩
  | next =>
    obtain ⟨σ', H', J, q⟩ := hs
    exact ⟨V.non, H', J.os, J.bare, J.base, J.hok, rfl, q⟩
  | brk =>
    obtain ⟨_, _, _, q⟩ := hs
    exact q.elim
  | cont =>
    obtain ⟨_, _, _, q⟩ := hs
    exact q.elim

/-- the body's walk of a def of the text, nothing raised -/
theorem fun_okG {x qual : Str} {st : Stmt} {N : List Str} (F : Fun K x qual st f fd)
    (S : FnScope N ps (defScope st)) (len : ∀ vs H Q E, sp vs H Q E → vs.length = ps.length)
    (hbody : ∀ (cdv : Value) (A : Around) (outer : List Env) (s : Shared) (H : Hp) (vs : List V) (Q : VK) (E : XK),
      Room k (A.deeper (envOfC qual (defScope st) s.heap.objs.size f cdv)) →
      (A.deeper (envOfC qual (defScope st) s.heap.objs.size f cdv)).guards = some [] → sp vs H Q E →
      ∃ t, PSs (cxOf CX0 P w K mg base N qual (defScope st) f cdv A outer s H E).nox (defBody st) t ∧
        t { nx := fun _ H' => Q .non H', rt := Q } (start N vs) H) :
    GFn P w K mg base CX0 (k + 1) f fd ps sp := by
  obtain ⟨oc, od, kV, doc, pm, an, cdv, ct, osl, rfl, lk, hcd⟩ := F.ex
  refine gfn_of lk hcd S len ?_
  intro A outer s H vs Q E hr hg hsp
  obtain ⟨t, h, q⟩ := hbody cdv A outer s H vs Q E hr hg hsp
  exact ⟨t, h.nox, q⟩
end

section
variable {X : Cx} {CX : CXT} {k : Nat} {f : Addr} {fd : FuncData} {ps : List Str} {sp : Sp} {dvs : List V}
  {ds : List Value} {E : XK} {x : Str} {p pos : Pos} {e : Expr} {es : List Expr} {t : TA}

theorem run_gfn {pins : List (Addr × Obj)} {σ : L2.St} {H : Hp} {s : Shared} {Q : VK} {us : List Value} {vs : List V}
    (F : GFn X.prog X.w X.K X.mg X.base CX k f fd ps sp) (hr : Room k X.A) (hg : X.A.guards = some [])
    (hb : Binds X.K fd ps ds) (hd : Vals dvs ds) (hx : Passes CX X E)
    (I : Inv X pins σ H s) (r : Vals vs us) (h : sp (vs ++ dvs) H Q E) :
    wpAny (model X.prog X.w) X.A (call (.ref f) us) (EP X pins σ Q) X.xe s := by
  have rr : Vals (vs ++ dvs) (us ++ ds) := r.append hd
  have hl : (us ++ ds).length = ps.length := by
    rw [← rr.length]
    exact F.len _ _ _ _ h
  refine wpAny_call (codeAny_mono (F.run X.A X.stack s H ⟨us, []⟩ (us ++ ds) (vs ++ dvs) Q E hr hg I.env0
    (hb s us I.kIn hl) rr h) ?_)
  intro r s' hq
  cases r with
  | error z => exact hx pins σ H s z s' I hq
  | ok fl =>
    cases fl with
    | ret u => exact I.after hq
    | next => exact hq.elim
    | brk => exact hq.elim
    | cont => exact hq.elim

theorem pe_callG (F : GFn X.prog X.w X.K X.mg X.base CX k f fd ps sp) (hr : Room k X.A)
    (hgu : X.A.guards = some []) (hg : Gl X x) (hm : X.mg x = some (.ref f))
    (hk : PySem.W.keepIn X.K (.ref f) = true) (hb : Binds X.K fd ps ds) (hd : Vals dvs ds) (hx : Passes CX X E)
    (ha : PA X (e :: es) t) (hdb : (x == ("__debug__" : Str)) = false := by decide)
    (he : starEach (e :: es) X.env = (false, eval e X.env) :: starEach es X.env := by rfl)
    (hpl : (backTo pos (starEach es X.env)).any (·.1) = false := by rfl) :
    PE X (.Call (.Name x p) (e :: es) [] pos) (tCall sp dvs E t) := by
  refine ⟨?_⟩
  intro pins s σ H Q I h
  refine wpAny_Call_Name_kw (ld_glob I hg hm ?_ hdb)
  refine PySem.W.callWith_K (h₀ := X.base) I.ok.mod.kin hk (thn (ha.run pos pins s σ H _ I h) ?_) he hpl
  rintro us s1 ⟨vs, H1, I1, r, q⟩
  exact ⟨I1.kIn, run_gfn F hr hgu hb hd hx I1 r q⟩
end

/-! ### the law's end with guards -/
theorem law_callG {P : Program} {w : World} {K : PySem.W.Frag} {mg mb : Str → Option Value} {CX : CXT} {k : Nat}
    {fa a : Addr} {fd : FuncData} {x : Str} {sp : Sp} {s1 : Shared} {vs : List Value} {ns : List Int}
    (KX : K.In s1.heap) (hns : s1.heap.Ns mainGlobals mg) (hb : s1.heap.Ns builtinsNs mb)
    (hbb : ∀ x : Str, x ≠ "__name__" → mb x = bootBuiltins x) (hlim : s1.heap.NoLimit) (hg : s1.gens = #[])
    (ha : s1.heap.get? a = some { cls := .type "list", data := .seq vs.toArray }) (hi : IntsAre vs ns)
    (hl : ns.length ≤ sizeLine) (hr : Room k callerA)
    (F : ∀ base : Heap, K.In base → base.Ns mainGlobals mg → GFn P w K mg base CX k fa fd [x] sp)
    (hbind : ∀ (s : Shared) (u : Value), BindsTo s fd ⟨[u], []⟩ [(x, u)])
    (hsp : ∀ H : Hp, Only H → SqL K H a (ns.map V.int) → sp [.ref a] H (fun v _ => v = .bl true) fun _ _ _ => False)
    (hCX : ∀ H e s', CX [] H s1 (fun _ _ _ => False) e s' → False) :
    codeAny (model P w) callerA (.call (.ref fa) ⟨[.ref a], []⟩)
      (fun r s' => r = .ok (.ret (.bool true)) ∧ OldK s1.heap s'.heap ∧ s'.os = s1.os ∧ AllBare s'.gens) s1 := by
  have rv := vals_ints hi
  have lenV := hi.length
  have core : ∀ H : Hp, Only H → SqL K H a (ns.map V.int) → HOk P w H s1.heap → (∀ b, H b ≠ none → b = a) →
      (H a ≠ none → K.lookup a = none) →
      codeAny (model P w) callerA (.call (.ref fa) ⟨[.ref a], []⟩)
        (fun r s' => r = .ok (.ret (.bool true)) ∧ OldK s1.heap s'.heap ∧ s'.os = s1.os ∧ AllBare s'.gens) s1 := by
    intro H hO hS hok hA hK
    have noA : ∀ {b : Addr} {o : Obj} {es : Array DictEntry} {ep : Nat}, s1.heap.get? b = some o →
        o.data = .dict es ep → H b = none := by
      intro b o es ep e d
      cases q : H b with
      | none => rfl
      | some u =>
        have e' : b = a := hA b (by rw [q]; simp)
        subst e'
        rw [ha] at e
        cases e
        exact absurd d (by simp)
    have nsK : ∀ {b : Addr} {m : Str → Option Value}, s1.heap.Ns b m → (hidT s1.heap H).Ns b m := by
      rintro b m ⟨o, es, ep, e, d, r⟩
      exact ⟨o, es, ep, hidT_get e (noA e d), d, r⟩
    have hKb : K.In (hidT s1.heap H) := by
      intro b o e
      refine hidT_get (KX b o e) ?_
      cases q : H b with
      | none => rfl
      | some u =>
        have e' : b = a := hA b (by rw [q]; simp)
        subst e'
        rw [hK (by rw [q]; simp)] at e
        cases e
    have hM : Mod K mg (hidT s1.heap H) := by
      obtain ⟨mc, h1, h2⟩ := hlim
      exact ⟨hKb, nsK hns, ⟨mb, nsK hb, hbb⟩, ⟨mc, nsK h1, h2⟩⟩
    have e0 : Env0 P w K mg (hidT s1.heap H) callerA [] s1 H := by
      refine ⟨rfl, hM, fun b o e => of_hidT e, Nat.le_of_eq (hidT_size _ _), trivial, ?_, hok, .of_eq hg⟩
      intro b hb'
      have hb2 : b ∈ ([] : List Addr) := hb'
      cases hb2
    refine codeAny_mono ((F _ hKb (nsK hns)).run callerA [] s1 H ⟨[.ref a], []⟩ [.ref a] [.ref a] _ _ hr rfl e0
      (hbind s1 (.ref a)) (.cons rfl .nil) (hsp H hO hS)) ?_
    intro r s' h
    cases r with
    | error e => exact (hCX H e s' h).elim
    | ok fl =>
      cases fl with
      | next => exact h.elim
      | brk => exact h.elim
      | cont => exact h.elim
      | ret u =>
        obtain ⟨v, H', os, bare, un, hok', r', q⟩ := h
        have q' : v = .bl true := q
        subst q'
        obtain rfl : u = Value.bool true := r'
        refine ⟨rfl, OldK.of_keep ?_, os, bare⟩
        intro b o e
        cases q : H b with
        | none =>
          refine un.keep b o e q ?_ (by simp)
          intro z
          have z2 : b ∈ ([] : List Addr) := z
          cases z2
        | some u =>
          rcases hO b with z | ⟨ob, xs, z⟩
          · rw [q] at z
            cases z
          · have e1 := (hok b _ z).1
            have e2 := (hok' b _ (un.frzs b ob _ z)).1
            rw [e] at e1
            cases e1
            exact e2
  cases hk : K.lookup a with
  | some o =>
    have e := KX a o hk
    rw [ha] at e
    cases e
    refine core (fun _ => none) (fun _ => .inl rfl) (.inr ⟨_, vs.toArray, _, hk, rfl, rfl, rfl, ?_, by simpa using rv⟩)
      ?_ (fun b z => absurd rfl z) (fun z => absurd rfl z)
    · rw [List.size_toArray, lenV]
      exact hl
    · intro b u z
      have z' : (none : Option HO) = some u := z
      cases z'
  | none =>
    refine core (fun b => if b = a then some (.frz { cls := .type "list", data := .seq vs.toArray } (.lst (ns.map V.int))) else none)
      ?_ (.inl (.inr ⟨{ cls := .type "list", data := .seq vs.toArray }, if_pos rfl⟩)) ?_ ?_ (fun _ => hk)
    · intro b
      by_cases hba : b = a
      · exact .inr ⟨_, _, if_pos hba⟩
      · exact .inl (if_neg hba)
    · intro b u z
      by_cases hba : b = a
      · have z' := (if_pos hba).symm.trans z
        cases z'
        subst hba
        refine ⟨ha, ?_, vs, _, rv, ha⟩
        rw [List.length_map]
        exact hl
      · have z' := (if_neg hba).symm.trans z
        cases z'
    · intro b z
      by_cases hba : b = a
      · exact hba
      · exact absurd (if_neg hba) z

theorem walk_ofG {l : PySem.W.OpenLaw} {n k : Nat} {q : Program} {loose : List Str}
    {XP : (Str → Option Value) → Heap → Prop} {YP : World → Heap → Prop} {d : DefRec} {K : Params → PySem.W.Frag}
    {CX : World → CXT} {sp : World → Sp} {x : Str}
    (hn : l.most = some n) (hn2 : n ≤ sizeLine) (hdf : d.params.defaults = []) (hr : Room k callerA)
    (hY : ∀ (w : World) (h : Heap), YP w h → (K w.params).In h)
    (F : ∀ (w : World) (mg : Str → Option Value) (fa : Addr) (h : Heap), (K w.params).In h →
      h.Ns mainGlobals mg → mg d.name = some (.ref fa) →
      ∃ fd : FuncData, (∀ (s : Shared) (u : Value), BindsTo s fd ⟨[u], []⟩ [(x, u)]) ∧
        ∀ base : Heap, (K w.params).In base → base.Ns mainGlobals mg →
          GFn l.prog w (K w.params) mg base (CX w) k fa fd [x] (sp w))
    (hsp : ∀ (w : World) (H : Hp) (a : Addr) (ns : List Int), ns.length ≤ n → Only H →
      SqL (K w.params) H a (ns.map V.int) → sp w [.ref a] H (fun v _ => v = .bl true) fun _ _ _ => False)
    (hCX : ∀ (w : World) (H : Hp) (s : Shared) (e : Value) (s' : Shared), CX w [] H s (fun _ _ _ => False) e s' → False) :
    PySem.W.WalkO q loose XP YP l.row.toRowW d [] (fun f vs => PySem.call f vs) := by
  refine Att.attach_call hn hdf ?_
  intro w s0 s1 mg mb fa o pm cd doc a vs ns G Y ho hd hcd hmg hobj hints hlen hg
  have KX := hY w _ Y
  obtain ⟨fd, hb, hF⟩ := F w mg fa _ KX G.T.g hmg
  exact law_callG KX G.T.g G.T.b G.T.builtins G.T.nolimit hg hobj hints (Nat.le_trans hlen hn2) hr hF hb
    (fun H hO hS => hsp w H a ns hlen hO hS) (fun H e s' => hCX w H s1 e s')

/-! ### repr -/
section
variable {X : Cx}
theorem call_repr_str : CallR X (.builtin "repr")
    (fun xs H Q => ∃ z, xs = [.str z] ∧ (reprText z).length ≤ sizeLine ∧ Q (.str (reprText z)) H) := by
  intro pins s σ H xs us Q I r h
  obtain ⟨z, rfl, hz, q⟩ := h
  obtain ⟨u, rfl, t, rfl⟩ := vals1 r
  exact PySem.P.repr_of_str ⟨.str _, H, I.tok _, ⟨_, rfl⟩, q⟩ hz

/-- repr of a list or a tuple of data without dicts -/
theorem call_repr_data (hg : X.A.guards = some []) (hu : X.A.units + 64 < cLine) : CallR X (.builtin "repr")
    (fun xs H Q => ∃ (a : Addr) (d : PyData), xs = [.ref a] ∧ Dp X.K H (.ref a) d ∧ d.showable = true ∧
      d.hasDict = false ∧ d.depth ≤ 60 ∧ d.shown.length ≤ sizeLine ∧ Q (.str d.shown) H) := by
  intro pins s σ H xs us Q I r h
  obtain ⟨a, d, rfl, hd, hs, hnd, hdp, hz, q⟩ := h
  obtain ⟨u, rfl, ru⟩ := vals1 r
  obtain rfl : u = Value.ref a := ru
  obtain ⟨as, rd⟩ := Dp.reads I d _ _ hd rfl
  refine repr_of_reads' rd hs (fun z => ?_) hg ?_ (fun _ _ e => e) (fun h' u tk hk => ?_) hz
  · rw [hnd] at z
    cases z
  · omega
  · exact ⟨.str _, H, I.kept hk, ⟨_, rfl⟩, q⟩
end
end Rg

/-! further rules of the layer; heaps with one changing list (the bag) -/
namespace Rg
open PySem PySem.Spec PyProof.Rows L2

section
variable {X : Cx}
theorem get_listN : PGet X (fun o i H Q => ∃ (p : Addr) (xs : List V) (k : Nat) (v : V), o = .ref p ∧ i = .int (k : Int) ∧
    SqL X.K H p xs ∧ xs[k]? = some v ∧ Q v H) := by
  intro pins s σ H o i ov iv Q I ro ri h
  obtain ⟨p, xs, k, z, rfl, rfl, hq, he, q⟩ := h
  cases ro
  obtain ⟨t, rfl⟩ := ri
  obtain ⟨its, r, pl, hz⟩ := I.list hq
  obtain ⟨u, eu, ru⟩ := r.get he
  have hl := r.length
  have hk : k < xs.length := (List.getElem?_eq_some_iff.mp he).1
  have hn := line63
  refine wpAny_getItem_list pl.isList (by omega) (by omega) (by simpa using eu) ⟨z, H, I, ru, q⟩
end

/-! ### heaps -/
theorem same_new {H : Hp} {p : Addr} {o : HO} (h : H p = none) : Same H (upd H p o) := by
  intro b x e
  rw [upd_ne (ne_of_none e h)]
  exact e
/-- all that was tracked is as it was, but g -/
def But (g : Addr) (H H' : Hp) : Prop := ∀ b o, b ≠ g → H b = some o → H' b = some o
theorem But.refl (g : Addr) (H : Hp) : But g H H := fun _ _ _ h => h
theorem But.trans {g : Addr} {H H1 H2 : Hp} (a : But g H H1) (b : But g H1 H2) : But g H H2 := fun c o n h => b c o n (a c o n h)
theorem But.of_same {g : Addr} {H H1 : Hp} (a : Same H H1) : But g H H1 := fun b o _ h => a b o h
theorem But.new {g p : Addr} {H H1 : Hp} {o : HO} (a : But g H H1) (h : H1 p = none) : But g H (upd H1 p o) := a.trans (.of_same (same_new h))
theorem But.self {g : Addr} {H H1 : Hp} {o : HO} (a : But g H H1) : But g H (upd H1 g o) := fun b x n h => by
  rw [upd_ne n]
  exact a b x n h
theorem But.upd_new {g p : Addr} {H H1 : Hp} {o : HO} (a : But g H H1) (h : H p = none) (hp : p ≠ g) : But g H (upd H1 p o) := fun b x n e => by
  rw [upd_ne (ne_of_none e h)]
  exact a b x n e
theorem But.free {g p : Addr} {H H1 : Hp} {o : HO} (a : But g H H1) (hg : H1 g = some o) (h : H1 p = none) : H p = none := by
  cases e : H p with
  | none => rfl
  | some x =>
    by_cases n : p = g
    · rw [n, hg] at h
      cases h
    · rw [a p x n e] at h
      cases h

/-! ### the bag -/
def BagL (x0 x1 x2 : Int) (l : Addr) : HO := .lst [.int x0, .int x1, .int x2, .ref l]
def Bag (H : Hp) (g l : Addr) : Prop := ∃ (x0 x1 x2 : Int) (cs : List Int), H g = some (BagL x0 x1 x2 l) ∧
  H l = some (.lst (cs.map V.int)) ∧ 0 ≤ x0 ∧ 0 ≤ x1 ∧ 0 ≤ x2 ∧ (∀ c ∈ cs, 0 ≤ c) ∧ cs.length ≤ 63
theorem bag_ne {x0 x1 x2 : Int} {l : Addr} {cs : List Int} : HO.lst (cs.map V.int) ≠ BagL x0 x1 x2 l := by
  intro e
  have e1 : cs.map V.int = [.int x0, .int x1, .int x2, .ref l] := HO.lst.inj e
  have : V.ref l ∈ cs.map V.int := by rw [e1]; simp
  obtain ⟨c, _, z⟩ := List.mem_map.mp this
  cases z
theorem Bag.new {H : Hp} {g l p : Addr} {o : HO} (b : Bag H g l) (h : H p = none) : Bag (upd H p o) g l := by
  obtain ⟨x0, x1, x2, cs, h1, h2, r⟩ := b
  exact ⟨x0, x1, x2, cs, by rw [upd_ne (ne_of_none h1 h)]; exact h1, by rw [upd_ne (ne_of_none h2 h)]; exact h2, r⟩
theorem Bag.same {H H' : Hp} {g l : Addr} (b : Bag H g l) (s : Same H H') : Bag H' g l := by
  obtain ⟨x0, x1, x2, cs, h1, h2, r⟩ := b
  exact ⟨x0, x1, x2, cs, s _ _ h1, s _ _ h2, r⟩
theorem Bag.at {H : Hp} {g l : Addr} (b : Bag H g l) : ∃ o, H g = some o := by
  obtain ⟨x0, x1, x2, cs, h1, _⟩ := b
  exact ⟨_, h1⟩
theorem Bag.at2 {H : Hp} {g l : Addr} (b : Bag H g l) : ∃ o, H l = some o := by
  obtain ⟨x0, x1, x2, cs, _, h2, _⟩ := b
  exact ⟨_, h2⟩
/-- what is new is not the bag -/
theorem Bag.ne {H : Hp} {g l b : Addr} (h : Bag H g l) (hb : H b = none) : b ≠ g := by
  obtain ⟨o, e⟩ := h.at
  exact (ne_of_none e hb).symm
theorem Bag.ne2 {H : Hp} {g l b : Addr} (h : Bag H g l) (hb : H b = none) : b ≠ l := by
  obtain ⟨o, e⟩ := h.at2
  exact (ne_of_none e hb).symm
theorem Bag.upd_other {H : Hp} {g l p : Addr} {o : HO} (b : Bag H g l) (hp : p ≠ g) (hl : p ≠ l) : Bag (upd H p o) g l := by
  obtain ⟨x0, x1, x2, cs, h1, h2, r⟩ := b
  exact ⟨x0, x1, x2, cs, by rw [upd_ne hp.symm]; exact h1, by rw [upd_ne hl.symm]; exact h2, r⟩

theorem cut_ints (cs : List Int) (lo hi : Option Int) : ∃ zs : List Int, cutV (cs.map V.int) lo hi = zs.map V.int ∧ (∀ z ∈ zs, z ∈ cs) ∧ zs.length ≤ cs.length := by
  unfold cutV
  rw [← List.map_drop, ← List.map_take]
  refine ⟨_, rfl, fun z hz => ?_, ?_⟩
  · exact List.mem_of_mem_drop (List.mem_of_mem_take hz)
  · rw [List.length_take, List.length_drop]
    omega

/-! ### numbers as states -/
def nV (n : Nat) : V := .int (n : Int)
def spTake : Sp := fun vs H Q _ => ∃ (g l : Addr) (m : Int), vs = [.ref g, .int m] ∧ Bag H g l ∧ 0 < m ∧ m < 1073741824 ∧
  ∀ (H' : Hp) (r : Nat), (r : Int) < m → Bag H' g l → But g H H' → Q (nV r) H'

/-! ### what the built-in names hold -/
theorem bInt : bootBuiltins "int" = some (.type "int") := by decide +kernel
theorem bList : bootBuiltins "list" = some (.type "list") := by decide +kernel
theorem bDict : bootBuiltins "dict" = some (.type "dict") := by decide +kernel
theorem bTuple : bootBuiltins "tuple" = some (.type "tuple") := by decide +kernel
theorem bSet : bootBuiltins "set" = some (.type "set") := by decide +kernel
theorem bLen : bootBuiltins "len" = some (.builtin "len") := by decide +kernel
theorem bAbs : bootBuiltins "abs" = some (.builtin "abs") := by decide +kernel
theorem bRepr : bootBuiltins "repr" = some (.builtin "repr") := by decide +kernel
end Rg

/-! repr of data that hold dicts: only a dict's address has to differ from that of the modules' table -/
namespace Rg
open PySem PySem.Spec PyProof.Rows L2
mutual
/-- the value stands for the data, in a heap -/
inductive Sd (h : Heap) : Value → PyData → Prop
  | non : Sd h .none .none
  | bl (b : Bool) : Sd h (.bool b) (.bool b)
  | int (i : Int) (t : Tok) : Sd h (.int i t) (.int i)
  | str (x : Str) (t : Tok) : Sd h (.str x t) (.str x)
  | lst {a : Addr} {o : Obj} {us : Array Value} {n : Nat} {ds : List PyData} : h.get? a = some o → o.cls = .type "list" → o.data = .seq us n → SdAll h us.toList ds → Sd h (.ref a) (.list ds)
  | tup {a : Addr} {o : Obj} {us : Array Value} {n : Nat} {ds : List PyData} : h.get? a = some o → o.cls = .type "tuple" → o.data = .seq us n → SdAll h us.toList ds → Sd h (.ref a) (.tuple ds)
  | dct {a : Addr} {o : Obj} {es : Array DictEntry} {n : Nat} {kvs : List (PyData × PyData)} : h.get? a = some o → o.cls = .type "dict" → o.data = .dict es n → (a == sysModules) = false →
      SdAll h (es.toList.map (·.key)) (kvs.map (·.1)) → SdAll h (es.toList.map (·.val)) (kvs.map (·.2)) → Sd h (.ref a) (.dict kvs)
inductive SdAll (h : Heap) : List Value → List PyData → Prop
  | nil : SdAll h [] []
  | cons {u : Value} {us : List Value} {d : PyData} {ds : List PyData} : Sd h u d → SdAll h us ds → SdAll h (u :: us) (d :: ds)
end
/-- what the induction gives of a value -/
structure RpOf (P : Program) (w : World) (h : Heap) (u : Value) (d : PyData) : Prop where
  rd : ∃ as, Reads h u d as
  rp : d.showable = true → d.shown.length ≤ sizeLine → ∃ bs, ReadAtMost h d.depth bs ∧ ReprK P w bs h d.depth u d.shown
structure RpAll (P : Program) (w : World) (h : Heap) (us : List Value) (ds : List PyData) : Prop where
  rd : ∃ as, ReadsAll h us ds as
  rp : PyData.showableAll ds = true → (∀ t ∈ PyData.shownAll ds, t.length ≤ sizeLine) → ∃ bs, ReadAtMost h (PyData.depthAll ds) bs ∧ ReprAllK P w bs h (PyData.depthAll ds) us (PyData.shownAll ds)
section
variable {P : Program} {w : World} {h : Heap} {u : Value} {d : PyData} {a : Addr} {o : Obj} {n : Nat} {us : Array Value} {ds : List PyData}
theorem rp_plain {t : Str} (r : Reads h u d []) (k : d.shown.length ≤ sizeLine → ReprIs P w u d.shown) : RpOf P w h u d :=
  ⟨⟨_, r⟩, fun _ z => ⟨[], (fun _ q => nomatch q), .of_is (k z) _ _ _⟩⟩
theorem none_in {e m : Nat} {as : List Addr} {bs : List Addr} (r : Reads h (.ref a) d as) (hd : d.depth = m + 1) (hb : ReadAtMost h m bs) : a ∉ bs ∧ ReadAtMost h d.depth (a :: bs) :=
  ⟨not_mem_of_deeper r (by omega) hb, .cons r (by omega) hb⟩
theorem rp_seqT (h1 : h.get? a = some o) (h2 : o.cls = .type "tuple") (h3 : o.data = .seq us n) (A : RpAll P w h us.toList ds) : RpOf P w h (.ref a) (.tuple ds) := by
  obtain ⟨as, r⟩ := A.rd
  have R : Reads h (.ref a) (.tuple ds) as := .tuple h1 h2 h3 r
  refine ⟨⟨_, R⟩, fun hs hz => ?_⟩
  have hz' : (tupleText (PyData.shownAll ds)).length ≤ sizeLine := by rw [PyData.shown] at hz; exact hz
  obtain ⟨bs, hb, hk⟩ := A.rp (by rw [PyData.showable] at hs; exact hs) fun t ht => Nat.le_trans (tupleText_mem_le ht) hz'
  obtain ⟨ni, hb'⟩ := none_in (e := 0) R (by rw [PyData.depth]) hb
  refine ⟨_, hb', ?_⟩
  rw [PyData.depth, PyData.shown]
  exact ReprK.tuple h1 h2 h3 ni hk
theorem rp_seqL (h1 : h.get? a = some o) (h2 : o.cls = .type "list") (h3 : o.data = .seq us n) (A : RpAll P w h us.toList ds) : RpOf P w h (.ref a) (.list ds) := by
  obtain ⟨as, r⟩ := A.rd
  have R : Reads h (.ref a) (.list ds) (a :: as) := .list h1 h2 h3 r
  refine ⟨⟨_, R⟩, fun hs hz => ?_⟩
  have hz' : (listText (PyData.shownAll ds)).length ≤ sizeLine := by rw [PyData.shown] at hz; exact hz
  obtain ⟨bs, hb, hk⟩ := A.rp (by rw [PyData.showable] at hs; exact hs) fun t ht => Nat.le_trans (listText_mem_le ht) hz'
  obtain ⟨ni, hb'⟩ := none_in (e := 0) R (by rw [PyData.depth]) hb
  refine ⟨_, hb', ?_⟩
  rw [PyData.depth, PyData.shown]
  obtain ⟨l⟩ := us
  match l, r, hk, h3 with
  | [], r, _, h3 =>
    have r' : ReadsAll h [] ds as := r
    cases r'
    rw [PyData.shownAll, listText_nil]
    exact ReprK.listEmpty h1 h2 h3
  | x :: l, _, hk, h3 => exact ReprK.list h1 h2 h3 ni (by simpa using hk.length_eq) fun i y e => hk.item i y (by simpa using e)
theorem rp_dict {es : Array DictEntry} {kvs : List (PyData × PyData)} (h1 : h.get? a = some o) (h2 : o.cls = .type "dict") (h3 : o.data = .dict es n) (h4 : (a == sysModules) = false)
    (A : RpAll P w h (es.toList.map (·.key)) (kvs.map (·.1))) (B : RpAll P w h (es.toList.map (·.val)) (kvs.map (·.2))) : RpOf P w h (.ref a) (.dict kvs) := by
  obtain ⟨as, r⟩ := A.rd
  obtain ⟨cs, r'⟩ := B.rd
  have R : Reads h (.ref a) (.dict kvs) (a :: as ++ cs) := .dict h1 h2 h3 r r'
  refine ⟨⟨_, R⟩, fun hs hz => ?_⟩
  have hz' : (dictText (PyData.shownKv kvs)).length ≤ sizeLine := by rw [PyData.shown] at hz; exact hz
  obtain ⟨s1, s2⟩ := PyData.showableKv_split kvs (by rw [PyData.showable] at hs; exact hs)
  obtain ⟨b1, hb1, k1⟩ := A.rp s1 fun t ht => by
    obtain ⟨p, hp, hl⟩ := PyData.shownKv_key_le kvs t ht
    exact Nat.le_trans hl (Nat.le_trans (dictText_mem_le hp) hz')
  obtain ⟨b2, hb2, k2⟩ := B.rp s2 fun t ht => by
    obtain ⟨p, hp, hl⟩ := PyData.shownKv_val_le kvs t ht
    exact Nat.le_trans hl (Nat.le_trans (dictText_mem_le hp) hz')
  have e1 := PyData.depthAll_keys_le kvs
  have e2 := PyData.depthAll_vals_le kvs
  obtain ⟨ni, hb'⟩ := none_in (e := 0) R (by rw [PyData.depth]) ((hb1.mono e1).append (hb2.mono e2))
  refine ⟨_, hb', ?_⟩
  rw [PyData.depth, PyData.shown, PyData.shownKv_eq]
  refine ReprK.dict h1 h2 h3 h4 ni (.of_two _ _ _ (k1.more_le ?_ e1) (k2.more_le ?_ e2))
  · exact fun b q => List.mem_append_left _ q
  · exact fun b q => List.mem_append_right _ q
mutual
theorem Sd.rp : ∀ {u : Value} {d : PyData}, Sd h u d → RpOf P w h u d
  | _, _, .non => rp_plain (t := "") .none fun _ => by rw [PyData.shown]; exact ReprIs.none
  | _, _, .bl b => rp_plain (t := "") (.bool b) fun _ => by rw [PyData.shown]; exact ReprIs.bool b
  | _, _, .int i t => ⟨⟨_, .int i t⟩, fun hs _ => ⟨[], (fun _ q => nomatch q), by rw [PyData.shown]; exact .of_is (ReprIs.int t (of_decide_eq_true (by rw [PyData.showable] at hs; exact hs))) _ _ _⟩⟩
  | _, _, .str x t => rp_plain (t := "") (.str x t) fun z => by rw [PyData.shown] at z ⊢; exact ReprIs.str x t z
  | _, _, .lst h1 h2 h3 h4 => rp_seqL h1 h2 h3 h4.rp
  | _, _, .tup h1 h2 h3 h4 => rp_seqT h1 h2 h3 h4.rp
  | _, _, .dct h1 h2 h3 h0 h4 h5 => rp_dict h1 h2 h3 h0 h4.rp h5.rp
theorem SdAll.rp : ∀ {us : List Value} {ds : List PyData}, SdAll h us ds → RpAll P w h us ds
  | _, _, .nil => ⟨⟨_, .nil⟩, fun _ _ => ⟨[], (fun _ q => nomatch q), by rw [PyData.shownAll]; exact .nil⟩⟩
  | _, _, .cons (d := d) (ds := ds) x xs => by
    have A := (x.rp : RpOf P w h _ d)
    have B := (xs.rp : RpAll P w h _ ds)
    obtain ⟨as, r⟩ := A.rd
    obtain ⟨cs, r'⟩ := B.rd
    refine ⟨⟨_, .cons r r'⟩, fun hs hz => ?_⟩
    rw [PyData.showableAll, Bool.and_eq_true] at hs
    rw [PyData.shownAll] at hz
    obtain ⟨b1, hb1, k1⟩ := A.rp hs.1 (hz _ List.mem_cons_self)
    obtain ⟨b2, hb2, k2⟩ := B.rp hs.2 fun t ht => hz t (List.mem_cons_of_mem _ ht)
    have m1 : d.depth ≤ PyData.depthAll (d :: ds) := by rw [PyData.depthAll]; exact Nat.le_max_left _ _
    have m2 : PyData.depthAll ds ≤ PyData.depthAll (d :: ds) := by rw [PyData.depthAll]; exact Nat.le_max_right _ _
    refine ⟨b1 ++ b2, (hb1.mono m1).append (hb2.mono m2), ?_⟩
    rw [PyData.shownAll]
    exact .cons ((k1.more fun b q => List.mem_append_left _ q).level_le m1) (k2.more_le (fun b q => List.mem_append_right _ q) m2)
end
end
end Rg

/-! data that hold dicts, in the layer's heap; repr of a list or a tuple of such -/
namespace Rg
open PySem PySem.Spec PyProof.Rows L2
def kyD : Key → PyData
  | .inl i => .int i
  | .inr x => .str x
mutual
inductive Dq (K : PySem.W.Frag) (H : Hp) : V → PyData → Prop
  | non : Dq K H .non .none
  | bl (b : Bool) : Dq K H (.bl b) (.bool b)
  | int (i : Int) : Dq K H (.int i) (.int i)
  | str (x : Str) : Dq K H (.str x) (.str x)
  | lst {a : Addr} {xs : List V} {ds : List PyData} : H a = some (.lst xs) → DqAll K H xs ds → Dq K H (.ref a) (.list ds)
  | tup {a : Addr} {xs : List V} {ds : List PyData} : SqT K H a xs → DqAll K H xs ds → Dq K H (.ref a) (.tuple ds)
  | dct {a : Addr} {kvs : List (Key × V)} {ps : List (Key × PyData)} : H a = some (.dK kvs) → DqKv K H kvs ps → Dq K H (.ref a) (.dict (ps.map fun p => (kyD p.1, p.2)))
inductive DqAll (K : PySem.W.Frag) (H : Hp) : List V → List PyData → Prop
  | nil : DqAll K H [] []
  | cons {v : V} {vs : List V} {d : PyData} {ds : List PyData} : Dq K H v d → DqAll K H vs ds → DqAll K H (v :: vs) (d :: ds)
inductive DqKv (K : PySem.W.Frag) (H : Hp) : List (Key × V) → List (Key × PyData) → Prop
  | nil : DqKv K H [] []
  | cons {k : Key} {v : V} {vs : List (Key × V)} {d : PyData} {ds : List (Key × PyData)} : Dq K H v d → DqKv K H vs ds → DqKv K H ((k, v) :: vs) ((k, d) :: ds)
end
theorem sd_keys {P : Program} {w : World} {h : Heap} {ps : List (Key × PyData)} : ∀ {es : List DictEntry} {vs : List (Key × Value)}, Pairs (mixKind P w) es vs → vs.map (·.1) = ps.map (·.1) → SdAll h (es.map (·.key)) ((ps.map fun p => (kyD p.1, p.2)).map (·.1)) := by
  induction ps with
  | nil =>
    intro es vs m e
    cases m with
    | nil => exact .nil
    | cons => cases e
  | cons p ps ih =>
    intro es vs m e
    cases m with
    | nil => cases e
    | @cons x kv es vs h1 h2 m =>
      rw [List.map_cons, List.map_cons] at e
      injection e with e1 e2
      refine .cons ?_ (ih m e2)
      show Sd h x.key (kyD p.1)
      rw [← e1]
      rcases keyIs_shape (show keyIs kv.1 x.key = true from h1) with ⟨i, t, z1, z2⟩ | ⟨y, t, z1, z2⟩
      · rw [z1, z2]
        exact .int i t
      · rw [z1, z2]
        exact .str y t
section
variable {X : Cx} {pins : List (Addr × Obj)} {σ : L2.St} {H : Hp} {s : Shared}
mutual
theorem Dq.sd (I : Inv X pins σ H s) : ∀ {v : V} {d : PyData}, Dq X.K H v d → ∀ u, RelV v u → Sd s.heap u d
  | _, _, .non, u, r => by
    cases r
    exact .non
  | _, _, .bl b, u, r => by
    cases r
    exact .bl b
  | _, _, .int i, u, r => by
    obtain ⟨t, rfl⟩ := r
    exact .int i t
  | _, _, .str x, u, r => by
    obtain ⟨t, rfl⟩ := r
    exact .str x t
  | _, _, .lst hs ha, u, r => by
    cases r
    obtain ⟨its, rv, ⟨o, n, ho, hc, _, hd⟩, _⟩ := I.list (SqL.of hs)
    exact .lst ho hc hd (DqAll.sd I ha _ rv)
  | _, _, .tup hs ha, u, r => by
    cases r
    obtain ⟨its, rv, ⟨o, ho, hc, n, hd⟩, _⟩ := I.tuple hs
    exact .tup ho hc hd (DqAll.sd I ha _ rv)
  | _, _, .dct (a := a) (kvs := kvs) (ps := ps) he hk, u, r => by
    cases r
    obtain ⟨_, hS, vs, rel, o, es, ep, ho, hx, hd, _, hp, _⟩ := dk_of I.hok he
    obtain ⟨q1, q2⟩ := DqKv.sd I hk _ rel _ hp
    exact .dct ho hx.1 hd hS (sd_keys hp q1) q2
theorem DqAll.sd (I : Inv X pins σ H s) : ∀ {vs : List V} {ds : List PyData}, DqAll X.K H vs ds → ∀ us, Vals vs us → SdAll s.heap us ds
  | _, _, .nil, us, r => by
    cases r
    exact .nil
  | _, _, .cons h1 h2, us, r => by
    cases r with
    | cons r1 r2 => exact .cons (Dq.sd I h1 _ r1) (DqAll.sd I h2 _ r2)
theorem DqKv.sd (I : Inv X pins σ H s) : ∀ {vs : List (Key × V)} {ps : List (Key × PyData)}, DqKv X.K H vs ps → ∀ us, KV vs us → ∀ es, Pairs (mixKind X.prog X.w) es us → us.map (·.1) = ps.map (·.1) ∧ SdAll s.heap (es.map (·.val)) ((ps.map fun p => (kyD p.1, p.2)).map (·.2))
  | _, _, .nil, us, r, es, m => by
    cases r
    cases m
    exact ⟨rfl, .nil⟩
  | _, _, .cons h1 h2, us, r, es, m => by
    cases r with
    | cons r1 r2 =>
      cases m with
      | cons m1 m2 m3 =>
        obtain ⟨q1, q2⟩ := DqKv.sd I h2 _ r2 _ m3
        refine ⟨?_, .cons ?_ q2⟩
        · rw [List.map_cons, List.map_cons, q1, ← r1.1]
        · show Sd s.heap (DictEntry.val _) _
          rw [m2]
          exact Dq.sd I h1 _ r1.2
end
/-- repr of a tuple or a list that stands for data -/
theorem call_repr_dq (hg : X.A.guards = some []) (hu : X.A.units + 64 < cLine) : CallR X (.builtin "repr")
    (fun xs H Q => ∃ (a : Addr) (d : PyData) (ds : List PyData), xs = [.ref a] ∧ Dq X.K H (.ref a) d ∧ (d = .tuple ds ∨ d = .list ds) ∧ d.showable = true ∧ d.depth ≤ 60 ∧ d.shown.length ≤ sizeLine ∧ Q (.str d.shown) H) := by
  intro pins s σ H xs us Q I r h
  obtain ⟨a, d, ds, rfl, hd, hds, hs, hdp, hz, q⟩ := h
  obtain ⟨u, rfl, ru⟩ := vals1 r
  obtain rfl : u = Value.ref a := ru
  have hsd := Dq.sd I hd _ rfl
  have fin : ∀ h' u tk, (∀ b o, s.heap.get? b = some o → h'.get? b = some o) → EP X pins σ Q (.str d.shown u) { s with heap := h', toks := tk } := fun h' u tk hk => ⟨.str _, H, I.kept hk, ⟨_, rfl⟩, q⟩
  rcases hds with rfl | rfl
  · cases hsd with
    | @tup _ o us n _ h1 h2 h3 h4 =>
      have A : RpAll X.prog X.w s.heap us.toList ds := h4.rp
      obtain ⟨as, r⟩ := A.rd
      have R : Reads s.heap (.ref a) (.tuple ds) as := .tuple h1 h2 h3 r
      rw [PyData.showable] at hs
      rw [PyData.shown] at hz fin
      rw [PyData.depth] at hdp
      obtain ⟨bs, hb, hk⟩ := A.rp hs fun t ht => Nat.le_trans (tupleText_mem_le ht) hz
      obtain ⟨ni, _⟩ := none_in (e := 0) R (by rw [PyData.depth]) hb
      exact call_repr_slot (T := "tuple") (by omega) ⟨o, h1, h2⟩ F.slot_tuple_repr (call_tuple_reprK h1 h2 h3 ni hk hg (fun b _ => Clear.nil b) (by show X.A.units + 1 + _ < cLine; omega) (fun _ _ e => e) (fun h' u tk hk => ⟨_, _, rfl, fin h' u tk hk⟩) hz)
  · cases hsd with
    | @lst _ o us n _ h1 h2 h3 h4 =>
      have A : RpAll X.prog X.w s.heap us.toList ds := h4.rp
      obtain ⟨as, r⟩ := A.rd
      have R : Reads s.heap (.ref a) (.list ds) (a :: as) := .list h1 h2 h3 r
      rw [PyData.showable] at hs
      rw [PyData.shown] at hz fin
      rw [PyData.depth] at hdp
      obtain ⟨bs, hb, hk⟩ := A.rp hs fun t ht => Nat.le_trans (listText_mem_le ht) hz
      obtain ⟨ni, _⟩ := none_in (e := 0) R (by rw [PyData.depth]) hb
      refine call_repr_slot (T := "list") (by omega) ⟨o, h1, h2⟩ F.slot_list_repr.toG ?_
      obtain ⟨l⟩ := us
      match l, r, hk, h3 with
      | [], r, _, h3 =>
        have r' : ReadsAll s.heap [] ds as := r
        cases r'
        rw [PyData.shownAll, listText_nil] at fin
        exact call_list_repr_empty ⟨o, h1, h2⟩ h1 h3 ⟨_, _, rfl, fin s.heap _ _ fun _ _ e => e⟩
      | x :: l, _, hk, h3 =>
        exact call_list_reprK h1 h2 h3 ni (by simpa using hk.length_eq) (fun i y e => hk.item i y (by simpa using e)) hg (fun b _ => Clear.nil b) (by show X.A.units + 1 + _ < cLine; omega) (fun _ _ e => e) (fun h' u tk hk => ⟨_, _, rfl, fin h' u tk hk⟩) hz
end
end Rg

/-! more rules: o.f as a target, zip of two texts -/
namespace Rg
open PySem PySem.Spec PyProof.Rows L2
/-! ### o.f among several targets -/
def gFld (K : PySem.W.Frag) (to : TE) (f : Str) : TG := fun v σ H Q => to σ H fun x H2 => ∃ a C dx fs, x = .ref a ∧ H2 a = some (.ins C dx fs) ∧ Cls K C ∧ NoAttr K C f ∧ fs.length < 1000 ∧ Q σ (upd H2 a (.ins C dx (putF f v fs)))
section
variable {X : Cx} {o : Expr} {f : Str} {pos : Pos} {to : TE}
theorem pg_fld (ho : PE X o to) : PG X (.Attribute o f pos) (gFld X.K to f) := by
  refine ⟨fun pins s σ H v u Q I r h => ?_⟩
  rw [assign_Attribute]
  refine wpAny_bind (wpAny_holding (thn (ho.run pins s σ H _ I h) fun ov s1 ⟨x, H1, I1, r1, a, C, dx, fs, ex, ea, c, n, l, q⟩ => ?_))
  subst ex
  obtain rfl : ov = Value.ref a := r1
  refine wpAny_bind (wpAny_standAt (wpAny_bind (wpAny_holding ?_)))
  exact setattr_ok I1 ea c n l r fun s3 I3 => wpAny_release ⟨σ, _, I3, q⟩
end
/-! ### zip(text, text) -/
/-- the signs of two texts, in new pairs -/
def ItzS (x y : Str) : It :=
  ⟨fun i _ => i < x.cps.size ∧ i < y.cps.size,
    fun i H v H' => ∃ T c d, v = .ref T ∧ H T = none ∧ H' = upd H T (.tup [.str ⟨#[c]⟩, .str ⟨#[d]⟩]) ∧ x.cps[i]? = some c ∧ y.cps[i]? = some d,
    fun i _ => (i = x.cps.size ∧ i ≤ y.cps.size) ∨ (i ≤ x.cps.size ∧ i = y.cps.size)⟩
theorem turn_zipS {P : Program} {w : World} {K : PySem.W.Frag} {elts : List Expr} {kk : Nat} {tpos : Pos} {x y : Str} {tx ty : Tok} {z TI TO i1 i2 : Addr} (S : ZipSep2 z TI TO i1 i2 [i1] [i2]) :
    Turn P w K (.Tuple elts kk tpos) (ItzS x y) [z, TI, TO, i1, i2] z (fun i h => IsZip h z TI TO .none ∧ IsTupOf2 h TI (.ref i1) (.ref i2) ∧ (∃ x y, IsTupOf2 h TO x y) ∧ h.IsStrIter i1 (strIterType x) x tx i ∧ h.IsStrIter i2 (strIterType y) y ty i) where
  mem := by simp
  obj := fun i h st c hc => by
    obtain ⟨hz, hTI, ⟨x, y, hTO⟩, ⟨o1, e1, _, d1⟩, ⟨o2, e2, _, d2⟩⟩ := st
    have e' : c = z ∨ c = TI ∨ c = TO ∨ c = i1 ∨ c = i2 := by simpa using hc
    rcases e' with q | q | q | q | q
    · rw [q]; exact ⟨_, hz, fun v q => nomatch q⟩
    · rw [q]; exact ⟨_, hTI, fun v q => nomatch q⟩
    · rw [q]; exact ⟨_, hTO, fun v q => nomatch q⟩
    · rw [q]; exact ⟨o1, e1, fun v q => by rw [d1] at q; cases q⟩
    · rw [q]; exact ⟨o2, e2, fun v q => by rw [d2] at q; cases q⟩
  keep := fun i h h' st k => by
    obtain ⟨hz, hTI, ⟨x, y, hTO⟩, ⟨o1, e1, r1⟩, ⟨o2, e2, r2⟩⟩ := st
    exact ⟨k z (by simp) _ hz, k TI (by simp) _ hTI, ⟨x, y, k TO (by simp) _ hTO⟩, ⟨o1, k i1 (by simp) o1 e1, r1⟩, ⟨o2, k i2 (by simp) o2 e2, r2⟩⟩
  item := by
    intro X hP hw hK hc i pins s σ H E I hf st hg
    subst hP hw hK
    obtain ⟨hz, hTI, ⟨x0, y0, hTO⟩, h1, h2⟩ := st
    have hh := I.ok.hd hc
    have hzl : z < s.heap.objs.size := Heap.lt_size hz
    refine wpAny_pyNext_zipD2_item S (Draws.text (A := X.A.in1) hh i1 x tx) (Draws.text (A := X.A.in1) hh i2 y ty) hz hTI hTO h1 h2 hg.1 hg.2 fun u u2 h' tk y1 y2 z' TO' h1' h2' hT hsz hk => ?_
    obtain ⟨c, t1, hc1, rfl⟩ := y1
    obtain ⟨d, t2, hd1, rfl⟩ := y2
    refine ⟨_, rfl, wpAny_letOwnedTupleGo_zip (s := { s with heap := h', toks := tk }) z' fun h'' z'' sb => ?_⟩
    have hT2 : h''.get? s.heap.objs.size = some { cls := .type "tuple", data := .seq #[.str ⟨#[c]⟩ t1, .str ⟨#[d]⟩ t2] } := (sb.2 _ (Nat.ne_of_gt hzl)).trans hT
    have new : ObjOk X.prog X.w (upd H s.heap.objs.size (.tup [.str ⟨#[c]⟩, .str ⟨#[d]⟩])) h'' s.heap.objs.size (.tup [.str ⟨#[c]⟩, .str ⟨#[d]⟩]) :=
      ⟨by show 2 ≤ sizeLine; decide, [.str ⟨#[c]⟩ t1, .str ⟨#[d]⟩ t2], .cons ⟨_, rfl⟩ (.cons ⟨_, rfl⟩ .nil), ⟨_, hT2, rfl, _, rfl⟩⟩
    have I1 : Inv X pins σ (upd H s.heap.objs.size (.tup [.str ⟨#[c]⟩, .str ⟨#[d]⟩])) { s with heap := h'', toks := tk } :=
      I.turnedNew (t' := tk) (ch := [z, TI, TO, i1, i2]) (fun c o hb q => (sb.2 c (fun q' => hb (by simp [q']))).trans (hk c o (fun q' => hb (by simp [q'])) (fun q' => hb (by simp [q'])) (fun q' => hb (by simp [q'])) (fun q' => hb (by simp [q'])) q)) hf (Nat.le_refl _) new
    obtain ⟨o1, e1, r1⟩ := h1'
    obtain ⟨o2, e2, r2⟩ := h2'
    refine ⟨.ref s.heap.objs.size, _, I1, rfl, ⟨_, c, d, rfl, I.hok.fresh (Nat.le_refl _), rfl, hc1, hd1⟩, ⟨z'', ?_, ⟨.str ⟨#[c]⟩ t1, .str ⟨#[d]⟩ t2, ?_⟩, ⟨o1, ?_, r1⟩, ⟨o2, ?_, r2⟩⟩, fun c hcm => ?_⟩
    · exact (sb.2 _ S.TIz).trans (hk _ _ S.TIz S.TITO S.TIi1 S.TIi2 hTI)
    · exact (sb.2 _ S.TOz).trans TO'
    · exact (sb.2 _ S.zi1.symm).trans e1
    · exact (sb.2 _ S.zi2.symm).trans e2
    · have hlt : c < s.heap.objs.size := by
        have e' : c = z ∨ c = TI ∨ c = TO ∨ c = i1 ∨ c = i2 := by simpa using hcm
        rcases e' with q | q | q | q | q
        · rw [q]; exact hzl
        · rw [q]; exact Heap.lt_size hTI
        · rw [q]; exact Heap.lt_size hTO
        · rw [q]; obtain ⟨_, e1, _⟩ := h1; exact Heap.lt_size e1
        · rw [q]; obtain ⟨_, e2, _⟩ := h2; exact Heap.lt_size e2
      rw [upd_ne (Nat.ne_of_lt hlt)]
      exact (hf c hcm).1
  done := by
    intro X hP hw hK hc i pins s σ H E I hf st hg
    subst hP hw hK
    obtain ⟨hz, hTI, ⟨x0, y0, hTO⟩, h1, h2⟩ := st
    have hh := I.ok.hd hc
    have hle : i ≤ x.cps.size ∧ i ≤ y.cps.size ∧ (i = x.cps.size ∨ i = y.cps.size) := by
      rcases hg with ⟨q1, q2⟩ | ⟨q1, q2⟩
      · exact ⟨Nat.le_of_eq q1, q2, .inl q1⟩
      · exact ⟨q1, Nat.le_of_eq q2, .inr q2⟩
    exact wpAny_pyNext_zipD2_end S (Draws.text (A := X.A.in1) hh i1 x tx) (Draws.text (A := X.A.in1) hh i2 y ty) hz hTI hTO h1 h2 hle.1 hle.2.1 hle.2.2 fun h' tk hk => ⟨rfl, I.turnedL (t' := tk) (ch := [z, TI, TO, i1, i2]) (fun c o hb q =>
      hk c o (fun q' => hb (by simp [q'])) (fun q' => hb (by simp [q'])) (fun q' => hb (by simp [q'])) (fun q' => hb (by simp [q'])) q) hf⟩
  self := fun A i s Q E st h => wpAny_pyIter_zip st.1 h
def iZipS (ta : TA) : TI := fun σ H R => ta σ H fun vs H1 => ∃ x y, vs = [.str x, .str y] ∧ R (ItzS x y) H1
theorem pi_zipS {X : Cx} {e e2 : Expr} {ta : TA} {p pos tpos : Pos} {elts : List Expr} {kk : Nat} (hg : Gl X "zip") (hm : X.mg "zip" = none) (ha : PA X [e, e2] ta)
    (hs : starEach [e, e2] X.env = (false, eval e X.env) :: starEach [e2] X.env := by rfl) (hpl : (backTo pos (starEach [e2] X.env)).any (·.1) = false := by rfl) :
    PI X (.Tuple elts kk tpos) (.Call (.Name "zip" p) [e, e2] [] pos) (iZipS ta) := by
  refine ⟨fun pins s σ H R I h => ?_⟩
  refine Call_ (ld_blt I hg hm PyProof.Rows.boot_zip (PyProof.Rows.callWith_type1 (thn (ha.run pos pins s σ H _ I h) fun us s1 ⟨vs, H1, I1, r1, q1⟩ => ?_) hs hpl))
  obtain ⟨x, y, ex, q⟩ := q1
  subst ex
  obtain ⟨u1, u2, rfl, ⟨t1, rfl⟩, ⟨t2, rfl⟩⟩ := vals2 r1
  refine zip_begins2 (begins_text x t1) (begins_text y t2) trivial trivial fun h' hz hTI hTO h1 h2 hsz hk => wpAny_pyIter_zip hz ?_
  have I2 : Inv X pins σ H1 { s1 with heap := h' } := I1.kept (t' := s1.toks) hk
  refine ⟨s1.heap.objs.size + 4, [s1.heap.objs.size + 4, s1.heap.objs.size + 2, s1.heap.objs.size + 3, s1.heap.objs.size, s1.heap.objs.size + 1], _, _, H1, rfl, I2, turn_zipS (x := x) (y := y) (tx := t1) (ty := t2) (zip_sep2 (N := s1.heap.objs.size) (fp1 := []) (fp2 := []) (fun b hb => nomatch hb) (fun b hb => nomatch hb)), ⟨hz, hTI, ⟨_, _, hTO⟩, ⟨_, h1, rfl, rfl⟩, ⟨_, h2, rfl, rfl⟩⟩, fun c hcm => ?_, q⟩
  have e' : c = s1.heap.objs.size + 4 ∨ c = s1.heap.objs.size + 2 ∨ c = s1.heap.objs.size + 3 ∨ c = s1.heap.objs.size ∨ c = s1.heap.objs.size + 1 := by simpa using hcm
  have hle : s1.heap.objs.size ≤ c := by
    rcases e' with z | z | z | z | z
    · rw [z]; exact Nat.le_add_right _ _
    · rw [z]; exact Nat.le_add_right _ _
    · rw [z]; exact Nat.le_add_right _ _
    · rw [z]; exact Nat.le_refl _
    · rw [z]; exact Nat.le_add_right _ _
  exact I1.fpOk hle (I1.hok.fresh hle)
end Rg

/-! == and != by an own __eq__ -/
namespace Rg
open PySem PySem.Spec PyProof.Rows L2
theorem ne_bind (self : Value) : bindSpecial (.builtin "object.__ne__") self = pure (.builtin "object.__ne__", [self]) :=
  (Slot.of (T := "object") (name := "__ne__") (owner := "object") (n := "__ne__") (by rw [typeLookup_type, builtinLookup_eq_fast]; kernel_rfl) (by decide +kernel) (by decide +kernel) (by decide +kernel)
    (.inl (by decide +kernel)) (by rw [isSubtype_type]; kernel_rfl)).bind self
theorem ne_plain : plainId "object.__ne__" = true := by decide +kernel
section
variable {prog : Program} {w : World} {A : Around} {E : Value → Shared → Prop} {s : Shared} {K : PySem.W.Frag} {x C L f : Addr} {h₀ : Heap} {m : Str → Option Value} {ox : Obj} {od : Option Obj} {b tb : Value}
theorem ifBound_ne {M : Model} {args : List Value} {Q : Option Value → Shared → Prop} (X : K.In s.heap) (I : PySem.W.InstAt s.heap x ox C od) (hs : PySem.W.findIn K (.ref C) "__ne__" = some (some (.builtin "object.__ne__")))
    (h : wpAny M A (call (.builtin "object.__ne__") (.ref x :: args)) (fun v => Q (some v)) E s) : wpAny M A (callSpecialIfBound? (.ref x) "__ne__" args) Q E s := by
  simp only [callSpecialIfBound?, bindSpecialIfBound?]
  refine wpAny_holding (wpAny_bind (wpAny_bind (wpAny_bind (I.type.here ((PySem.W.looks_findIn X hs).here ?_)))))
  simp only [ne_bind]
  refine wpAny_bind (wpAny_askSetting (wpAny_ite ?_))
  have fin : wpAny M A (call (.builtin "object.__ne__") ([.ref x] ++ args) >>= fun v => pure (some v)) Q E s := wpAny_bind (wpAny_mono h (fun v s' h' => wpAny_pure h') fun _ _ h' => h')
  split
  · exact wpAny_bind (wpAny_pure (wpAny_pure fin))
  · exact wpAny_tryCatch (wpAny_bind (wpAny_pure (wpAny_pure fin)))
theorem objNe_K (hu : A.units < cLine) (X : K.In s.heap) (I : PySem.W.InstAt s.heap x ox C od) (hs : PySem.W.findIn K (.ref C) "__eq__" = some (some (.ref f))) (hf : PySem.W.isFn K (.ref f) = true) {Q : Fin → Shared → Prop}
    (hcall : wpAny (model prog w) A (call (.ref f) [.ref x, b]) (fun v s' => ∃ k, v = .bool k ∧ Q (.done (.ret (.bool (!k)))) s') E s) :
    wpAny (model prog w) A (Builtin.«object.__ne__» ⟨[.ref x, b], []⟩) Q E s := by
  unfold Builtin.«object.__ne__»
  repeat (first
    | with_reducible refine wpAny_cRoomFor hu ?_
    | (refine wpAny_bind (m := callSpecialIfBound? (.ref x) (Str.ofString "__eq__") [b])
        (PySem.W.ifBound_K X I hs hf (wpAny_mono hcall (fun r s' hr => by
          obtain ⟨b, rfl, hq⟩ := hr
          repeat (first | exact hq | exact wpAny_pure hq | exact wpAny_truthy_bool hq | (refine wpAny_bind (m := truthy (.bool _)) (wpAny_truthy_bool ?_)) | wp_step)) fun _ _ e => e)))
    | wp_step)
theorem ne_K {Q : Value → Shared → Prop} (hu : A.units + 1 < cLine) (F : PyProof.Rows.Fr h₀ L s.heap m) (X₀ : K.In h₀) (I : PySem.W.InstAt s.heap x ox C od) (hb : PySem.W.Looks (model prog w) s.heap (typeOf b) tb) (hn : PySem.W.notFirst K C tb = true)
    (hmo : PySem.W.mroIn K C (.type "object") = some true) (hne : PySem.W.findIn K (.ref C) "__ne__" = some (some (.builtin "object.__ne__"))) (hs : PySem.W.findIn K (.ref C) "__eq__" = some (some (.ref f))) (hf : PySem.W.isFn K (.ref f) = true)
    (h : wpAny (model prog w) A.in1 (call (.ref f) [.ref x, b]) (fun v s' => ∃ k, v = .bool k ∧ Q (.bool (!k)) s') E s) : wpAny (model prog w) A (richCompare .NotEq (.ref x) b) Q E s := by
  have X := X₀.keeps F.keep
  have hi : PySem.W.Looks (model prog w) s.heap (isInstance (.ref x) (.type "object")) true := I.type.andThen (PySem.W.looks_mroIn X hmo)
  have one : wpAny (model prog w) A (tryCompare (.ref x) "__ne__" b) (fun r s' => ∃ v, r = some v ∧ Q v s') E s := by
    unfold tryCompare
    refine wpAny_bind (ifBound_ne X I hne (wpAny_call (codeAny_call_builtin ne_plain PySem.F.cmpEntry_ne (PySem.W.check_slot PySem.F.cmpKind_ne PySem.F.cmpSplit_ne hi (PySem.F.cmpArgs_ne _ _) (objNe_K (A := A.in1) hu X I hs hf (wpAny_mono h (fun v s' hv => ?_) fun _ _ e => e))))))
    obtain ⟨k, rfl, hq⟩ := hv
    exact ⟨k, rfl, wpAny_pure ⟨_, rfl, hq⟩⟩
  unfold richCompare
  simp only [oneThing_ref]
  refine wpAny_holding (wpAny_bind (wpAny_cRoomFor (Nat.lt_of_succ_lt hu) ?_))
  rw [cmpInfo_NotEq]
  dsimp only
  refine wpAny_bind (I.type.here (wpAny_bind (hb.here ?_)))
  split
  · rename_i q
    have e : PySem.W.subIn K tb (.ref C) = some false := by
      rcases Bool.or_eq_true_iff.mp hn with e | e
      · rw [beq_iff_eq.mp e] at q; simp at q
      · exact beq_iff_eq.mp e
    refine wpAny_bind ((PySem.W.looks_subIn X e).here ?_)
    simp only [Bool.false_eq_true, if_false]
    refine wpAny_bind (wpAny_mono one (fun r s' z => ?_) fun _ _ e => e)
    obtain ⟨v, rfl, hq⟩ := z
    exact wpAny_pure hq
  · refine wpAny_bind (wpAny_pure ?_)
    simp only [Bool.false_eq_true, if_false]
    refine wpAny_bind (wpAny_mono one (fun r s' z => ?_) fun _ _ e => e)
    obtain ⟨v, rfl, hq⟩ := z
    exact wpAny_pure hq
/-- a == x, a of a built-in type that declines, x an own instance with an own __eq__ -/
theorem eqR_K {a : Value} {T id : String} {B : Builtin} {Q : Value → Shared → Prop} (hu : A.units < cLine) (X : K.In s.heap) (I : PySem.W.InstAt s.heap x ox C od) (hT : s.TypeIs a T) (S : Slot T "__eq__" id) (hb : entryFor table id = some B) (ha : argsOk id ⟨[a, .ref x], []⟩)
    (hB : wpAny (model prog w) A.in1 (B ⟨[a, .ref x], []⟩) (fun fin s' => fin = .done (.ret .notImplemented) ∧ s' = s) E s) (h1 : oneThing? .Eq a (.ref x) = none)
    (hsub : PySem.W.subIn K (.ref C) (.type T) = some false) (hs : PySem.W.findIn K (.ref C) "__eq__" = some (some (.ref f))) (hf : PySem.W.isFn K (.ref f) = true)
    (h : wpAny (model prog w) A (call (.ref f) [.ref x, a]) (PySem.W.CmpBack Q) E s) : wpAny (model prog w) A (richCompare .Eq a (.ref x)) Q E s := by
  have one : wpAny (model prog w) A (tryCompare (.ref x) "__eq__" a) (fun r s' => ∃ v, r = some v ∧ Q v s') E s := by
    unfold tryCompare
    refine wpAny_bind (PySem.W.ifBound_K X I hs hf (wpAny_mono h (fun v s' hv => ?_) fun _ _ e => e))
    cases v <;> first | exact hv.elim | exact wpAny_pure ⟨_, rfl, hv⟩
  have zero : wpAny (model prog w) A (tryCompare a "__eq__" (.ref x)) (fun r s' => r = none ∧ s' = s) E s := by
    unfold tryCompare
    refine wpAny_bind (wpAny_callSpecialIfBound?_slot hT S (wpAny_call_entry S hT hb (wpAny_mono hB (fun fin s' hv => ?_) fun _ _ e => e) ha))
    obtain ⟨rfl, rfl⟩ := hv
    exact ⟨_, rfl, wpAny_pure ⟨rfl, rfl⟩⟩
  have hne : (Value.type T != Value.ref C) = true := bne_iff_ne.mpr fun e => nomatch e
  unfold richCompare
  simp only [h1]
  refine wpAny_holding (wpAny_bind (wpAny_cRoomFor hu ?_))
  rw [cmpInfo_Eq]
  dsimp only
  refine wpAny_bind (wpAny_typeOf hT (wpAny_bind (I.type.here ?_)))
  rw [hne, if_pos rfl]
  refine wpAny_bind ((PySem.W.looks_subIn X hsub).here ?_)
  simp only [Bool.false_eq_true, if_false]
  refine wpAny_bind (wpAny_mono zero (fun r s' z => ?_) fun _ _ e => e)
  obtain ⟨rfl, rfl⟩ := z
  simp only [Bool.not_false, if_true]
  refine wpAny_bind (wpAny_mono one (fun r s' z => ?_) fun _ _ e => e)
  obtain ⟨v, rfl, hq⟩ := z
  exact wpAny_pure hq
theorem eqd_none {A' : Around} : wpAny (model prog w) A' (Builtin.«NoneType.__eq__» ⟨[.none, .ref x], []⟩) (fun fin s' => fin = .done (.ret .notImplemented) ∧ s' = s) E s := by
  show wpAny _ _ (ret .notImplemented) _ _ _
  exact wpAny_pure ⟨rfl, rfl⟩
theorem eqd_int {A' : Around} {i : Int} {t : Tok} {dx : Addr} (hx : s.heap.get? x = some (PySem.W.instObj C dx)) : wpAny (model prog w) A' (Builtin.«int.__eq__» ⟨[.int i t, .ref x], []⟩) (fun fin s' => fin = .done (.ret .notImplemented) ∧ s' = s) E s := by
  show wpAny _ _ (asInt? (.ref x) >>= _) _ _ _
  refine wpAny_bind ?_
  show wpAny _ _ (load x >>= _) _ _ _
  refine wpAny_bind (wpAny_load hx ?_)
  exact wpAny_pure (wpAny_bind (wpAny_rule (wpAny_pure ⟨rfl, rfl⟩)))
theorem eqd_str {A' : Around} {z : Str} {t : Tok} {dx : Addr} (hx : s.heap.get? x = some (PySem.W.instObj C dx)) : wpAny (model prog w) A' (Builtin.«str.__eq__» ⟨[.str z t, .ref x], []⟩) (fun fin s' => fin = .done (.ret .notImplemented) ∧ s' = s) E s := by
  show wpAny _ _ (asStr? (.ref x) >>= _) _ _ _
  refine wpAny_bind ?_
  show wpAny _ _ (load x >>= _) _ _ _
  refine wpAny_bind (wpAny_load hx ?_)
  exact wpAny_pure (wpAny_bind (wpAny_rule (wpAny_pure ⟨rfl, rfl⟩)))
theorem eqd_list {A' : Around} {l : Addr} (hi : PySem.W.Looks (model prog w) s.heap (isInstance (.ref x) (.type "list")) false) : wpAny (model prog w) A' (Builtin.«list.__eq__» ⟨[.ref l, .ref x], []⟩) (fun fin s' => fin = .done (.ret .notImplemented) ∧ s' = s) E s := by
  show wpAny _ _ (isInstance (.ref x) (.type "list") >>= _) _ _ _
  refine wpAny_bind (hi.here ?_)
  exact wpAny_pure ⟨rfl, rfl⟩
theorem eqd_tuple {A' : Around} {l : Addr} (hi : PySem.W.Looks (model prog w) s.heap (isInstance (.ref x) (.type "tuple")) false) : wpAny (model prog w) A' (Builtin.«tuple.__eq__» ⟨[.ref l, .ref x], []⟩) (fun fin s' => fin = .done (.ret .notImplemented) ∧ s' = s) E s := by
  show wpAny _ _ (isInstance (.ref x) (.type "tuple") >>= _) _ _ _
  refine wpAny_bind (hi.here ?_)
  exact wpAny_pure ⟨rfl, rfl⟩
end
end Rg

/-! rules: own ==, !=, repr, in, |, ~ of instances -/
namespace Rg
open PySem PySem.Spec PyProof.Rows L2
theorem kit_no {K : PySem.W.Frag} {C : Addr} {T : String} (ic : PySem.W.isClsIn K C = true) (tC : PySem.W.typeIn K (.ref C) = some (.type "type")) (q : PySem.W.subIn K (.type T) (.ref C) = some false) : PySem.W.kitOne K (.type T) (.ref C) = some false := by
  unfold PySem.W.kitOne
  have hne : ¬ (Value.type T == Value.ref C) = true := fun e => by cases beq_iff_eq.mp e
  rw [if_neg hne]
  unfold PySem.W.kitCls
  show (if ((PySem.W.clsIn K C).isSome && PySem.W.typeIn K (.ref C) == some (.type "type")) = true then PySem.W.subIn K (.type T) (.ref C) else none) = _
  rw [if_pos, q]
  rw [Bool.and_eq_true]
  exact ⟨ic, by rw [tC]; simp⟩
theorem kit_self {K : PySem.W.Frag} {C : Addr} : PySem.W.kitOne K (.ref C) (.ref C) = some true := by
  unfold PySem.W.kitOne
  rw [if_pos (beq_self_eq_true _)]
/-- what == and != ask of a class whose def __eq__ stands at f -/
structure EqCls (K : PySem.W.Frag) (C f : Addr) : Prop where
  eq : PySem.W.findIn K (.ref C) "__eq__" = some (some (.ref f))
  fn : PySem.W.isFn K (.ref f) = true
  ne : PySem.W.findIn K (.ref C) "__ne__" = some (some (.builtin "object.__ne__"))
  mo : PySem.W.mroIn K C (.type "object") = some true
  sN : PySem.W.subIn K (.ref C) (.type "NoneType") = some false
  sI : PySem.W.subIn K (.ref C) (.type "int") = some false
  sS : PySem.W.subIn K (.ref C) (.type "str") = some false
  sL : PySem.W.subIn K (.ref C) (.type "list") = some false
  sT : PySem.W.subIn K (.ref C) (.type "tuple") = some false
section
variable {X : Cx} {CX : CXT} {k : Nat} {C f : Addr} {fd : FuncData} {ps : List Str} {sp : Sp} {dvs : List V} {ds : List Value} {E : XK}
theorem run_in1 {pins : List (Addr × Obj)} {σ : L2.St} {H : Hp} {s : Shared} {Q : VK} {us : List Value} {vs : List V} (F : FnOk X.prog X.w X.K X.mg X.base CX k f fd ps sp) (hr : Room (k + 1) X.A) (hb : Binds X.K fd ps ds) (hd : Vals dvs ds) (hx : Passes CX X E)
    (I : Inv X pins σ H s) (r : Vals vs us) (h : sp (vs ++ dvs) H Q E) : wpAny (model X.prog X.w) X.A.in1 (call (.ref f) us) (EP X pins σ Q) X.xe s := by
  have r2 : Vals (vs ++ dvs) (us ++ ds) := r.append hd
  have hl : (us ++ ds).length = ps.length := by rw [← r2.length]; exact F.len _ _ _ _ h
  refine wpAny_call (codeAny_mono (F.run X.A.in1 X.stack s H ⟨us, []⟩ (us ++ ds) (vs ++ dvs) Q E hr.in1 I.env0.in1 (hb s us I.kIn hl) r2 h) fun r s' hq => ?_)
  cases r with
  | error e => exact hx pins σ H s e s' I hq
  | ok fl =>
    cases fl with
    | ret u => exact I.after hq
    | next => exact hq.elim
    | brk => exact hq.elim
    | cont => exact hq.elim
theorem run_in1G {pins : List (Addr × Obj)} {σ : L2.St} {H : Hp} {s : Shared} {Q : VK} {us : List Value} {vs : List V} (F : GFn X.prog X.w X.K X.mg X.base CX k f fd ps sp) (hr : Room (k + 1) X.A) (hg : X.A.guards = some []) (hb : Binds X.K fd ps ds) (hd : Vals dvs ds) (hx : Passes CX X E)
    (I : Inv X pins σ H s) (r : Vals vs us) (h : sp (vs ++ dvs) H Q E) : wpAny (model X.prog X.w) X.A.in1 (call (.ref f) us) (EP X pins σ Q) X.xe s := by
  have r2 : Vals (vs ++ dvs) (us ++ ds) := r.append hd
  have hl : (us ++ ds).length = ps.length := by rw [← r2.length]; exact F.len _ _ _ _ h
  refine wpAny_call (codeAny_mono (F.run X.A.in1 X.stack s H ⟨us, []⟩ (us ++ ds) (vs ++ dvs) Q E hr.in1 hg I.env0.in1 (hb s us I.kIn hl) r2 h) fun r s' hq => ?_)
  cases r with
  | error e => exact hx pins σ H s e s' I hq
  | ok fl =>
    cases fl with
    | ret u => exact I.after hq
    | next => exact hq.elim
    | brk => exact hq.elim
    | cont => exact hq.elim
theorem cmpback' {P : Value → Shared → Prop} {z : V} {v : Value} {s' : Shared} (r : RelV z v) (h : P v s') : PySem.W.CmpBack P v s' := by
  cases z with
  | non => cases (show v = Value.none from r); exact h
  | bl b => cases (show v = Value.bool b from r); exact h
  | int i =>
    obtain ⟨t, e⟩ := (show ∃ t, v = Value.int i t from r)
    cases e
    exact h
  | str x =>
    obtain ⟨t, e⟩ := (show ∃ t, v = Value.str x t from r)
    cases e
    exact h
  | byt b =>
    obtain ⟨t, e⟩ := (show ∃ t, v = Value.bytes b t from r)
    cases e
    exact h
  | flt b =>
    obtain ⟨t, e⟩ := (show ∃ t, v = Value.float b t from r)
    cases e
    exact h
  | ref a => cases (show v = Value.ref a from r); exact h
  | ty n => cases (show v = Value.type n from r); exact h
/-- x == y, x an instance of the class at C -/
def rEqOwn (K : PySem.W.Frag) (C : Addr) (sp : Sp) (dvs : List V) (E : XK) : R2 := fun x y H Q => ∃ a dx fs t, x = .ref a ∧ H a = some (.ins C dx fs) ∧ TyX K H y t ∧ PySem.W.notFirst K C t = true ∧ sp ([x, y] ++ dvs) H Q E
theorem op_eqOwn (e : EqCls X.K C f) (F : FnOk X.prog X.w X.K X.mg X.base CX k f fd ps sp) (hr : Room k X.A) (hb : Binds X.K fd ps ds) (hd : Vals dvs ds) (hx : Passes CX X E) : OpR X (compareOp .Eq) (rEqOwn X.K C sp dvs E) := by
  intro pins s σ H x y v u Q I rx ry h
  obtain ⟨a, dx, fs, t, rfl, ha, ty, hn, q⟩ := h
  cases (show v = Value.ref a from rx)
  obtain ⟨mA, O, _⟩ := ins_get I.hok ha
  obtain ⟨od, J, _⟩ := O.look
  obtain ⟨m, hF⟩ := I.fr
  obtain ⟨P, Z, p, _⟩ := kit_of I ry ty
  show wpAny _ _ (richCompare .Eq (.ref a) u) _ _ _
  refine PySem.W.cmp_K (op := .Eq) (tb := t) hr.units0 hF I.ok.mod.kin J (Z.ty _ _ I.kIn p) hn e.eq e.fn ?_
  refine wpAny_mono (run_fn (us := [.ref a, u]) (vs := [.ref a, y]) F hr hb hd hx I (.cons rfl (.cons ry .nil)) q) (fun w s' z => ?_) fun _ _ x => x
  obtain ⟨z', H', I', rz, qz⟩ := z
  exact cmpback' rz ⟨z', H', I', rz, qz⟩
/-- x != y, x an instance of the class at C -/
def rNeOwn (K : PySem.W.Frag) (C : Addr) (sp : Sp) (dvs : List V) (E : XK) : R2 := fun x y H Q => ∃ a dx fs t, x = .ref a ∧ H a = some (.ins C dx fs) ∧ TyX K H y t ∧ PySem.W.notFirst K C t = true ∧ sp ([x, y] ++ dvs) H (fun z H' => ∃ b, z = .bl b ∧ Q (.bl (!b)) H') E
theorem op_neOwn (e : EqCls X.K C f) (F : FnOk X.prog X.w X.K X.mg X.base CX k f fd ps sp) (hr : Room (k + 1) X.A) (hb : Binds X.K fd ps ds) (hd : Vals dvs ds) (hx : Passes CX X E) : OpR X (compareOp .NotEq) (rNeOwn X.K C sp dvs E) := by
  intro pins s σ H x y v u Q I rx ry h
  obtain ⟨a, dx, fs, t, rfl, ha, ty, hn, q⟩ := h
  cases (show v = Value.ref a from rx)
  obtain ⟨mA, O, _⟩ := ins_get I.hok ha
  obtain ⟨od, J, _⟩ := O.look
  obtain ⟨m, hF⟩ := I.fr
  obtain ⟨P, Z, p, _⟩ := kit_of I ry ty
  have hu : X.A.units + 1 < cLine := by
    have := hr.units
    omega
  show wpAny _ _ (richCompare .NotEq (.ref a) u) _ _ _
  refine ne_K (tb := t) hu hF I.ok.mod.kin J (Z.ty _ _ I.kIn p) hn e.mo e.ne e.eq e.fn ?_
  refine wpAny_mono (run_in1 (us := [.ref a, u]) (vs := [.ref a, y]) F hr hb hd hx I (.cons rfl (.cons ry .nil)) q) (fun w s' z => ?_) fun _ _ x => x
  obtain ⟨z', H', I', rz, b, eb, qz⟩ := z
  subst eb
  cases (show w = Value.bool b from rz)
  exact ⟨b, rfl, .bl (!b), H', I', rfl, qz⟩
/-- what stands on the left of == and declines -/
inductive EqL (K : PySem.W.Frag) (H : Hp) : V → Prop where
  | non : EqL K H .non
  | int (i : Int) : EqL K H (.int i)
  | str (z : Str) : EqL K H (.str z)
  | lst {a : Addr} {xs : List V} (h : SqL K H a xs) : EqL K H (.ref a)
  | tup {a : Addr} {xs : List V} (h : SqT K H a xs) : EqL K H (.ref a)
/-- x == y, y an instance of the class at C, x of a built-in type -/
def rEqBack (K : PySem.W.Frag) (C : Addr) (sp : Sp) (dvs : List V) (E : XK) : R2 := fun x y H Q => ∃ b dx fs, y = .ref b ∧ H b = some (.ins C dx fs) ∧ EqL K H x ∧ sp ([y, x] ++ dvs) H Q E
theorem op_eqBack (e : EqCls X.K C f) (F : FnOk X.prog X.w X.K X.mg X.base CX k f fd ps sp) (hr : Room k X.A) (hb : Binds X.K fd ps ds) (hd : Vals dvs ds) (hx : Passes CX X E) : OpR X (compareOp .Eq) (rEqBack X.K C sp dvs E) := by
  intro pins s σ H x y v u Q I rx ry h
  obtain ⟨b, dx, fs, rfl, hbo, hl, q⟩ := h
  cases (show u = Value.ref b from ry)
  obtain ⟨mA, O, _⟩ := ins_get I.hok hbo
  obtain ⟨od, J, _⟩ := O.look
  obtain ⟨_, _, _, ob, _⟩ := (show ObjOk X.prog X.w H s.heap b (.ins C dx fs) from I.hok b _ hbo)
  have hc : wpAny (model X.prog X.w) X.A (call (.ref f) [.ref b, v]) (PySem.W.CmpBack (EP X pins σ Q)) X.xe s := by
    refine wpAny_mono (run_fn (us := [.ref b, v]) (vs := [.ref b, x]) F hr hb hd hx I (.cons rfl (.cons rx .nil)) q) (fun w s' z => ?_) fun _ _ x => x
    obtain ⟨z', H', I', rz, qz⟩ := z
    exact cmpback' rz ⟨z', H', I', rz, qz⟩
  show wpAny _ _ (richCompare .Eq v (.ref b)) _ _ _
  cases hl with
  | non =>
    cases (show v = Value.none from rx)
    exact eqR_K hr.units0 I.kIn J (typeIs_none s) PySem.F.slot_NoneType_eq PySem.F.entry_NoneType_eq (PySem.F.args_NoneType_eq_2 _ _) eqd_none rfl e.sN e.eq e.fn hc
  | int i =>
    obtain ⟨t, rfl⟩ := rx
    exact eqR_K hr.units0 I.kIn J (typeIs_int s i t) slot_int_eq entry_int_eq (args_int_eq _ _) (eqd_int ob) rfl e.sI e.eq e.fn hc
  | str z =>
    obtain ⟨t, rfl⟩ := rx
    exact eqR_K hr.units0 I.kIn J (typeIs_str s z t) PySem.F.slot_str_eq PySem.F.entry_str_eq (PySem.F.args_str_eq_2 _ _) (eqd_str ob) rfl e.sS e.eq e.fn hc
  | @lst a xs hq =>
    cases (show v = Value.ref a from rx)
    obtain ⟨its, rv, p, _⟩ := I.list hq
    exact eqR_K hr.units0 I.kIn J p.isList.typeIs PySem.F.slot_list_eq PySem.F.entry_list_eq (PySem.F.args_list_eq_2 _ _) (eqd_list (J.type.andThen (PySem.W.looks_subIn I.kIn e.sL))) rfl e.sL e.eq e.fn hc
  | @tup a xs hq =>
    cases (show v = Value.ref a from rx)
    obtain ⟨its, rv, p, _⟩ := I.tuple hq
    exact eqR_K hr.units0 I.kIn J p.typeIs PySem.F.slot_tuple_eq PySem.F.entry_tuple_eq (PySem.F.args_tuple_eq_2 _ _) (eqd_tuple (J.type.andThen (PySem.W.looks_subIn I.kIn e.sT))) rfl e.sT e.eq e.fn hc
/-- repr(x), x an instance with an own __repr__ -/
def rReprOwn (C : Addr) (sp : Sp) (dvs : List V) (E : XK) : List V → Hp → VK → Prop := fun xs H Q => ∃ a dx fs, xs = [.ref a] ∧ H a = some (.ins C dx fs) ∧ sp ([.ref a] ++ dvs) H (fun z H' => ∃ y, z = .str y ∧ Q z H') E
theorem call_reprOwn (hs : PySem.W.findIn X.K (.ref C) "__repr__" = some (some (.ref f))) (hf : PySem.W.isFn X.K (.ref f) = true) (F : GFn X.prog X.w X.K X.mg X.base CX k f fd ps sp) (hr : Room (k + 1) X.A) (hg : X.A.guards = some [])
    (hb : Binds X.K fd ps ds) (hd : Vals dvs ds) (hx : Passes CX X E) : CallR X (.builtin "repr") (rReprOwn C sp dvs E) := by
  intro pins s σ H xs us Q I r h
  obtain ⟨a, dx, fs, rfl, ha, q⟩ := h
  obtain ⟨u, rfl, ru⟩ := vals1 r
  obtain rfl : u = Value.ref a := ru
  obtain ⟨mA, O, _⟩ := ins_get I.hok ha
  obtain ⟨od, J, _⟩ := O.look
  obtain ⟨m, hF⟩ := I.fr
  refine PySem.W.repr_K hr.in1.units0 hF I.ok.mod.kin J hs hf ?_
  refine wpAny_mono (run_in1G (us := [.ref a]) (vs := [.ref a]) F hr hg hb hd hx I (.cons rfl .nil) q) (fun w s' z => ?_) fun _ _ x => x
  obtain ⟨z', H', I', rz, y, ey, qz⟩ := z
  subst ey
  obtain ⟨t, rfl⟩ := (show ∃ t, w = Value.str y t from rz)
  exact ⟨.str y, H', I', ⟨t, rfl⟩, qz⟩
end
/-! ### f"{data!r}" -/
def tFmtRD (K : PySem.W.Frag) (te : TE) : TE := fun σ H Q => te σ H fun x H1 => ∃ (a : Addr) (d : PyData), x = .ref a ∧ Dp K H1 (.ref a) d ∧ d.showable = true ∧ d.hasDict = false ∧ d.depth ≤ 60 ∧ d.shown.length ≤ sizeLine ∧ Q (.str d.shown) H1
theorem pe_fmtRD {X : Cx} {e : Expr} {te : TE} {pos : Pos} (hg : X.A.guards = some []) (hu : X.A.units + 64 < cLine) (he : PE X e te) : PE X (.FormattedValue e 114 none pos) (tFmtRD X.K te) := by
  refine ⟨fun pins s σ H Q I h => ?_⟩
  refine wpAny_FormattedValue_repr (thn (he.run pins s σ H _ I h) fun v s1 hv => ?_)
  obtain ⟨x, H1, I1, r1, a, d, rfl, hd, hs, hnd, hdp, hz, q⟩ := hv
  obtain rfl : v = Value.ref a := r1
  obtain ⟨as, rd⟩ := Dp.reads I1 d _ _ hd rfl
  refine pyReprObj_of_reads rd hs (fun z => ?_) hg (by omega) (fun _ _ e => e) (fun h' u tk hk => ?_) hz
  · rw [hnd] at z
    cases z
  · have I2 : Inv X pins σ H1 { s1 with heap := h', toks := tk } := I1.kept hk
    exact wpAny_formatField_str ⟨.str d.shown, H1, I2.tok _, ⟨_, rfl⟩, q⟩ ⟨.str d.shown, H1, I2.tok _, ⟨_, rfl⟩, q⟩ hz
/-! ### x | y, x & y .. of two instances of one class; ~x; y in x -/
section
variable {X : Cx} {CX : CXT} {k : Nat} {C f : Addr} {fd : FuncData} {ps : List Str} {sp : Sp} {dvs : List V} {ds : List Value} {E : XK}
def rBinOwn (C : Addr) (sp : Sp) (dvs : List V) (E : XK) : R2 := fun x y H Q => ∃ a dx fs b dy gs, x = .ref a ∧ y = .ref b ∧ H a = some (.ins C dx fs) ∧ H b = some (.ins C dy gs) ∧ sp ([x, y] ++ dvs) H Q E
theorem op_binOwn {op : Operator} (hc : PySem.W.selfFirst X.K C = true) (hs : PySem.W.findIn X.K (.ref C) (PySem.dunder op.info.2) = some (some (.ref f))) (hf : PySem.W.isFn X.K (.ref f) = true) (F : FnOk X.prog X.w X.K X.mg X.base CX k f fd ps sp) (hr : Room k X.A)
    (hb : Binds X.K fd ps ds) (hd : Vals dvs ds) (hx : Passes CX X E) : OpR X (binaryOp op) (rBinOwn C sp dvs E) := by
  intro pins s σ H x y v u Q I rx ry h
  obtain ⟨a, dx, fs, b, dy, gs, rfl, rfl, ha, hbo, q⟩ := h
  cases (show v = Value.ref a from rx)
  cases (show u = Value.ref b from ry)
  obtain ⟨mA, O, _⟩ := ins_get I.hok ha
  obtain ⟨od, J, _⟩ := O.look
  obtain ⟨mB, O2, _⟩ := ins_get I.hok hbo
  obtain ⟨od2, J2, _⟩ := O2.look
  obtain ⟨m, hF⟩ := I.fr
  refine PySem.W.binop_K hF I.ok.mod.kin J J2.type hc hs hf ?_
  refine wpAny_mono (run_fn (us := [.ref a, .ref b]) (vs := [.ref a, .ref b]) F hr hb hd hx I (.cons rfl (.cons rfl .nil)) q) (fun w s' z => ?_) fun _ _ x => x
  obtain ⟨z', H', I', rz, qz⟩ := z
  exact cmpback' rz ⟨z', H', I', rz, qz⟩
def rInvOwn (C : Addr) (sp : Sp) (dvs : List V) (E : XK) : V → Hp → VK → Prop := fun x H Q => ∃ a dx fs, x = .ref a ∧ H a = some (.ins C dx fs) ∧ sp ([x] ++ dvs) H Q E
theorem un_invOwn (hs : PySem.W.findIn X.K (.ref C) "__invert__" = some (some (.ref f))) (hf : PySem.W.isFn X.K (.ref f) = true) (F : FnOk X.prog X.w X.K X.mg X.base CX k f fd ps sp) (hr : Room k X.A)
    (hb : Binds X.K fd ps ds) (hd : Vals dvs ds) (hx : Passes CX X E) : UnR X (unaryOp .Invert) (rInvOwn C sp dvs E) := by
  intro pins s σ H x v Q I rx h
  obtain ⟨a, dx, fs, rfl, ha, q⟩ := h
  cases (show v = Value.ref a from rx)
  obtain ⟨mA, O, _⟩ := ins_get I.hok ha
  obtain ⟨od, J, _⟩ := O.look
  obtain ⟨m, hF⟩ := I.fr
  exact PySem.W.ksp_inv hF I.ok.mod.kin J hs hf (run_fn (us := [.ref a]) (vs := [.ref a]) F hr hb hd hx I (.cons rfl .nil) q)
/-- y in x -/
def rInOwn (C : Addr) (sp : Sp) (dvs : List V) (E : XK) : R2 := fun y x H Q => ∃ a dx fs, x = .ref a ∧ H a = some (.ins C dx fs) ∧ sp ([x, y] ++ dvs) H (fun z H' => ∃ b, z = .bl b ∧ Q z H') E
theorem op_inOwn (hs : PySem.W.findIn X.K (.ref C) "__contains__" = some (some (.ref f))) (hf : PySem.W.isFn X.K (.ref f) = true) (F : FnOk X.prog X.w X.K X.mg X.base CX k f fd ps sp) (hr : Room k X.A)
    (hb : Binds X.K fd ps ds) (hd : Vals dvs ds) (hx : Passes CX X E) : OpR X (compareOp .In) (rInOwn C sp dvs E) := by
  intro pins s σ H y x u v Q I ry rx h
  obtain ⟨a, dx, fs, rfl, ha, q⟩ := h
  cases (show v = Value.ref a from rx)
  obtain ⟨mA, O, _⟩ := ins_get I.hok ha
  obtain ⟨od, J, _⟩ := O.look
  obtain ⟨m, hF⟩ := I.fr
  refine PySem.W.in_K hF I.ok.mod.kin J hs hf (wpAny_mono (run_fn (us := [.ref a, u]) (vs := [.ref a, y]) F hr hb hd hx I (.cons rfl (.cons ry .nil)) q) (fun w s' z => ?_) fun _ _ x => x)
  obtain ⟨z', H', I', rz, b, eb, qz⟩ := z
  subst eb
  cases (show w = Value.bool b from rz)
  exact wpAny_truthy_bool ⟨.bl b, H', I', rfl, qz⟩
end
end Rg

/-! Plain mathematics of machines: ordered lists without doubles, languages, least machines. -/
namespace Mach

/-! ### lists in which each thing stands once, in the order of its first coming -/
section
variable {α β : Type} [DecidableEq α] [DecidableEq β]

def push (L : List α) (s : α) : List α := if s ∈ L then L else L ++ [s]
def pushAll (L X : List α) : List α := X.foldl push L
def D (X : List α) : List α := pushAll [] X

theorem push_mem {L : List α} {s : α} (h : s ∈ L) : push L s = L := if_pos h
theorem push_new {L : List α} {s : α} (h : s ∉ L) : push L s = L ++ [s] := if_neg h
theorem mem_push {L : List α} {s x : α} : x ∈ push L s ↔ x ∈ L ∨ x = s := by
  unfold push
  split
  · constructor
    · exact Or.inl
    · rintro (h | h)
      · exact h
      · rw [h]; assumption
  · simp
theorem pushAll_nil (L : List α) : pushAll L [] = L := rfl
theorem pushAll_cons (L : List α) (x : α) (X : List α) : pushAll L (x :: X) = pushAll (push L x) X := rfl
theorem pushAll_append (L X Y : List α) : pushAll L (X ++ Y) = pushAll (pushAll L X) Y := List.foldl_append
theorem mem_pushAll {L X : List α} {x : α} : x ∈ pushAll L X ↔ x ∈ L ∨ x ∈ X := by
  induction X generalizing L with
  | nil => simp [pushAll_nil]
  | cons y X ih =>
    rw [pushAll_cons, ih, mem_push, List.mem_cons]
    constructor
    · rintro ((h | h) | h)
      · exact .inl h
      · exact .inr (.inl h)
      · exact .inr (.inr h)
    · rintro (h | h | h)
      · exact .inl (.inl h)
      · exact .inl (.inr h)
      · exact .inr h
theorem mem_D {X : List α} {x : α} : x ∈ D X ↔ x ∈ X := by
  unfold D
  rw [mem_pushAll]
  simp
theorem pushAll_of_sub {L X : List α} (h : ∀ x ∈ X, x ∈ L) : pushAll L X = L := by
  induction X generalizing L with
  | nil => rfl
  | cons y X ih =>
    rw [pushAll_cons, push_mem (h y List.mem_cons_self)]
    exact ih fun x hx => h x (List.mem_cons_of_mem _ hx)
theorem push_pre (L : List α) (s : α) : ∃ Z, push L s = L ++ Z := by
  unfold push
  split
  · exact ⟨[], by simp⟩
  · exact ⟨[s], rfl⟩
theorem pushAll_pre (L X : List α) : ∃ Z, pushAll L X = L ++ Z := by
  induction X generalizing L with
  | nil => exact ⟨[], by simp [pushAll_nil]⟩
  | cons y X ih =>
    obtain ⟨Z1, h1⟩ := push_pre L y
    obtain ⟨Z2, h2⟩ := ih (push L y)
    exact ⟨Z1 ++ Z2, by rw [pushAll_cons, h2, h1, List.append_assoc]⟩
theorem push_nodup {L : List α} {s : α} (h : L.Nodup) : (push L s).Nodup := by
  unfold push
  split
  · exact h
  · rename_i hs
    rw [List.nodup_append]
    refine ⟨h, by simp, ?_⟩
    intro a ha b hb
    rw [List.mem_singleton] at hb
    intro e
    exact hs (by rw [← hb, ← e]; exact ha)
theorem pushAll_nodup {L X : List α} (h : L.Nodup) : (pushAll L X).Nodup := by
  induction X generalizing L with
  | nil => exact h
  | cons y X ih => exact ih (push_nodup h)
theorem D_nodup (X : List α) : (D X).Nodup := pushAll_nodup List.nodup_nil
theorem D_cons (x : α) (X : List α) : D (x :: X) = pushAll [x] X := rfl
theorem D_append (X Y : List α) : D (X ++ Y) = pushAll (D X) Y := pushAll_append _ _ _
theorem D_of_nodup {X : List α} (h : X.Nodup) : D X = X := by
  have gen : ∀ (X L : List α), (L ++ X).Nodup → pushAll L X = L ++ X := by
    intro X
    induction X with
    | nil => intro L _; simp [pushAll_nil]
    | cons y X ih =>
      intro L hn
      have hy : y ∉ L := by
        intro hy
        rw [List.nodup_append] at hn
        exact hn.2.2 y hy y List.mem_cons_self rfl
      rw [pushAll_cons, push_new hy, ih (L ++ [y]) (by rw [List.append_assoc]; exact hn), List.append_assoc]
      rfl
  have := gen X [] (by simpa using h)
  simpa [D] using this
theorem pushAll_sup {L M X : List α} : pushAll (pushAll L M) X = pushAll L (M ++ X) := (pushAll_append L M X).symm
/-- pushing what D left -/
theorem pushAll_D (L X : List α) : pushAll L (D X) = pushAll L X := by
  have gen : ∀ (X Y : List α), pushAll L (pushAll Y X) = pushAll (pushAll L Y) X := by
    intro X
    induction X with
    | nil => intro Y; rfl
    | cons x X ih =>
      intro Y
      rw [pushAll_cons, ih, pushAll_cons]
      congr 1
      by_cases hx : x ∈ Y
      · rw [push_mem hx, push_mem (mem_pushAll.mpr (.inr hx))]
      · rw [push_new hx, pushAll_append]
        rfl
  have := gen X []
  simpa [D, pushAll_nil] using this
theorem D_D (X : List α) : D (D X) = D X := D_of_nodup (D_nodup X)
/-- maps -/
theorem push_map_D (f : α → β) (L : List α) (s : α) (B : List β) : pushAll B ((push L s).map f) = pushAll B (L.map f ++ [f s]) := by
  by_cases h : s ∈ L
  · rw [push_mem h, pushAll_append, pushAll_of_sub (X := [f s])]
    intro x hx
    rw [List.mem_singleton] at hx
    rw [hx]
    exact mem_pushAll.mpr (.inr (List.mem_map_of_mem h))
  · rw [push_new h, List.map_append]
    rfl
theorem pushAll_map (f : α → β) (B : List β) (X L : List α) : pushAll B ((pushAll L X).map f) = pushAll B (L.map f ++ X.map f) := by
  induction X generalizing L with
  | nil => simp [pushAll_nil]
  | cons x X ih =>
    rw [pushAll_cons, ih, pushAll_append, push_map_D, ← pushAll_append, List.append_assoc]
    rfl
theorem D_map_D (f : α → β) (X : List α) : D ((D X).map f) = D (X.map f) := by
  have := pushAll_map f [] X []
  simpa [D] using this
theorem map_push_inj {f : α → β} {L : List α} {s : α} (h : ∀ x ∈ L, f x = f s → x = s) : (push L s).map f = push (L.map f) (f s) := by
  by_cases hs : s ∈ L
  · rw [push_mem hs, push_mem (List.mem_map_of_mem hs)]
  · rw [push_new hs, push_new, List.map_append]
    · rfl
    · intro hm
      obtain ⟨x, hx, e⟩ := List.mem_map.mp hm
      exact hs (by rw [← h x hx e]; exact hx)
theorem map_pushAll_inj {f : α → β} (X : List α) : ∀ L : List α, (∀ x ∈ L ++ X, ∀ y ∈ L ++ X, f x = f y → x = y) → (pushAll L X).map f = pushAll (L.map f) (X.map f) := by
  induction X with
  | nil => intro L _; rfl
  | cons s X ih =>
    intro L h
    rw [pushAll_cons, ih (push L s), List.map_cons, pushAll_cons, map_push_inj]
    · intro x hx e
      exact h x (by simp [hx]) s (by simp) e
    · intro x hx y hy e
      refine h x ?_ y ?_ e
      · rcases List.mem_append.mp hx with hx | hx
        · rcases mem_push.mp hx with hx | hx
          · simp [hx]
          · simp [hx]
        · simp [hx]
      · rcases List.mem_append.mp hy with hx | hx
        · rcases mem_push.mp hx with hx | hx
          · simp [hx]
          · simp [hx]
        · simp [hx]
theorem D_map_inj {f : α → β} {X : List α} (h : ∀ x ∈ X, ∀ y ∈ X, f x = f y → x = y) : (D X).map f = D (X.map f) := by
  have := map_pushAll_inj (f := f) X [] (by simpa using h)
  simpa [D] using this
/-- what stands twice in the source of a flatMap adds nothing -/
theorem pushAll_flatMap_D (r : β → List α) (Y : List β) : ∀ (L : List α) (Z : List β), pushAll L ((pushAll Z Y).flatMap r) = pushAll (pushAll L (Z.flatMap r)) (Y.flatMap r) := by
  induction Y with
  | nil => intro L Z; rfl
  | cons y Y ih =>
    intro L Z
    rw [pushAll_cons, ih, List.flatMap_cons, pushAll_append]
    congr 1
    by_cases hy : y ∈ Z
    · rw [push_mem hy]
      refine (pushAll_of_sub ?_).symm
      intro x hx
      exact mem_pushAll.mpr (.inr (List.mem_flatMap.mpr ⟨y, hy, hx⟩))
    · rw [push_new hy, List.flatMap_append, pushAll_append]
      simp
theorem D_flatMap_D (x : α) (r : β → List α) (Y : List β) : D (x :: (D Y).flatMap r) = D (x :: Y.flatMap r) := by
  rw [D_cons, D_cons]
  have := pushAll_flatMap_D r Y [x] []
  simpa [D, pushAll_nil] using this

/-! ### counting -/
theorem length_le_of_sub {L M : List α} (hn : L.Nodup) (h : ∀ x ∈ L, x ∈ M) : L.length ≤ M.length := by
  induction L generalizing M with
  | nil => exact Nat.zero_le _
  | cons a L ih =>
    have ha : a ∈ M := h a List.mem_cons_self
    have h1 := ih (M := M.erase a) (List.nodup_cons.mp hn).2 (by
      intro x hx
      have hne : x ≠ a := by
        intro e
        rw [e] at hx
        exact (List.nodup_cons.mp hn).1 hx
      exact (List.mem_erase_of_ne hne).mpr (h x (List.mem_cons_of_mem _ hx)))
    rw [List.length_erase_of_mem ha] at h1
    have : 0 < M.length := List.length_pos_of_mem ha
    rw [List.length_cons]
    omega
end

theorem nodup_lt_length {L : List Nat} {n : Nat} (hn : L.Nodup) (h : ∀ x ∈ L, x < n) : L.length ≤ n := by
  have := length_le_of_sub (M := List.range n) hn (fun x hx => List.mem_range.mpr (h x hx))
  rwa [List.length_range] at this

/-! ### machines -/
def rowOf (R : List (List Nat)) (q : Nat) : List Nat := R.getD q []
def dl (R : List (List Nat)) (q k : Nat) : Nat := (rowOf R q).getD k 0
def runM (R : List (List Nat)) (q : Nat) (w : List Nat) : Nat := w.foldl (dl R) q
def Wd (n : Nat) (w : List Nat) : Prop := ∀ k ∈ w, k < n
structure Mok (n : Nat) (R : List (List Nat)) : Prop where
  wide : ∀ q, q < R.length → (rowOf R q).length = n
  lt : ∀ q, q < R.length → ∀ x ∈ rowOf R q, x < R.length
def Alk (n : Nat) (R : List (List Nat)) (E : List Nat) (q : Nat) (R' : List (List Nat)) (E' : List Nat) (q' : Nat) : Prop :=
  ∀ w, Wd n w → (runM R q w ∈ E ↔ runM R' q' w ∈ E')

section
variable {n : Nat} {R R' R1 : List (List Nat)} {E E' E1 : List Nat} {q q' q1 : Nat}
theorem Alk.refl (n : Nat) (R : List (List Nat)) (E : List Nat) (q : Nat) : Alk n R E q R E q := fun _ _ => Iff.rfl
theorem Alk.symm (h : Alk n R E q R' E' q') : Alk n R' E' q' R E q := fun w hw => (h w hw).symm
theorem Alk.trans (h : Alk n R E q R' E' q') (h' : Alk n R' E' q' R1 E1 q1) : Alk n R E q R1 E1 q1 := fun w hw => (h w hw).trans (h' w hw)
theorem Alk.step (h : Alk n R E q R' E' q') {k : Nat} (hk : k < n) : Alk n R E (dl R q k) R' E' (dl R' q' k) := fun w hw =>
  h (k :: w) (fun j hj => by
    rcases List.mem_cons.mp hj with e | hj
    · rw [e]; exact hk
    · exact hw j hj)
theorem Alk.nil (h : Alk n R E q R' E' q') : q ∈ E ↔ q' ∈ E' := h [] (fun _ z => by cases z)
theorem dl_mem (hM : Mok n R) (hq : q < R.length) {k : Nat} (hk : k < n) : dl R q k ∈ rowOf R q := by
  have hl : k < (rowOf R q).length := by rw [hM.wide q hq]; exact hk
  unfold dl
  rw [List.getD_eq_getElem?_getD, List.getElem?_eq_getElem hl]
  exact List.getElem_mem hl
theorem dl_lt (hM : Mok n R) (hq : q < R.length) {k : Nat} (hk : k < n) : dl R q k < R.length := hM.lt q hq _ (dl_mem hM hq hk)
theorem runM_nil (R : List (List Nat)) (q : Nat) : runM R q [] = q := rfl
theorem runM_cons (R : List (List Nat)) (q k : Nat) (w : List Nat) : runM R q (k :: w) = runM R (dl R q k) w := rfl
theorem runM_append (R : List (List Nat)) (q : Nat) (v w : List Nat) : runM R q (v ++ w) = runM R (runM R q v) w := List.foldl_append
theorem runM_lt (hM : Mok n R) {w : List Nat} : ∀ {q : Nat}, q < R.length → Wd n w → runM R q w < R.length := by
  induction w with
  | nil => intro q hq _; exact hq
  | cons k w ih =>
    intro q hq hw
    exact ih (dl_lt hM hq (hw k List.mem_cons_self)) (fun j hj => hw j (List.mem_cons_of_mem _ hj))
theorem Alk.run (h : Alk n R E q R' E' q') {w : List Nat} (hw : Wd n w) : Alk n R E (runM R q w) R' E' (runM R' q' w) := by
  intro v hv
  have := h (w ++ v) (fun k hk => by
    rcases List.mem_append.mp hk with z | z
    · exact hw k z
    · exact hv k z)
  rwa [runM_append, runM_append] at this
end

/-- the least machine of its texts -/
structure Least (n : Nat) (R : List (List Nat)) (E : List Nat) : Prop where
  ok : Mok n R
  ne : 0 < R.length
  grow : D (0 :: R.flatten) = List.range R.length
  acc : ∀ q, q < R.length → ∃ w, Wd n w ∧ runM R 0 w = q
  red : ∀ p q, p < R.length → q < R.length → Alk n R E p R E q → p = q
  ends : E = (List.range R.length).filter (fun q => decide (q ∈ E))

theorem flatMap_range_rows (R : List (List Nat)) : (List.range R.length).flatMap (rowOf R) = R.flatten := by
  rw [List.flatMap_def]
  congr 1
  apply List.ext_getElem?
  intro i
  rw [List.getElem?_map]
  by_cases h : i < R.length
  · rw [List.getElem?_range h, List.getElem?_eq_getElem h]
    simp [rowOf, List.getD_eq_getElem?_getD, h]
  · have h' : R.length ≤ i := by omega
    rw [List.getElem?_eq_none_iff.mpr (by simpa using h'), List.getElem?_eq_none_iff.mpr h']
    rfl

theorem flatMap_congr {α β : Type} {f g : α → List β} : ∀ (L : List α), (∀ x ∈ L, f x = g x) → L.flatMap f = L.flatMap g
  | [], _ => rfl
  | a :: L, h => by
    rw [List.flatMap_cons, List.flatMap_cons, h a List.mem_cons_self, flatMap_congr L fun x hx => h x (List.mem_cons_of_mem _ hx)]

theorem range_pre {m n : Nat} {Z : List Nat} {L : List Nat} (h : List.range n = L ++ Z) (hl : L.length = m) : L = List.range m := by
  have h1 : L = (List.range n).take m := by
    rw [h, ← hl]
    simp
  have h2 : m ≤ n := by
    have := congrArg List.length h
    rw [List.length_range, List.length_append] at this
    omega
  rw [h1, List.take_range, Nat.min_eq_left h2]

/-- both least, of the same texts: the one is not longer, state by state the same -/
theorem least_half {n : Nat} {R R' : List (List Nat)} {E E' : List Nat} (h : Least n R E) (h' : Least n R' E') (al : Alk n R E 0 R' E' 0) :
    R.length ≤ R'.length ∧ ∀ q, q < R.length → Alk n R E q R' E' q := by
  have hex : ∀ q, ∃ c, q < R.length → c < R'.length ∧ Alk n R E q R' E' c := by
    intro q
    by_cases hq : q < R.length
    · obtain ⟨w, hw, e⟩ := h.acc q hq
      refine ⟨runM R' 0 w, fun _ => ⟨runM_lt h'.ok h'.ne hw, ?_⟩⟩
      have := al.run hw
      rwa [e] at this
    · exact ⟨0, fun z => absurd z hq⟩
  let c : Nat → Nat := fun q => Classical.choose (hex q)
  have hc : ∀ q, q < R.length → c q < R'.length ∧ Alk n R E q R' E' (c q) := fun q => Classical.choose_spec (hex q)
  have uniq : ∀ p p', p < R'.length → p' < R'.length → ∀ q, Alk n R E q R' E' p → Alk n R E q R' E' p' → p = p' := fun p p' hp hp' q a b => h'.red p p' hp hp' (a.symm.trans b)
  have c0 : c 0 = 0 := uniq _ _ (hc 0 h.ne).1 h'.ne 0 (hc 0 h.ne).2 al
  have cinj : ∀ p q, p < R.length → q < R.length → c p = c q → p = q := by
    intro p q hp hq e
    have a := (hc p hp).2
    rw [e] at a
    exact h.red p q hp hq (a.trans (hc q hq).2.symm)
  have crow : ∀ q, q < R.length → rowOf R' (c q) = (rowOf R q).map c := by
    intro q hq
    have hl := h.ok.wide q hq
    have hl' := h'.ok.wide (c q) (hc q hq).1
    apply List.ext_getElem
    · rw [hl', List.length_map, hl]
    · intro k h1 h2
      have hk : k < n := by rw [← hl']; exact h1
      have hk2 : k < (rowOf R q).length := by rw [hl]; exact hk
      have e1 : (rowOf R' (c q))[k] = dl R' (c q) k := by
        unfold dl
        rw [List.getD_eq_getElem?_getD, List.getElem?_eq_getElem h1]
        rfl
      have e2 : (rowOf R q)[k] = dl R q k := by
        unfold dl
        rw [List.getD_eq_getElem?_getD, List.getElem?_eq_getElem hk2]
        rfl
      rw [List.getElem_map, e1, e2]
      have hd := dl_lt h.ok hq hk
      exact uniq _ _ (dl_lt h'.ok (hc q hq).1 hk) (hc _ hd).1 (dl R q k) ((hc q hq).2.step hk) (hc _ hd).2
  have main : ∀ j, j ≤ R.length → ∀ i, i < j → c i = i := by
    intro j
    induction j with
    | zero => intro _ i hi; omega
    | succ j ih =>
      intro hj i hi
      by_cases hij : i < j
      · exact ih (by omega) i hij
      · have ei : i = j := by omega
        subst ei
        have fix := ih (by omega)
        by_cases hi0 : i = 0
        · rw [hi0]; exact c0
        · -- the stream of the rows ahead of i
          have hsub : ∀ x ∈ 0 :: (List.range i).flatMap (rowOf R), x < R.length := by
            intro x hx
            rcases List.mem_cons.mp hx with e | hx
            · rw [e]; exact h.ne
            · obtain ⟨q, hq, hx⟩ := List.mem_flatMap.mp hx
              exact h.ok.lt q (by have := List.mem_range.mp hq; omega) x hx
          have eS : (0 :: (List.range i).flatMap (rowOf R)).map c = 0 :: (List.range i).flatMap (rowOf R') := by
            rw [List.map_cons, c0, List.map_flatMap]
            congr 1
            apply flatMap_congr
            intro q hq
            have hq' := List.mem_range.mp hq
            rw [← crow q (by omega), fix q hq']
          have pre : ∀ (S : List (List Nat)), i ≤ S.length → D (0 :: S.flatten) = List.range S.length → ∃ m, D (0 :: (List.range i).flatMap (rowOf S)) = List.range m := by
            intro S hS hg
            have e1 : List.range S.length = List.range i ++ (List.range (S.length - i)).map (i + ·) := by
              rw [← List.range_add]
              congr 1
              omega
            rw [← flatMap_range_rows S, e1, List.flatMap_append, ← List.cons_append, D_append] at hg
            obtain ⟨Z, hZ⟩ := pushAll_pre (D (0 :: (List.range i).flatMap (rowOf S))) (((List.range (S.length - i)).map (i + ·)).flatMap (rowOf S))
            rw [hZ, ← e1] at hg
            exact ⟨_, range_pre hg.symm rfl⟩
          have hiR' : i ≤ R'.length := by
            have : ∀ x ∈ List.range i, x ∈ List.range R'.length := by
              intro x hx
              have hx' := List.mem_range.mp hx
              have := (hc x (by omega)).1
              rw [fix x hx'] at this
              exact List.mem_range.mpr this
            have := length_le_of_sub (List.nodup_range) this
            rwa [List.length_range, List.length_range] at this
          obtain ⟨m, hm⟩ := pre R (by omega) h.grow
          obtain ⟨m', hm'⟩ := pre R' hiR' h'.grow
          -- i is among the states that the rows ahead lead to
          have him : i < m := by
            refine Nat.lt_of_not_le fun hmi => ?_
            have closed : ∀ w, Wd n w → runM R 0 w < i := by
              have gen : ∀ w : List Nat, Wd n w → ∀ q, q < i → runM R q w < i := by
                intro w
                induction w with
                | nil => intro _ q hq; exact hq
                | cons k w ihw =>
                  intro hw q hq
                  refine ihw (fun j hj => hw j (List.mem_cons_of_mem _ hj)) _ ?_
                  have hmem : dl R q k ∈ D (0 :: (List.range i).flatMap (rowOf R)) := mem_D.mpr (List.mem_cons_of_mem _ (List.mem_flatMap.mpr ⟨q, List.mem_range.mpr hq, dl_mem h.ok (by omega) (hw k List.mem_cons_self)⟩))
                  rw [hm] at hmem
                  have := List.mem_range.mp hmem
                  omega
              intro w hw
              exact gen w hw 0 (by omega)
            obtain ⟨w, hw, e⟩ := h.acc i (by omega)
            have := closed w hw
            omega
          have emap : (List.range m).map c = List.range m' := by
            rw [← hm, ← hm', D_map_inj, eS]
            intro x hx y hy e
            exact cinj x y (hsub x hx) (hsub y hy) e
          have hl : m = m' := by
            have := congrArg List.length emap
            simpa using this
          have := congrArg (fun L => L[i]?) emap
          simp only [List.getElem?_map] at this
          rw [List.getElem?_range him, List.getElem?_range (by omega)] at this
          simpa using this
  have fixed : ∀ q, q < R.length → c q = q := fun q hq => main R.length (Nat.le_refl _) q hq
  refine ⟨?_, fun q hq => ?_⟩
  · have : ∀ x ∈ List.range R.length, x ∈ List.range R'.length := by
      intro x hx
      have hx' := List.mem_range.mp hx
      have := (hc x hx').1
      rw [fixed x hx'] at this
      exact List.mem_range.mpr this
    have := length_le_of_sub (List.nodup_range) this
    rwa [List.length_range, List.length_range] at this
  · have := (hc q hq).2
    rwa [fixed q hq] at this

theorem least_unique {n : Nat} {R R' : List (List Nat)} {E E' : List Nat} (h : Least n R E) (h' : Least n R' E') (al : Alk n R E 0 R' E' 0) : R = R' ∧ E = E' := by
  obtain ⟨l1, a1⟩ := least_half h h' al
  obtain ⟨l2, a2⟩ := least_half h' h al.symm
  have hl : R.length = R'.length := Nat.le_antisymm l1 l2
  constructor
  · apply List.ext_getElem hl
    intro q h1 h2
    have r1 : R[q] = rowOf R q := by
      unfold rowOf
      rw [List.getD_eq_getElem?_getD, List.getElem?_eq_getElem h1]
      rfl
    have r2 : R'[q] = rowOf R' q := by
      unfold rowOf
      rw [List.getD_eq_getElem?_getD, List.getElem?_eq_getElem h2]
      rfl
    rw [r1, r2]
    have w1 := h.ok.wide q h1
    have w2 := h'.ok.wide q h2
    apply List.ext_getElem (w1.trans w2.symm)
    intro k k1 k2
    have hk : k < n := by rw [← w1]; exact k1
    have e1 : (rowOf R q)[k] = dl R q k := by
      unfold dl
      rw [List.getD_eq_getElem?_getD, List.getElem?_eq_getElem k1]
      rfl
    have e2 : (rowOf R' q)[k] = dl R' q k := by
      unfold dl
      rw [List.getD_eq_getElem?_getD, List.getElem?_eq_getElem k2]
      rfl
    rw [e1, e2]
    have b1 := dl_lt h.ok h1 hk
    have b2 := dl_lt h'.ok h2 hk
    have s1 := (a1 q h1).step hk
    have s2 := a1 (dl R q k) b1
    exact h'.red _ _ (by omega) b2 (s2.symm.trans s1)
  · rw [h.ends, h'.ends, hl]
    apply List.filter_congr
    intro q hq
    have hq' := List.mem_range.mp hq
    have := (a1 q (by omega)).nil
    simp [this]
end Mach

namespace Mach

/-! ### states in the order in which texts first lead to them -/
structure BfsAt (n : Nat) (R : List (List Nat)) (b : Nat) (L : List Nat) (i : Nat) : Prop where
  eq : L = D (b :: (L.take i).flatMap (rowOf R))
  lt : ∀ s ∈ L, s < R.length
  reach : ∀ s ∈ L, ∃ w, Wd n w ∧ runM R b w = s
  le : i ≤ L.length
structure Bfs (n : Nat) (R : List (List Nat)) (b : Nat) (L : List Nat) : Prop where
  eq : L = D (b :: L.flatMap (rowOf R))
  lt : ∀ s ∈ L, s < R.length
  reach : ∀ s ∈ L, ∃ w, Wd n w ∧ runM R b w = s

section
variable {n : Nat} {R : List (List Nat)} {b : Nat} {L : List Nat} {i : Nat}
theorem bfs_start (hb : b < R.length) : BfsAt n R b [b] 0 := by
  refine ⟨rfl, fun s hs => ?_, fun s hs => ?_, Nat.zero_le _⟩
  · rw [List.mem_singleton.mp hs]; exact hb
  · rw [List.mem_singleton.mp hs]; exact ⟨[], (fun _ z => nomatch z), rfl⟩
theorem BfsAt.nodup (h : BfsAt n R b L i) : L.Nodup := by
  rw [h.eq]
  exact D_nodup _
theorem BfsAt.len (h : BfsAt n R b L i) : L.length ≤ R.length := nodup_lt_length h.nodup h.lt
theorem mem_row_dl {q x : Nat} (hM : Mok n R) (hq : q < R.length) (hx : x ∈ rowOf R q) : ∃ k, k < n ∧ dl R q k = x := by
  obtain ⟨k, hk, e⟩ := List.mem_iff_getElem.mp hx
  refine ⟨k, by rw [← hM.wide q hq]; exact hk, ?_⟩
  unfold dl
  rw [List.getD_eq_getElem?_getD, List.getElem?_eq_getElem hk, ← e]
  rfl
theorem bfs_step (hM : Mok n R) (h : BfsAt n R b L i) {s : Nat} (hs : L[i]? = some s) : BfsAt n R b (pushAll L (rowOf R s)) (i + 1) := by
  have hi : i < L.length := (List.getElem?_eq_some_iff.mp hs).1
  have hsm : s ∈ L := List.mem_of_getElem? hs
  obtain ⟨Z, hZ⟩ := pushAll_pre L (rowOf R s)
  refine ⟨?_, ?_, ?_, ?_⟩
  · have ht : (pushAll L (rowOf R s)).take (i + 1) = L.take i ++ [s] := by
      rw [hZ, List.take_append_of_le_length (by omega), List.take_add_one, hs]
      rfl
    rw [ht, List.flatMap_append, ← List.cons_append, D_append, ← h.eq]
    simp
  · intro x hx
    rcases mem_pushAll.mp hx with z | z
    · exact h.lt x z
    · exact hM.lt s (h.lt s hsm) x z
  · intro x hx
    rcases mem_pushAll.mp hx with z | z
    · exact h.reach x z
    · obtain ⟨w, hw, e⟩ := h.reach s hsm
      obtain ⟨k, hk, ek⟩ := mem_row_dl hM (h.lt s hsm) z
      refine ⟨w ++ [k], fun j hj => ?_, ?_⟩
      · rcases List.mem_append.mp hj with q | q
        · exact hw j q
        · rw [List.mem_singleton.mp q]; exact hk
      · rw [runM_append, e]
        exact ek
  · rw [hZ, List.length_append]
    omega
theorem bfs_end (h : BfsAt n R b L i) (hi : L.length ≤ i) : Bfs n R b L := by
  refine ⟨?_, h.lt, h.reach⟩
  have := h.eq
  rwa [List.take_of_length_le hi] at this
theorem Bfs.nodup (h : Bfs n R b L) : L.Nodup := by
  rw [h.eq]
  exact D_nodup _
theorem Bfs.len (h : Bfs n R b L) : L.length ≤ R.length := nodup_lt_length h.nodup h.lt
theorem Bfs.begin_mem (h : Bfs n R b L) : b ∈ L := by
  rw [h.eq]
  exact mem_D.mpr List.mem_cons_self
theorem Bfs.closed (h : Bfs n R b L) {s x : Nat} (hs : s ∈ L) (hx : x ∈ rowOf R s) : x ∈ L := by
  rw [h.eq]
  exact mem_D.mpr (List.mem_cons_of_mem _ (List.mem_flatMap.mpr ⟨s, hs, hx⟩))
theorem Bfs.step (hM : Mok n R) (h : Bfs n R b L) {s k : Nat} (hs : s ∈ L) (hk : k < n) : dl R s k ∈ L := h.closed hs (dl_mem hM (h.lt s hs) hk)
theorem Bfs.run (hM : Mok n R) (h : Bfs n R b L) : ∀ {w : List Nat} {s : Nat}, s ∈ L → Wd n w → runM R s w ∈ L := by
  intro w
  induction w with
  | nil => intro s hs _; exact hs
  | cons k w ih =>
    intro s hs hw
    exact ih (h.step hM hs (hw k List.mem_cons_self)) (fun j hj => hw j (List.mem_cons_of_mem _ hj))
theorem Bfs.head (h : Bfs n R b L) : ∃ Z, L = b :: Z := by
  obtain ⟨Z, hZ⟩ := pushAll_pre [b] (L.flatMap (rowOf R))
  refine ⟨Z, ?_⟩
  have := h.eq
  rw [D_cons, hZ] at this
  exact this
end

/-! ### the machine of the classes -/
theorem range_head {m : Nat} {x : Nat} {Z : List Nat} (h : List.range m = x :: Z) : x = 0 ∧ 0 < m := by
  cases m with
  | zero => simp at h
  | succ m =>
    rw [List.range_succ_eq_map] at h
    exact ⟨(List.cons.inj h).1.symm, Nat.succ_pos _⟩

theorem quot_least {n : Nat} {R : List (List Nat)} {E : List Nat} {b : Nat} {L F : List Nat} {num : Nat → Nat} (hM : Mok n R) (hB : Bfs n R b L)
    (hal : ∀ s ∈ L, ∀ t ∈ L, num s = num t ↔ Alk n R E s R E t) (hF : ∀ s ∈ F, s ∈ L) (hFn : F.map num = List.range F.length)
    (hD : D (L.map num) = List.range F.length) :
    Least n (F.map fun s => (rowOf R s).map num) ((F.filter (fun s => decide (s ∈ E))).map num) ∧
    Alk n (F.map fun s => (rowOf R s).map num) ((F.filter (fun s => decide (s ∈ E))).map num) 0 R E b := by
  have hlen : (F.map fun s => (rowOf R s).map num).length = F.length := List.length_map _
  have numF : ∀ i (hi : i < F.length), num F[i] = i := by
    intro i hi
    have := congrArg (fun l => l[i]?) hFn
    simp only [List.getElem?_map] at this
    rw [List.getElem?_eq_getElem hi, List.getElem?_range hi] at this
    simpa using this
  have numlt : ∀ s ∈ L, num s < F.length := by
    intro s hs
    have : num s ∈ D (L.map num) := mem_D.mpr (List.mem_map_of_mem hs)
    rw [hD] at this
    exact List.mem_range.mp this
  obtain ⟨Zb, hZb⟩ := hB.head
  have hb0 : num b = 0 ∧ 0 < F.length := by
    obtain ⟨Z, hZ⟩ := pushAll_pre [num b] (Zb.map num)
    have h1 : D (L.map num) = num b :: Z := by
      rw [hZb, List.map_cons, D_cons, hZ]
      rfl
    rw [hD] at h1
    exact range_head h1
  have rowF : ∀ i (hi : i < F.length), rowOf (F.map fun s => (rowOf R s).map num) i = (rowOf R F[i]).map num := by
    intro i hi
    unfold rowOf
    rw [List.getD_eq_getElem?_getD, List.getElem?_map, List.getElem?_eq_getElem hi]
    rfl
  have FL : ∀ i (hi : i < F.length), F[i] ∈ L := fun i hi => hF _ (List.getElem_mem hi)
  have alF : ∀ s (hs : s ∈ L), Alk n R E s R E (F[num s]'(numlt s hs)) := by
    intro s hs
    exact (hal s hs _ (FL _ (numlt s hs))).mp (numF _ (numlt s hs)).symm
  have rowS : ∀ s ∈ L, rowOf (F.map fun s => (rowOf R s).map num) (num s) = (rowOf R s).map num := by
    intro s hs
    rw [rowF _ (numlt s hs)]
    have w1 := hM.wide s (hB.lt s hs)
    have w2 := hM.wide _ (hB.lt _ (FL _ (numlt s hs)))
    apply List.ext_getElem
    · rw [List.length_map, List.length_map, w1, w2]
    · intro k h1 h2
      rw [List.length_map] at h1 h2
      have hk : k < n := by omega
      rw [List.getElem_map, List.getElem_map]
      have e1 : (rowOf R s)[k] = dl R s k := by
        unfold dl
        rw [List.getD_eq_getElem?_getD, List.getElem?_eq_getElem h2]
        rfl
      have e2 : (rowOf R (F[num s]'(numlt s hs)))[k] = dl R (F[num s]'(numlt s hs)) k := by
        unfold dl
        rw [List.getD_eq_getElem?_getD, List.getElem?_eq_getElem h1]
        rfl
      rw [e1, e2]
      exact (hal _ (hB.step hM (FL _ (numlt s hs)) hk) _ (hB.step hM hs hk)).mpr ((alF s hs).step hk).symm
  have dlS : ∀ s ∈ L, ∀ k, k < n → dl (F.map fun s => (rowOf R s).map num) (num s) k = num (dl R s k) := by
    intro s hs k hk
    have hl : k < (rowOf R s).length := by rw [hM.wide s (hB.lt s hs)]; exact hk
    unfold dl
    rw [rowS s hs, List.getD_eq_getElem?_getD, List.getD_eq_getElem?_getD, List.getElem?_map, List.getElem?_eq_getElem hl]
    rfl
  have runS : ∀ w, Wd n w → ∀ s ∈ L, runM (F.map fun s => (rowOf R s).map num) (num s) w = num (runM R s w) := by
    intro w
    induction w with
    | nil => intro _ s _; rfl
    | cons k w ih =>
      intro hw s hs
      have hk := hw k List.mem_cons_self
      rw [runM_cons, runM_cons, dlS s hs k hk]
      exact ih (fun j hj => hw j (List.mem_cons_of_mem _ hj)) _ (hB.step hM hs hk)
  have endS : ∀ s ∈ L, num s ∈ (F.filter (fun s => decide (s ∈ E))).map num ↔ s ∈ E := by
    intro s hs
    constructor
    · intro h
      obtain ⟨t, ht, e⟩ := List.mem_map.mp h
      obtain ⟨h1, h2⟩ := List.mem_filter.mp ht
      exact ((hal t (hF t h1) s hs).mp e).nil.mp (of_decide_eq_true h2)
    · intro h
      refine List.mem_map.mpr ⟨F[num s]'(numlt s hs), List.mem_filter.mpr ⟨List.getElem_mem _, decide_eq_true ((alF s hs).nil.mp h)⟩, numF _ _⟩
  have alS : ∀ s ∈ L, Alk n (F.map fun s => (rowOf R s).map num) ((F.filter (fun s => decide (s ∈ E))).map num) (num s) R E s := by
    intro s hs w hw
    rw [runS w hw s hs]
    exact endS _ (hB.run hM hs hw)
  have al0 := alS b hB.begin_mem
  rw [hb0.1] at al0
  refine ⟨⟨⟨?_, ?_⟩, ?_, ?_, ?_, ?_, ?_⟩, al0⟩
  · intro q hq
    rw [hlen] at hq
    rw [rowF q hq, List.length_map]
    exact hM.wide _ (hB.lt _ (FL q hq))
  · intro q hq x hx
    rw [hlen] at hq ⊢
    rw [rowF q hq] at hx
    obtain ⟨y, hy, e⟩ := List.mem_map.mp hx
    rw [← e]
    exact numlt y (hB.closed (FL q hq) hy)
  · rw [hlen]; exact hb0.2
  · rw [← flatMap_range_rows, hlen, ← hD, D_flatMap_D, List.flatMap_map]
    have e1 : L.flatMap (fun s => rowOf (F.map fun s => (rowOf R s).map num) (num s)) = (L.flatMap (rowOf R)).map num := by
      rw [List.map_flatMap]
      exact flatMap_congr L fun s hs => rowS s hs
    rw [e1]
    have e2 : 0 :: (L.flatMap (rowOf R)).map num = (b :: L.flatMap (rowOf R)).map num := by
      rw [List.map_cons, hb0.1]
    rw [e2, ← D_map_D, ← hB.eq]
  · intro q hq
    rw [hlen] at hq
    obtain ⟨w, hw, e⟩ := hB.reach _ (FL q hq)
    refine ⟨w, hw, ?_⟩
    have := runS w hw b hB.begin_mem
    rw [hb0.1, e, numF q hq] at this
    exact this
  · intro p q hp hq a
    rw [hlen] at hp hq
    have a1 := alS _ (FL p hp)
    have a2 := alS _ (FL q hq)
    rw [numF p hp] at a1
    rw [numF q hq] at a2
    have := (hal _ (FL p hp) _ (FL q hq)).mpr (a1.symm.trans (a.trans a2))
    rwa [numF p hp, numF q hq] at this
  · rw [hlen, ← hFn, List.filter_map]
    congr 1
    apply List.filter_congr
    intro s hs
    have := endS s (hF s hs)
    simp only [Function.comp]
    rw [decide_eq_decide]
    exact this.symm

/-! ### classes: Moore's way -/
section
variable {α : Type} [BEq α] [LawfulBEq α]
theorem idxOf_inj {X : List α} {x y : α} (hx : x ∈ X) (h : X.idxOf x = X.idxOf y) : x = y := by
  have h1 : X.idxOf x < X.length := List.idxOf_lt_length_iff.mpr hx
  have h2 : X.idxOf y < X.length := by rw [← h]; exact h1
  have e1 : X[X.idxOf x] = x := List.getElem_idxOf h1
  have e2 : X[X.idxOf y] = y := List.getElem_idxOf h2
  have : X[X.idxOf x] = X[X.idxOf y] := by
    congr 1
  rw [e1, e2] at this
  exact this
theorem map_idxOf_self {X : List α} (h : X.Nodup) : X.map (fun x => X.idxOf x) = List.range X.length := by
  apply List.ext_getElem
  · simp
  · intro i h1 h2
    rw [List.getElem_map, List.getElem_range]
    rw [List.length_map] at h1
    exact List.Nodup.idxOf_getElem h i h1
end
def hm (L : List Nat) (c : Nat → Nat) : Nat := (D (L.map c)).length
theorem hm_le (L : List Nat) (c : Nat → Nat) : hm L c ≤ L.length := by
  unfold hm
  have := length_le_of_sub (D_nodup (L.map c)) (fun x hx => mem_D.mp hx)
  rwa [List.length_map] at this
theorem same_part {L : List Nat} {f g : Nat → Nat} (h : ∀ s ∈ L, ∀ t ∈ L, g s = g t → f s = f t) (hc : hm L g ≤ hm L f) : ∀ s ∈ L, ∀ t ∈ L, f s = f t → g s = g t := by
  intro s hs t ht e
  refine Classical.byContradiction fun hne => ?_
  let pre : Nat → Nat := fun v => (L.find? (fun u => decide (g u = v))).getD 0
  have hpre : ∀ u ∈ L, pre (g u) ∈ L ∧ g (pre (g u)) = g u := by
    intro u hu
    cases hf : L.find? (fun x => decide (g x = g u)) with
    | none =>
      have := List.find?_eq_none.mp hf u hu
      simp at this
    | some v =>
      have h1 := List.mem_of_find?_eq_some hf
      have h2 := List.find?_some hf
      have ev : pre (g u) = v := by
        show (L.find? (fun x => decide (g x = g u))).getD 0 = v
        rw [hf]
        rfl
      rw [ev]
      exact ⟨h1, of_decide_eq_true h2⟩
  have hsub : ∀ x ∈ D (L.map f), x ∈ ((D (L.map g)).erase (g t)).map (fun v => f (pre v)) := by
    intro x hx
    obtain ⟨u, hu, ex⟩ := List.mem_map.mp (mem_D.mp hx)
    have key : ∀ u ∈ L, g u ≠ g t → f u ∈ ((D (L.map g)).erase (g t)).map (fun v => f (pre v)) := by
      intro u hu hn
      refine List.mem_map.mpr ⟨g u, (List.mem_erase_of_ne hn).mpr (mem_D.mpr (List.mem_map_of_mem hu)), ?_⟩
      exact h _ (hpre u hu).1 u hu (hpre u hu).2
    by_cases hn : g u = g t
    · rw [← ex, h u hu t ht hn, ← e]
      exact key s hs hne
    · rw [← ex]
      exact key u hu hn
  have hlen := length_le_of_sub (D_nodup (L.map f)) hsub
  have hgt : g t ∈ D (L.map g) := mem_D.mpr (List.mem_map_of_mem ht)
  rw [List.length_map, List.length_erase_of_mem hgt] at hlen
  have : 0 < (D (L.map g)).length := List.length_pos_of_mem hgt
  unfold hm at hc
  omega

def sgn (R : List (List Nat)) (c : Nat → Nat) (s : Nat) : Nat × List Nat := (c s, (rowOf R s).map c)
def parted (R : List (List Nat)) (L : List Nat) (c : Nat → Nat) (s : Nat) : Nat := (D (L.map (sgn R c))).idxOf (sgn R c s)
theorem parted_iff {R : List (List Nat)} {L : List Nat} {c : Nat → Nat} {s t : Nat} (hs : s ∈ L) : parted R L c s = parted R L c t ↔ sgn R c s = sgn R c t := by
  constructor
  · intro e
    exact idxOf_inj (X := D (L.map (sgn R c))) (mem_D.mpr (List.mem_map_of_mem hs)) e
  · intro e
    unfold parted
    rw [e]
structure MooreAt (n : Nat) (R : List (List Nat)) (E L : List Nat) (c : Nat → Nat) : Prop where
  weak : ∀ s ∈ L, ∀ t ∈ L, Alk n R E s R E t → c s = c t
  ends : ∀ s ∈ L, ∀ t ∈ L, c s = c t → (s ∈ E ↔ t ∈ E)
theorem moore_start {n : Nat} {R : List (List Nat)} {E L : List Nat} : MooreAt n R E L (fun s => if s ∈ E then 1 else 0) := by
  constructor
  · intro s _ t _ a
    have := a.nil
    by_cases h : s ∈ E
    · simp [h, this.mp h]
    · have h' : t ∉ E := fun z => h (this.mpr z)
      simp [h, h']
  · intro s _ t _ e
    by_cases h : s ∈ E
    · by_cases h' : t ∈ E
      · simp [h, h']
      · simp [h, h'] at e
    · by_cases h' : t ∈ E
      · simp [h, h'] at e
      · simp [h, h']
section
variable {n : Nat} {R : List (List Nat)} {E L : List Nat} {b : Nat} {c : Nat → Nat}
theorem sgn_alk (hM : Mok n R) (hB : Bfs n R b L) (h : MooreAt n R E L c) {s t : Nat} (hs : s ∈ L) (ht : t ∈ L) (a : Alk n R E s R E t) : sgn R c s = sgn R c t := by
  unfold sgn
  rw [h.weak s hs t ht a]
  congr 1
  have w1 := hM.wide s (hB.lt s hs)
  have w2 := hM.wide t (hB.lt t ht)
  apply List.ext_getElem
  · rw [List.length_map, List.length_map, w1, w2]
  · intro k h1 h2
    rw [List.length_map] at h1 h2
    have hk : k < n := by omega
    have e1 : (rowOf R s)[k] = dl R s k := by
      unfold dl
      rw [List.getD_eq_getElem?_getD, List.getElem?_eq_getElem h1]
      rfl
    have e2 : (rowOf R t)[k] = dl R t k := by
      unfold dl
      rw [List.getD_eq_getElem?_getD, List.getElem?_eq_getElem h2]
      rfl
    rw [List.getElem_map, List.getElem_map, e1, e2]
    exact h.weak _ (hB.step hM hs hk) _ (hB.step hM ht hk) (a.step hk)
theorem moore_step (hM : Mok n R) (hB : Bfs n R b L) (h : MooreAt n R E L c) : MooreAt n R E L (parted R L c) := by
  constructor
  · intro s hs t ht a
    exact (parted_iff hs).mpr (sgn_alk hM hB h hs ht a)
  · intro s hs t ht e
    exact h.ends s hs t ht (congrArg Prod.fst ((parted_iff hs).mp e))
theorem moore_end (hM : Mok n R) (hB : Bfs n R b L) (h : MooreAt n R E L c) (hc : hm L (parted R L c) ≤ hm L c) : ∀ s ∈ L, ∀ t ∈ L, parted R L c s = parted R L c t ↔ Alk n R E s R E t := by
  have sp := same_part (f := c) (g := parted R L c) (fun s hs t ht e => congrArg Prod.fst ((parted_iff hs).mp e)) hc
  have stable : ∀ s ∈ L, ∀ t ∈ L, c s = c t → ∀ k, k < n → c (dl R s k) = c (dl R t k) := by
    intro s hs t ht e k hk
    have e1 := congrArg Prod.snd ((parted_iff hs).mp (sp s hs t ht e))
    have e2 := congrArg (fun l => l[k]?) e1
    simp only [sgn, List.getElem?_map] at e2
    have l1 : k < (rowOf R s).length := by rw [hM.wide s (hB.lt s hs)]; exact hk
    have l2 : k < (rowOf R t).length := by rw [hM.wide t (hB.lt t ht)]; exact hk
    rw [List.getElem?_eq_getElem l1, List.getElem?_eq_getElem l2] at e2
    have d1 : dl R s k = (rowOf R s)[k] := by
      unfold dl
      rw [List.getD_eq_getElem?_getD, List.getElem?_eq_getElem l1]
      rfl
    have d2 : dl R t k = (rowOf R t)[k] := by
      unfold dl
      rw [List.getD_eq_getElem?_getD, List.getElem?_eq_getElem l2]
      rfl
    rw [d1, d2]
    simpa using e2
  intro s hs t ht
  constructor
  · intro e
    have e0 : c s = c t := congrArg Prod.fst ((parted_iff hs).mp e)
    have gen : ∀ w, Wd n w → ∀ s ∈ L, ∀ t ∈ L, c s = c t → (runM R s w ∈ E ↔ runM R t w ∈ E) := by
      intro w
      induction w with
      | nil => intro _ s hs t ht e; exact h.ends s hs t ht e
      | cons k w ih =>
        intro hw s hs t ht e
        have hk := hw k List.mem_cons_self
        exact ih (fun j hj => hw j (List.mem_cons_of_mem _ hj)) _ (hB.step hM hs hk) _ (hB.step hM ht hk) (stable s hs t ht e k hk)
    exact fun w hw => gen w hw s hs t ht e0
  · intro a
    exact (parted_iff hs).mpr (sgn_alk hM hB h hs ht a)
/-! ### classes: pairs that are told apart -/
theorem table_done (hM : Mok n R) (hB : Bfs n R b L) {A : Nat → Nat → Prop} (h1 : ∀ p ∈ L, ∀ q ∈ L, A p q → ¬ Alk n R E p R E q)
    (h2 : ∀ p ∈ L, ∀ q ∈ L, ¬ (p ∈ E ↔ q ∈ E) → A p q) (h3 : ∀ p ∈ L, ∀ q ∈ L, ¬ A p q → ∀ k, k < n → ¬ A (dl R p k) (dl R q k)) :
    ∀ p ∈ L, ∀ q ∈ L, ¬ A p q ↔ Alk n R E p R E q := by
  intro p hp q hq
  constructor
  · intro na
    have gen : ∀ w, Wd n w → ∀ p ∈ L, ∀ q ∈ L, ¬ A p q → (runM R p w ∈ E ↔ runM R q w ∈ E) := by
      intro w
      induction w with
      | nil =>
        intro _ p hp q hq na
        exact Classical.byContradiction fun z => na (h2 p hp q hq z)
      | cons k w ih =>
        intro hw p hp q hq na
        have hk := hw k List.mem_cons_self
        exact ih (fun j hj => hw j (List.mem_cons_of_mem _ hj)) _ (hB.step hM hp hk) _ (hB.step hM hq hk) (h3 p hp q hq na k hk)
    exact fun w hw => gen w hw p hp q hq na
  · intro a na
    exact h1 p hp q hq na a
theorem apart_step (hM : Mok n R) (hB : Bfs n R b L) {p q k : Nat} (hp : p ∈ L) (hq : q ∈ L) (hk : k < n) (h : ¬ Alk n R E (dl R p k) R E (dl R q k)) : ¬ Alk n R E p R E q := fun a => h (a.step hk)
end

/-! ### numbers by classes: the program's way -/
def fsts (c : Nat → Nat) (L : List Nat) : List (Nat × Nat) := L.foldl (fun a s => if c s ∈ a.map Prod.fst then a else a ++ [(c s, s)]) []
theorem fsts_snoc (c : Nat → Nat) (L : List Nat) (s : Nat) : fsts c (L ++ [s]) = if c s ∈ (fsts c L).map Prod.fst then fsts c L else fsts c L ++ [(c s, s)] := by
  unfold fsts
  rw [List.foldl_append]
  rfl
theorem fsts_fst (c : Nat → Nat) (L : List Nat) : (fsts c L).map Prod.fst = D (L.map c) := by
  have gen : ∀ (k : Nat), (fsts c (L.take k)).map Prod.fst = D ((L.take k).map c) := by
    intro k
    induction k with
    | zero => rfl
    | succ k ih =>
      cases h : L[k]? with
      | none =>
        rw [List.take_add_one, h]
        simpa using ih
      | some s =>
        rw [List.take_add_one, h]
        show (fsts c (L.take k ++ [s])).map Prod.fst = D ((L.take k ++ [s]).map c)
        rw [fsts_snoc, List.map_append, D_append, ← ih]
        show _ = push ((fsts c (L.take k)).map Prod.fst) (c s)
        unfold push
        split
        · rfl
        · rw [List.map_append]
          rfl
  have := gen L.length
  rwa [List.take_length] at this
theorem fsts_mem (c : Nat → Nat) (L : List Nat) : ∀ p ∈ fsts c L, p.2 ∈ L ∧ c p.2 = p.1 := by
  have gen : ∀ (k : Nat), ∀ p ∈ fsts c (L.take k), p.2 ∈ L ∧ c p.2 = p.1 := by
    intro k
    induction k with
    | zero => intro p hp; simp [fsts] at hp
    | succ k ih =>
      cases h : L[k]? with
      | none =>
        rw [List.take_add_one, h]
        simpa using ih
      | some s =>
        rw [List.take_add_one, h]
        show ∀ p ∈ fsts c (L.take k ++ [s]), _
        rw [fsts_snoc]
        intro p hp
        split at hp
        · exact ih p hp
        · rcases List.mem_append.mp hp with z | z
          · exact ih p z
          · rw [List.mem_singleton.mp z]
            exact ⟨List.mem_of_getElem? h, rfl⟩
  have := gen L.length
  rwa [List.take_length] at this
/-- what the program makes of classes -/
def made (R : List (List Nat)) (E L : List Nat) (c : Nat → Nat) : List (List Nat) × List Nat :=
  (((fsts c L).map Prod.snd).map fun s => (rowOf R s).map fun t => (D (L.map c)).idxOf (c t),
   (((fsts c L).map Prod.snd).filter fun s => decide (s ∈ E)).map fun t => (D (L.map c)).idxOf (c t))
theorem made_least {n : Nat} {R : List (List Nat)} {E : List Nat} {b : Nat} {L : List Nat} {c : Nat → Nat} (hM : Mok n R) (hB : Bfs n R b L)
    (hal : ∀ s ∈ L, ∀ t ∈ L, c s = c t ↔ Alk n R E s R E t) : Least n (made R E L c).1 (made R E L c).2 ∧ Alk n (made R E L c).1 (made R E L c).2 0 R E b := by
  have hmapc : ((fsts c L).map Prod.snd).map c = D (L.map c) := by
    rw [← fsts_fst, List.map_map]
    apply List.map_congr_left
    intro p hp
    exact (fsts_mem c L p hp).2
  have hlen : ((fsts c L).map Prod.snd).length = (D (L.map c)).length := by
    rw [← hmapc, List.length_map (f := c)]
  refine quot_least (num := fun t => (D (L.map c)).idxOf (c t)) hM hB ?_ ?_ ?_ ?_
  · intro s hs t ht
    rw [← hal s hs t ht]
    constructor
    · exact idxOf_inj (mem_D.mpr (List.mem_map_of_mem hs))
    · intro e
      show (D (L.map c)).idxOf (c s) = (D (L.map c)).idxOf (c t)
      rw [e]
  · intro s hs
    obtain ⟨p, hp, e⟩ := List.mem_map.mp hs
    rw [← e]
    exact (fsts_mem c L p hp).1
  · rw [hlen, ← map_idxOf_self (D_nodup (L.map c))]
    have : ((fsts c L).map Prod.snd).map (fun t => (D (L.map c)).idxOf (c t)) = (((fsts c L).map Prod.snd).map c).map (fun x => (D (L.map c)).idxOf x) := by
      simp only [List.map_map]
      rfl
    rw [this, hmapc]
  · rw [hlen]
    have : L.map (fun t => (D (L.map c)).idxOf (c t)) = (L.map c).map (fun x => (D (L.map c)).idxOf x) := by
      rw [List.map_map]
      rfl
    rw [this, ← D_map_D, map_idxOf_self (D_nodup (L.map c)), D_of_nodup List.nodup_range]
end Mach

/-! lists of states, rows and dicts of states as they stand in the heap -/
namespace Rg
open PySem PySem.Spec PyProof.Rows L2 Mach

def nVs (ns : List Nat) : List V := ns.map nV
theorem nVs_get {ns : List Nat} {i : Nat} {n : Nat} (h : ns[i]? = some n) : (nVs ns)[i]? = some (nV n) := by
  unfold nVs
  rw [List.getElem?_map, h]
  rfl
theorem nVs_len (ns : List Nat) : (nVs ns).length = ns.length := List.length_map _
theorem nV_inj {a b : Nat} (h : nV a = nV b) : a = b := by
  have : (a : Int) = b := V.int.inj h
  omega
theorem nVs_snoc (ns : List Nat) (n : Nat) : nVs (ns ++ [n]) = nVs ns ++ [nV n] := by
  unfold nVs
  rw [List.map_append]
  rfl
theorem nVs_at {ns : List Nat} {i : Nat} {x : V} (h : (nVs ns)[i]? = some x) : ∃ n, x = nV n ∧ ns[i]? = some n := by
  unfold nVs at h
  rw [List.getElem?_map] at h
  cases e : ns[i]? with
  | none => rw [e] at h; cases h
  | some n => rw [e] at h; exact ⟨n, (Option.some.inj h).symm, rfl⟩

/-! ### dicts from states -/
abbrev kN (s : Nat) : Key := Sum.inl (s : Int)
theorem kN_inj {a b : Nat} (h : kN a = kN b) : a = b := by
  have : (a : Int) = b := Sum.inl.inj h
  omega
def dO (L : List Nat) (c : Nat → V) : List (Key × V) := L.map fun s => (kN s, c s)
theorem dO_len (L : List Nat) (c : Nat → V) : (dO L c).length = L.length := List.length_map _
theorem valV_dO {L : List Nat} {c : Nat → V} {s : Nat} : valV (dO L c) (kN s) = if s ∈ L then some (c s) else none := by
  induction L with
  | nil => rfl
  | cons a L ih =>
    show valV ((kN a, c a) :: dO L c) (kN s) = _
    by_cases e : a = s
    · rw [valV_pos (by show kN a = kN s; rw [e]), if_pos (by rw [e]; exact List.mem_cons_self), e]
    · rw [valV_neg (fun z => e (kN_inj z)), ih]
      by_cases h : s ∈ L
      · rw [if_pos h, if_pos (List.mem_cons_of_mem _ h)]
      · rw [if_neg h, if_neg]
        intro z
        rcases List.mem_cons.mp z with z | z
        · exact e z.symm
        · exact h z
theorem valV_dO_in {L : List Nat} {c : Nat → V} {s : Nat} (h : s ∈ L) : valV (dO L c) (kN s) = some (c s) := by rw [valV_dO, if_pos h]
theorem valV_dO_out {L : List Nat} {c : Nat → V} {s : Nat} (h : s ∉ L) : valV (dO L c) (kN s) = none := by rw [valV_dO, if_neg h]
theorem putK_dO {L : List Nat} {c : Nat → V} {s : Nat} : putK (dO L c) (kN s) (c s) = dO (push L s) c := by
  by_cases h : s ∈ L
  · rw [push_mem h]
    unfold putK
    rw [if_pos (by rw [valV_any, valV_dO_in h]; rfl)]
    unfold dO
    rw [List.map_map]
    apply List.map_congr_left
    intro t ht
    show (if kN t = kN s then (kN t, c s) else (kN t, c t)) = (kN t, c t)
    by_cases e : kN t = kN s
    · rw [if_pos e, kN_inj e]
    · rw [if_neg e]
  · rw [push_new h, putK_new _ (valV_dO_out h)]
    unfold dO
    rw [List.map_append]
    rfl
theorem dO_congr {L : List Nat} {c d : Nat → V} (h : ∀ s ∈ L, c s = d s) : dO L c = dO L d := by
  unfold dO
  apply List.map_congr_left
  intro s hs
  rw [h s hs]
theorem putK_dO_new {L : List Nat} {c d : Nat → V} {s : Nat} (h : s ∉ L) (hd : ∀ t ∈ L, d t = c t) : putK (dO L c) (kN s) (d s) = dO (L ++ [s]) d := by
  rw [dO_congr (d := d) (fun t ht => (hd t ht).symm), putK_dO, push_new h]

/-! ### rows -/
structure RowsAt (H : Hp) (a : Addr) (xs : List Addr) (R : List (List Nat)) : Prop where
  at_ : H a = some (.lst (xs.map V.ref))
  len : xs.length = R.length
  row : ∀ (i : Nat) (x : Addr), xs[i]? = some x → H x = some (.lst (nVs (rowOf R i)))
theorem RowsAt.same {H H' : Hp} {a : Addr} {xs : List Addr} {R : List (List Nat)} (h : RowsAt H a xs R) (s : Same H H') : RowsAt H' a xs R :=
  ⟨s _ _ h.at_, h.len, fun i x e => s _ _ (h.row i x e)⟩
theorem RowsAt.get {H : Hp} {a : Addr} {xs : List Addr} {R : List (List Nat)} (h : RowsAt H a xs R) {q : Nat} (hq : q < R.length) :
    ∃ x, (xs.map V.ref)[q]? = some (.ref x) ∧ H x = some (.lst (nVs (rowOf R q))) := by
  have hq' : q < xs.length := by rw [h.len]; exact hq
  refine ⟨xs[q], ?_, h.row q _ (List.getElem?_eq_getElem hq')⟩
  rw [List.getElem?_map, List.getElem?_eq_getElem hq']
  rfl
theorem rowOf_get {R : List (List Nat)} {q k : Nat} {x : Nat} (h : (rowOf R q)[k]? = some x) : Mach.dl R q k = x := by
  unfold Mach.dl
  rw [List.getD_eq_getElem?_getD, h]
  rfl

/-! ### while, with the test read in one go -/
theorem lt_or_eq_or {a b : Nat} : a < b ∨ b ≤ a := Nat.lt_or_ge a b
theorem szBig {n : Nat} (h : n ≤ 100000) : n < sizeLine := Nat.lt_of_le_of_lt h (by decide)
theorem szBigLe {n : Nat} (h : n ≤ 100000) : n ≤ sizeLine := Nat.le_of_lt (szBig h)
end Rg
namespace Rg
open PySem PySem.Spec PyProof.Rows L2 Mach
theorem dget_dO {H : Hp} {d : Addr} {L : List Nat} {c : Nat → V} {t : Nat} (h : H d = some (.dK (dO L c))) (ht : t ∈ L) : DGet H d (nV t) (some (c t)) := by
  have := DGet.k (k := kN t) h
  rw [valV_dO_in ht] at this
  exact this
theorem din_dO {H : Hp} {d : Addr} {L : List Nat} {c : Nat → V} {t : Nat} (h : H d = some (.dK (dO L c))) : ∃ r, DGet H d (nV t) r ∧ r.isSome = decide (t ∈ L) := by
  refine ⟨_, DGet.k (k := kN t) h, ?_⟩
  by_cases ht : t ∈ L
  · rw [valV_dO_in ht, decide_eq_true ht]
    rfl
  · rw [valV_dO_out ht, decide_eq_false ht]
    rfl
theorem Same.of_eq_but {H H' : Hp} {a : Addr} (h : ∀ c, c ≠ a → H' c = H c) {H0 : Hp} (s : Same H0 H) (n : H0 a = none) : Same H0 H' := by
  intro b o e
  rw [h b (ne_of_none e n)]
  exact s b o e
theorem idxOf_pre {α : Type} [BEq α] [LawfulBEq α] {A Z : List α} {x : α} (h : x ∈ A) : (A ++ Z).idxOf x = A.idxOf x := by
  rw [List.idxOf_append, if_pos h]
end Rg
namespace Rg
open PySem PySem.Spec PyProof.Rows L2 Mach
/-! ### dicts from numbers to numbers, by pairs -/
def fD (ps : List (Nat × Nat)) : List (Key × V) := ps.map fun p => (kN p.1, nV p.2)
theorem fD_len (ps : List (Nat × Nat)) : (fD ps).length = ps.length := List.length_map _
theorem fD_snoc (ps : List (Nat × Nat)) (p : Nat × Nat) : fD (ps ++ [p]) = fD ps ++ [(kN p.1, nV p.2)] := by
  unfold fD
  rw [List.map_append]
  rfl
theorem valV_fD_out {ps : List (Nat × Nat)} {k : Nat} (h : k ∉ ps.map Prod.fst) : valV (fD ps) (kN k) = none := by
  induction ps with
  | nil => rfl
  | cons a ps ih =>
    have h1 : ¬ kN a.1 = kN k := fun z => h (by rw [← kN_inj z]; simp)
    show valV ((kN a.1, nV a.2) :: fD ps) (kN k) = none
    rw [valV_neg h1]
    exact ih fun z => h (by rw [List.map_cons]; exact List.mem_cons_of_mem _ z)
theorem valV_fD {ps : List (Nat × Nat)} (hn : (ps.map Prod.fst).Nodup) {k s : Nat} (h : (k, s) ∈ ps) : valV (fD ps) (kN k) = some (nV s) := by
  induction ps with
  | nil => cases h
  | cons a ps ih =>
    rw [List.map_cons, List.nodup_cons] at hn
    show valV ((kN a.1, nV a.2) :: fD ps) (kN k) = some (nV s)
    rcases List.mem_cons.mp h with e | h
    · rw [← e]
      exact valV_pos rfl
    · have h1 : ¬ kN a.1 = kN k := fun z => hn.1 (by rw [kN_inj z]; exact List.mem_map_of_mem h)
      rw [valV_neg h1]
      exact ih hn.2 h
theorem fD_keys (ps : List (Nat × Nat)) : (fD ps).map (fun kv => kV kv.1) = nVs (ps.map Prod.fst) := by
  unfold fD nVs
  simp only [List.map_map]
  rfl
theorem dgetK {H : Hp} {d : Addr} {kvs : List (Key × V)} {k : Nat} {v : V} (h : H d = some (.dK kvs)) (e : valV kvs (kN k) = some v) : DGet H d (nV k) (some v) := by
  have := DGet.k (k := kN k) h
  rw [e] at this
  exact this
theorem take_snoc {α : Type} {L : List α} {i : Nat} {t : α} (h : L[i]? = some t) : L.take (i + 1) = L.take i ++ [t] := by
  rw [List.take_add_one, h]
  rfl
theorem atI_zero_add {α : Type} {xs : List α} {j : Nat} {v : α} (h : xs[j]? = some v) : atI xs (0 + (j : Int)) = some v := by
  rw [Int.zero_add]
  exact atI_nat h
theorem nodup_not_take {α : Type} {L : List α} (h : L.Nodup) {i : Nat} {t : α} (ht : L[i]? = some t) : t ∉ L.take i := by
  intro hm
  obtain ⟨j, hj, e⟩ := List.mem_iff_getElem.mp hm
  rw [List.length_take] at hj
  rw [List.getElem_take] at e
  obtain ⟨h1, h2⟩ := List.getElem?_eq_some_iff.mp ht
  exact (List.pairwise_iff_getElem.mp h) j i (by omega) h1 (by omega) (by rw [e, h2])
end Rg
namespace Rg
open PySem PySem.Spec PyProof.Rows L2 Mach
theorem rows_mk {H : Hp} {a : Addr} : ∀ {xs : List Addr} {R : List (List Nat)}, H a = some (.lst (xs.map V.ref)) → Paired (fun (x : Addr) (r : List Nat) => H x = some (.lst (nVs r))) xs R → RowsAt H a xs R := by
  intro xs R ha hp
  have gen : ∀ {xs : List Addr} {R : List (List Nat)}, Paired (fun (x : Addr) (r : List Nat) => H x = some (.lst (nVs r))) xs R → xs.length = R.length ∧ ∀ (i : Nat) (x : Addr), xs[i]? = some x → H x = some (.lst (nVs (rowOf R i))) := by
    intro xs R hp
    induction hp with
    | nil => exact ⟨rfl, fun i x e => by simp at e⟩
    | @cons y r ys rs h t ih =>
      refine ⟨by rw [List.length_cons, List.length_cons, ih.1], fun i x e => ?_⟩
      cases i with
      | zero =>
        have : y = x := Option.some.inj e
        rw [← this]
        exact h
      | succ i => exact ih.2 i x e
  exact ⟨ha, (gen hp).1, (gen hp).2⟩
theorem rep_nVs (k v : Nat) : (List.replicate k [nV v]).flatten = nVs (List.replicate k v) := by
  induction k with
  | zero => rfl
  | succ k ih =>
    rw [List.replicate_succ, List.flatten_cons, ih, List.replicate_succ]
    rfl
theorem mok_of {n : Nat} {R : List (List Nat)} (h : ∀ r ∈ R, r.length = n ∧ ∀ x ∈ r, x < R.length) : Mok n R := by
  have hm : ∀ q, q < R.length → rowOf R q ∈ R := by
    intro q hq
    unfold rowOf
    rw [List.getD_eq_getElem?_getD, List.getElem?_eq_getElem hq]
    exact List.getElem_mem hq
  exact ⟨fun q hq => (h _ (hm q hq)).1, fun q hq => (h _ (hm q hq)).2⟩
/-- a machine made by drawing -/
def spMach : Sp := fun vs H Q _ => ∃ (g c : Addr) (z : Str) (m : Nat), vs = [.ref g, .str z, nV m] ∧ Bag H g c ∧ 1 ≤ z.length ∧ z.length ≤ 4 ∧ 1 ≤ m ∧ m ≤ 100 ∧
  ∀ (H' : Hp) (t pr pe : Addr) (xs : List Addr) (R : List (List Nat)) (E : List Nat), Bag H' g c → But g H H' → (∀ x ∈ t :: pr :: pe :: xs, H x = none) → H' t = some (.tup [.ref pr, .ref pe]) → RowsAt H' pr xs R → H' pe = some (.lst (nVs E)) →
    Mok z.length R → 0 < R.length → R.length ≤ m + 3 → (∀ x ∈ E, x < R.length) → E.length ≤ 100 → Q (.ref t) H'
theorem RowsAt.but {g : Addr} {H H' : Hp} {a : Addr} {xs : List Addr} {R : List (List Nat)} (h : RowsAt H a xs R) (b : But g H H') (ha : a ≠ g) (hx : ∀ x ∈ xs, x ≠ g) : RowsAt H' a xs R :=
  ⟨b _ _ ha h.at_, h.len, fun i x e => b _ _ (hx x (List.mem_of_getElem? e)) (h.row i x e)⟩
end Rg
namespace Rg
open PySem PySem.Spec PyProof.Rows L2 Mach
/-- the state of a drawing: the bag stands, all else is kept -/
structure Dr (g c : Addr) (H H' : Hp) : Prop where
  bag : Bag H' g c
  but : But g H H'
theorem Dr.refl {g c : Addr} {H : Hp} (b : Bag H g c) : Dr g c H H := ⟨b, .refl g H⟩
theorem Dr.trans {g c : Addr} {H H1 H2 : Hp} (a : Dr g c H H1) (b : Dr g c H1 H2) : Dr g c H H2 := ⟨b.bag, a.but.trans b.but⟩
theorem Dr.same {g c : Addr} {H H1 H2 : Hp} (a : Dr g c H H1) (s : Same H1 H2) : Dr g c H H2 := ⟨a.bag.same s, a.but.trans (.of_same s)⟩
theorem Dr.free {g c : Addr} {H H1 : Hp} (a : Dr g c H H1) {p : Addr} (h : H1 p = none) : H p = none := by
  obtain ⟨o, e⟩ := a.bag.at
  exact a.but.free e h
theorem Dr.keep {g c : Addr} {H H1 : Hp} (a : Dr g c H H1) {p : Addr} {o : HO} (h : H p = some o) (n : p ≠ g) : H1 p = some o := a.but p o n h
theorem Dr.ne {g c : Addr} {H H1 : Hp} (a : Dr g c H H1) {p : Addr} (h : H1 p = none) : p ≠ g := a.bag.ne h
theorem Dr.ne2 {g c : Addr} {H H1 : Hp} (a : Dr g c H H1) {p : Addr} (h : H1 p = none) : p ≠ c := a.bag.ne2 h
theorem Dr.upd_own {g c p : Addr} {H H1 : Hp} {o : HO} (a : Dr g c H H1) (n : H p = none) (h1 : p ≠ g) (h2 : p ≠ c) : Dr g c H (upd H1 p o) := by
  refine ⟨a.bag.upd_other h1 h2, fun b x nb e => ?_⟩
  rw [upd_ne (ne_of_none e n)]
  exact a.but b x nb e
end Rg
namespace Rg
open PySem PySem.Spec PyProof.Rows L2 Mach
theorem paired_keep {α β : Type} {F G : α → β → Prop} : ∀ {xs : List α} {ys : List β}, Paired F xs ys → (∀ x ∈ xs, ∀ y, F x y → G x y) → Paired G xs ys
  | _, _, .nil, _ => .nil
  | _, _, .cons h t, k => .cons (k _ List.mem_cons_self _ h) (paired_keep t fun x hx => k x (List.mem_cons_of_mem _ hx))
theorem paired_snoc {α β : Type} {F : α → β → Prop} {x : α} {y : β} : ∀ {xs : List α} {ys : List β}, Paired F xs ys → F x y → Paired F (xs ++ [x]) (ys ++ [y])
  | _, _, .nil, h => .cons h .nil
  | _, _, .cons h t, k => .cons h (paired_snoc t k)
end Rg

/-! numbers, rows, machines as data -/
namespace Rg
open PySem PySem.Spec PyProof.Rows L2 Mach
def dNs (ns : List Nat) : PyData := .list (ns.map fun n : Nat => .int (n : Int))
def dRs (R : List (List Nat)) : PyData := .list (R.map dNs)
def dMa (R : List (List Nat)) (E : List Nat) : PyData := .tuple [dRs R, dNs E]
section
variable {K : PySem.W.Frag} {H : Hp}
theorem dpAll_nVs : ∀ ns : List Nat, DpAll K H (nVs ns) (ns.map fun n : Nat => .int (n : Int))
  | [] => .nil
  | n :: ns => .cons (.int _) (dpAll_nVs ns)
theorem dp_nVs {p : Addr} {ns : List Nat} (h : H p = some (.lst (nVs ns))) : Dp K H (.ref p) (dNs ns) := .lst (SqL.of h) (dpAll_nVs ns)
theorem dpAll_rows : ∀ {xs : List Addr} {R : List (List Nat)}, xs.length = R.length → (∀ (i : Nat) (x : Addr), xs[i]? = some x → H x = some (.lst (nVs (rowOf R i)))) → DpAll K H (xs.map V.ref) (R.map dNs)
  | [], [], _, _ => .nil
  | [], _ :: _, h, _ => by cases h
  | _ :: _, [], h, _ => by cases h
  | x :: xs, r :: R, h, k => .cons (dp_nVs (k 0 x rfl)) (dpAll_rows (by simpa using h) fun i y e => k (i + 1) y e)
theorem dp_rows {a : Addr} {xs : List Addr} {R : List (List Nat)} (h : RowsAt H a xs R) : Dp K H (.ref a) (dRs R) := .lst (SqL.of h.at_) (dpAll_rows h.len h.row)
theorem dp_mach {t p e : Addr} {xs : List Addr} {R : List (List Nat)} {E : List Nat} (ht : H t = some (.tup [.ref p, .ref e])) (hR : RowsAt H p xs R) (he : H e = some (.lst (nVs E))) : Dp K H (.ref t) (dMa R E) :=
  .tup (SqT.of ht) (.cons (dp_rows hR) (.cons (dp_nVs he) .nil))
end
/-- data that can be shown and compared: depth at most e, weight at most k -/
structure Gd (e k : Nat) (d : PyData) : Prop where
  lay : d.canLay0 = true
  shw : d.showable = true
  ish : d.intsShort 13 = true
  dep : d.depth ≤ e
  wt : d.weight ≤ k
structure GdAll (e k : Nat) (ds : List PyData) : Prop where
  lay : PyData.canLayAll0 ds = true
  shw : PyData.showableAll ds = true
  ish : PyData.intsShortAll 13 ds = true
  dep : PyData.depthAll ds ≤ e
  wt : PyData.weightAll ds ≤ k
theorem gd_none : Gd 0 0 .none := ⟨rfl, rfl, rfl, Nat.le_refl _, Nat.le_refl _⟩
theorem gd_num {n : Nat} (h : n < 32) : Gd 0 8 (.int (n : Int)) := by
  have key : ∀ m : Fin 32, (PyData.showable (.int (m.val : Int)) && PyData.intsShort 13 (.int (m.val : Int)) && decide (PyData.weight (.int (m.val : Int)) ≤ 8)) = true := by decide +kernel
  have hk := key ⟨n, h⟩
  simp only [Bool.and_eq_true, decide_eq_true_eq] at hk
  exact ⟨rfl, hk.1.1, hk.1.2, Nat.le_refl _, hk.2⟩
theorem gdAll_nil {e : Nat} : GdAll e 0 [] := ⟨rfl, rfl, rfl, Nat.zero_le _, Nat.le_refl _⟩
theorem gdAll_cons {e k m : Nat} {d : PyData} {ds : List PyData} (h : Gd e k d) (t : GdAll e m ds) : GdAll e (k + 1 + m) (d :: ds) := by
  refine ⟨?_, ?_, ?_, ?_, ?_⟩
  · simp only [PyData.canLayAll0, h.lay, t.lay, Bool.and_self]
  · simp only [PyData.showableAll, h.shw, t.shw, Bool.and_self]
  · simp only [PyData.intsShortAll, h.ish, t.ish, Bool.and_self]
  · simp only [PyData.depthAll]
    exact Nat.max_le.mpr ⟨h.dep, t.dep⟩
  · simp only [PyData.weightAll]
    have h1 := h.wt
    have h2 := t.wt
    omega
theorem gd_list {e k : Nat} {ds : List PyData} (h : GdAll e k ds) : Gd (e + 1) k (.list ds) := by
  refine ⟨?_, ?_, ?_, ?_, ?_⟩
  · simp only [PyData.canLay0, h.lay]
  · simp only [PyData.showable, h.shw]
  · simp only [PyData.intsShort, h.ish]
  · simp only [PyData.depth]
    have := h.dep
    omega
  · simp only [PyData.weight]
    exact h.wt
theorem gd_tuple {e k : Nat} {ds : List PyData} (h : GdAll e k ds) : Gd (e + 1) k (.tuple ds) := by
  refine ⟨?_, ?_, ?_, ?_, ?_⟩
  · simp only [PyData.canLay0, h.lay]
  · simp only [PyData.showable, h.shw]
  · simp only [PyData.intsShort, h.ish]
  · simp only [PyData.depth]
    have := h.dep
    omega
  · simp only [PyData.weight]
    exact h.wt
theorem Gd.le {e k e' k' : Nat} {d : PyData} (h : Gd e k d) (he : e ≤ e') (hk : k ≤ k') : Gd e' k' d := ⟨h.lay, h.shw, h.ish, Nat.le_trans h.dep he, Nat.le_trans h.wt hk⟩
theorem gdAll_const {e k : Nat} : ∀ {ds : List PyData}, (∀ d ∈ ds, Gd e k d) → GdAll e ((k + 1) * ds.length) ds
  | [], _ => gdAll_nil
  | d :: ds, h => by
    have h1 := gdAll_cons (h d List.mem_cons_self) (gdAll_const fun x hx => h x (List.mem_cons_of_mem _ hx))
    rw [List.length_cons, Nat.mul_add, Nat.mul_one, Nat.add_comm ((k + 1) * ds.length)]
    exact h1
theorem gd_dNs {ns : List Nat} (h : ∀ n ∈ ns, n < 32) : Gd 1 (9 * ns.length) (dNs ns) := by
  have h1 : GdAll 0 ((8 + 1) * (ns.map fun n : Nat => PyData.int (n : Int)).length) (ns.map fun n : Nat => PyData.int (n : Int)) := gdAll_const fun d hd => by
    obtain ⟨n, hn, rfl⟩ := List.mem_map.mp hd
    exact gd_num (h n hn)
  rw [List.length_map] at h1
  exact gd_list h1
theorem gd_dRs {R : List (List Nat)} {L : Nat} (h : ∀ r ∈ R, r.length ≤ L ∧ ∀ n ∈ r, n < 32) : Gd 2 ((9 * L + 1) * R.length) (dRs R) := by
  have h1 : GdAll 1 ((9 * L + 1) * (R.map dNs).length) (R.map dNs) := gdAll_const fun d hd => by
    obtain ⟨r, hr, rfl⟩ := List.mem_map.mp hd
    exact (gd_dNs (h r hr).2).le (Nat.le_refl _) (Nat.mul_le_mul_left _ (h r hr).1)
  rw [List.length_map] at h1
  exact gd_list h1
theorem gd_dMa {R : List (List Nat)} {E : List Nat} {L : Nat} (h : ∀ r ∈ R, r.length ≤ L ∧ ∀ n ∈ r, n < 32) (hE : ∀ n ∈ E, n < 32) : Gd 3 ((9 * L + 1) * R.length + 1 + (9 * E.length + 1)) (dMa R E) :=
  gd_tuple (gdAll_cons (gd_dRs h) (gdAll_cons ((gd_dNs hE).le (by decide) (Nat.le_refl _)) gdAll_nil))
theorem Gd.shp {e k : Nat} {d : PyData} (h : Gd e k d) (he : e ≤ 60) : SeqAt.shaped d = true := by
  unfold SeqAt.shaped
  rw [h.lay, Bool.true_and]
  have := h.dep
  exact decide_eq_true (by omega)
theorem Gd.nod {e k : Nat} {d : PyData} (h : Gd e k d) : d.hasDict = false := PyData.hasDict_of_canLay d h.lay
theorem Gd.short {e k : Nat} {d : PyData} (h : Gd e k d) (he : e ≤ 60) (hk : k ≤ 100000) : d.shown.length ≤ sizeLine := by
  have hl : PyData.layable0 d = true := by
    unfold PyData.layable0
    have h1 := h.dep
    have h2 := h.wt
    have e2 : (2 : Nat) ^ 20 = 1048576 := by decide
    rw [h.lay, decide_eq_true (show d.depth ≤ 64 by omega), decide_eq_true (show d.weight ≤ 2 ^ 20 by omega)]
    rfl
  exact Nat.le_trans (shown_le13 hl h.ish) (by decide)
theorem eqv_dNs_nil (ns : List Nat) : PyData.eqv (dNs ns) (.list []) = decide (ns = []) := by
  cases ns with
  | nil => rfl
  | cons a ns => rfl
theorem eqv_same {d : PyData} (h : d.canLay0 = true) : PyData.eqv d d = true := SeqAt.eqv_refl d h
theorem shp_dNs (ns : List Nat) : SeqAt.shaped (dNs ns) = true := by
  have h1 : ∀ l : List Nat, PyData.canLayAll0 (l.map fun n : Nat => PyData.int (n : Int)) = true ∧ PyData.depthAll (l.map fun n : Nat => PyData.int (n : Int)) = 0 := by
    intro l
    induction l with
    | nil => exact ⟨rfl, rfl⟩
    | cons a l ih => exact ⟨by simp only [List.map_cons, PyData.canLayAll0, PyData.canLay0, ih.1, Bool.and_self], by simp only [List.map_cons, PyData.depthAll, PyData.depth, ih.2, Nat.max_self]⟩
  unfold SeqAt.shaped dNs
  simp only [PyData.canLay0, PyData.depth, (h1 ns).1, (h1 ns).2, Bool.true_and]
  decide
theorem shp_nil : SeqAt.shaped (.list []) = true := rfl
end Rg

/-! comprehensions over texts; signs -/
namespace Rg
open PySem PySem.Spec PyProof.Rows L2 Mach
section
variable {g : TG} {tt : TT} {te : TE} {vs : List Nat} {σ : L2.St} {H1 : Hp} {D : Addr} {Qd : Hp → Prop}
theorem lc_str {x : Str} (Pv : Nat → Hp → Prop) (h0 : Pv 0 (upd H1 D (.lst [])))
    (hs : ∀ i c H, x.cps[i]? = some c → Pv i H → g (.str ⟨#[c]⟩) (wipe σ vs) H fun σ2 H2 => wipe σ2 vs = wipe σ vs ∧ tt σ2 H2 fun b H3 =>
      if b = true then te σ2 H3 fun y H4 => ∃ acc, H4 D = some (.lst acc) ∧ acc.length < sizeLine ∧ Pv (i + 1) (upd H4 D (.lst (acc ++ [y]))) else Pv (i + 1) H3) (hd : ∀ H, Pv x.cps.size H → Qd H) :
    ∃ W : Nat → Nat → Hp → Prop, (∃ m, W 0 m (upd H1 D (.lst []))) ∧ ∀ i m H, W i m H →
      ((Its x).stop i H ∧ Qd H) ∨ ((Its x).go i H ∧ ∃ Nx : Hp → Prop, (∀ H', Nx H' → ∃ m', m' < m ∧ W (i + 1) m' H') ∧ ∀ y H', (Its x).yld i H y H' → g y (wipe σ vs) H' fun σ2 H2 => wipe σ2 vs = wipe σ vs ∧ tt σ2 H2 fun b H3 =>
        if b = true then te σ2 H3 fun y H4 => ∃ acc, H4 D = some (.lst acc) ∧ acc.length < sizeLine ∧ Nx (upd H4 D (.lst (acc ++ [y]))) else Nx H3) := by
  refine ⟨fun i m H => m = x.cps.size - i ∧ i ≤ x.cps.size ∧ Pv i H, ⟨_, rfl, Nat.zero_le _, h0⟩, ?_⟩
  rintro i m H ⟨rfl, hi, p⟩
  by_cases hlt : i < x.cps.size
  · refine .inr ⟨hlt, Pv (i + 1), fun H' p' => ⟨x.cps.size - (i + 1), by omega, rfl, hlt, p'⟩, fun y H' q => ?_⟩
    obtain ⟨rfl, c, hc, rfl⟩ := q
    exact hs i c _ hc p
  · have e : i = x.cps.size := by omega
    subst e
    exact .inl ⟨Nat.le_refl _, hd H p⟩
theorem lc_zipS {x y : Str} (Pv : Nat → Hp → Prop) (h0 : Pv 0 (upd H1 D (.lst [])))
    (hs : ∀ i c d T H, x.cps[i]? = some c → y.cps[i]? = some d → Pv i H → H T = none → g (.ref T) (wipe σ vs) (upd H T (.tup [.str ⟨#[c]⟩, .str ⟨#[d]⟩])) fun σ2 H2 => wipe σ2 vs = wipe σ vs ∧ tt σ2 H2 fun b H3 =>
      if b = true then te σ2 H3 fun y H4 => ∃ acc, H4 D = some (.lst acc) ∧ acc.length < sizeLine ∧ Pv (i + 1) (upd H4 D (.lst (acc ++ [y]))) else Pv (i + 1) H3) (hd : ∀ H, Pv (min x.cps.size y.cps.size) H → Qd H) :
    ∃ W : Nat → Nat → Hp → Prop, (∃ m, W 0 m (upd H1 D (.lst []))) ∧ ∀ i m H, W i m H →
      ((ItzS x y).stop i H ∧ Qd H) ∨ ((ItzS x y).go i H ∧ ∃ Nx : Hp → Prop, (∀ H', Nx H' → ∃ m', m' < m ∧ W (i + 1) m' H') ∧ ∀ z H', (ItzS x y).yld i H z H' → g z (wipe σ vs) H' fun σ2 H2 => wipe σ2 vs = wipe σ vs ∧ tt σ2 H2 fun b H3 =>
        if b = true then te σ2 H3 fun y H4 => ∃ acc, H4 D = some (.lst acc) ∧ acc.length < sizeLine ∧ Nx (upd H4 D (.lst (acc ++ [y]))) else Nx H3) := by
  refine ⟨fun i m H => m = min x.cps.size y.cps.size - i ∧ i ≤ min x.cps.size y.cps.size ∧ Pv i H, ⟨_, rfl, Nat.zero_le _, h0⟩, ?_⟩
  rintro i m H ⟨rfl, hi, p⟩
  by_cases hlt : i < min x.cps.size y.cps.size
  · refine .inr ⟨⟨by omega, by omega⟩, Pv (i + 1), fun H' p' => ⟨min x.cps.size y.cps.size - (i + 1), by omega, rfl, hlt, p'⟩, fun z H' q => ?_⟩
    obtain ⟨T, c, d, rfl, hT, rfl, hc, hd'⟩ := q
    exact hs i c d T _ hc hd' p hT
  · have e : i = min x.cps.size y.cps.size := by omega
    refine .inl ⟨?_, hd H (by rw [← e]; exact p)⟩
    by_cases hxy : x.cps.size ≤ y.cps.size
    · exact .inl ⟨by omega, by omega⟩
    · exact .inr ⟨by omega, by omega⟩
end
/-! ### signs -/
def letters : Str := "abcdefghijklmnopqrstuvwxyz"
structure SgOk (z : Str) : Prop where
  pos : 1 ≤ z.cps.size
  few : z.cps.size ≤ 4
  low : ∀ c ∈ z.cps.toList, c ∈ letters.cps.toList
  up : z.cps.toList.Pairwise (· < ·)
def sgB (z : Str) : Bool := decide (1 ≤ z.cps.size) && decide (z.cps.size ≤ 4) && decide (∀ c ∈ z.cps.toList, c ∈ letters.cps.toList) && decide (z.cps.toList.Pairwise (· < ·))
theorem sgOk_of {z : Str} (h : sgB z = true) : SgOk z := by
  unfold sgB at h
  simp only [Bool.and_eq_true, decide_eq_true_eq] at h
  exact ⟨h.1.1.1, h.1.1.2, h.1.2, h.2⟩
theorem SgOk.len {z : Str} (h : SgOk z) : z.length = z.cps.size := rfl
theorem all_true {bs : List Bool} (h : ∀ b ∈ bs, b = true) : bs.all id = true := List.all_eq_true.mpr fun b hb => h b hb
theorem replicate_bl (n : Nat) : (List.replicate n true).map V.bl = List.replicate n (V.bl true) := List.map_replicate
theorem rep_snoc {α : Type} (n : Nat) (x : α) : List.replicate n x ++ [x] = List.replicate (n + 1) x := by
  rw [List.replicate_succ']
theorem cutS_one (z : Str) (h : 1 ≤ z.cps.size) (i d : Nat) (hd : (cutS z (some 1) none).cps[i]? = some d) : z.cps[i + 1]? = some d := by
  unfold cutS at hd
  rw [HT.sIx_none, show (some (1 : Int)) = some ((1 : Nat) : Int) from rfl, HT.sIx_nat, Nat.min_eq_left (show 1 ≤ z.length from h)] at hd
  rw [List.getElem?_toArray, List.getElem?_take] at hd
  split at hd
  · rw [List.getElem?_drop, Array.getElem?_toList, Nat.add_comm] at hd
    exact hd
  · cases hd
theorem cut1_size (z : Str) : (cutS z (some 1) none).cps.size ≤ z.cps.size := by
  unfold cutS
  rw [List.size_toArray, List.length_take, List.length_drop, Array.length_toList]
  omega
theorem one_lt {c d : Nat} (h : c < d) : decide ((⟨#[c]⟩ : Str).cps.toList < (⟨#[d]⟩ : Str).cps.toList) = true := by
  rw [decide_eq_true_iff]
  show [c] < [d]
  exact List.cons_lt_cons_iff.mpr (.inl h)
theorem SgOk.lt {z : Str} (h : SgOk z) {i c d : Nat} (hc : z.cps[i]? = some c) (hd : z.cps[i + 1]? = some d) : c < d := by
  rw [← Array.getElem?_toList] at hc hd
  obtain ⟨h1, e1⟩ := List.getElem?_eq_some_iff.mp hc
  obtain ⟨h2, e2⟩ := List.getElem?_eq_some_iff.mp hd
  rw [← e1, ← e2]
  exact List.pairwise_iff_getElem.mp h.up i (i + 1) h1 h2 (by omega)
theorem SgOk.in_ {z : Str} (h : SgOk z) {i c : Nat} (hc : z.cps[i]? = some c) : c ∈ letters.cps.toList := by
  refine h.low c ?_
  rw [← Array.getElem?_toList] at hc
  exact List.mem_of_getElem? hc
theorem bIsi : bootBuiltins "isinstance" = some (.builtin "isinstance") := by decide +kernel
theorem bAll : bootBuiltins "all" = some (.builtin "all") := by decide +kernel
theorem bStr : bootBuiltins "str" = some (.type "str") := by decide +kernel
theorem bBool : bootBuiltins "bool" = some (.type "bool") := by decide +kernel
theorem lay_rows (R : List (List Nat)) : PyData.canLayAll0 (R.map dNs) = true ∧ PyData.depthAll (R.map dNs) ≤ 1 := by
  induction R with
  | nil => exact ⟨rfl, by decide⟩
  | cons a l ih =>
    have h := shp_dNs a
    unfold SeqAt.shaped at h
    have h1 := (Bool.and_eq_true_iff.mp h).1
    have h2 : (dNs a).depth = 1 := by
      have : ∀ l : List Nat, PyData.depthAll (l.map fun n : Nat => PyData.int (n : Int)) = 0 := by
        intro l
        induction l with
        | nil => rfl
        | cons b l ih => simp only [List.map_cons, PyData.depthAll, PyData.depth, ih, Nat.max_self]
      unfold dNs
      simp only [PyData.depth, this]
    refine ⟨by simp only [List.map_cons, PyData.canLayAll0, h1, ih.1, Bool.and_self], ?_⟩
    simp only [List.map_cons, PyData.depthAll, h2]
    exact Nat.max_le.mpr ⟨Nat.le_refl _, ih.2⟩
theorem shp_dRs (R : List (List Nat)) : SeqAt.shaped (dRs R) = true := by
  unfold SeqAt.shaped dRs
  simp only [PyData.canLay0, PyData.depth, (lay_rows R).1, Bool.true_and]
  have := (lay_rows R).2
  exact decide_eq_true (by omega)
theorem eqv_dRs_nil {R : List (List Nat)} (h : 0 < R.length) : PyData.eqv (dRs R) (.list []) = false := by
  cases R with
  | nil => cases h
  | cons a R => rfl
/-! promises -/
def spIsInt : Sp := fun vs H Q _ => ∃ i : Int, vs = [.int i] ∧ Q (.bl true) H
def spIsNum : Sp := fun vs H Q _ => ∃ m i : Int, vs = [.int m, .int i] ∧ Q (.bl (decide (0 ≤ i) && decide (i < m))) H
def spIsSg : Sp := fun vs H Q _ => ∃ z : Str, vs = [.str z] ∧ SgOk z ∧ ∀ H', Same H H' → Q (.bl true) H'
/-- rows of states -/
def spAreR : Sp := fun vs H Q _ => ∃ (n : Nat) (a : Addr) (xs : List Addr) (R : List (List Nat)), vs = [nV n, .ref a] ∧ RowsAt H a xs R ∧ Mok n R ∧ 0 < R.length ∧ R.length ≤ 4000 ∧ n ≤ 100 ∧ ∀ H', Same H H' → Q (.bl true) H'
end Rg

/-! the class Texts: how an instance stands, promises of its methods -/
namespace Rg
open PySem PySem.Spec PyProof.Rows L2 Mach
theorem Gd.len {e k : Nat} {d : PyData} (h : Gd e k d) : d.shown.length ≤ 15 * k + 13 := by
  have h2 := PyData.shown_le 13 (by decide) d (PyData.leavesShort_of_canLay0 13 d h.lay h.ish)
  have := h.wt
  omega
theorem gd_str {x : Str} (h : PyData.strOk x = true) {k : Nat} (hk : x.cps.size ≤ k) : Gd 0 k (.str x) := ⟨h, rfl, rfl, Nat.le_refl _, hk⟩
theorem eqvAll_ints : ∀ S T : List Nat, PyData.eqvAll (S.map fun n : Nat => PyData.int (n : Int)) (T.map fun n : Nat => PyData.int (n : Int)) = decide (S = T)
  | [], [] => rfl
  | [], b :: T => rfl
  | a :: S, [] => rfl
  | a :: S, b :: T => by
    show (PyData.eqv (.int (a : Int)) (.int (b : Int)) && PyData.eqvAll _ _) = _
    rw [eqvAll_ints S T, show PyData.eqv (.int (a : Int)) (.int (b : Int)) = ((a : Int) == (b : Int)) from by simp only [PyData.eqv]]
    by_cases h1 : a = b
    · by_cases h2 : S = T
      · rw [h1, h2]
        simp
      · rw [decide_eq_false h2, Bool.and_false, decide_eq_false (fun z => h2 (List.cons.inj z).2)]
    · rw [beq_eq_false_iff_ne.mpr (fun z => h1 (by omega)), Bool.false_and, decide_eq_false (fun z => h1 (List.cons.inj z).1)]
theorem eqv_dNs (S T : List Nat) : PyData.eqv (dNs S) (dNs T) = decide (S = T) := by
  unfold dNs
  simp only [PyData.eqv]
  exact eqvAll_ints S T
theorem eqvAll_dNs : ∀ R S : List (List Nat), PyData.eqvAll (R.map dNs) (S.map dNs) = decide (R = S)
  | [], [] => rfl
  | [], b :: T => rfl
  | a :: S, [] => rfl
  | a :: S, b :: T => by
    show (PyData.eqv (dNs a) (dNs b) && PyData.eqvAll _ _) = _
    rw [eqvAll_dNs S T, eqv_dNs]
    by_cases h1 : a = b
    · by_cases h2 : S = T
      · rw [h1, h2]
        simp
      · rw [decide_eq_false h2, Bool.and_false, decide_eq_false (fun z => h2 (List.cons.inj z).2)]
    · rw [decide_eq_false h1, Bool.false_and, decide_eq_false (fun z => h1 (List.cons.inj z).1)]
theorem eqv_dRs (R S : List (List Nat)) : PyData.eqv (dRs R) (dRs S) = decide (R = S) := by
  unfold dRs
  simp only [PyData.eqv]
  exact eqvAll_dNs R S
/-! ### an instance -/
def tfl (z : Str) (t e : Addr) : List (Str × V) := putF "its_ends" (.ref e) (putF "its_table" (.ref t) (putF "its_signs" (.str z) []))
theorem tf_st : ¬ (("its_signs" : Str) = "its_table") := by decide +kernel
theorem tf_se : ¬ (("its_signs" : Str) = "its_ends") := by decide +kernel
theorem tf_te : ¬ (("its_table" : Str) = "its_ends") := by decide +kernel
theorem tfl_ends (z : Str) (t e : Addr) : (tfl z t e).lookup ("its_ends" : Str) = some (.ref e) := by
  unfold tfl
  rw [lookup_putF, if_pos rfl]
theorem tfl_table (z : Str) (t e : Addr) : (tfl z t e).lookup ("its_table" : Str) = some (.ref t) := by
  unfold tfl
  rw [lookup_putF, if_neg tf_te, lookup_putF, if_pos rfl]
theorem tfl_signs (z : Str) (t e : Addr) : (tfl z t e).lookup ("its_signs" : Str) = some (.str z) := by
  unfold tfl
  rw [lookup_putF, if_neg tf_se, lookup_putF, if_neg tf_st, lookup_putF, if_pos rfl]
theorem tfl_no (z : Str) (t e : Addr) {m : Str} (h1 : ¬ m = "its_ends") (h2 : ¬ m = "its_table") (h3 : ¬ m = "its_signs") : (tfl z t e).lookup m = none := by
  unfold tfl
  rw [lookup_putF, if_neg h1, lookup_putF, if_neg h2, lookup_putF, if_neg h3]
  rfl
/-- a set of texts stands at p -/
structure TxAt (C : Addr) (H : Hp) (p : Addr) (z : Str) (t e : Addr) (ys : List Addr) (R : List (List Nat)) (E : List Nat) : Prop where
  ob : ∃ dx, H p = some (.ins C dx (tfl z t e))
  rows : RowsAt H t ys R
  ends : H e = some (.lst (nVs E))
theorem TxAt.same {C : Addr} {H H' : Hp} {p : Addr} {z : Str} {t e : Addr} {ys : List Addr} {R : List (List Nat)} {E : List Nat} (h : TxAt C H p z t e ys R E) (s : Same H H') : TxAt C H' p z t e ys R E := by
  obtain ⟨⟨dx, ob⟩, r, en⟩ := h
  exact ⟨⟨dx, s _ _ ob⟩, r.same s, s _ _ en⟩
theorem TxAt.but {C g : Addr} {H H' : Hp} {p : Addr} {z : Str} {t e : Addr} {ys : List Addr} {R : List (List Nat)} {E : List Nat} (h : TxAt C H p z t e ys R E) (b : But g H H') (hp : p ≠ g) (ht : t ≠ g) (he : e ≠ g) (hy : ∀ y ∈ ys, y ≠ g) : TxAt C H' p z t e ys R E := by
  obtain ⟨⟨dx, ob⟩, r, en⟩ := h
  exact ⟨⟨dx, b _ _ hp ob⟩, r.but b ht hy, b _ _ he en⟩
/-- facts of the class that its methods ask -/
structure TxC (K : PySem.W.Frag) (C : Addr) : Prop where
  cl : Cls K C
  nS : NoAttr K C "its_signs"
  nT : NoAttr K C "its_table"
  nE : NoAttr K C "its_ends"
/-- Texts(signs, rows, ends) -/
def spInit (C : Addr) : Sp := fun vs H Q _ => ∃ (p dx a e : Addr) (z : Str) (xs : List Addr) (R : List (List Nat)) (E : List Nat), vs = [.ref p, .str z, .ref a, .ref e] ∧ H p = some (.ins C dx []) ∧ SgOk z ∧ RowsAt H a xs R ∧ Mok z.cps.size R ∧ 0 < R.length ∧ R.length ≤ 4000 ∧
  H e = some (.lst (nVs E)) ∧ (∀ x ∈ E, x < R.length) ∧ E.length ≤ 4000 ∧
  ∀ (H' : Hp) (t e' : Addr) (ys : List Addr) (R' : List (List Nat)) (E' : List Nat), (∀ b o, H b = some o → b ≠ p → H' b = some o) → TxAt C H' p z t e' ys R' E' → H t = none → H e' = none → t ≠ e' → (∀ y ∈ ys, H y = none ∧ y ≠ t ∧ y ≠ e') → ys.Nodup →
    Least z.cps.size R' E' → Alk z.cps.size R' E' 0 R E 0 → R'.length ≤ R.length → Q .non H'
def spSg (C : Addr) : Sp := fun vs H Q _ => ∃ (p : Addr) (z : Str) (t e : Addr) (ys : List Addr) (R : List (List Nat)) (E : List Nat), vs = [.ref p] ∧ TxAt C H p z t e ys R E ∧ Q (.str z) H
def spTab (C : Addr) : Sp := fun vs H Q _ => ∃ (p : Addr) (z : Str) (t e : Addr) (ys : List Addr) (R : List (List Nat)) (E : List Nat), vs = [.ref p] ∧ TxAt C H p z t e ys R E ∧ R.length ≤ 4000 ∧
  ∀ (H' : Hp) (q : Addr) (xs : List Addr), Same H H' → H q = none → (∀ x ∈ xs, H x = none ∧ x ≠ q) → xs.Nodup → RowsAt H' q xs R → Q (.ref q) H'
def spEnd (C : Addr) : Sp := fun vs H Q _ => ∃ (p : Addr) (z : Str) (t e : Addr) (ys : List Addr) (R : List (List Nat)) (E : List Nat), vs = [.ref p] ∧ TxAt C H p z t e ys R E ∧
  ∀ (H' : Hp) (q : Addr), Same H H' → H q = none → H' q = some (.lst (nVs E)) → Q (.ref q) H'
/-- == : with another set, or with what is none -/
def spEq (K : PySem.W.Frag) (C : Addr) : Sp := fun vs H Q _ => ∃ (p : Addr) (z : Str) (t e : Addr) (ys : List Addr) (R : List (List Nat)) (E : List Nat) (y : V), vs = [.ref p, y] ∧ TxAt C H p z t e ys R E ∧
  ((∃ ty, TyX K H y ty ∧ PySem.W.kitOne K ty (.ref C) = some false ∧ Q (.bl false) H) ∨
   ∃ (p2 : Addr) (z2 : Str) (t2 e2 : Addr) (ys2 : List Addr) (R2 : List (List Nat)) (E2 : List Nat), y = .ref p2 ∧ TxAt C H p2 z2 t2 e2 ys2 R2 E2 ∧ Q (.bl (decide (z = z2) && (decide (R = R2) && decide (E = E2)))) H)
def reprTx (z : Str) (R : List (List Nat)) (E : List Nat) : Str := ((((((("Texts(" : Str) ++ reprText z) ++ ", ") ++ (dRs R).shown) ++ ", ") ++ (dNs E).shown) ++ ")")
def spRepr (C : Addr) : Sp := fun vs H Q _ => ∃ (p : Addr) (z : Str) (t e : Addr) (ys : List Addr) (R : List (List Nat)) (E : List Nat), vs = [.ref p] ∧ TxAt C H p z t e ys R E ∧ SgOk z ∧ Gd 2 100000 (dRs R) ∧ Gd 1 100000 (dNs E) ∧ Q (.str (reprTx z R E)) H
theorem lett_low {c : Nat} (h : c ∈ letters.cps.toList) : c < 128 := by
  have key : ∀ c ∈ letters.cps.toList, c < 128 := by decide +kernel
  exact key c h
theorem SgOk.rep {z : Str} (h : SgOk z) : (reprText z).length ≤ 100 := by
  have h1 := PySem.StrLaws.reprText_len z (fun c hc => Nat.lt_of_lt_of_le (lett_low (h.low c hc)) (by decide))
  have h2 := h.few
  have h3 : z.length = z.cps.size := rfl
  omega
end Rg

/-! things: data that may hold dicts, or a set; of which kind they are -/
namespace Rg
open PySem PySem.Spec PyProof.Rows L2
def tyN : PyData → String
  | .none => "NoneType"
  | .bool _ => "bool"
  | .int _ => "int"
  | .str _ => "str"
  | .list _ => "list"
  | .tuple _ => "tuple"
  | .dict _ => "dict"
section
variable {K : PySem.W.Frag} {H H' : Hp} {C : Addr}
theorem SqL.tyX {a : Addr} {xs : List V} (h : SqL K H a xs) : TyX K H (.ref a) (.type "list") := by
  rcases h with (h | ⟨o, h⟩) | ⟨o, its, n, h, c, _⟩
  · exact .base (.lst h)
  · exact .base (.frz h)
  · exact .kList h c
theorem SqT.tyX {a : Addr} {xs : List V} (h : SqT K H a xs) : TyX K H (.ref a) (.type "tuple") := by
  rcases h with (h | ⟨o, h⟩) | ⟨o, its, n, h, c, _⟩
  · exact .base (.tup h)
  · exact .fTuple h
  · exact .kTuple h c
theorem Dq.ty {v : V} {d : PyData} (h : Dq K H v d) : TyX K H v (.type (tyN d)) := by
  cases h with
  | non => exact .base .non
  | bl b => exact .base (.bl b)
  | int i => exact .base (.int i)
  | str x => exact .base (.str x)
  | lst h _ => exact .base (.lst h)
  | tup h _ => exact SqT.tyX h
  | dct h _ => exact .base (.dK h)
theorem SqL.sm {a : Addr} {xs : List V} (s : Same H H') (h : SqL K H a xs) : SqL K H' a xs := by
  rcases h with (h | ⟨o, h⟩) | h
  · exact .inl (.inl (s _ _ h))
  · exact .inl (.inr ⟨o, s _ _ h⟩)
  · exact .inr h
theorem SqT.sm {a : Addr} {xs : List V} (s : Same H H') (h : SqT K H a xs) : SqT K H' a xs := by
  rcases h with (h | ⟨o, h⟩) | h
  · exact .inl (.inl (s _ _ h))
  · exact .inl (.inr ⟨o, s _ _ h⟩)
  · exact .inr h
mutual
theorem Dq.sm (s : Same H H') : ∀ {v : V} {d : PyData}, Dq K H v d → Dq K H' v d
  | _, _, .non => .non
  | _, _, .bl b => .bl b
  | _, _, .int i => .int i
  | _, _, .str x => .str x
  | _, _, .lst h a => .lst (s _ _ h) (DqAll.sm s a)
  | _, _, .tup h a => .tup (SqT.sm s h) (DqAll.sm s a)
  | _, _, .dct h a => .dct (s _ _ h) (DqKv.sm s a)
theorem DqAll.sm (s : Same H H') : ∀ {vs : List V} {ds : List PyData}, DqAll K H vs ds → DqAll K H' vs ds
  | _, _, .nil => .nil
  | _, _, .cons h a => .cons (Dq.sm s h) (DqAll.sm s a)
theorem DqKv.sm (s : Same H H') : ∀ {vs : List (Key × V)} {ds : List (Key × PyData)}, DqKv K H vs ds → DqKv K H' vs ds
  | _, _, .nil => .nil
  | _, _, .cons h a => .cons (Dq.sm s h) (DqKv.sm s a)
end
theorem DqAll.length {vs : List V} {ds : List PyData} (h : DqAll K H vs ds) : vs.length = ds.length := by
  induction vs generalizing ds with
  | nil => cases h; rfl
  | cons v vs ih => cases h with | cons _ a => rw [List.length_cons, List.length_cons, ih a]
theorem DqAll.get {vs : List V} {ds : List PyData} (h : DqAll K H vs ds) {i : Nat} {v : V} (e : vs[i]? = some v) : ∃ d, ds[i]? = some d ∧ Dq K H v d := by
  induction vs generalizing ds i with
  | nil => cases e
  | cons x vs ih =>
    cases h with
    | cons h1 a =>
      cases i with
      | zero => cases e; exact ⟨_, rfl, h1⟩
      | succ i => exact ih a (by simpa using e)
theorem DqAll.append {us vs : List V} {ds es : List PyData} (h : DqAll K H us ds) (k : DqAll K H vs es) : DqAll K H (us ++ vs) (ds ++ es) := by
  induction us generalizing ds with
  | nil => cases h; exact k
  | cons v us ih => cases h with | cons h1 a => exact .cons h1 (ih a)
end
/-- a value of a law: data, or a set -/
inductive Tg where
  | dat (d : PyData)
  | own
/-- what isinstance asks of a set -/
structure OwnC (K : PySem.W.Frag) (C : Addr) : Prop where
  cl : Cls K C
  ha : PySem.W.findIn K (.ref C) "__class__" = some (some (.builtin "object.__class__"))
  hn : PySem.W.specialIn K (.builtin "object.__class__") "__get__" = some (some (.builtin "getset_descriptor.__get__"))
  ht : PySem.W.takesIn K (.builtin "object.__class__") = some true
  hm : PySem.W.mroIn K C (.type "object") = some true
  sI : PySem.W.subIn K (.ref C) (.type "int") = some false
  sB : PySem.W.subIn K (.ref C) (.type "bool") = some false
  sS : PySem.W.subIn K (.ref C) (.type "str") = some false
  sL : PySem.W.subIn K (.ref C) (.type "list") = some false
inductive Tq (K : PySem.W.Frag) (C : Addr) (H : Hp) : V → Tg → Prop
  | dat {v : V} {d : PyData} : Dq K H v d → Tq K C H v (.dat d)
  | own {p dx : Addr} {fs : List (Str × V)} : H p = some (.ins C dx fs) → Tq K C H (.ref p) .own
def Tg.isI : Tg → Bool
  | .dat (.int _) => true
  | .dat (.bool _) => true
  | _ => false
def Tg.isB : Tg → Bool
  | .dat (.bool _) => true
  | _ => false
def Tg.isS : Tg → Bool
  | .dat (.str _) => true
  | _ => false
def Tg.isL : Tg → Bool
  | .dat (.list _) => true
  | _ => false
theorem kit_own {K : PySem.W.Frag} {U : Addr} {T : String} {b : Bool} (hk : PySem.W.kitMeta T = true) (h : PySem.W.subIn K (.ref U) (.type T) = some b) : PySem.W.kitOne K (.ref U) (.type T) = some b := by
  unfold PySem.W.kitOne
  have hne : ¬ (Value.ref U == Value.type T) = true := fun e => by cases beq_iff_eq.mp e
  rw [if_neg hne]
  unfold PySem.W.kitCls
  show (if PySem.W.kitMeta T = true then PySem.W.subIn K (.ref U) (.type T) else none) = _
  rw [if_pos hk, h]
section
variable {K : PySem.W.Frag} {H H' : Hp} {C : Addr} {v : V} {t : Tg} {Q : VK}
theorem Tq.sm (s : Same H H') (h : Tq K C H v t) : Tq K C H' v t := by
  cases h with
  | dat h => exact .dat (h.sm s)
  | own h => exact .own (s _ _ h)
theorem Tq.isI (O : OwnC K C) (h : Tq K C H v t) (q : Q (.bl t.isI) H) : rIsi K [v, .ty "int"] H Q := by
  cases h with
  | own e => exact ⟨_, _, _, _, false, rfl, .ty "int", .base (.ins e O.cl O.ha O.hn O.ht O.hm), kit_own (by decide +kernel) O.sI, q⟩
  | @dat _ d h =>
    refine ⟨_, _, _, _, _, rfl, .ty "int", h.ty, ?_, q⟩
    have k_NoneType : kitB "NoneType" "int" = some false := by decide +kernel
    have k_bool : kitB "bool" "int" = some true := by decide +kernel
    have k_int : kitB "int" "int" = some true := by decide +kernel
    have k_str : kitB "str" "int" = some false := by decide +kernel
    have k_list : kitB "list" "int" = some false := by decide +kernel
    have k_tuple : kitB "tuple" "int" = some false := by decide +kernel
    have k_dict : kitB "dict" "int" = some false := by decide +kernel
    cases d
    · exact kit_ty k_NoneType
    · exact kit_ty k_bool
    · exact kit_ty k_int
    · exact kit_ty k_str
    · exact kit_ty k_list
    · exact kit_ty k_tuple
    · exact kit_ty k_dict
theorem Tq.isB (O : OwnC K C) (h : Tq K C H v t) (q : Q (.bl t.isB) H) : rIsi K [v, .ty "bool"] H Q := by
  cases h with
  | own e => exact ⟨_, _, _, _, false, rfl, .ty "bool", .base (.ins e O.cl O.ha O.hn O.ht O.hm), kit_own (by decide +kernel) O.sB, q⟩
  | @dat _ d h =>
    refine ⟨_, _, _, _, _, rfl, .ty "bool", h.ty, ?_, q⟩
    have k_NoneType : kitB "NoneType" "bool" = some false := by decide +kernel
    have k_bool : kitB "bool" "bool" = some true := by decide +kernel
    have k_int : kitB "int" "bool" = some false := by decide +kernel
    have k_str : kitB "str" "bool" = some false := by decide +kernel
    have k_list : kitB "list" "bool" = some false := by decide +kernel
    have k_tuple : kitB "tuple" "bool" = some false := by decide +kernel
    have k_dict : kitB "dict" "bool" = some false := by decide +kernel
    cases d
    · exact kit_ty k_NoneType
    · exact kit_ty k_bool
    · exact kit_ty k_int
    · exact kit_ty k_str
    · exact kit_ty k_list
    · exact kit_ty k_tuple
    · exact kit_ty k_dict
theorem Tq.isS (O : OwnC K C) (h : Tq K C H v t) (q : Q (.bl t.isS) H) : rIsi K [v, .ty "str"] H Q := by
  cases h with
  | own e => exact ⟨_, _, _, _, false, rfl, .ty "str", .base (.ins e O.cl O.ha O.hn O.ht O.hm), kit_own (by decide +kernel) O.sS, q⟩
  | @dat _ d h =>
    refine ⟨_, _, _, _, _, rfl, .ty "str", h.ty, ?_, q⟩
    have k_NoneType : kitB "NoneType" "str" = some false := by decide +kernel
    have k_bool : kitB "bool" "str" = some false := by decide +kernel
    have k_int : kitB "int" "str" = some false := by decide +kernel
    have k_str : kitB "str" "str" = some true := by decide +kernel
    have k_list : kitB "list" "str" = some false := by decide +kernel
    have k_tuple : kitB "tuple" "str" = some false := by decide +kernel
    have k_dict : kitB "dict" "str" = some false := by decide +kernel
    cases d
    · exact kit_ty k_NoneType
    · exact kit_ty k_bool
    · exact kit_ty k_int
    · exact kit_ty k_str
    · exact kit_ty k_list
    · exact kit_ty k_tuple
    · exact kit_ty k_dict
theorem Tq.isL (O : OwnC K C) (h : Tq K C H v t) (q : Q (.bl t.isL) H) : rIsi K [v, .ty "list"] H Q := by
  cases h with
  | own e => exact ⟨_, _, _, _, false, rfl, .ty "list", .base (.ins e O.cl O.ha O.hn O.ht O.hm), kit_own (by decide +kernel) O.sL, q⟩
  | @dat _ d h =>
    refine ⟨_, _, _, _, _, rfl, .ty "list", h.ty, ?_, q⟩
    have k_NoneType : kitB "NoneType" "list" = some false := by decide +kernel
    have k_bool : kitB "bool" "list" = some false := by decide +kernel
    have k_int : kitB "int" "list" = some false := by decide +kernel
    have k_str : kitB "str" "list" = some false := by decide +kernel
    have k_list : kitB "list" "list" = some true := by decide +kernel
    have k_tuple : kitB "tuple" "list" = some false := by decide +kernel
    have k_dict : kitB "dict" "list" = some false := by decide +kernel
    cases d
    · exact kit_ty k_NoneType
    · exact kit_ty k_bool
    · exact kit_ty k_int
    · exact kit_ty k_str
    · exact kit_ty k_list
    · exact kit_ty k_tuple
    · exact kit_ty k_dict
theorem Tq.qI (O : OwnC K C) (h : Tq K C H v t) : ∃ cv ty : Value, ClsV (.ty "int") cv ∧ TyX K H v ty ∧ PySem.W.kitOne K ty cv = some t.isI := by
  obtain ⟨x, c, t', u, b, e, hc, ht, hk, hq⟩ := Tq.isI O h (Q := fun x _ => x = .bl t.isI) rfl
  cases e
  cases hq
  exact ⟨u, t', hc, ht, hk⟩
theorem Tq.qB (O : OwnC K C) (h : Tq K C H v t) : ∃ cv ty : Value, ClsV (.ty "bool") cv ∧ TyX K H v ty ∧ PySem.W.kitOne K ty cv = some t.isB := by
  obtain ⟨x, c, t', u, b, e, hc, ht, hk, hq⟩ := Tq.isB O h (Q := fun x _ => x = .bl t.isB) rfl
  cases e
  cases hq
  exact ⟨u, t', hc, ht, hk⟩
theorem Tq.qS (O : OwnC K C) (h : Tq K C H v t) : ∃ cv ty : Value, ClsV (.ty "str") cv ∧ TyX K H v ty ∧ PySem.W.kitOne K ty cv = some t.isS := by
  obtain ⟨x, c, t', u, b, e, hc, ht, hk, hq⟩ := Tq.isS O h (Q := fun x _ => x = .bl t.isS) rfl
  cases e
  cases hq
  exact ⟨u, t', hc, ht, hk⟩
theorem Tq.qL (O : OwnC K C) (h : Tq K C H v t) : ∃ cv ty : Value, ClsV (.ty "list") cv ∧ TyX K H v ty ∧ PySem.W.kitOne K ty cv = some t.isL := by
  obtain ⟨x, c, t', u, b, e, hc, ht, hk, hq⟩ := Tq.isL O h (Q := fun x _ => x = .bl t.isL) rfl
  cases e
  cases hq
  exact ⟨u, t', hc, ht, hk⟩
end
end Rg

/-! sizes of data that may hold dicts; heaps without the bag -/
namespace Rg
open PySem PySem.Spec PyProof.Rows L2
/-- data that can be printed: depth at most e, k things at most -/
structure Gq (e k : Nat) (d : PyData) : Prop where
  shw : d.showable = true
  dep : d.depth ≤ e
  lv : d.leavesShort 50 = true
  bk : d.bulk ≤ k
structure GqAll (e k : Nat) (ds : List PyData) : Prop where
  shw : PyData.showableAll ds = true
  dep : PyData.depthAll ds ≤ e
  lv : PyData.leavesShortAll 50 ds = true
  bk : PyData.bulkAll ds ≤ k
def gqB (e k : Nat) (d : PyData) : Bool := d.showable && decide (d.depth ≤ e) && d.leavesShort 50 && decide (d.bulk ≤ k)
theorem gq_of {e k : Nat} {d : PyData} (h : gqB e k d = true) : Gq e k d := by
  unfold gqB at h
  simp only [Bool.and_eq_true, decide_eq_true_eq] at h
  exact ⟨h.1.1.1, h.1.1.2, h.1.2, h.2⟩
theorem Gq.le {e k e' k' : Nat} {d : PyData} (h : Gq e k d) (he : e ≤ e') (hk : k ≤ k') : Gq e' k' d := ⟨h.shw, Nat.le_trans h.dep he, h.lv, Nat.le_trans h.bk hk⟩
theorem gqAll_nil {e : Nat} : GqAll e 0 [] := ⟨rfl, Nat.zero_le _, rfl, Nat.le_refl _⟩
theorem gqAll_cons {e k m : Nat} {d : PyData} {ds : List PyData} (h : Gq e k d) (t : GqAll e m ds) : GqAll e (k + 1 + m) (d :: ds) := by
  refine ⟨?_, ?_, ?_, ?_⟩
  · simp only [PyData.showableAll, h.shw, t.shw, Bool.and_self]
  · simp only [PyData.depthAll]
    exact Nat.max_le.mpr ⟨h.dep, t.dep⟩
  · simp only [PyData.leavesShortAll, h.lv, t.lv, Bool.and_self]
  · simp only [PyData.bulkAll]
    have h1 := h.bk
    have h2 := t.bk
    omega
theorem gq_list {e k : Nat} {ds : List PyData} (h : GqAll e k ds) : Gq (e + 1) k (.list ds) := by
  refine ⟨?_, ?_, ?_, ?_⟩
  · simp only [PyData.showable, h.shw]
  · simp only [PyData.depth]
    have := h.dep
    omega
  · simp only [PyData.leavesShort, h.lv]
  · simp only [PyData.bulk]
    exact h.bk
theorem gq_tuple {e k : Nat} {ds : List PyData} (h : GqAll e k ds) : Gq (e + 1) k (.tuple ds) := by
  refine ⟨?_, ?_, ?_, ?_⟩
  · simp only [PyData.showable, h.shw]
  · simp only [PyData.depth]
    have := h.dep
    omega
  · simp only [PyData.leavesShort, h.lv]
  · simp only [PyData.bulk]
    exact h.bk
theorem Gq.all {e k : Nat} {ds : List PyData} (h : Gq e k (.list ds)) : GqAll (e - 1) k ds := by
  refine ⟨?_, ?_, ?_, ?_⟩
  · simpa only [PyData.showable] using h.shw
  · have := h.dep
    simp only [PyData.depth] at this
    omega
  · simpa only [PyData.leavesShort] using h.lv
  · simpa only [PyData.bulk] using h.bk
theorem Gq.allT {e k : Nat} {ds : List PyData} (h : Gq e k (.tuple ds)) : GqAll (e - 1) k ds := by
  refine ⟨?_, ?_, ?_, ?_⟩
  · simpa only [PyData.showable] using h.shw
  · have := h.dep
    simp only [PyData.depth] at this
    omega
  · simpa only [PyData.leavesShort] using h.lv
  · simpa only [PyData.bulk] using h.bk
theorem GqAll.cons_inv {e k : Nat} {d : PyData} {ds : List PyData} (h : GqAll e k (d :: ds)) : Gq e k d ∧ GqAll e k ds := by
  obtain ⟨a, b, c, f⟩ := h
  simp only [PyData.showableAll, Bool.and_eq_true] at a
  simp only [PyData.depthAll] at b
  simp only [PyData.leavesShortAll, Bool.and_eq_true] at c
  simp only [PyData.bulkAll] at f
  exact ⟨⟨a.1, by omega, c.1, by omega⟩, ⟨a.2, by omega, c.2, by omega⟩⟩
theorem GqAll.mem {e k : Nat} : ∀ {ds : List PyData}, GqAll e k ds → ∀ d ∈ ds, Gq e k d
  | [], _, _, hd => nomatch hd
  | x :: ds, h, d, hd => by
    obtain ⟨h1, h2⟩ := h.cons_inv
    rcases List.mem_cons.mp hd with z | z
    · rw [z]; exact h1
    · exact h2.mem d z
theorem gqAll_const {e k : Nat} : ∀ {ds : List PyData}, (∀ d ∈ ds, Gq e k d) → GqAll e ((k + 1) * ds.length) ds
  | [], _ => gqAll_nil
  | d :: ds, h => by
    have h1 := gqAll_cons (h d List.mem_cons_self) (gqAll_const fun x hx => h x (List.mem_cons_of_mem _ hx))
    rw [List.length_cons, Nat.mul_add, Nat.mul_one, Nat.add_comm ((k + 1) * ds.length)]
    exact h1
theorem gqAll_append {e k m : Nat} : ∀ {ds es : List PyData}, GqAll e k ds → GqAll e m es → GqAll e (k + m) (ds ++ es)
  | [], es, _, t => ⟨t.shw, t.dep, t.lv, Nat.le_trans t.bk (Nat.le_add_left _ _)⟩
  | d :: ds, es, h, t => by
    have hb := h.bk
    obtain ⟨h1, h2⟩ := h.cons_inv
    have h3 := gqAll_append ⟨h2.shw, h2.dep, h2.lv, Nat.le_refl _⟩ t
    have h4 := gqAll_cons (k := d.bulk) ⟨h1.shw, h1.dep, h1.lv, Nat.le_refl _⟩ h3
    simp only [PyData.bulkAll] at hb
    exact ⟨h4.shw, h4.dep, h4.lv, Nat.le_trans h4.bk (by omega)⟩
theorem GqAll.sub {e k : Nat} : ∀ {ds es : List PyData}, ds.Sublist es → GqAll e k es → GqAll e k ds
  | _, _, .slnil, h => h
  | _, _, .cons a s, h => GqAll.sub s h.cons_inv.2
  | _, _, .cons₂ a s, h => by
    have hb := h.bk
    obtain ⟨h1, h2⟩ := h.cons_inv
    have h3 := GqAll.sub s (⟨h2.shw, h2.dep, h2.lv, Nat.le_refl _⟩ : GqAll e _ _)
    have h4 := gqAll_cons (k := a.bulk) ⟨h1.shw, h1.dep, h1.lv, Nat.le_refl _⟩ h3
    simp only [PyData.bulkAll] at hb
    exact ⟨h4.shw, h4.dep, h4.lv, Nat.le_trans h4.bk (by omega)⟩
theorem Gq.short {e k : Nat} {d : PyData} (h : Gq e k d) (hk : k ≤ 300000) : d.shown.length ≤ sizeLine := by
  have h1 := PyData.shown_le_bulk 50 (by decide) d h.lv
  have h2 := h.bk
  rw [sizeLine_eq]
  omega
theorem bulkAll_len : ∀ ds : List PyData, ds.length ≤ PyData.bulkAll ds
  | [] => Nat.le_refl _
  | d :: ds => by
    have := bulkAll_len ds
    simp only [List.length_cons, PyData.bulkAll]
    omega
theorem bulkAll_mem : ∀ (ds : List PyData) (d : PyData), d ∈ ds → d.bulk ≤ PyData.bulkAll ds
  | x :: ds, d, h => by
    simp only [PyData.bulkAll]
    rcases List.mem_cons.mp h with z | z
    · rw [z]; omega
    · have := bulkAll_mem ds d z
      omega
theorem gq_num {n : Nat} (h : n < 32) : Gq 0 0 (.int (n : Int)) := by
  have key : ∀ m : Fin 32, gqB 0 0 (.int (m.val : Int)) = true := by decide +kernel
  exact gq_of (key ⟨n, h⟩)
theorem gq_dNs {ns : List Nat} (h : ∀ n ∈ ns, n < 32) : Gq 1 ns.length (dNs ns) := by
  have h1 : GqAll 0 ((0 + 1) * (ns.map fun n : Nat => PyData.int (n : Int)).length) (ns.map fun n : Nat => PyData.int (n : Int)) := gqAll_const fun d hd => by
    obtain ⟨n, hn, rfl⟩ := List.mem_map.mp hd
    exact gq_num (h n hn)
  rw [List.length_map, Nat.zero_add, Nat.one_mul] at h1
  exact gq_list h1
theorem gq_dRs {R : List (List Nat)} {L : Nat} (h : ∀ r ∈ R, r.length ≤ L ∧ ∀ n ∈ r, n < 32) : Gq 2 ((L + 1) * R.length) (dRs R) := by
  have h1 : GqAll 1 ((L + 1) * (R.map dNs).length) (R.map dNs) := gqAll_const fun d hd => by
    obtain ⟨r, hr, rfl⟩ := List.mem_map.mp hd
    exact (gq_dNs (h r hr).2).le (Nat.le_refl _) (h r hr).1
  rw [List.length_map] at h1
  exact gq_list h1
theorem gq_str {z : Str} (h : ∀ c ∈ z.cps.toList, c < 16 ^ 8) : Gq 0 z.cps.size (.str z) := ⟨rfl, Nat.le_refl _, by simp only [PyData.leavesShort, List.all_eq_true, decide_eq_true_eq]; exact h, Nat.le_refl _⟩
/-! ### the heap without g -/
def mask (g : Addr) (H : Hp) : Hp := fun b => if b = g then none else H b
section
variable {g p : Addr} {H H' : Hp} {o : HO}
theorem mask_ne (h : p ≠ g) : mask g H p = H p := if_neg h
theorem mask_at (h : H p = some o) (n : p ≠ g) : mask g H p = some o := by rw [mask_ne n]; exact h
theorem mask_inv (h : mask g H p = some o) : p ≠ g ∧ H p = some o := by
  unfold mask at h
  split at h
  · cases h
  · rename_i n
    exact ⟨n, h⟩
theorem mask_same : Same (mask g H) H := fun b o h => (mask_inv h).2
theorem But.mask (h : But g H H') : Same (mask g H) (mask g H') := fun b o e => by
  obtain ⟨n, e⟩ := mask_inv e
  exact mask_at (h b o n e) n
theorem mask_sm (h : Same H H') : Same (mask g H) (mask g H') := fun b o e => by
  obtain ⟨n, e⟩ := mask_inv e
  exact mask_at (h b o e) n
end
end Rg

/-! three things of which a set is made: which of them is not as it must be -/
namespace Rg
open PySem PySem.Spec PyProof.Rows L2 Mach
def Tg.isW (t : Tg) : Bool := t.isI && !t.isB
/-- a number below n -/
def numQ (n : Nat) : Tg → Bool
  | .dat (.int i) => decide (0 ≤ i) && decide (i < (n : Int))
  | _ => false
def sgQ : Tg → Bool
  | .dat (.str z) => sgB z
  | _ => false
def nmD (n : Nat) (d : PyData) : Bool := numQ n (.dat d)
def rowQ (k n : Nat) : PyData → Bool
  | .list es => decide (es.length = k) && es.all (nmD n)
  | _ => false
def rowsQ (k : Nat) : Tg → Bool
  | .dat (.list ds) => !ds.isEmpty && ds.all (rowQ k ds.length)
  | _ => false
def endsQ (n : Nat) : Tg → Bool
  | .dat (.list ds) => ds.all (nmD n)
  | _ => false
def Tg.wide : Tg → Nat
  | .dat (.str z) => z.cps.size
  | _ => 0
def Tg.many : Tg → Nat
  | .dat (.list ds) => ds.length
  | _ => 0
/-- the first of them that is not as it must be -/
def dueQ (a b c : Tg) : Option Nat := if sgQ a = true then (if rowsQ a.wide b = true then (if endsQ b.many c = true then none else some 2) else some 1) else some 0
/-- not too great to be walked -/
def Tg.few : Tg → Prop
  | .dat d => d.bulk ≤ 100000
  | .own => True
def spIsIntQ (K : PySem.W.Frag) (C : Addr) : Sp := fun vs H Q _ => ∃ (v : V) (t : Tg), vs = [v] ∧ Tq K C H v t ∧ Q (.bl t.isW) H
def spIsNumQ (K : PySem.W.Frag) (C : Addr) : Sp := fun vs H Q _ => ∃ (n : Nat) (v : V) (t : Tg), vs = [nV n, v] ∧ Tq K C H v t ∧ Q (.bl (numQ n t)) H
def spIsSgQ (K : PySem.W.Frag) (C : Addr) : Sp := fun vs H Q _ => ∃ (v : V) (t : Tg), vs = [v] ∧ Tq K C H v t ∧ t.few ∧ ∀ H', Same H H' → Q (.bl (sgQ t)) H'
def spAreRQ (K : PySem.W.Frag) (C : Addr) : Sp := fun vs H Q _ => ∃ (n : Nat) (v : V) (t : Tg), vs = [nV n, v] ∧ Tq K C H v t ∧ t.few ∧ ∀ H', Same H H' → Q (.bl (rowsQ n t)) H'
theorem Tg.isW_num {t : Tg} (h : t.isW = true) : ∃ i, t = .dat (.int i) := by
  cases t with
  | own => cases h
  | dat d => cases d <;> first | exact ⟨_, rfl⟩ | cases h
theorem numQ_isW {n : Nat} {t : Tg} (h : t.isW = false) : numQ n t = false := by
  cases t with
  | own => rfl
  | dat d => cases d <;> first | rfl | cases h
/-- what stands for a number is one -/
theorem Tq.int {K : PySem.W.Frag} {C : Addr} {H : Hp} {v : V} {i : Int} (h : Tq K C H v (.dat (.int i))) : v = .int i := by
  cases h with
  | dat h => cases h; rfl
theorem Tq.str {K : PySem.W.Frag} {C : Addr} {H : Hp} {v : V} {z : Str} (h : Tq K C H v (.dat (.str z))) : v = .str z := by
  cases h with
  | dat h => cases h; rfl
theorem Tq.lst {K : PySem.W.Frag} {C : Addr} {H : Hp} {v : V} {ds : List PyData} (h : Tq K C H v (.dat (.list ds))) : ∃ a xs, v = .ref a ∧ H a = some (.lst xs) ∧ DqAll K H xs ds := by
  cases h with
  | dat h => cases h with | lst h1 h2 => exact ⟨_, _, rfl, h1, h2⟩
theorem Tg.isS_str {t : Tg} (h : t.isS = true) : ∃ z, t = .dat (.str z) := by
  cases t with
  | own => cases h
  | dat d => cases d <;> first | exact ⟨_, rfl⟩ | cases h
theorem Tg.isL_list {t : Tg} (h : t.isL = true) : ∃ ds, t = .dat (.list ds) := by
  cases t with
  | own => cases h
  | dat d => cases d <;> first | exact ⟨_, rfl⟩ | cases h
theorem sgQ_no {t : Tg} (h : t.isS = false) : sgQ t = false := by
  cases t with
  | own => rfl
  | dat d => cases d <;> first | rfl | cases h
theorem rowsQ_no {k : Nat} {t : Tg} (h : t.isL = false) : rowsQ k t = false := by
  cases t with
  | own => rfl
  | dat d => cases d <;> first | rfl | cases h
theorem endsQ_no {k : Nat} {t : Tg} (h : t.isL = false) : endsQ k t = false := by
  cases t with
  | own => rfl
  | dat d => cases d <;> first | rfl | cases h
theorem few_str {z : Str} (h : Tg.few (.dat (.str z))) : z.cps.size ≤ 100000 := by
  have h' : PyData.bulk (.str z) ≤ 100000 := h
  simpa only [PyData.bulk] using h'
theorem few_list {ds : List PyData} (h : Tg.few (.dat (.list ds))) : ds.length ≤ 100000 ∧ ∀ d ∈ ds, Tg.few (.dat d) := by
  have h' : PyData.bulk (.list ds) ≤ 100000 := h
  simp only [PyData.bulk] at h'
  exact ⟨Nat.le_trans (bulkAll_len ds) h', fun d hd => Nat.le_trans (bulkAll_mem ds d hd) h'⟩
theorem cut1_len (z : Str) (h : 1 ≤ z.cps.size) : (cutS z (some 1) none).cps.size = z.cps.size - 1 := by
  unfold cutS
  rw [HT.sIx_none, show (some (1 : Int)) = some ((1 : Nat) : Int) from rfl, HT.sIx_nat, Nat.min_eq_left (show 1 ≤ z.length from h)]
  have e : z.length = z.cps.size := rfl
  simp only [List.size_toArray, List.length_take, List.length_drop, Array.length_toList, e]
  omega
/-- rising numbers by neighbours -/
theorem rising_iff : ∀ l : List Nat, l.Pairwise (· < ·) ↔ ∀ (i c d : Nat), l[i]? = some c → l[i + 1]? = some d → c < d := by
  intro l
  induction l with
  | nil => exact ⟨fun _ _ _ _ h => absurd h (by simp), fun _ => List.Pairwise.nil⟩
  | cons a l ih =>
    rw [List.pairwise_cons, ih]
    constructor
    · rintro ⟨h1, h2⟩ i c d hc hd
      cases i with
      | zero =>
        have : a = c := by simpa using hc
        subst this
        exact h1 d (List.mem_of_getElem? (i := 0) (by simpa using hd))
      | succ i => exact h2 i c d (by simpa using hc) (by simpa using hd)
    · intro h
      have h2 : ∀ (i c d : Nat), l[i]? = some c → l[i + 1]? = some d → c < d := fun i c d hc hd => h (i + 1) c d (by simpa using hc) (by simpa using hd)
      refine ⟨fun b hb => ?_, h2⟩
      obtain ⟨i, hi⟩ := List.getElem?_of_mem hb
      induction i generalizing b with
      | zero => exact h 0 a b rfl (by simpa using hi)
      | succ i ihi =>
        have hlt : i < l.length := by have := (List.getElem?_eq_some_iff.mp hi).1; omega
        have hm : l[i]? = some l[i] := List.getElem?_eq_getElem hlt
        exact Nat.lt_trans (ihi l[i] (List.getElem_mem hlt) hm) (h2 i _ _ hm hi)
/-! ### the things of which a set is made -/
theorem nmD_int {n : Nat} {d : PyData} (h : nmD n d = true) : ∃ k : Nat, d = .int (k : Int) ∧ k < n := by
  cases d with
  | int i =>
    have h' : (decide (0 ≤ i) && decide (i < (n : Int))) = true := h
    simp only [Bool.and_eq_true, decide_eq_true_eq] at h'
    refine ⟨i.toNat, ?_, by omega⟩
    rw [Int.toNat_of_nonneg h'.1]
  | _ => cases h
theorem all_nmD {n : Nat} : ∀ {es : List PyData}, es.all (nmD n) = true → ∃ ks : List Nat, es = (ks.map fun k : Nat => PyData.int (k : Int)) ∧ ∀ k ∈ ks, k < n
  | [], _ => ⟨[], rfl, fun _ h => nomatch h⟩
  | d :: es, h => by
    rw [List.all_cons, Bool.and_eq_true] at h
    obtain ⟨k, rfl, hk⟩ := nmD_int h.1
    obtain ⟨ks, rfl, hks⟩ := all_nmD h.2
    exact ⟨k :: ks, rfl, fun x hx => (List.mem_cons.mp hx).elim (fun e => e ▸ hk) (hks x)⟩
theorem rowQ_row {n m : Nat} {d : PyData} (h : rowQ n m d = true) : ∃ r : List Nat, d = dNs r ∧ r.length = n ∧ ∀ x ∈ r, x < m := by
  cases d with
  | list es =>
    have h' : (decide (es.length = n) && es.all (nmD m)) = true := h
    simp only [Bool.and_eq_true, decide_eq_true_eq] at h'
    obtain ⟨ks, rfl, hks⟩ := all_nmD h'.2
    exact ⟨ks, rfl, by simpa using h'.1, hks⟩
  | _ => cases h
theorem all_rowQ {n m : Nat} : ∀ {ds : List PyData}, ds.all (rowQ n m) = true → ∃ R : List (List Nat), ds = R.map dNs ∧ ∀ r ∈ R, r.length = n ∧ ∀ x ∈ r, x < m
  | [], _ => ⟨[], rfl, fun _ h => nomatch h⟩
  | d :: ds, h => by
    rw [List.all_cons, Bool.and_eq_true] at h
    obtain ⟨r, rfl, h1, h2⟩ := rowQ_row h.1
    obtain ⟨R, rfl, hR⟩ := all_rowQ h.2
    exact ⟨r :: R, rfl, fun x hx => (List.mem_cons.mp hx).elim (fun e => e ▸ ⟨h1, h2⟩) (hR x)⟩
theorem rowOf_mem {R : List (List Nat)} {q : Nat} (h : q < R.length) : rowOf R q ∈ R := by
  unfold rowOf
  rw [List.getD_eq_getElem?_getD, List.getElem?_eq_getElem h]
  exact List.getElem_mem h
/-- what is as it must be is a machine -/
structure GoodM (a b c : Tg) (z : Str) (R : List (List Nat)) (E : List Nat) : Prop where
  ea : a = .dat (.str z)
  eb : b = .dat (dRs R)
  ec : c = .dat (dNs E)
  sg : SgOk z
  mok : Mok z.cps.size R
  pos : 0 < R.length
  lt : ∀ x ∈ E, x < R.length
theorem due_none {a b c : Tg} (h : dueQ a b c = none) : ∃ z R E, GoodM a b c z R E := by
  unfold dueQ at h
  by_cases h1 : sgQ a = true
  case neg => rw [if_neg h1] at h; cases h
  rw [if_pos h1] at h
  by_cases h2 : rowsQ a.wide b = true
  case neg => rw [if_neg h2] at h; cases h
  rw [if_pos h2] at h
  by_cases h3 : endsQ b.many c = true
  case neg => rw [if_neg h3] at h; cases h
  obtain ⟨z, rfl⟩ : ∃ z, a = .dat (.str z) := by
    cases a with
    | own => cases h1
    | dat d => cases d <;> first | exact ⟨_, rfl⟩ | cases h1
  obtain ⟨ds, rfl⟩ : ∃ ds, b = .dat (.list ds) := by
    cases b with
    | own => cases h2
    | dat d => cases d <;> first | exact ⟨_, rfl⟩ | cases h2
  obtain ⟨es, rfl⟩ : ∃ es, c = .dat (.list es) := by
    cases c with
    | own => cases h3
    | dat d => cases d <;> first | exact ⟨_, rfl⟩ | cases h3
  have h2' : (!ds.isEmpty && ds.all (rowQ z.cps.size ds.length)) = true := h2
  rw [Bool.and_eq_true] at h2'
  have h3' : es.all (nmD ds.length) = true := h3
  obtain ⟨R, eR, hR⟩ := all_rowQ h2'.2
  obtain ⟨E, eE, hE⟩ := all_nmD h3'
  have hl : ds.length = R.length := by rw [eR, List.length_map]
  rw [hl] at hR hE
  refine ⟨z, R, E, rfl, by rw [eR]; rfl, by rw [eE]; rfl, sgOk_of h1, ⟨fun q hq => (hR _ (rowOf_mem hq)).1, fun q hq x hx => (hR _ (rowOf_mem hq)).2 x hx⟩, ?_, hE⟩
  rw [← hl]
  cases ds with
  | nil => cases h2'.1
  | cons => exact Nat.succ_pos _
section
variable {K : PySem.W.Frag} {H : Hp} {C : Addr}
theorem nums_dq : ∀ {E : List Nat} {xs : List V}, DqAll K H xs (E.map fun n : Nat => PyData.int (n : Int)) → xs = nVs E
  | [], _, h => by cases h; rfl
  | e :: E, _, h => by
    cases h with
    | cons h1 h2 =>
      cases h1
      rw [nums_dq h2]
      rfl
theorem dNs_dq {v : V} {E : List Nat} (h : Dq K H v (dNs E)) : ∃ e, v = .ref e ∧ H e = some (.lst (nVs E)) := by
  cases h with
  | lst h1 h2 => exact ⟨_, rfl, by rw [h1, nums_dq h2]⟩
theorem rows_dqAll : ∀ {R : List (List Nat)} {xs : List V}, DqAll K H xs (R.map dNs) → ∃ as : List Addr, xs = as.map V.ref ∧ as.length = R.length ∧ ∀ (i : Nat) (x : Addr), as[i]? = some x → H x = some (.lst (nVs (rowOf R i)))
  | [], _, h => by cases h; exact ⟨[], rfl, rfl, fun i x hx => by simp at hx⟩
  | r :: R, _, h => by
    cases h with
    | cons h1 h2 =>
      obtain ⟨e, rfl, he⟩ := dNs_dq h1
      obtain ⟨as, rfl, hl, hr⟩ := rows_dqAll h2
      refine ⟨e :: as, rfl, by rw [List.length_cons, List.length_cons, hl], fun i x hx => ?_⟩
      cases i with
      | zero => cases hx; exact he
      | succ i => exact hr i x hx
theorem dRs_dq {v : V} {R : List (List Nat)} (h : Dq K H v (dRs R)) : ∃ a xs, v = .ref a ∧ RowsAt H a xs R := by
  cases h with
  | lst h1 h2 =>
    obtain ⟨as, e, hl, hr⟩ := rows_dqAll h2
    exact ⟨_, as, rfl, by rw [h1, e], hl, hr⟩
end
end Rg

/-! xs == [], xs != [] whatever xs holds; list(text); text * number -/
namespace Rg
open PySem PySem.Spec PyProof.Rows L2
section
variable {X : Cx}
/-- a list beside an empty one -/
def rEqL0 (neg : Bool) (K : PySem.W.Frag) : R2 := fun x y H Q => ∃ a b xs, x = .ref a ∧ y = .ref b ∧ SqL K H a xs ∧ SqL K H b [] ∧ Q (.bl (if neg = true then !xs.isEmpty else xs.isEmpty)) H
theorem op_eqL0 (hu : X.A.units < cLine) : OpR X (compareOp .Eq) (rEqL0 false X.K) := by
  intro pins s σ H x y v u Q I rx ry h
  obtain ⟨a, b, xs, rfl, rfl, ha, hb, q⟩ := h
  cases rx
  cases ry
  obtain ⟨its, r, pl, hz⟩ := I.list ha
  obtain ⟨its2, r2, pl2, hz2⟩ := I.list hb
  cases r2
  cases r with
  | nil => exact SeqAt.eq_listAt (e := fun _ => true) pl.isList pl2.isList rfl hu (fun j h1 _ => absurd h1 (by simp)) ⟨.bl true, H, I, rfl, q⟩
  | cons r1 r3 => exact SeqAt.eq_list_lengthsAt pl.isList pl2.isList (by simp) hu ⟨.bl false, H, I, rfl, q⟩
theorem op_neL0 (hu : X.A.units < cLine) : OpR X (compareOp .NotEq) (rEqL0 true X.K) := by
  intro pins s σ H x y v u Q I rx ry h
  obtain ⟨a, b, xs, rfl, rfl, ha, hb, q⟩ := h
  cases rx
  cases ry
  obtain ⟨its, r, pl, hz⟩ := I.list ha
  obtain ⟨its2, r2, pl2, hz2⟩ := I.list hb
  cases r2
  cases r with
  | nil => exact SeqAt.RcNeAt.lists (e := fun _ => true) pl.isList pl2.isList rfl hu (fun j h1 _ => absurd h1 (by simp)) _ _ _ _ ⟨.bl false, H, I, rfl, q⟩
  | cons r1 r3 => exact SeqAt.RcNeAt.lists_lengths pl.isList pl2.isList (by simp) hu _ _ _ _ ⟨.bl true, H, I, rfl, q⟩
/-- text * number -/
theorem op_mulS : OpR X (binaryOp .Mult) (fun x y H Q => ∃ (z : Str) (n : Nat), x = .str z ∧ y = .int (n : Int) ∧ n ≤ 100000 ∧ z.length ≤ 100 ∧ z.length * n ≤ 1000000 ∧ Q (.str (Txt.mul z n)) H) := by
  intro pins s σ H x y v u Q I rx ry h
  obtain ⟨z, n, rfl, rfl, hn, hz, hzn, q⟩ := h
  obtain ⟨t, rfl⟩ := rx
  obtain ⟨t', rfl⟩ := ry
  refine SB.mul ⟨?_, fun h1 _ => ?_, fun h1 _ => ?_⟩ fun t' tk => ⟨.str _, H, I.tok _, ⟨_, rfl⟩, q⟩
  · simp only [Bool.or_eq_false_iff, decide_eq_false_iff_not]
    omega
  · have h2 : (1 : Int) ≤ n := by omega
    have h3 : (100 : Int) ≤ (2 ^ 63 - 1) / (n : Int) := by
      rw [Int.le_ediv_iff_mul_le (by omega)]
      omega
    omega
  · rw [Int.toNat_natCast]
    unfold Builtin.Str.tooLong
    have := sizeLine_eq
    simp
    omega
/-- list(text) -/
theorem call_listS (hc : X.calm = true) : CallR X (.type "list") (fun xs H Q => ∃ z : Str, xs = [.str z] ∧ z.cps.size ≤ 100000 ∧ ∀ q, H q = none → Q (.ref q) (upd H q (.lst (z.cps.toList.map fun c => V.str ⟨#[c]⟩)))) := by
  intro pins s σ H xs us Q I r h
  obtain ⟨z, e, hz, q⟩ := h
  subst e
  obtain ⟨u, eu, rx⟩ := vals1 r
  subst eu
  obtain ⟨t, rfl⟩ := rx
  have hz2 : z.cps.size ≤ sizeLine := by rw [sizeLine_eq]; omega
  refine call_list_str (I.ok.hd hc) z t (fun h' tk acc' c' hkeep hS hacc => ?_) hz2
  refine ⟨.ref s.heap.objs.size, upd H s.heap.objs.size (.lst (z.cps.toList.map fun c => V.str ⟨#[c]⟩)), I.laid hkeep (Nat.le_refl _) (show ObjOk X.prog X.w _ _ _ (.lst (z.cps.toList.map fun c => V.str ⟨#[c]⟩)) from ⟨?_, acc'.toList, c', ?_, ?_⟩), rfl, q _ (I.hok.fresh (Nat.le_refl _))⟩
  · rw [List.length_map, Array.length_toList]; exact hz2
  · refine vals_of_at (by rw [List.length_map, Array.length_toList, Array.length_toList, hacc.1]) fun j x w h1 h2 => ?_
    obtain ⟨c, u, hc, hi⟩ := hacc.2 j w (by rw [← Array.getElem?_toList]; exact h2)
    rw [List.getElem?_map, Array.getElem?_toList, hc] at h1
    cases h1
    rw [hi]
    exact ⟨_, rfl⟩
  · rw [Array.toArray_toList]; exact hS
end
end Rg

namespace K15
open PySem PySem.Spec PyProof.Rows L2 Rg
def topS (i : Nat) : Stmt := PySem.Challenge.pw_builttexts_k15_texts_refused.main.body.getD i (.Pass ⟨0, 0, 0, 0⟩)
abbrev sTake : Stmt := topS 40
theorem scTake : FnScope ["_law_bag_here", "_law_many", "_law_cell", "_law_mixed", "_law_drawn", "_law_early", "_law_second"] ["_law_bag_here", "_law_many"] (defScope sTake) :=
  ⟨rfl, rfl, rfl, by decide +kernel, rfl, by decide +kernel, by decide +kernel⟩

section
variable {P : Program} {w : World} {K : PySem.W.Frag} {mg : Str → Option Value} {base : Heap}

theorem ok_take {f : Addr} {fd : FuncData} {k : Nat} (F : Fun K "_law_take" "_law_take" sTake f fd) (mi : mg "int" = none) :
    FnOk P w K mg base CX0 (k + 1) f fd ["_law_bag_here", "_law_many"] spTake := by
  refine F.ok scTake (fun vs H Q E h => ?_) (fun cdv A outer s H vs Q E hr h => ?_)
  · obtain ⟨g, l, m, rfl, _⟩ := h
    rfl
  · obtain ⟨g, l, m, rfl, hB, hm0, hm1, q⟩ := h
    refine ⟨_, C8.pss_cut (ps_if (pt_cmpR op_eq (pe_ix ix_list (pv 0) pe_int (fun _ _ => rfl)) pe_int (nomark _))
        (pss_cons (ps_set (i := 2) scTake.nd rfl (.inl rfl) (pe_ix ix_list (pe_op op_cat (pe_slice sl_list (pe_ix ix_list (pv 0) pe_int (fun _ _ => rfl)) (po_some (pe_ix ix_list (pv 0) pe_int (fun _ _ => rfl))) po_none)
            (pe_lst (pa_cons pe_int pa_nil))) pe_int (fun _ _ => rfl)))
        (pss_cons (ps_augS (pv 0) pe_int get_listN pe_int ip_add set_list)
        (pss_cons (ps_asg (pe_op op_mul (pv 2) (pe_callTy call_int1 (by rfl) mi bInt (pa_cons (pe_cmpR op_ge (pv 2) (pe_op op_pow pe_int pe_int) (nomark _)) pa_nil))) (pg_sub (pv 0) pe_int set_list))
        (pss_cons (ps_set (i := 3) scTake.nd rfl (.inl rfl) (pe_op op_add (pe_op op_add (pe_op op_mul (pe_ix ix_list (pv 0) pe_int (fun _ _ => rfl)) pe_int)
            (pe_op op_mod (pe_callTy call_int1 (by rfl) mi bInt (pa_cons (pv 2) pa_nil)) pe_int)) (pe_op op_mul pe_int (pe_ix ix_list (pv 0) pe_int (fun _ _ => rfl)))))
        (pss_one (ps_asg (pe_op op_mod (pe_callTy call_int1 (by rfl) mi bInt (pa_cons (pv 3) pa_nil)) pe_int) (pg_sub (pv 0) pe_int set_list))))))) pss_nil)
      (pss_cons (ps_if (pt_cmpR op_gt (pe_ix ix_list (pv 0) pe_int (fun _ _ => rfl)) pe_int (nomark _))
        (pss_cons (ps_set (i := 4) scTake.nd rfl (.inl rfl) (pe_op op_mod (pe_callTy call_int1 (by rfl) mi bInt (pa_cons (pe_ix ix_list (pv 0) pe_int (fun _ _ => rfl)) pa_nil)) (pv 1)))
        (pss_cons (ps_asg (pe_op op_fdiv (pe_callTy call_int1 (by rfl) mi bInt (pa_cons (pe_ix ix_list (pv 0) pe_int (fun _ _ => rfl)) pa_nil)) (pv 1)) (pg_sub (pv 0) pe_int set_list))
        (pss_one (ps_ret (pv 4))))) pss_nil)
      (pss_cons (ps_set (i := 5) scTake.nd rfl (.inl rfl) (pe_op op_mod (pe_callTy call_int1 (by rfl) mi bInt (pa_cons (pe_op op_mul (pe_op op_add (pe_ix ix_list (pv 0) pe_int (fun _ _ => rfl)) pe_int) pe_int) pa_nil)) pe_int))
      (pss_cons (ps_set (i := 6) scTake.nd rfl (.inl rfl) (pe_op op_mod (pe_callTy call_int1 (by rfl) mi bInt (pa_cons (pe_op op_mul (pe_op op_mod (pe_callTy call_int1 (by rfl) mi bInt (pa_cons (pe_op op_mul (pv 5) (pv 5)) pa_nil)) pe_int) pe_int) pa_nil)) pe_int))
      (pss_one (ps_ret (pe_op op_mod (pe_callTy call_int1 (by rfl) mi bInt (pa_cons (pe_op op_fdiv (pv 6) pe_int) pa_nil)) (pv 1))))))), ?_⟩
    have pA : (0 : Int) < 2147483647 := by decide
    have pB : (0 : Int) < 1000000007 := by decide
    have pC : (0 : Int) < 998244353 := by decide
    refine ⟨fun σ H1 => ∃ c d : Option V, σ = [some (.ref g), some (.int m), c, d, none, none, none] ∧ Bag H1 g l ∧ But g H H1, ?_, ?_⟩
    · obtain ⟨x0, x1, x2, cs, hg, hl, h0, h1, h2, hc, hcl⟩ := id hB
      have ngl : l ≠ g := ne_of hl hg bag_ne
      refine ⟨_, rfl, g, _, 0, _, rfl, rfl, SqL.of hg, atI_nat (j := 0) rfl, rfl, _, rfl, ite2 (fun e => ?_) (fun e => ?_)⟩
      · -- a new cell
        refine ⟨_, rfl, g, _, 3, _, rfl, rfl, SqL.of hg, atI_nat (j := 3) rfl, _, rfl, g, _, 2, _, rfl, rfl, SqL.of hg, atI_nat (j := 2) rfl, x2, rfl, l, _, rfl, SqL.of hl, fun p1 n1 => ?_⟩
        obtain ⟨zs, ez, hz, hzl⟩ := cut_ints cs (some x2) none
        rw [ez]
        refine ⟨by show 1 ≤ sizeLine; decide, fun p2 n2 => ?_⟩
        have n12 : p1 ≠ p2 := by
          intro z
          rw [← z, upd_same] at n2
          cases n2
        refine ⟨p1, p2, _, _, rfl, rfl, by rw [upd_ne n12, upd_same], upd_same, ?_, fun p3 n3 => ?_⟩
        · rw [List.length_map]
          exact Nat.le_of_lt (small1000 (by show zs.length + 1 ≤ 1000; omega))
        obtain ⟨c, hc0, ec⟩ : ∃ c : Int, 0 ≤ c ∧ (zs.map V.int ++ [V.int 0])[0]? = some (.int c) := by
          cases zs with
          | nil => exact ⟨0, by decide, rfl⟩
          | cons z r => exact ⟨z, hc z (hz z List.mem_cons_self), rfl⟩
        refine ⟨p3, _, 0, _, rfl, rfl, SqL.of upd_same, atI_nat (j := 0) ec, ?_⟩
        have B1 : But g H (upd H p1 (.lst (zs.map V.int))) := (But.refl g H).new n1
        have B2 := B1.new (o := .lst [.int 0]) n2
        have B3 := B2.new (o := .lst (zs.map V.int ++ [V.int 0])) n3
        have b1 := hB.new (o := .lst (zs.map V.int)) n1
        have b2 := b1.new (o := .lst [.int 0]) n2
        have b3 := b2.new (o := .lst (zs.map V.int ++ [V.int 0])) n3
        have nl1 : l ≠ p1 := ne_of_none hl n1
        have ng1 : g ≠ p1 := ne_of_none hg n1
        have ng2 : g ≠ p2 := ne_of_none (by rw [upd_ne ng1]; exact hg) n2
        have ng3 : g ≠ p3 := ne_of_none (by rw [upd_ne ng2, upd_ne ng1]; exact hg) n3
        have l3 := B3 l _ ngl hl
        have g3 : (upd (upd (upd H p1 (.lst (zs.map V.int))) p2 (.lst [.int 0])) p3 (.lst (zs.map V.int ++ [V.int 0]))) g = some (BagL x0 x1 x2 l) := by
          rw [upd_ne ng3, upd_ne ng2, upd_ne ng1]
          exact hg
        generalize (upd (upd (upd H p1 (.lst (zs.map V.int))) p2 (.lst [.int 0])) p3 (.lst (zs.map V.int ++ [V.int 0]))) = H3 at B3 b3 l3 g3
        -- bag[2] += 1
        refine ⟨_, rfl, g, _, 2, _, rfl, rfl, SqL.of g3, rfl, _, _, rfl, rfl, g, _, 2, 2, rfl, rfl, g3, rfl, ?_⟩
        have B4 : But g H (upd H3 g (BagL x0 x1 (x2 + 1) l)) := B3.self
        have l4 := B4 l _ ngl hl
        -- bag[0] = cell * int(cell >= 10 ** 18)
        refine ⟨_, rfl, _, rfl, 10, 18, rfl, rfl, ⟨by decide, by decide, by decide⟩, _, _, rfl, rfl, .inr ⟨_, rfl, _, _, rfl, rfl, ?_, ?_⟩⟩
        · right
          split <;> decide
        have hy0 : 0 ≤ c * (if decide ((10 : Int) ^ (18 : Int).toNat ≤ c) then 1 else 0) := by
          split <;> omega
        refine ⟨_, rfl, g, _, 0, 0, rfl, rfl, upd_same, rfl, ?_⟩
        rw [upd_upd]
        -- mixed
        refine ⟨_, rfl, g, _, 1, _, rfl, rfl, SqL.of upd_same, atI_nat (j := 1) rfl, _, _, rfl, rfl, .inr ⟨by decide, by decide⟩, _, rfl, .inl ⟨_, rfl, _, _, rfl, rfl, pA, _, _, rfl, rfl, _, rfl, g, _, 2, _, rfl, rfl, SqL.of upd_same, atI_nat (j := 2) rfl, _, _, rfl, rfl, .inl ⟨by decide, by decide⟩, _, _, rfl, rfl, ?_⟩⟩
        refine ⟨_, rfl, .inl ⟨_, rfl, _, _, rfl, rfl, pA, _, rfl, g, _, 1, 1, rfl, rfl, upd_same, rfl, ?_⟩⟩
        rw [upd_upd]
        refine ⟨_, _, rfl, ⟨_, _, x2 + 1, cs, upd_same, ?_, hy0, Int.emod_nonneg _ (by decide), by omega, hc, hcl⟩, B3.self⟩
        rw [upd_ne ngl]
        exact l3
      · exact ⟨none, none, rfl, hB, .refl g H⟩
    · rintro σ H1 ⟨c, d, rfl, hB1, B1⟩
      obtain ⟨x0, x1, x2, cs, hg, hl, h0, h1, h2, hc, hcl⟩ := id hB1
      have ngl : l ≠ g := ne_of hl hg bag_ne
      refine ⟨_, rfl, g, _, 0, _, rfl, rfl, SqL.of hg, atI_nat (j := 0) rfl, _, _, rfl, rfl, _, rfl, ite2 (fun e => ?_) (fun e => ?_)⟩
      · refine ⟨_, rfl, g, _, 0, _, rfl, rfl, SqL.of hg, atI_nat (j := 0) rfl, .inl ⟨_, rfl, _, rfl, _, _, rfl, rfl, hm0, ?_⟩⟩
        refine ⟨_, rfl, g, _, 0, _, rfl, rfl, SqL.of hg, atI_nat (j := 0) rfl, .inl ⟨_, rfl, _, rfl, _, _, rfl, rfl, ⟨hm0, hm1⟩, _, rfl, g, _, 0, 0, rfl, rfl, hg, rfl, ?_⟩⟩
        refine ⟨_, rfl, ?_⟩
        have en : ((x0 % m).toNat : Int) = x0 % m := Int.toNat_of_nonneg (Int.emod_nonneg _ (by omega))
        have lt := Int.emod_lt_of_pos x0 hm0
        have := q (upd H1 g (BagL (x0 / m) x1 x2 l)) (x0 % m).toNat (by rw [en]; exact lt)
          ⟨x0 / m, x1, x2, cs, upd_same, by rw [upd_ne ngl]; exact hl, Int.ediv_nonneg h0 (by omega), h1, h2, hc, hcl⟩ B1.self
        unfold nV at this
        rw [en] at this
        exact this
      · refine ⟨_, rfl, g, _, 1, _, rfl, rfl, SqL.of hg, atI_nat (j := 1) rfl, _, _, rfl, rfl, _, _, rfl, rfl, .inr ⟨by decide, by decide⟩, .inl ⟨_, rfl, _, _, rfl, rfl, pB, ?_⟩⟩
        have e1 : 0 ≤ (x1 + 1) * 39373 % 1000000007 := Int.emod_nonneg _ (by decide)
        have e2 : (x1 + 1) * 39373 % 1000000007 < 1000000007 := Int.emod_lt_of_pos _ (by decide)
        have fin : ∀ z : Int, Q (V.int (z % m)) H1 := by
          intro z
          have en : ((z % m).toNat : Int) = z % m := Int.toNat_of_nonneg (Int.emod_nonneg _ (by omega))
          have lt := Int.emod_lt_of_pos z hm0
          have := q H1 (z % m).toNat (by rw [en]; exact lt) hB1 B1
          unfold nV at this
          rw [en] at this
          exact this
        refine ⟨_, rfl, _, rfl, _, _, rfl, rfl, .inl ⟨Int.lt_of_lt_of_le (by decide) e1, Int.lt_trans e2 (by decide)⟩, .inl ⟨_, rfl, _, _, rfl, rfl, pC, _, _, rfl, rfl, .inr ⟨by decide, by decide⟩, .inl ⟨_, rfl, _, _, rfl, rfl, pC, ?_⟩⟩⟩
        exact ⟨_, rfl, _, _, rfl, rfl, ⟨by decide, by decide⟩, .inl ⟨_, rfl, _, rfl, _, _, rfl, rfl, hm0, fin _⟩⟩
end
end K15

namespace K15
open PySem PySem.Spec PyProof.Rows L2 Rg Mach
abbrev sIsInt : Stmt := topS 10
abbrev sIsSg : Stmt := topS 11
abbrev sIsNum : Stmt := topS 13
abbrev sAreR : Stmt := topS 28
theorem scIsInt : FnScope ["thing"] ["thing"] (defScope sIsInt) := ⟨rfl, rfl, rfl, by decide +kernel, rfl, by decide +kernel, by decide +kernel⟩
theorem scIsNum : FnScope ["many", "thing"] ["many", "thing"] (defScope sIsNum) := ⟨rfl, rfl, rfl, by decide +kernel, rfl, by decide +kernel, by decide +kernel⟩
def nIsSg : List Str := ["thing", "letter", "one", "other"]
theorem scIsSg : FnScope nIsSg ["thing"] (defScope sIsSg) := ⟨rfl, rfl, rfl, by decide +kernel, rfl, by decide +kernel, by decide +kernel⟩
def nAreR : List Str := ["wide", "thing", "row", "there"]
theorem scAreR : FnScope nAreR ["wide", "thing"] (defScope sAreR) := ⟨rfl, rfl, rfl, by decide +kernel, rfl, by decide +kernel, by decide +kernel⟩
section
variable {P : Program} {w : World} {K : PySem.W.Frag} {mg : Str → Option Value} {base : Heap}
theorem ok_isInt {f : Addr} {fd : FuncData} {k : Nat} (F : Fun K "is_integer" "is_integer" sIsInt f fd) (mis : mg "isinstance" = none) (mi : mg "int" = none) (mb : mg "bool" = none) :
    FnOk P w K mg base CX0 (k + 1) f fd ["thing"] spIsInt := by
  refine F.ok scIsInt (fun vs H Q E h => ?_) (fun cdv A outer s H vs Q E hr h => ?_)
  · obtain ⟨i, rfl, _⟩ := h
    rfl
  · obtain ⟨i, rfl, q⟩ := h
    refine ⟨_, pss_one (ps_ret (pe_and (pe_callB call_isi (by rfl) mis bIsi (pa_cons (pv 0) (pa_cons (pe_bltn (v := .ty "int") (by rfl) mi bInt rfl) pa_nil)))
      (pe_one (pe_not (pe_callB call_isi (by rfl) mis bIsi (pa_cons (pv 0) (pa_cons (pe_bltn (v := .ty "bool") (by rfl) mb bBool rfl) pa_nil))))))), ?_⟩
    refine ⟨_, rfl, _, _, _, _, true, rfl, .ty "int", .base (.int i), kit_ty (by decide +kernel), true, rfl, ?_⟩
    exact ⟨_, rfl, _, _, _, _, false, rfl, .ty "bool", .base (.int i), kit_ty (by decide +kernel), false, rfl, q⟩
theorem ok_isNum {f fI : Addr} {fd fdI : FuncData} {k : Nat} (F : Fun K "is_number" "is_number" sIsNum f fd)
    (FI : Fun K "is_integer" "is_integer" sIsInt fI fdI) (bI : Binds K fdI ["thing"] []) (gI : mg "is_integer" = some (.ref fI)) (mis : mg "isinstance" = none) (mi : mg "int" = none) (mb : mg "bool" = none) :
    FnOk P w K mg base CX0 (k + 2) f fd ["many", "thing"] spIsNum := by
  have GI : FnOk P w K mg base CX0 (k + 1) fI fdI ["thing"] spIsInt := ok_isInt FI mis mi mb
  refine F.ok scIsNum (fun vs H Q E h => ?_) (fun cdv A outer s H vs Q E hr h => ?_)
  · obtain ⟨m, i, rfl, _⟩ := h
    rfl
  · obtain ⟨m, i, rfl, q⟩ := h
    refine ⟨_, pss_one (ps_ret (pe_and (pe_call GI hr (by rfl) gI FI.kp bI .nil pass0 (pa_cons (pv 1) pa_nil)) (pe_one (pe_chain op_le op_lt pe_int (pv 1) (pv 0))))), ?_⟩
    refine ⟨_, rfl, i, rfl, true, rfl, ?_⟩
    refine ⟨_, rfl, _, _, rfl, rfl, _, rfl, ?_⟩
    by_cases h0 : (0 : Int) ≤ i
    · rw [decide_eq_true h0, Bool.true_and] at q
      exact ite2 (fun _ => ⟨_, rfl, _, _, rfl, rfl, q⟩) (fun z => absurd (decide_eq_true h0) z)
    · rw [decide_eq_false h0, Bool.false_and] at q
      exact ite2 (fun z => absurd (of_decide_eq_true z) h0) (fun _ => q)
theorem ok_isSg {f : Addr} {fd : FuncData} {k : Nat} (F : Fun K "is_signs" "is_signs" sIsSg f fd) {uL uM : Value} (gL : mg "LETTERS" = some uL) (rL : RelV (.str letters) uL) (gM : mg "MOST_SIGNS" = some uM) (rM : RelV (.int 4) uM)
    (mis : mg "isinstance" = none) (ms : mg "str" = none) (ml : mg "len" = none) (ma : mg "all" = none) (mz : mg "zip" = none) :
    FnOk P w K mg base CX0 (k + 1) f fd ["thing"] spIsSg := by
  refine F.ok scIsSg (fun vs H Q E h => ?_) (fun cdv A outer s H vs Q E hr h => ?_)
  · obtain ⟨z, rfl, _⟩ := h
    rfl
  · obtain ⟨z, rfl, hz, q⟩ := h
    refine ⟨_, pss_cons (ps_if (pw_or (pt_not (pt_val (pe_callB call_isi (by rfl) mis bIsi (pa_cons (pv 0) (pa_cons (pe_bltn (v := .ty "str") (by rfl) ms bStr rfl) pa_nil)))))
        (pw_or1 (pt_not (pt_chain op_le op_le pe_int (pe_callB call_len_str (by rfl) ml bLen (pa_cons (pv 0) pa_nil)) (pe_glob (by rfl) gM rM))))).pt (pss_one (ps_ret pe_bl)) pss_nil)
      (pss_cons (ps_if (pt_not (pt_val (pe_callB (cr_all rfl) (by rfl) ma bAll (pa_cons (pe_lc (own := [("letter", 1)]) (g := gName 1) (tt := tYes) (te := tOp (fun x y H Q => ∃ (c : Nat) (z : Str), x = .str ⟨#[c]⟩ ∧ y = .str z ∧ Q (.bl (decide (c ∈ z.cps.toList))) H) (tVar 1) (tC (.str letters))) rfl scIsSg.nd (pi_str (pv 0)) (blkOk_by (own := [("letter", 1)]) (N := nIsSg) (sc := defScope sIsSg) (by decide +kernel))
          (fun _ _ _ _ _ => pg_name (i := 1) scIsSg.nd rfl (Or.inl rfl)) (fun _ _ _ _ _ => pts_nil) (fun _ _ _ _ _ => pe_cmpR op_in_sign (pv 1) (pe_glob (by rfl) gL rL) rfl)) pa_nil)))) (pss_one (ps_ret pe_bl)) pss_nil)
      (pss_one (ps_ret (pe_callB (cr_all rfl) (by rfl) ma bAll (pa_cons (pe_lc (own := [("one", 2), ("other", 3)]) (g := gTup K 2 (gCons (gName 2) (gCons (gName 3) gNil))) (tt := tYes) (te := tOp (fun x y H Q => ∃ i j, x = .str i ∧ y = .str j ∧ Q (.bl (decide (i.cps.toList < j.cps.toList))) H) (tVar 2) (tVar 3)) rfl scIsSg.nd (pi_zipS (by rfl) mz (pa_cons (pv 0) (pa_cons (pe_slice sl_str (pv 0) (po_some pe_int) po_none) pa_nil))) (blkOk_by (own := [("one", 2), ("other", 3)]) (N := nIsSg) (sc := defScope sIsSg) (by decide +kernel))
          (fun _ _ _ _ _ => pg_tup rfl (pgs_cons (pg_name (i := 2) scIsSg.nd rfl (Or.inl rfl)) (pgs_cons (pg_name (i := 3) scIsSg.nd rfl (Or.inl rfl)) pgs_nil))) (fun _ _ _ _ _ => pts_nil) (fun _ _ _ _ _ => pe_cmpR op_lt_str (pv 2) (pv 3) (nomark _))) pa_nil))))), ?_⟩
    have hlen : z.length = z.cps.size := rfl
    have h1 := hz.pos
    have h4 := hz.few
    refine ⟨_, rfl, _, _, _, _, true, rfl, .ty "str", .base (.str z), kit_ty (by decide +kernel), true, rfl, ?_⟩
    refine ⟨_, rfl, _, rfl, by rw [hlen]; exact szBigLe (by omega), _, _, rfl, rfl, _, rfl, ?_⟩
    refine ite2 (fun _ => ?_) (fun y => absurd (decide_eq_true (show (1 : Int) ≤ (z.length : Nat) by rw [hlen]; omega)) y)
    refine ⟨_, _, rfl, rfl, _, rfl, ?_⟩
    rw [decide_eq_true (show ((z.length : Nat) : Int) ≤ 4 by rw [hlen]; omega)]
    -- all letters
    refine ⟨_, rfl, z, rfl, fun D1 nD1 => ?_⟩
    refine lc_str (x := z) (fun i H1 => Same H H1 ∧ H1 D1 = some (.lst (List.replicate i (V.bl true)))) ⟨same_new nD1, upd_same⟩ ?_ ?_
    · rintro i c H1 hc ⟨s1, hD⟩
      have hil : i < z.cps.size := (Array.getElem?_eq_some_iff.mp hc).1
      refine ⟨rfl, ?_⟩
      refine ⟨_, rfl, c, letters, rfl, rfl, _, hD, by rw [List.length_replicate]; exact szBig (by omega), ?_, ?_⟩
      · intro b o e
        rw [upd_ne (ne_of_none e nD1)]
        exact s1 _ _ e
      · rw [upd_same, decide_eq_true (hz.in_ hc), rep_snoc]
    rintro H1 ⟨s1, hD⟩
    refine ⟨D1, List.replicate z.cps.size true, rfl, SqL.of (by rw [replicate_bl]; exact hD), _, rfl, ?_⟩
    rw [all_true (fun b hb => List.eq_of_mem_replicate hb)]
    -- rising
    refine ⟨_, rfl, _, rfl, 1, rfl, z, rfl, by rw [hlen]; exact szBigLe (by omega), z, cutS z (some 1) none, rfl, fun D2 nD2 => ?_⟩
    have hcs := cut1_size z
    refine lc_zipS (x := z) (y := cutS z (some 1) none) (fun i H2 => Same H1 H2 ∧ H2 D2 = some (.lst (List.replicate i (V.bl true)))) ⟨same_new nD2, upd_same⟩ ?_ ?_
    · rintro i c d T H2 hc hd ⟨s2, hD2⟩ nT
      have hil : i < z.cps.size := (Array.getElem?_eq_some_iff.mp hc).1
      have nTD : T ≠ D2 := (ne_of_none hD2 nT).symm
      refine ⟨T, _, rfl, SqT.of upd_same, rfl, _, _, rfl, _, _, rfl, rfl, rfl, ?_⟩
      refine ⟨_, rfl, _, rfl, _, _, rfl, rfl, _, by rw [upd_ne nTD.symm]; exact hD2, by rw [List.length_replicate]; exact szBig (by omega), ?_, ?_⟩
      · intro b o e
        rw [upd_ne (ne_of_none e nD2), upd_ne (ne_of_none (s2 _ _ e) nT)]
        exact s2 _ _ e
      · rw [upd_same, one_lt (hz.lt hc (cutS_one z h1 i d hd)), rep_snoc]
    rintro H2 ⟨s2, hD2⟩
    refine ⟨D2, List.replicate (min z.cps.size (cutS z (some 1) none).cps.size) true, rfl, SqL.of (by rw [replicate_bl]; exact hD2), ?_⟩
    rw [all_true (fun b hb => List.eq_of_mem_replicate hb)]
    exact q H2 (s1.trans s2)
theorem ok_areR {f fN fI : Addr} {fd fdN fdI : FuncData} {k : Nat} (F : Fun K "are_rows" "are_rows" sAreR f fd)
    (FN : Fun K "is_number" "is_number" sIsNum fN fdN) (bN : Binds K fdN ["many", "thing"] []) (gN : mg "is_number" = some (.ref fN))
    (FI : Fun K "is_integer" "is_integer" sIsInt fI fdI) (bI : Binds K fdI ["thing"] []) (gI : mg "is_integer" = some (.ref fI))
    (mis : mg "isinstance" = none) (mi : mg "int" = none) (mb : mg "bool" = none) (mli : mg "list" = none) (ml : mg "len" = none) (ma : mg "all" = none) :
    FnOk P w K mg base CX0 (k + 3) f fd ["wide", "thing"] spAreR := by
  have GN : FnOk P w K mg base CX0 (k + 2) fN fdN ["many", "thing"] spIsNum := ok_isNum FN FI bI gI mis mi mb
  refine F.ok scAreR (fun vs H Q E h => ?_) (fun cdv A outer s H vs Q E hr h => ?_)
  · obtain ⟨n, a, xs, R, rfl, _⟩ := h
    rfl
  · obtain ⟨n, a, xs, R, rfl, hR, hM, h0, hl, hn, q⟩ := h
    have hxl := hR.len
    refine ⟨_, pss_cons (ps_if (pw_or (pt_not (pt_val (pe_callB call_isi (by rfl) mis bIsi (pa_cons (pv 1) (pa_cons (pe_bltn (v := .ty "list") (by rfl) mli bList rfl) pa_nil)))))
        (pw_or1 (pt_cmpR (op_eqD hr.units) (pv 1) (pe_lst pa_nil) (nomark _)))).pt (pss_one (ps_ret pe_bl)) pss_nil)
      (pss_cons (ps_for PassesOwn.never rfl (pi_list (pv 1)) (pg_name (i := 2) scAreR.nd rfl (.inl rfl))
        (pss_one (ps_if (pw_or (pt_not (pt_val (pe_callB call_isi (by rfl) mis bIsi (pa_cons (pv 2) (pa_cons (pe_bltn (v := .ty "list") (by rfl) mli bList rfl) pa_nil)))))
          (pw_or (pt_cmpR op_ne (pe_callB call_len_seq (by rfl) ml bLen (pa_cons (pv 2) pa_nil)) (pv 0) (nomark _))
          (pw_or1 (pt_not (pt_val (pe_callB (cr_all rfl) (by rfl) ma bAll (pa_cons (pe_lc (own := [("there", 3)]) (g := gName 3) (tt := tYes) (te := tCall spIsNum [] E0 (tCons (tCB (fun xs H Q => ∃ p ys, xs = [V.ref p] ∧ (SqL K H p ys ∨ SqT K H p ys) ∧ Q (V.int (ys.length : Nat)) H) (tCons (tVar 1) tNil)) (tCons (tVar 3) tNil))) rfl scAreR.nd (pi_list (pv 2)) (blkOk_by (own := [("there", 3)]) (N := nAreR) (sc := defScope sAreR) (by decide +kernel))
            (fun _ _ _ _ _ => pg_name (i := 3) scAreR.nd rfl (Or.inl rfl)) (fun _ _ _ _ _ => pts_nil) (fun _ _ _ _ _ => pe_call GN hr (by rfl) gN FN.kp bN .nil pass0 (pa_cons (pe_callB call_len_seq (by rfl) ml bLen (pa_cons (pv 1) pa_nil)) (pa_cons (pv 3) pa_nil)))) pa_nil))))))).pt (pss_one (ps_ret pe_bl)) pss_nil)))
      (pss_one (ps_ret pe_bl))), ?_⟩
    refine ⟨_, rfl, _, _, _, _, true, rfl, .ty "list", .base (.lst hR.at_), kit_ty (by decide +kernel), true, rfl, ?_⟩
    refine ⟨_, rfl, by show 0 ≤ sizeLine; decide, fun pn nn => ?_⟩
    have s1 : Same H (upd H pn (.lst [])) := same_new nn
    have hR1 := hR.same s1
    refine ⟨dRs R, .list [], dp_rows hR1, .lst (SqL.of upd_same) .nil, shp_dRs R, shp_nil, _, rfl, ?_⟩
    rw [eqv_dRs_nil h0]
    generalize (upd H pn (.lst [])) = H1 at s1 hR1
    refine ⟨_, rfl, a, rfl, ⟨_, SqL.of hR1.at_⟩, ?_⟩
    refine for_list (K := K) (a := a) (xs := xs.map V.ref) (fun j σ H2 => ∃ y : Option V, σ = [some (nV n), some (.ref a), y, none] ∧ Same H1 H2) ⟨none, rfl, fun _ _ z => z⟩ (fun j σ H2 _ ⟨_, _, s2⟩ => SqL.of (s2 _ _ hR1.at_)) ?_ ?_
    · rintro j v σ H2 hj ⟨y, rfl, s2⟩
      rw [List.getElem?_map] at hj
      obtain ⟨x, hx, rfl⟩ := Option.map_eq_some_iff.mp hj
      have hjl : j < R.length := by rw [← hxl]; exact (List.getElem?_eq_some_iff.mp hx).1
      have hx2 := s2 _ _ (hR1.row j x hx)
      have ha2 := s2 _ _ hR1.at_
      have hw := hM.wide j hjl
      refine ⟨_, rfl, _, _, _, _, true, rfl, .ty "list", .base (.lst hx2), kit_ty (by decide +kernel), true, rfl, ?_⟩
      refine ⟨_, rfl, x, _, rfl, .inl (SqL.of hx2), _, rfl, rfl, _, rfl, ?_⟩
      rw [nVs_len, hw, decide_eq_true (show V.int ((n : Nat) : Int) = nV n from rfl)]
      refine ⟨_, rfl, x, rfl, ⟨_, SqL.of hx2⟩, fun D1 nD1 => ?_⟩
      refine lc_list (K := K) (a := x) (xs := nVs (rowOf R j)) (fun i H3 => Same H2 H3 ∧ H3 D1 = some (.lst (List.replicate i (V.bl true)))) ⟨same_new nD1, upd_same⟩ (fun i H3 _ ⟨s3, _⟩ => SqL.of (s3 _ _ hx2)) ?_ ?_
      · rintro i v H3 hi ⟨s3, hD⟩
        obtain ⟨t, rfl, ht⟩ := nVs_at hi
        have hil := (List.getElem?_eq_some_iff.mp ht).1
        have htl := hM.lt j hjl t (List.mem_of_getElem? ht)
        refine ⟨rfl, ?_⟩
        refine ⟨_, rfl, a, _, rfl, .inl (SqL.of (s3 _ _ ha2)), _, rfl, _, _, rfl, _, hD, by rw [List.length_replicate]; exact szBig (by omega), ?_, ?_⟩
        · intro b o e
          rw [upd_ne (ne_of_none e nD1)]
          exact s3 _ _ e
        · rw [upd_same, decide_eq_true (show (0 : Int) ≤ (t : Int) by omega), decide_eq_true (show (t : Int) < ((xs.map V.ref).length : Nat) by rw [List.length_map]; omega), Bool.and_self, rep_snoc]
      rintro H3 ⟨s3, hD⟩
      refine ⟨D1, List.replicate (nVs (rowOf R j)).length true, rfl, SqL.of (by rw [replicate_bl]; exact hD), _, rfl, ?_⟩
      rw [all_true (fun b hb => List.eq_of_mem_replicate hb)]
      exact ⟨_, rfl, s2.trans s3⟩
    · rintro σ H2 ⟨y, rfl, s2⟩
      exact q H2 (s1.trans s2)
end
end K15

/-! what values are: of any thing -/
namespace K15
open PySem PySem.Spec PyProof.Rows L2 Rg Mach
theorem szK {n : Nat} (h : n ≤ 100000) : n < sizeLine := by rw [sizeLine_eq]; omega
theorem szKe {n : Nat} (h : n ≤ 100000) : n ≤ sizeLine := Nat.le_of_lt (szK h)
section
variable {P : Program} {w : World} {K : PySem.W.Frag} {mg : Str → Option Value} {base : Heap}
theorem ok_isIntQ {f C : Addr} {fd : FuncData} {k : Nat} (F : Fun K "is_integer" "is_integer" sIsInt f fd) (O : OwnC K C) (mis : mg "isinstance" = none) (mi : mg "int" = none) (mb : mg "bool" = none) :
    FnOk P w K mg base CX0 (k + 1) f fd ["thing"] (spIsIntQ K C) := by
  refine F.ok scIsInt (fun vs H Q E h => ?_) (fun cdv A outer s H vs Q E hr h => ?_)
  · obtain ⟨v, t, rfl, _⟩ := h
    rfl
  · obtain ⟨v, t, rfl, hv, q⟩ := h
    refine ⟨_, pss_one (ps_ret (pe_and (pe_callB call_isi (by rfl) mis bIsi (pa_cons (pv 0) (pa_cons (pe_bltn (v := .ty "int") (by rfl) mi bInt rfl) pa_nil)))
      (pe_one (pe_not (pe_callB call_isi (by rfl) mis bIsi (pa_cons (pv 0) (pa_cons (pe_bltn (v := .ty "bool") (by rfl) mb bBool rfl) pa_nil))))))), ?_⟩
    obtain ⟨_, _, kc, kt, kk⟩ := hv.qI O
    refine ⟨_, rfl, _, _, _, _, _, rfl, kc, kt, kk, _, rfl, ite2 (fun e => ?_) (fun e => ?_)⟩
    · obtain ⟨_, _, kc, kt, kk⟩ := hv.qB O
      refine ⟨_, rfl, _, _, _, _, _, rfl, kc, kt, kk, _, rfl, ?_⟩
      have e2 : t.isW = !t.isB := by unfold Tg.isW; rw [e]; rfl
      rw [e2] at q
      exact q
    · have e2 : t.isW = false := by
        unfold Tg.isW
        rw [Bool.eq_false_iff.mpr e]
        rfl
      rw [e2] at q
      exact q
theorem ok_isNumQ {f C fI : Addr} {fd fdI : FuncData} {k : Nat} (F : Fun K "is_number" "is_number" sIsNum f fd) (O : OwnC K C)
    (FI : Fun K "is_integer" "is_integer" sIsInt fI fdI) (bI : Binds K fdI ["thing"] []) (gI : mg "is_integer" = some (.ref fI)) (mis : mg "isinstance" = none) (mi : mg "int" = none) (mb : mg "bool" = none) :
    FnOk P w K mg base CX0 (k + 2) f fd ["many", "thing"] (spIsNumQ K C) := by
  have GI : FnOk P w K mg base CX0 (k + 1) fI fdI ["thing"] (spIsIntQ K C) := ok_isIntQ FI O mis mi mb
  refine F.ok scIsNum (fun vs H Q E h => ?_) (fun cdv A outer s H vs Q E hr h => ?_)
  · obtain ⟨n, v, t, rfl, _⟩ := h
    rfl
  · obtain ⟨n, v, t, rfl, hv, q⟩ := h
    refine ⟨_, pss_one (ps_ret (pe_and (pe_call GI hr (by rfl) gI FI.kp bI .nil pass0 (pa_cons (pv 1) pa_nil)) (pe_one (pe_chain op_le op_lt pe_int (pv 1) (pv 0))))), ?_⟩
    refine ⟨_, rfl, v, t, rfl, hv, _, rfl, ite2 (fun e => ?_) (fun e => ?_)⟩
    · obtain ⟨i, rfl⟩ := Tg.isW_num e
      cases hv.int
      have e2 : numQ n (.dat (.int i)) = (decide (0 ≤ i) && decide (i < (n : Int))) := rfl
      rw [e2] at q
      refine ⟨_, rfl, _, _, rfl, rfl, _, rfl, ?_⟩
      by_cases h0 : (0 : Int) ≤ i
      · rw [decide_eq_true h0, Bool.true_and] at q
        exact ite2 (fun _ => ⟨_, rfl, _, _, rfl, rfl, q⟩) (fun z => absurd (decide_eq_true h0) z)
      · rw [decide_eq_false h0, Bool.false_and] at q
        exact ite2 (fun z => absurd (of_decide_eq_true z) h0) (fun _ => q)
    · rw [numQ_isW (Bool.eq_false_iff.mpr e)] at q
      exact q
theorem all_id_map {α : Type} (f : α → Bool) (l : List α) : (l.map f).all id = l.all f := by
  rw [List.all_map]
  rfl
theorem map_bl {α : Type} (f : α → Bool) (l : List α) : l.map (fun x => V.bl (f x)) = (l.map f).map V.bl := by
  rw [List.map_map]
  rfl
theorem ok_isSgQ {f C : Addr} {fd : FuncData} {k : Nat} (F : Fun K "is_signs" "is_signs" sIsSg f fd) (O : OwnC K C) {uL uM : Value} (gL : mg "LETTERS" = some uL) (rL : RelV (.str letters) uL) (gM : mg "MOST_SIGNS" = some uM) (rM : RelV (.int 4) uM)
    (mis : mg "isinstance" = none) (ms : mg "str" = none) (ml : mg "len" = none) (ma : mg "all" = none) (mz : mg "zip" = none) :
    FnOk P w K mg base CX0 (k + 1) f fd ["thing"] (spIsSgQ K C) := by
  refine F.ok scIsSg (fun vs H Q E h => ?_) (fun cdv A outer s H vs Q E hr h => ?_)
  · obtain ⟨v, t, rfl, _⟩ := h
    rfl
  · obtain ⟨v, t, rfl, hv, hfew, q⟩ := h
    refine ⟨_, pss_cons (ps_if (pw_or (pt_not (pt_val (pe_callB call_isi (by rfl) mis bIsi (pa_cons (pv 0) (pa_cons (pe_bltn (v := .ty "str") (by rfl) ms bStr rfl) pa_nil)))))
        (pw_or1 (pt_not (pt_chain op_le op_le pe_int (pe_callB call_len_str (by rfl) ml bLen (pa_cons (pv 0) pa_nil)) (pe_glob (by rfl) gM rM))))).pt (pss_one (ps_ret pe_bl)) pss_nil)
      (pss_cons (ps_if (pt_not (pt_val (pe_callB (cr_all rfl) (by rfl) ma bAll (pa_cons (pe_lc (own := [("letter", 1)]) (g := gName 1) (tt := tYes) (te := tOp (fun x y H Q => ∃ (c : Nat) (z : Str), x = .str ⟨#[c]⟩ ∧ y = .str z ∧ Q (.bl (decide (c ∈ z.cps.toList))) H) (tVar 1) (tC (.str letters))) rfl scIsSg.nd (pi_str (pv 0)) (blkOk_by (own := [("letter", 1)]) (N := nIsSg) (sc := defScope sIsSg) (by decide +kernel))
          (fun _ _ _ _ _ => pg_name (i := 1) scIsSg.nd rfl (Or.inl rfl)) (fun _ _ _ _ _ => pts_nil) (fun _ _ _ _ _ => pe_cmpR op_in_sign (pv 1) (pe_glob (by rfl) gL rL) rfl)) pa_nil)))) (pss_one (ps_ret pe_bl)) pss_nil)
      (pss_one (ps_ret (pe_callB (cr_all rfl) (by rfl) ma bAll (pa_cons (pe_lc (own := [("one", 2), ("other", 3)]) (g := gTup K 2 (gCons (gName 2) (gCons (gName 3) gNil))) (tt := tYes) (te := tOp (fun x y H Q => ∃ i j, x = .str i ∧ y = .str j ∧ Q (.bl (decide (i.cps.toList < j.cps.toList))) H) (tVar 2) (tVar 3)) rfl scIsSg.nd (pi_zipS (by rfl) mz (pa_cons (pv 0) (pa_cons (pe_slice sl_str (pv 0) (po_some pe_int) po_none) pa_nil))) (blkOk_by (own := [("one", 2), ("other", 3)]) (N := nIsSg) (sc := defScope sIsSg) (by decide +kernel))
          (fun _ _ _ _ _ => pg_tup rfl (pgs_cons (pg_name (i := 2) scIsSg.nd rfl (Or.inl rfl)) (pgs_cons (pg_name (i := 3) scIsSg.nd rfl (Or.inl rfl)) pgs_nil))) (fun _ _ _ _ _ => pts_nil) (fun _ _ _ _ _ => pe_cmpR op_lt_str (pv 2) (pv 3) (nomark _))) pa_nil))))), ?_⟩
    obtain ⟨_, _, kc, kt, kk⟩ := hv.qS O
    refine ⟨_, rfl, _, _, _, _, _, rfl, kc, kt, kk, _, rfl, ?_⟩
    by_cases hS : t.isS = true
    case neg =>
      have e1 := Bool.eq_false_iff.mpr hS
      rw [sgQ_no e1] at q
      rw [e1]
      exact q H fun _ _ z => z
    rw [hS]
    obtain ⟨z, rfl⟩ := Tg.isS_str hS
    cases hv.str
    have hz := few_str hfew
    have hlen : z.length = z.cps.size := rfl
    have hsg : sgQ (.dat (.str z)) = (decide (1 ≤ z.cps.size) && decide (z.cps.size ≤ 4) && decide (∀ c ∈ z.cps.toList, c ∈ letters.cps.toList) && decide (z.cps.toList.Pairwise (· < ·))) := rfl
    rw [hsg] at q
    refine ⟨_, rfl, _, rfl, szKe (by rw [hlen]; exact hz), _, _, rfl, rfl, _, rfl, ite2 (fun c1 => ?_) (fun c1 => ?_)⟩
    case _ =>
      have c1' := of_decide_eq_true c1
      have h1 : 1 ≤ z.cps.size := by rw [hlen] at c1'; omega
      refine ⟨_, _, rfl, rfl, _, rfl, ?_⟩
      by_cases h4 : z.cps.size ≤ 4
      case neg =>
        rw [decide_eq_false (show ¬ ((z.length : Nat) : Int) ≤ 4 by rw [hlen]; omega)]
        rw [decide_eq_false h4, Bool.and_false, Bool.false_and, Bool.false_and] at q
        exact q H fun _ _ z => z
      rw [decide_eq_true (show ((z.length : Nat) : Int) ≤ 4 by rw [hlen]; omega)]
      rw [decide_eq_true h4, decide_eq_true h1, Bool.true_and, Bool.true_and] at q
      -- all letters
      refine ⟨_, rfl, z, rfl, fun D1 nD1 => ?_⟩
      refine lc_str (x := z) (fun i H1 => Same H H1 ∧ H1 D1 = some (.lst ((z.cps.toList.take i).map fun c => V.bl (decide (c ∈ letters.cps.toList))))) ⟨same_new nD1, upd_same⟩ ?_ ?_
      · rintro i c H1 hc ⟨s1, hD⟩
        have hil : i < z.cps.size := (Array.getElem?_eq_some_iff.mp hc).1
        refine ⟨rfl, ?_⟩
        refine ⟨_, rfl, c, letters, rfl, rfl, _, hD, by rw [List.length_map, List.length_take]; exact szK (by omega), ?_, ?_⟩
        · intro b o e
          rw [upd_ne (ne_of_none e nD1)]
          exact s1 _ _ e
        · rw [upd_same, take_snoc (t := c) (by rw [Array.getElem?_toList]; exact hc), List.map_append]
          rfl
      rintro H1 ⟨s1, hD⟩
      rw [show z.cps.toList.take z.cps.size = z.cps.toList from List.take_of_length_le (by rw [Array.length_toList]; exact Nat.le_refl _), map_bl] at hD
      refine ⟨D1, _, rfl, SqL.of hD, _, rfl, ?_⟩
      rw [all_id_map]
      by_cases hL : ∀ c ∈ z.cps.toList, c ∈ letters.cps.toList
      case neg =>
        have e1 : (z.cps.toList.all fun c => decide (c ∈ letters.cps.toList)) = false := by
          rw [Bool.eq_false_iff]
          intro y
          exact hL fun c hc => of_decide_eq_true (List.all_eq_true.mp y c hc)
        rw [e1]
        rw [decide_eq_false hL, Bool.false_and] at q
        exact q H1 s1
      rw [List.all_eq_true.mpr fun c hc => decide_eq_true (hL c hc)]
      rw [decide_eq_true hL, Bool.true_and] at q
      -- rising
      refine ⟨_, rfl, _, rfl, 1, rfl, z, rfl, szKe (by rw [hlen]; exact hz), z, cutS z (some 1) none, rfl, fun D2 nD2 => ?_⟩
      have hcs := cut1_size z
      have hc2 := cut1_len z h1
      refine lc_zipS (x := z) (y := cutS z (some 1) none) (fun i H2 => Same H1 H2 ∧ H2 D2 = some (.lst ((List.range i).map fun j => V.bl (decide (z.cps.getD j 0 < z.cps.getD (j + 1) 0))))) ⟨same_new nD2, upd_same⟩ ?_ ?_
      · rintro i c d T H2 hc hd ⟨s2, hD2⟩ nT
        have hil : i < z.cps.size := (Array.getElem?_eq_some_iff.mp hc).1
        have nTD : T ≠ D2 := (ne_of_none hD2 nT).symm
        have hd' := cutS_one z h1 i d hd
        refine ⟨T, _, rfl, SqT.of upd_same, rfl, _, _, rfl, _, _, rfl, rfl, rfl, ?_⟩
        refine ⟨_, rfl, _, rfl, _, _, rfl, rfl, _, by rw [upd_ne nTD.symm]; exact hD2, by rw [List.length_map, List.length_range]; exact szK (by omega), ?_, ?_⟩
        · intro b o e
          rw [upd_ne (ne_of_none e nD2), upd_ne (ne_of_none (s2 _ _ e) nT)]
          exact s2 _ _ e
        · rw [upd_same, List.range_succ, List.map_append]
          have ec : z.cps.getD i 0 = c := by rw [Array.getD_eq_getD_getElem?, hc]; rfl
          have ed : z.cps.getD (i + 1) 0 = d := by rw [Array.getD_eq_getD_getElem?, hd']; rfl
          show some (HO.lst (_ ++ [V.bl (decide ([c] < [d]))])) = some (HO.lst (_ ++ [V.bl (decide (z.cps.getD i 0 < z.cps.getD (i + 1) 0))]))
          rw [ec, ed]
          congr 4
          simp only [List.cons_lt_cons_iff, List.not_lt_nil, and_false, or_false]
      rintro H2 ⟨s2, hD2⟩
      rw [hc2, Nat.min_eq_right (Nat.sub_le _ _), map_bl] at hD2
      refine ⟨D2, _, rfl, SqL.of hD2, ?_⟩
      rw [all_id_map]
      have e3 : ((List.range (z.cps.size - 1)).all fun j => decide (z.cps.getD j 0 < z.cps.getD (j + 1) 0)) = decide (z.cps.toList.Pairwise (· < ·)) := by
        rw [Bool.eq_iff_iff, List.all_eq_true, decide_eq_true_iff, rising_iff]
        constructor
        · intro y i c d hc hd
          rw [Array.getElem?_toList] at hc hd
          have hd2 := (Array.getElem?_eq_some_iff.mp hd).1
          have := of_decide_eq_true (y i (List.mem_range.mpr (by omega)))
          rw [Array.getD_eq_getD_getElem?, hc, Array.getD_eq_getD_getElem?, hd] at this
          exact this
        · intro y j hj
          have hj' := List.mem_range.mp hj
          have a1 : j < z.cps.size := by omega
          have a2 : j + 1 < z.cps.size := by omega
          refine decide_eq_true ?_
          rw [Array.getD_eq_getD_getElem?, Array.getD_eq_getD_getElem?, Array.getElem?_eq_getElem a1, Array.getElem?_eq_getElem a2]
          exact y j _ _ (by rw [Array.getElem?_toList, Array.getElem?_eq_getElem a1]; rfl) (by rw [Array.getElem?_toList, Array.getElem?_eq_getElem a2]; rfl)
      rw [e3]
      exact q H2 (s1.trans s2)
    case _ =>
      have h1 : ¬ 1 ≤ z.cps.size := fun y => c1 (decide_eq_true (by rw [hlen]; omega))
      rw [decide_eq_false h1, Bool.false_and, Bool.false_and, Bool.false_and] at q
      exact ⟨_, rfl, q H fun _ _ z => z⟩
theorem ok_areRQ {f C fN fI : Addr} {fd fdN fdI : FuncData} {k : Nat} (F : Fun K "are_rows" "are_rows" sAreR f fd) (O : OwnC K C)
    (FN : Fun K "is_number" "is_number" sIsNum fN fdN) (bN : Binds K fdN ["many", "thing"] []) (gN : mg "is_number" = some (.ref fN))
    (FI : Fun K "is_integer" "is_integer" sIsInt fI fdI) (bI : Binds K fdI ["thing"] []) (gI : mg "is_integer" = some (.ref fI))
    (mis : mg "isinstance" = none) (mi : mg "int" = none) (mb : mg "bool" = none) (mli : mg "list" = none) (ml : mg "len" = none) (ma : mg "all" = none) :
    FnOk P w K mg base CX0 (k + 3) f fd ["wide", "thing"] (spAreRQ K C) := by
  have GN : FnOk P w K mg base CX0 (k + 2) fN fdN ["many", "thing"] (spIsNumQ K C) := ok_isNumQ FN O FI bI gI mis mi mb
  refine F.ok scAreR (fun vs H Q E h => ?_) (fun cdv A outer s H vs Q E hr h => ?_)
  · obtain ⟨n, v, t, rfl, _⟩ := h
    rfl
  · obtain ⟨n, v, t, rfl, hv, hfew, q⟩ := h
    refine ⟨_, pss_cons (ps_if (pw_or (pt_not (pt_val (pe_callB call_isi (by rfl) mis bIsi (pa_cons (pv 1) (pa_cons (pe_bltn (v := .ty "list") (by rfl) mli bList rfl) pa_nil)))))
        (pw_or1 (pt_cmpR (op_eqL0 hr.units0) (pv 1) (pe_lst pa_nil) (nomark _)))).pt (pss_one (ps_ret pe_bl)) pss_nil)
      (pss_cons (ps_for PassesOwn.never rfl (pi_list (pv 1)) (pg_name (i := 2) scAreR.nd rfl (.inl rfl))
        (pss_one (ps_if (pw_or (pt_not (pt_val (pe_callB call_isi (by rfl) mis bIsi (pa_cons (pv 2) (pa_cons (pe_bltn (v := .ty "list") (by rfl) mli bList rfl) pa_nil)))))
          (pw_or (pt_cmpR op_ne (pe_callB call_len_seq (by rfl) ml bLen (pa_cons (pv 2) pa_nil)) (pv 0) (nomark _))
          (pw_or1 (pt_not (pt_val (pe_callB (cr_all rfl) (by rfl) ma bAll (pa_cons (pe_lc (own := [("there", 3)]) (g := gName 3) (tt := tYes) (te := tCall (spIsNumQ K C) [] E0 (tCons (tCB (fun xs H Q => ∃ p ys, xs = [V.ref p] ∧ (SqL K H p ys ∨ SqT K H p ys) ∧ Q (V.int (ys.length : Nat)) H) (tCons (tVar 1) tNil)) (tCons (tVar 3) tNil))) rfl scAreR.nd (pi_list (pv 2)) (blkOk_by (own := [("there", 3)]) (N := nAreR) (sc := defScope sAreR) (by decide +kernel))
            (fun _ _ _ _ _ => pg_name (i := 3) scAreR.nd rfl (Or.inl rfl)) (fun _ _ _ _ _ => pts_nil) (fun _ _ _ _ _ => pe_call GN hr (by rfl) gN FN.kp bN .nil pass0 (pa_cons (pe_callB call_len_seq (by rfl) ml bLen (pa_cons (pv 1) pa_nil)) (pa_cons (pv 3) pa_nil)))) pa_nil))))))).pt (pss_one (ps_ret pe_bl)) pss_nil)))
      (pss_one (ps_ret (pe_bl)))), ?_⟩
    obtain ⟨_, _, kc, kt, kk⟩ := hv.qL O
    refine ⟨_, rfl, _, _, _, _, _, rfl, kc, kt, kk, _, rfl, ?_⟩
    by_cases hL : t.isL = true
    case neg =>
      have e1 := Bool.eq_false_iff.mpr hL
      rw [rowsQ_no e1] at q
      rw [e1]
      exact q H fun _ _ z => z
    rw [hL]
    obtain ⟨ds, rfl⟩ := Tg.isL_list hL
    obtain ⟨a, xs, rfl, ha, hxs⟩ := hv.lst
    obtain ⟨hdl, hdf⟩ := few_list hfew
    have hxl := hxs.length
    refine ⟨_, rfl, by show 0 ≤ sizeLine; decide, fun pn nn => ?_⟩
    have s1 : Same H (upd H pn (.lst [])) := same_new nn
    refine ⟨a, pn, xs, rfl, rfl, SqL.of (s1 _ _ ha), SqL.of upd_same, _, rfl, ?_⟩
    generalize (upd H pn (.lst [])) = H1 at s1
    have ha1 := s1 _ _ ha
    have hx1 := hxs.sm s1
    have hrq : rowsQ n (.dat (.list ds)) = (!ds.isEmpty && ds.all (rowQ n ds.length)) := rfl
    rw [hrq] at q
    refine ite2 (fun c => ?_) (fun c => ?_)
    · have : ds.isEmpty = true := by
        cases xs with
        | nil => cases hxs; rfl
        | cons => cases c
      rw [this] at q
      exact q H1 s1
    have hne : ds.isEmpty = false := by
      cases ds with
      | nil => cases hxs; exact absurd rfl c
      | cons => rfl
    rw [hne] at q
    refine ⟨_, rfl, a, rfl, ⟨_, SqL.of ha1⟩, ?_⟩
    refine for_list (K := K) (a := a) (xs := xs) (fun j σ H2 => (∃ y : Option V, σ = [some (nV n), some (.ref a), y, none]) ∧ Same H1 H2 ∧ (ds.take j).all (rowQ n ds.length) = true) ⟨⟨none, rfl⟩, fun _ _ z => z, rfl⟩ (fun j σ H2 _ ⟨_, s2, _⟩ => SqL.of (s2 _ _ ha1)) ?_ ?_
    · rintro j v σ H2 hj ⟨⟨y, rfl⟩, s2, hal⟩
      obtain ⟨d, hd, hdq⟩ := (hx1.sm s2).get hj
      have hdm : d ∈ ds := List.mem_of_getElem? hd
      have hdt : Tq K C H2 v (.dat d) := .dat hdq
      have s02 := s1.trans s2
      have bad : rowQ n ds.length d = false → ∀ H3, Same H2 H3 → Q (.bl false) H3 := fun e H3 s3 => by
        have : ds.all (rowQ n ds.length) = false := by
          rw [Bool.eq_false_iff]
          intro y
          rw [List.all_eq_true.mp y d hdm] at e
          cases e
        rw [this] at q
        exact q H3 (s02.trans s3)
      obtain ⟨_, _, kc, kt, kk⟩ := hdt.qL O
      refine ⟨_, rfl, _, _, _, _, _, rfl, kc, kt, kk, _, rfl, ?_⟩
      by_cases hL2 : (Tg.dat d).isL = true
      case neg =>
        have e1 := Bool.eq_false_iff.mpr hL2
        rw [e1]
        refine bad ?_ H2 (fun _ _ z => z)
        cases d <;> first | rfl | cases e1
      rw [hL2]
      obtain ⟨es, e1⟩ := Tg.isL_list hL2
      cases e1
      obtain ⟨x, zs, rfl, hx, hzs⟩ := hdt.lst
      have hzl := hzs.length
      have hel := (few_list (hdf _ hdm)).1
      have hrw : rowQ n ds.length (.list es) = (decide (es.length = n) && es.all (nmD ds.length)) := rfl
      refine ⟨_, rfl, x, _, rfl, .inl (SqL.of hx), _, rfl, rfl, _, rfl, ?_⟩
      by_cases hlen : es.length = n
      case neg =>
        rw [decide_eq_false (fun e => hlen (by rw [← hzl]; exact nV_inj e))]
        exact bad (by rw [hrw, decide_eq_false hlen, Bool.false_and]) H2 (fun _ _ z => z)
      rw [decide_eq_true (show V.int ((zs.length : Nat) : Int) = nV n by rw [hzl, hlen]; rfl)]
      refine ⟨_, rfl, x, rfl, ⟨_, SqL.of hx⟩, fun D1 nD1 => ?_⟩
      refine lc_list (K := K) (a := x) (xs := zs) (fun i H3 => Same H2 H3 ∧ H3 D1 = some (.lst ((es.take i).map fun d => V.bl (nmD ds.length d)))) ⟨same_new nD1, upd_same⟩ (fun i H3 _ ⟨s3, _⟩ => SqL.of (s3 _ _ hx)) ?_ ?_
      · rintro i v H3 hi ⟨s3, hD⟩
        obtain ⟨d', hd', hdq'⟩ := (hzs.sm s3).get hi
        have hil := (List.getElem?_eq_some_iff.mp hd').1
        refine ⟨rfl, ?_⟩
        refine ⟨_, rfl, a, _, rfl, .inl (SqL.of (s3 _ _ (s2 _ _ ha1))), _, rfl, ds.length, v, .dat d', by rw [hxl]; rfl, .dat hdq', _, hD, by rw [List.length_map, List.length_take]; exact szK (by omega), ?_, ?_⟩
        · intro b o e
          rw [upd_ne (ne_of_none e nD1)]
          exact s3 _ _ e
        · rw [upd_same, take_snoc hd', List.map_append]
          rfl
      rintro H3 ⟨s3, hD⟩
      rw [hzl, List.take_length, map_bl] at hD
      refine ⟨D1, _, rfl, SqL.of hD, _, rfl, ?_⟩
      rw [all_id_map]
      by_cases hal2 : es.all (nmD ds.length) = true
      · rw [hal2]
        refine ⟨⟨_, rfl⟩, s2.trans s3, ?_⟩
        rw [take_snoc hd, List.all_append, hal, List.all_cons, hrw, decide_eq_true hlen, hal2]
        rfl
      · rw [Bool.eq_false_iff.mpr hal2]
        exact bad (by rw [hrw, Bool.eq_false_iff.mpr hal2, Bool.and_false]) H3 s3
    · rintro σ H2 ⟨⟨y, rfl⟩, s2, hal⟩
      rw [hxl, List.take_length] at hal
      rw [hal] at q
      exact q H2 (s1.trans s2)
end
end K15

/-! dict comprehensions: over a list, over a range; given to a local name -/
namespace Rg
open PySem PySem.Spec PyProof.Rows L2 Mach
section
variable {g : TG} {tt : TT} {tk tv : TE} {vs : List Nat} {σ : L2.St} {H1 : Hp} {D : Addr} {Qd : Hp → Prop}
/-- what one turn of a dict comprehension asks -/
abbrev DcTurn (g : TG) (tt : TT) (tk tv : TE) (vs : List Nat) (σ : L2.St) (D : Addr) (Nx : Hp → Prop) (x : V) (H : Hp) : Prop :=
  g x (wipe σ vs) H fun σ2 H2 => wipe σ2 vs = wipe σ vs ∧ tt σ2 H2 fun b H3 =>
    if b = true then tk σ2 H3 fun y H4 => tv σ2 H4 fun z H5 => ∃ kvs k, y = kV k ∧ H5 D = some (.dK kvs) ∧ kvs.length < sizeLine ∧ Nx (upd H5 D (.dK (putK kvs k z))) else Nx H3
theorem dc_list {K : PySem.W.Frag} {a : Addr} {xs : List V} (Pv : Nat → Hp → Prop) (h0 : Pv 0 (upd H1 D (.dK []))) (hl : ∀ i H, i ≤ xs.length → Pv i H → SqL K H a xs)
    (hs : ∀ i x H, xs[i]? = some x → Pv i H → DcTurn g tt tk tv vs σ D (Pv (i + 1)) x H) (hd : ∀ H, Pv xs.length H → Qd H) :
    ∃ W : Nat → Nat → Hp → Prop, (∃ m, W 0 m (upd H1 D (.dK []))) ∧ ∀ i m H, W i m H →
      ((Itl K a).stop i H ∧ Qd H) ∨ ((Itl K a).go i H ∧ ∃ Nx : Hp → Prop, (∀ H', Nx H' → ∃ m', m' < m ∧ W (i + 1) m' H') ∧ ∀ x H', (Itl K a).yld i H x H' → DcTurn g tt tk tv vs σ D Nx x H') := by
  refine ⟨fun i m H => m = xs.length - i ∧ i ≤ xs.length ∧ Pv i H, ⟨_, rfl, Nat.zero_le _, h0⟩, ?_⟩
  rintro i m H ⟨rfl, hi, hp⟩
  have hq := hl i H hi hp
  by_cases hlt : i < xs.length
  · right
    refine ⟨⟨xs, xs[i], hq, List.getElem?_eq_getElem hlt⟩, Pv (i + 1), fun H' z => ⟨xs.length - (i + 1), by omega, rfl, by omega, z⟩, ?_⟩
    rintro x H' ⟨rfl, hy⟩
    exact hs i x _ (hy xs hq) hp
  · left
    have e : i = xs.length := by omega
    subst e
    exact ⟨⟨xs, hq, Nat.le_refl _⟩, hd H hp⟩
theorem dc_range {lo : Int} {n : Nat} (Pv : Nat → Hp → Prop) (h0 : Pv 0 (upd H1 D (.dK [])))
    (hs : ∀ i H, i < n → Pv i H → DcTurn g tt tk tv vs σ D (Pv (i + 1)) (.int (lo + i)) H) (hd : ∀ H, Pv n H → Qd H) :
    ∃ W : Nat → Nat → Hp → Prop, (∃ m, W 0 m (upd H1 D (.dK []))) ∧ ∀ i m H, W i m H →
      ((Itr lo n).stop i H ∧ Qd H) ∨ ((Itr lo n).go i H ∧ ∃ Nx : Hp → Prop, (∀ H', Nx H' → ∃ m', m' < m ∧ W (i + 1) m' H') ∧ ∀ x H', (Itr lo n).yld i H x H' → DcTurn g tt tk tv vs σ D Nx x H') := by
  refine ⟨fun i m H => m = n - i ∧ i ≤ n ∧ Pv i H, ⟨_, rfl, Nat.zero_le _, h0⟩, ?_⟩
  rintro i m H ⟨rfl, hi, hp⟩
  by_cases hlt : i < n
  · right
    refine ⟨hlt, Pv (i + 1), fun H' z => ⟨n - (i + 1), by omega, rfl, by omega, z⟩, ?_⟩
    rintro x H' ⟨rfl, rfl⟩
    exact hs i _ hlt hp
  · left
    have e : i = n := by omega
    subst e
    exact ⟨Nat.le_refl _, hd H hp⟩
end
section
variable {X : Cx}
theorem sw_trueD {kx vx : Expr} {gs : List Comprehension} {scope : Scope} {pos py : Pos} {y : Str} {l : Nat} {env : Env} (hk : env.scope.kind = .function)
    (hy : env.scope.names.lookup y = some .local) (hl : (py.line == pos.line) = true)
    (ha : (scope.names.any fun (n, k) => n == y && (k == .local || k == .cell)) = false) : swapsWith (.DictComp kx vx gs scope pos) (some (.Name y py)) l env = pure true := by
  have k1 : env.kindOf y = some .local := hy
  have k2 : env.blockKind = .function := by
    unfold Env.blockKind
    rw [hk]
    rfl
  unfold swapsWith
  simp only [k2, k1, ha, Expr.pos, hl]
  rfl
/-- name = {..} on one line, the name a local -/
theorem ps_setDc {i : Nat} {y : Str} {py : Pos} {kx vx tg iter : Expr} {ifs : List Expr} {scope : Scope} {own : List (Str × Nat)} {pos spos : Pos} {wi : TI} {g : TG} {tt : TT} {tk tv : TE}
    (hc : X.calm = true) (hN : X.N.Nodup) (hy : X.N[i]? = some y) (hyl : X.env.scope.names.lookup y = some .local)
    (hsw : swapsWith (.DictComp kx vx [⟨tg, iter, ifs, 0⟩] scope pos) (some (.Name y py)) spos.line X.env = pure true) (hi : PI X tg iter wi) (ok : BlkOk X.N X.env.scope scope own)
    (hg : ∀ (s : Shared) (H : Hp) (C : Addr) (cl : List (Str × Addr)) (fp : List Addr), PG (X.blk s H scope (compEnvC scope cl C X.env) fp) tg g)
    (ht : ∀ (s : Shared) (H : Hp) (C : Addr) (cl : List (Str × Addr)) (fp : List Addr), PTs (X.blk s H scope (compEnvC scope cl C X.env) fp) ifs tt)
    (hk : ∀ (s : Shared) (H : Hp) (C : Addr) (cl : List (Str × Addr)) (fp : List Addr), PE (X.blk s H scope (compEnvC scope cl C X.env) fp) kx tk)
    (he : ∀ (s : Shared) (H : Hp) (C : Addr) (cl : List (Str × Addr)) (fp : List Addr), PE (X.blk s H scope (compEnvC scope cl C X.env) fp) vx tv)
    (hs : ∀ x, foldedSetIterable iter X.env x = pure x := by intro _; rfl) :
    PS X (.Assign [.Name y py] (.DictComp kx vx [⟨tg, iter, ifs, 0⟩] scope pos) spos) (tAsg (tDc wi g tt tk tv (own.map (·.2))) (gName i)) := by
  refine ⟨?_⟩
  intro pins s σ H D I h
  rw [exec_Assign_Name_used _ _ _ _ hsw]
  refine wpAny_bind (wpAny_standAt (wpAny_bind ?_))
  show wpAny _ X.A (do let _ ← comprehension (.DictComp kx vx [⟨tg, iter, ifs, 0⟩] scope pos) scope X.env (firstIterPos [⟨tg, iter, ifs, 0⟩] pos) newDict false (eval iter X.env) (some (assign (.Name y py) X.env))) _ _ s
  have h' : tDc wi g tt tk tv (own.map (·.2)) σ H (fun x H1 => gName i x σ H1 D.nx) := h
  refine wpAny_bind (thn (dc_core (Qf := fun _ s' => SP X pins D .next s') hc hN I hi ok hg ht hk he hs h' ?_) (fun _ s' hq => wpAny_pure (wpAny_pure hq)))
  intro L C s' m H' I' q hn f
  show wpAny _ _ (assign (.Name y py) X.env (.ref L)) _ _ _
  refine wpAny_assign_Name (store_ok2 (v := V.ref L) I' hN hy (.inl hyl) rfl ?_ (.inr hyl))
  rintro s2 I2 ⟨a, sb, ha⟩
  obtain ⟨f0, f1, f2, f3, f4, f5⟩ := f
  have haC : C ≠ a := by
    rcases ha with z | z
    · rw [z]
      exact f1
    · exact fun e => f4 y a z e.symm
  refine ⟨m, hn.sameBut sb haC, ?_⟩
  intro h3 sb3
  exact ⟨_, H', I2.turned (t' := s2.toks) (fun b o hb e => (sb3.2 b hb).trans e) f0 f1 f3 f4 f5, q⟩
end
end Rg

namespace Rg
open PySem PySem.Spec PyProof.Rows L2 Mach
theorem vals_snd : ∀ {kvs : List (Key × V)} {vs : List (Key × Value)}, KV kvs vs → Vals (kvs.map (·.2)) (vs.map (·.2))
  | _, _, .nil => .nil
  | _, _, .cons r t => .cons r.2 (vals_snd t)
section
variable {X : Cx} {e : Expr} {te : TE} {p apos cpos pos : Pos}
/-- list(e.values()) -/
theorem pe_listVals (hc : X.calm = true) (he : PE X e te) (hg : Gl X "list") (hm : X.mg "list" = none) (hbase : attributeBase e "values" X.env (eval e X.env) = eval e X.env := by rfl) (hline : (apos.endLine == cpos.line) = true := by rfl)
    (hs : starEach [.Call (.Attribute e "values" apos) [] [] cpos] X.env = (false, eval (.Call (.Attribute e "values" apos) [] [] cpos) X.env) :: starEach [] X.env := by rfl) :
    PE X (.Call (.Name "list" p) [.Call (.Attribute e "values" apos) [] [] cpos] [] pos)
      (fun σ H Q => te σ H fun x H1 => ∃ (d : Addr) (kvs : List (Key × V)), x = .ref d ∧ H1 d = some (.dK kvs) ∧ ∀ p, H1 p = none → Q (.ref p) (upd H1 p (.lst (kvs.map (·.2))))) := by
  refine ⟨?_⟩
  intro pins s σ H Q I hq
  refine wpAny_Call_Name_kw (ld_blt I hg hm bList ?_)
  refine PyProof.Rows.callWith_type1 ?_ hs rfl
  rw [hs]
  show wpAny _ _ (spliced ((false, eval (.Call (.Attribute e "values" apos) [] [] cpos) X.env) :: backTo pos (starEach [] X.env))) _ _ s
  refine Calls.spliced_cons ?_
  refine wpAny_Call_method (T := "dict") (id := "dict.values") hbase rfl hline F.plainAttrs_dict F.slot_dict_values F.type_dict_values (thn (he.run pins s σ H _ I hq) ?_)
  rintro u s1 ⟨x, H1, I1, rx, d, kvs, ex, hd, q⟩
  subst ex
  obtain rfl : u = Value.ref d := rx
  obtain ⟨hz, hs0, vs, kv, hdo⟩ := I1.hok d _ hd
  obtain ⟨ep, hat⟩ := hdo.dictAt
  have lk : kvs.length = vs.length := Paired.length kv
  have I2 : Inv X pins σ H1 { s1 with heap := s1.heap.push { cls := .type "dict_values", data := .fields #[.ref d] } } := I1.kept (t' := s1.toks) (fun b ob q => Heap.get?_push_of_some _ q)
  refine ⟨hdo.typeIs, hdo.mapOf.noDict, ?_⟩
  show wpAny _ _ (callWith cpos (.builtin "dict.values") [.ref d] [] []) _ X.xe s1
  refine method_meetsIn F.slot_dict_values F.entry_dict_values rfl (PySem.evalArgs_none ⟨rfl, hdo.typeIs, F.args_dict_values_1 _, _, meets_dict_values (mixKind X.prog X.w) d hs0, ⟨vs, hdo⟩, ?_⟩)
  refine Calls.spliced_nil ?_
  refine PySem.W.kdl_call (PySem.W.kdl_values (knd := mixKind X.prog X.w) (kvs := vs) (ep := ep)) (I1.ok.hd hc) ⟨⟨_, Heap.get?_push_size _ rfl, rfl, rfl⟩, hat.push _⟩ (by omega) ?_
  intro h' tk acc c' hk hD hacc
  have ev : acc.toList = vs.map (·.2) := PySem.W.kdl_vals_eq acc.toList (by rw [Array.length_toList]; exact hacc.1) (fun j v e => hacc.2 j v (by rw [← Array.getElem?_toList]; exact e))
  have nf := I2.hok.fresh (Nat.le_refl _)
  refine ⟨.ref _, upd H1 _ (.lst (kvs.map (·.2))), I2.laid (t' := tk) hk (Nat.le_refl _) ?_, rfl, q _ nf⟩
  refine ⟨by rw [List.length_map]; exact hz, acc.toList, c', ?_, ?_⟩
  · rw [ev]
    exact vals_snd kv
  · rw [Array.toArray_toList]
    exact hD
/-- len(set(xs)), xs numbers -/
theorem pe_lenSetN {a : Expr} {ta : TE} {p2 q : Pos} (hg : Gl X "len") (hm : X.mg "len" = none) (hg2 : Gl X "set") (hm2 : X.mg "set" = none) (ha : PE X a ta) (hc : X.calm = true := by rfl)
    (na : starEach [a] X.env = (false, eval a X.env) :: starEach [] X.env := by rfl) : PE X (.Call (.Name "len" p) [.Call (.Name "set" p2) [a] [] q] [] pos)
      (fun σ H Q => ta σ H fun x H1 => ∃ (l : Addr) (ns : List Int), x = .ref l ∧ SqL X.K H1 l (ns.map V.int) ∧ ns.length ≤ 4000 ∧ Q (.int ((firstMet (fun i => ns.getD i 0) ns.length).length : Nat)) H1) := by
  refine ⟨?_⟩
  intro pins s σ H Q I h
  refine Call_ (ld_blt I hg hm bLen ?_)
  refine PyProof.Rows.callWith_builtin1 (PyProof.Rows.args_cons ?_ rfl) rfl rfl
  refine Call_ (ld_blt I hg2 hm2 bSet ?_)
  refine PyProof.Rows.callWith_type1 (PyProof.Rows.args_cons (thn (ha.run pins s σ H _ I h) ?_) na) na rfl
  rintro v s1 ⟨x, H1, I1, r1, l, ns, rfl, hq, hl, q1⟩
  refine PyProof.Rows.args_nil ?_
  cases r1
  obtain ⟨its, r, pl, hz⟩ := I1.list hq
  have hlen : its.toArray.size = ns.length := by rw [List.size_toArray, ← r.length, List.length_map]
  refine call_set_list (I1.ok.hd hc) pl.isList (by simpa using RZ.intsAre_vals r) (by rw [hlen]; unfold scanBound; omega) ?_
  intro h' tk hS hk
  refine PyProof.Rows.args_nil ?_
  rw [hlen] at hS
  obtain ⟨o, es, ep, t, ho, hex, hd, _, _, _, hf, hn⟩ := hS
  have I2 : Inv X pins σ H1 { s1 with heap := h', toks := tk } := I1.kept fun b o e => hk b o (Heap.lt_size e) e
  have hfl : ∀ k : Nat, (firstMet (fun i => ns.getD i 0) k).length ≤ k := by
    intro k
    induction k with
    | zero => simp [firstMet]
    | succ k ih =>
      rw [PyProof.Rows.firstMet_succ]
      unfold step_dedup
      split
      · omega
      · rw [List.length_append, List.length_singleton]
        omega
  have := hfl ns.length
  exact call_len_set ho hex hd hf (by rw [hn]; omega) ⟨.int ((firstMet (fun i => ns.getD i 0) ns.length).length : Nat), H1, I2.tok _, ⟨_, by rw [hn]⟩, q1⟩
end
theorem firstMet_D (ns : List Nat) (k : Nat) (hk : k ≤ ns.length) : firstMet (fun i => (ns.map fun n : Nat => (n : Int)).getD i 0) k = (D (ns.take k)).map fun n : Nat => (n : Int) := by
  induction k with
  | zero => rfl
  | succ k ih =>
    have hlt : k < ns.length := by omega
    have e1 : (ns.map fun n : Nat => (n : Int)).getD k 0 = (ns[k] : Int) := by
      rw [List.getD_eq_getElem?_getD, List.getElem?_map, List.getElem?_eq_getElem hlt]
      rfl
    rw [PyProof.Rows.firstMet_succ, ih (by omega), List.take_add_one, List.getElem?_eq_getElem hlt]
    show (if (((D (ns.take k)).map fun n : Nat => (n : Int)).any (· == (ns.map fun n : Nat => (n : Int)).getD k 0)) then _ else _) = (D (ns.take k ++ [ns[k]])).map _
    rw [e1, D_append]
    show _ = (push (D (ns.take k)) ns[k]).map _
    by_cases h : ns[k] ∈ D (ns.take k)
    · rw [push_mem h, if_pos]
      refine List.any_eq_true.mpr ⟨_, List.mem_map_of_mem h, by simp⟩
    · rw [push_new h, if_neg, List.map_append]
      · rfl
      · intro z
        obtain ⟨y, hy, ey⟩ := List.any_eq_true.mp z
        obtain ⟨m, hm, em⟩ := List.mem_map.mp hy
        have e2 : y = (ns[k] : Int) := eq_of_beq ey
        have : m = ns[k] := by
          rw [← em] at e2
          omega
        exact h (by rw [← this]; exact hm)
end Rg

/-! dicts whose keys are tuples (number, tuple of numbers), the i-th key with the value i -/
namespace Rg
open PySem PySem.Spec PyProof.Rows L2 Mach

def nkOf (p : Nat × List Nat) : NestedKey := .tup [.num p.1, .tup (p.2.map fun x : Nat => NestedKey.num (x : Int))]
theorem nums_inj : ∀ {a b : List Nat}, (a.map fun x : Nat => NestedKey.num (x : Int)) = (b.map fun x : Nat => NestedKey.num (x : Int)) → a = b
  | [], [], _ => rfl
  | [], _ :: _, h => by cases h
  | _ :: _, [], h => by cases h
  | x :: a, y :: b, h => by
    rw [List.map_cons, List.map_cons] at h
    obtain ⟨h1, h2⟩ := List.cons.inj h
    have : (x : Int) = y := NestedKey.num.inj h1
    have e : x = y := by omega
    rw [e, nums_inj h2]
theorem nkOf_inj {p q : Nat × List Nat} (h : nkOf p = nkOf q) : p = q := by
  obtain ⟨a, b⟩ := p
  obtain ⟨c, d⟩ := q
  have h1 := NestedKey.tup.inj h
  obtain ⟨h2, h3⟩ := List.cons.inj h1
  obtain ⟨h4, _⟩ := List.cons.inj h3
  have e1 : (a : Int) = c := NestedKey.num.inj h2
  have e2 := nums_inj (NestedKey.tup.inj h4)
  have e3 : a = c := by omega
  simp only at e2
  rw [e3, e2]
theorem depthAll_nums : ∀ a : List Nat, NestedKey.depthAll (a.map fun x : Nat => NestedKey.num (x : Int)) = 0
  | [] => rfl
  | x :: a => by
    show max (NestedKey.depth (.num x)) (NestedKey.depthAll (a.map fun x : Nat => NestedKey.num (x : Int))) = 0
    rw [depthAll_nums a]
    rfl
theorem nkOf_depth (p : Nat × List Nat) : (nkOf p).depth ≤ 8 := by
  show NestedKey.depthAll [.num p.1, .tup (p.2.map fun x : Nat => NestedKey.num (x : Int))] + 1 ≤ 8
  show max 0 (max (NestedKey.depthAll (p.2.map fun x : Nat => NestedKey.num (x : Int)) + 1) 0) + 1 ≤ 8
  rw [depthAll_nums]
  decide

section
variable {P : Program} {w : World} {H : Hp} {h : Heap}
/-- the key's tuple stands at b -/
def KeyAt (H : Hp) (b : Addr) (p : Nat × List Nat) : Prop := ∃ t, H b = some (.tup [nV p.1, .ref t]) ∧ H t = some (.tup (nVs p.2))
theorem KeyAt.same {H H' : Hp} {b : Addr} {p : Nat × List Nat} (k : KeyAt H b p) (s : ∀ c xs, H c = some (.tup xs) → H' c = some (.tup xs)) : KeyAt H' b p := by
  obtain ⟨t, h1, h2⟩ := k
  exact ⟨t, s _ _ h1, s _ _ h2⟩
theorem nested_nums : ∀ {ns : List Nat} {us : List Value}, Vals (nVs ns) us → NestedAll h (ns.map fun x : Nat => NestedKey.num (x : Int)) us
  | [], _, .nil => .nil
  | n :: ns, _, .cons r t => by
    obtain ⟨k, rfl⟩ := r
    exact .cons (.int _ _) (nested_nums t)
theorem KeyAt.is {b : Addr} {p : Nat × List Nat} (ok : HOk P w H h) (k : KeyAt H b p) : (nestedKind P w).is h (nkOf p) b := by
  obtain ⟨t, h1, h2⟩ := k
  obtain ⟨_, its1, r1, o1, a1, a2, n1, a3⟩ := (show ObjOk P w H h b _ from ok b _ h1)
  obtain ⟨_, its2, r2, o2, b1, b2, n2, b3⟩ := (show ObjOk P w H h t _ from ok t _ h2)
  refine ⟨?_, nkOf_depth p⟩
  cases r1 with
  | cons x1 r1 =>
    cases r1 with
    | cons x2 r1 =>
      cases r1
      obtain ⟨k1, rfl⟩ := x1
      obtain rfl := (show _ = Value.ref t from x2)
      refine NestedIs.tup a1 a2 a3 ?_
      refine .cons (.int _ _) (.cons (NestedIs.tup b1 b2 b3 ?_) .nil)
      simpa using nested_nums r2

def NkO (P : Program) (w : World) (a : Addr) (xs : List (NestedKey × Addr × Value)) : HO := .ext fun h => (a == sysModules) = false ∧
  ∃ o es ep, h.get? a = some o ∧ o.ExactDict ∧ o.data = .dict es ep ∧ es.toList = xs.map (entryOfKey (nestedKind P w)) ∧ (xs.map (·.1)).Nodup
structure NkAt (P : Program) (w : World) (H : Hp) (a : Addr) (S : List (Nat × List Nat)) : Prop where
  ex : ∃ xs : List (NestedKey × Addr × Value), H a = some (NkO P w a xs) ∧ xs.length = S.length ∧ S.length ≤ 100000 ∧
    ∀ (i : Nat) (p : Nat × List Nat), S[i]? = some p → ∃ (ka : Addr) (t : Tok), xs[i]? = some (nkOf p, ka, .int (i : Int) t) ∧ KeyAt H ka p
theorem NkAt.same {H H' : Hp} {a : Addr} {S : List (Nat × List Nat)} (x : NkAt P w H a S) (s : ∀ c o, H c = some o → H' c = some o) : NkAt P w H' a S := by
  obtain ⟨xs, h1, h2, h3, h4⟩ := x.ex
  refine ⟨xs, s _ _ h1, h2, h3, fun i p e => ?_⟩
  obtain ⟨ka, t, e1, e2⟩ := h4 i p e
  exact ⟨ka, t, e1, e2.same fun c ys z => s c _ z⟩
theorem NkAt.upd_other {H : Hp} {a b : Addr} {o : HO} {S : List (Nat × List Nat)} (x : NkAt P w H a S) (hb : b ≠ a) (ht : ∀ ys, H b ≠ some (.tup ys)) : NkAt P w (upd H b o) a S := by
  obtain ⟨xs, h1, h2, h3, h4⟩ := x.ex
  refine ⟨xs, by rw [upd_ne hb.symm]; exact h1, h2, h3, fun i p e => ?_⟩
  obtain ⟨ka, t, e1, e2⟩ := h4 i p e
  refine ⟨ka, t, e1, e2.same fun c ys z => ?_⟩
  have hc : c ≠ b := by
    intro q
    rw [q] at z
    exact ht ys z
  rw [upd_ne hc]
  exact z
/-- what the library knows of it -/
theorem NkAt.dict {a : Addr} {S : List (Nat × List Nat)} (ok : HOk P w H h) (x : NkAt P w H a S) : (a == sysModules) = false ∧ ∃ xs, h.DictOfH (nestedKind P w) a xs ∧ H a = some (NkO P w a xs) ∧ xs.length = S.length ∧ S.length ≤ 100000 ∧
    ∀ (i : Nat) (p : Nat × List Nat), S[i]? = some p → ∃ (ka : Addr) (t : Tok), xs[i]? = some (nkOf p, ka, .int (i : Int) t) ∧ KeyAt H ka p := by
  obtain ⟨xs, h1, h2, h3, h4⟩ := x.ex
  obtain ⟨⟨hs, o, es, ep, g1, g2, g3, g4, g5⟩, _⟩ := (show ObjOk P w H h a _ from ok a _ h1)
  refine ⟨hs, xs, ⟨o, es, ep, g1, g2, g3, g4, fun y hy => ?_, g5⟩, h1, h2, h3, h4⟩
  obtain ⟨i, hi, e⟩ := List.mem_iff_getElem.mp hy
  have hiS : i < S.length := by omega
  obtain ⟨ka, t, e1, e2⟩ := h4 i _ (List.getElem?_eq_getElem hiS)
  rw [List.getElem?_eq_getElem hi] at e1
  have e3 := Option.some.inj e1
  rw [← e, e3]
  exact e2.is ok
theorem NkAt.val {a : Addr} {S : List (Nat × List Nat)} {xs : List (NestedKey × Addr × Value)} (hl : xs.length = S.length)
    (h4 : ∀ (i : Nat) (p : Nat × List Nat), S[i]? = some p → ∃ (ka : Addr) (t : Tok), xs[i]? = some (nkOf p, ka, .int (i : Int) t) ∧ KeyAt H ka p) (p : Nat × List Nat) :
    (p ∈ S → ∃ (i : Nat) (t : Tok), valueAt (pairsH xs) (nkOf p) = some (.int (i : Int) t) ∧ S.idxOf p = i) ∧ (p ∉ S → valueAt (pairsH xs) (nkOf p) = none) := by
  have gen : ∀ (S : List (Nat × List Nat)) (xs : List (NestedKey × Addr × Value)) (j : Nat), xs.length = S.length →
      (∀ (i : Nat) (p : Nat × List Nat), S[i]? = some p → ∃ (ka : Addr) (t : Tok), xs[i]? = some (nkOf p, ka, .int ((i + j : Nat) : Int) t)) →
      (p ∈ S → ∃ (i : Nat) (t : Tok), valueAt (pairsH xs) (nkOf p) = some (.int ((i + j : Nat) : Int) t) ∧ S.idxOf p = i) ∧ (p ∉ S → valueAt (pairsH xs) (nkOf p) = none) := by
    intro S
    induction S with
    | nil =>
      intro xs j hl _
      cases xs with
      | nil => exact ⟨(fun z => nomatch z), fun _ => rfl⟩
      | cons => cases hl
    | cons a S ih =>
      intro xs j hl h4
      cases xs with
      | nil => cases hl
      | cons x xs =>
        obtain ⟨ka, t, e⟩ := h4 0 a rfl
        have ex : x = (nkOf a, ka, .int ((0 + j : Nat) : Int) t) := Option.some.inj e
        have ih' := ih xs (j + 1) (by simpa using hl) (fun i p hp => by
          obtain ⟨kb, t', e'⟩ := h4 (i + 1) p hp
          refine ⟨kb, t', ?_⟩
          have : ((i + 1 + j : Nat) : Int) = ((i + (j + 1) : Nat) : Int) := by omega
          rw [← this]
          exact e')
        by_cases hp : a = p
        · refine ⟨fun _ => ⟨0, t, ?_, ?_⟩, fun z => absurd (by rw [hp]; exact List.mem_cons_self) z⟩
          · rw [ex]
            show ((_ :: _).find? _).map _ = _
            rw [List.find?_cons]
            simp [hp]
          · rw [hp]
            simp
        · have hk : ¬ nkOf a = nkOf p := fun z => hp (nkOf_inj z)
          have hv : valueAt (pairsH (x :: xs)) (nkOf p) = valueAt (pairsH xs) (nkOf p) := by
            rw [ex]
            unfold valueAt
            show (((nkOf a, _) :: pairsH xs).find? _).map _ = _
            rw [List.find?_cons_of_neg (by simpa using hk)]
          rw [hv]
          refine ⟨fun z => ?_, fun z => ih'.2 fun y => z (List.mem_cons_of_mem _ y)⟩
          rcases List.mem_cons.mp z with z | z
          · exact absurd z.symm hp
          · obtain ⟨i, t', e1, e2⟩ := ih'.1 z
            refine ⟨i + 1, t', ?_, ?_⟩
            · rw [e1]
              have : ((i + (j + 1) : Nat) : Int) = ((i + 1 + j : Nat) : Int) := by omega
              rw [this]
            · have hb : (a == p) = false := beq_eq_false_iff_ne.mpr hp
              rw [List.idxOf_cons, hb, e2]
              rfl
  have := gen S xs 0 hl (fun i p hp => by
    obtain ⟨ka, t, e, _⟩ := h4 i p hp
    exact ⟨ka, t, e⟩)
  simpa using this
end

section
variable {X : Cx} {pos : Pos}
theorem pe_dnewN : PE X (.Dict [] [] pos) (fun _ H Q => ∀ p, H p = none → Q (.ref p) (upd H p (NkO X.prog X.w p []))) := by
  refine ⟨fun pins s σ H Q I h => ?_⟩
  refine wpAny_Dict_empty ⟨.ref s.heap.objs.size, _, I.laid (a := s.heap.objs.size) (o := NkO X.prog X.w s.heap.objs.size []) (t' := s.toks) (fun _ _ q => Heap.get?_push_of_some _ q) (Nat.le_refl _) ?_, rfl, h _ (I.hok.fresh (Nat.le_refl _))⟩
  have e0 := dt_empty (P := X.prog) (w := X.w) (H := upd H s.heap.objs.size (.dT [])) s.heap I.big
  obtain ⟨_, hs, xs, r, o, es, ep, h1, h2, h3, h4, h5⟩ := e0
  cases r
  refine ⟨⟨hs, o, es, ep, h1, h2, h3, ?_, by simp⟩, ⟨o, h1⟩, ?_⟩
  · simpa using h4
  · rintro g1 g2 ⟨y1, o', es', ep', y2, y3⟩ k
    exact ⟨y1, o', es', ep', k _ y2, y3⟩
theorem op_notin_nk (hu : X.A.units + 64 < cLine) : OpR X (compareOp .NotIn) (fun x y H Q => ∃ (b a : Addr) (p : Nat × List Nat) (S : List (Nat × List Nat)), x = .ref b ∧ y = .ref a ∧ KeyAt H b p ∧ NkAt X.prog X.w H a S ∧ Q (.bl (!decide (p ∈ S))) H) := by
  intro pins s σ H x y v u Q I rx ry h
  obtain ⟨b, a, p, S, rfl, rfl, hk, hn, q⟩ := h
  cases rx
  cases ry
  obtain ⟨hs, xs, dd, _, hl, _, h4⟩ := hn.dict I.hok
  refine notIn_keyed (knd := nestedKind X.prog X.w) (kvs := pairsH xs) (by show X.A.units + 1 + 8 < cLine; omega) (hk.is I.hok) hs ⟨xs, dd, rfl⟩ ?_
  obtain ⟨v1, v2⟩ := NkAt.val (a := a) hl h4 p
  by_cases hp : p ∈ S
  · obtain ⟨i, t, e, _⟩ := v1 hp
    rw [e]
    rw [decide_eq_true hp] at q
    exact ⟨.bl false, H, I.tok _, rfl, q⟩
  · rw [v2 hp]
    rw [decide_eq_false hp] at q
    exact ⟨.bl true, H, I.tok _, rfl, q⟩
theorem ix_nk (hu : X.A.units + 64 < cLine) : IxR X (fun x y H Q => ∃ (a b : Addr) (p : Nat × List Nat) (S : List (Nat × List Nat)), x = .ref a ∧ y = .ref b ∧ KeyAt H b p ∧ NkAt X.prog X.w H a S ∧ p ∈ S ∧ Q (nV (S.idxOf p)) H) := by
  intro value slice pins s σ H x y v u Q I rx ry h hsl
  obtain ⟨a, b, p, S, rfl, rfl, hk, hn, hp, q⟩ := h
  cases rx
  cases ry
  obtain ⟨hs, xs, dd, _, hl, _, h4⟩ := hn.dict I.hok
  obtain ⟨v1, v2⟩ := NkAt.val (a := a) hl h4 p
  obtain ⟨i, t, e, ei⟩ := v1 hp
  refine subscriptTail_builtinR (x := .int (i : Int) t) dd.typeIs PySem.F.slot_dict_getitem.lookup (getItem_keyed (knd := nestedKind X.prog X.w) (kvs := pairsH xs) (by show X.A.units + 1 + 8 < cLine; omega) (hk.is I.hok) ⟨xs, dd, rfl⟩ e ?_) hsl
  rw [ei] at q
  exact ⟨rfl, ⟨nV i, H, I.tok _, ⟨_, rfl⟩, q⟩⟩
theorem call_len_nk : CallR X (.builtin "len") (fun xs H Q => ∃ (a : Addr) (S : List (Nat × List Nat)), xs = [.ref a] ∧ NkAt X.prog X.w H a S ∧ Q (nV S.length) H) := by
  intro pins s σ H xs us Q I r h
  obtain ⟨a, S, rfl, hn, q⟩ := h
  obtain ⟨u, rfl, rx⟩ := vals1 r
  obtain rfl : u = .ref a := rx
  obtain ⟨hs, xs, dd, _, hl, hz, h4⟩ := hn.dict I.hok
  refine call_len_dictH hs dd (by omega) ?_
  rw [hl]
  exact ⟨nV S.length, H, I.tok _, ⟨_, rfl⟩, q⟩
theorem set_nk (hu : X.A.units + 64 < cLine) : PSet X (fun o i v H Q => ∃ (a b : Addr) (p : Nat × List Nat) (S : List (Nat × List Nat)), o = .ref a ∧ i = .ref b ∧ v = nV S.length ∧ KeyAt H b p ∧ NkAt X.prog X.w H a S ∧ p ∉ S ∧ S.length < 100000 ∧
    ∀ H', (∀ c, c ≠ a → H' c = H c) → NkAt X.prog X.w H' a (S ++ [p]) → Q H') := by
  intro pins s σ H o i v ov iv u Q I ro ri rv h
  obtain ⟨a, b, p, S, rfl, rfl, rfl, hk, hn, hp, hz, q⟩ := h
  cases ro
  cases ri
  obtain ⟨tv, rfl⟩ := rv
  obtain ⟨hs, xs, dd, hH, hl, _, h4⟩ := hn.dict I.hok
  obtain ⟨v1, v2⟩ := NkAt.val (a := a) hl h4 p
  have hnone := v2 hp
  rw [valueAt_pairsH] at hnone
  have hat : atKey xs (nkOf p) = none := Option.map_eq_none_iff.mp hnone
  refine wpAny_setItem_heap (knd := nestedKind X.prog X.w) (hsz := by rw [hl]; exact szBigLe (by omega)) (by show X.A.units + 1 + 8 < cLine; omega) (hk.is I.hok) dd fun h' dd' hs' => ?_
  have est := storedH_new hat b (.int (S.length : Int) tv)
  rw [est] at dd'
  obtain ⟨o, es, ep, g1, g2, g3, g4, _, g5⟩ := dd'
  have ntup : ∀ c ys, H c = some (.tup ys) → c ≠ a := fun c ys e => ne_of e hH (fun z => by cases z)
  refine ⟨upd H a (NkO X.prog X.w a (xs ++ [(nkOf p, b, .int (S.length : Int) tv)])), d_write I (by rw [hH]; exact True.intro) hs' ⟨o, g1⟩ ⟨⟨hs, o, es, ep, g1, g2, g3, g4, g5⟩, ⟨o, g1⟩, ?_⟩, q _ (fun c hc => upd_ne hc) ⟨_, upd_same, by simp [hl], by simp; omega, fun i r e => ?_⟩⟩
  · rintro g1 g2 ⟨y1, o', es', ep', y2, y3⟩ k
    exact ⟨y1, o', es', ep', k _ y2, y3⟩
  · have kp : ∀ c ys, H c = some (.tup ys) → (upd H a (NkO X.prog X.w a (xs ++ [(nkOf p, b, .int (S.length : Int) tv)]))) c = some (.tup ys) := fun c ys z => by
      rw [upd_ne (ntup c ys z)]
      exact z
    by_cases hi : i < S.length
    · rw [List.getElem?_append_left hi] at e
      obtain ⟨ka, t, e1, e2⟩ := h4 i r e
      exact ⟨ka, t, by rw [List.getElem?_append_left (by omega)]; exact e1, e2.same kp⟩
    · rw [List.getElem?_append_right (by omega)] at e
      have hi0 : i - S.length = 0 := by
        have := (List.getElem?_eq_some_iff.mp e).1
        simp at this
        omega
      rw [hi0] at e
      have er : p = r := Option.some.inj e
      have ei : i = S.length := by omega
      refine ⟨b, tv, ?_, er ▸ hk.same kp⟩
      rw [List.getElem?_append_right (by omega), hl, hi0, ei, er]
      rfl
end
end Rg

namespace K15
open PySem PySem.Spec PyProof.Rows L2 Rg Mach
abbrev sPart : Stmt := topS 16
theorem scPart : FnScope ["rows", "classes", "states", "numbers", "found", "state", "sign", "there"] ["rows", "classes", "states"] (defScope sPart) :=
  ⟨rfl, rfl, rfl, by decide +kernel, rfl, by decide +kernel, by decide +kernel⟩
def spPart : Sp := fun vs H Q _ => ∃ (a d l : Addr) (xs : List Addr) (R : List (List Nat)) (n b : Nat) (L : List Nat) (c : Nat → Nat), vs = [.ref a, .ref d, .ref l] ∧ RowsAt H a xs R ∧ Mok n R ∧ Bfs n R b L ∧ R.length ≤ 5000 ∧ n ≤ 5000 ∧
  H d = some (.dK (dO L fun s => nV (c s))) ∧ H l = some (.lst (nVs L)) ∧
  ∀ (H' : Hp) (p : Addr), Same H H' → H p = none → H' p = some (.dK (dO L fun s => nV (parted R L c s))) → Q (.ref p) H'
section
variable {P : Program} {w : World} {K : PySem.W.Frag} {mg : Str → Option Value} {base : Heap}
theorem ok_part {f : Addr} {fd : FuncData} {k : Nat} (F : Fun K "parted_once" "parted_once" sPart f fd) (ml : mg "len" = none) (mt : mg "tuple" = none) :
    FnOk P w K mg base CX0 (k + 1) f fd ["rows", "classes", "states"] spPart := by
  refine F.ok scPart (fun vs H Q E h => ?_) (fun cdv A outer s H vs Q E hr h => ?_)
  · obtain ⟨a, d, l, xs, R, n, b, L, c, rfl, _⟩ := h
    rfl
  · obtain ⟨a, d, l, xs, R, n, b, L, c, rfl, hR, hM, hB, hsz, hn, hd, hl, q⟩ := h
    have hu := hu_of hr
    refine ⟨_, pss_cons (ps_set (i := 3) scPart.nd rfl (.inl rfl) pe_dnewN)
      (pss_cons (ps_set (i := 4) scPart.nd rfl (.inl rfl) pe_dnewK)
      (pss_cons (ps_for PassesOwn.never rfl (pi_list (pv 2)) (pg_name (i := 5) scPart.nd rfl (.inl rfl))
        (pss_cons (ps_set (i := 6) scPart.nd rfl (.inl rfl) (pe_tup (pa_cons (pe_dget hu (pv 1) (pv 5) (fun _ _ => rfl)) (pa_cons (pe_callTy call_tuple_of (by rfl) mt bTuple (pa_cons
            (pe_lc (own := [("there", 7)]) (g := gName 7) (tt := tYes) rfl scPart.nd (pi_list (pe_ix ix_list (pv 0) (pv 5) (fun _ _ => rfl))) (blkOk_by (own := [("there", 7)]) (N := ["rows", "classes", "states", "numbers", "found", "state", "sign", "there"]) (sc := defScope sPart) (by decide +kernel))
              (fun _ _ _ _ _ => pg_name (i := 7) scPart.nd rfl (Or.inl rfl)) (fun _ _ _ _ _ => pts_nil) (fun _ _ _ _ _ => pe_dget hu (pv 1) (pv 7) (fun _ _ => rfl))) pa_nil)) pa_nil))))
        (C8.pss_cut (ps_if (pt_cmpR (op_notin_nk hr.units) (pv 6) (pv 3) rfl) (pss_one (ps_asg (pe_callB call_len_nk (by rfl) ml bLen (pa_cons (pv 3) pa_nil)) (pg_sub (pv 3) (pv 6) (set_nk hr.units)))) pss_nil)
        (pss_one (ps_dput hu (pv 4) (pv 5) (pe_ix (ix_nk hr.units) (pv 3) (pv 6) (fun _ _ => rfl)) rfl)))))
      (pss_one (ps_ret (pv 4))))), ?_⟩
    intro pn nn
    intro pf nf
    have nnf : pn ≠ pf := fun z => by
      rw [← z, upd_same] at nf
      cases nf
    have nf0 : H pf = none := by
      rw [upd_ne nnf.symm] at nf
      exact nf
    have hlR : ∀ s ∈ L, s < R.length := hB.lt
    have lenL := hB.len
    refine ⟨_, rfl, l, rfl, ⟨_, SqL.of (by rw [upd_ne (ne_of_none hl nf0), upd_ne (ne_of_none hl nn)]; exact hl)⟩, ?_⟩
    refine for_list (K := K) (a := l) (xs := nVs L) (fun i σ H1 => ∃ (y5 y6 : Option V), σ = [some (.ref a), some (.ref d), some (.ref l), some (.ref pn), some (.ref pf), y5, y6, none] ∧ Same H H1 ∧
      NkAt P w H1 pn (D ((L.take i).map (sgn R c))) ∧ H1 pf = some (.dK (dO (L.take i) fun s => nV (parted R L c s)))) ⟨none, none, rfl, ?_, ?_, ?_⟩ (fun i σ H1 _ ⟨_, _, _, s1, _⟩ => SqL.of (s1 _ _ hl)) ?_ ?_
    · exact (same_new nn).trans (same_new nf)
    · refine ⟨[], ?_, rfl, Nat.zero_le _, fun i p e => ?_⟩
      · rw [upd_ne nnf, upd_same]
        rfl
      · cases e
    · rw [upd_same]
      rfl
    · rintro i v σ H1 hi ⟨y5, y6, rfl, s1, hN, hF⟩
      obtain ⟨t, rfl, ht⟩ := nVs_at hi
      have htL : t ∈ L := List.mem_of_getElem? ht
      have hd1 := s1 _ _ hd
      obtain ⟨x, hx1, hx2⟩ := hR.get (hlR t htL)
      -- sign = (classes[state], tuple([..]))
      refine ⟨_, rfl, _, rfl, d, _, rfl, dget_dO hd1 htL, ?_⟩
      refine ⟨_, rfl, _, rfl, a, _, _, _, rfl, rfl, SqL.of (s1 _ _ hR.at_), atI_nat hx1, x, rfl, ⟨_, SqL.of (s1 _ _ hx2)⟩, fun D0 nD => ?_⟩
      refine lc_list (K := K) (a := x) (xs := nVs (rowOf R t)) (fun j H2 => Same H1 H2 ∧ H2 D0 = some (.lst (nVs (((rowOf R t).take j).map c)))) ⟨same_new nD, by rw [upd_same]; rfl⟩ (fun j H2 _ ⟨s2, _⟩ => SqL.of (s2 _ _ (s1 _ _ hx2))) ?_ ?_
      · rintro j v H2 hj ⟨s2, hD⟩
        obtain ⟨u, rfl, hu'⟩ := nVs_at hj
        have huL : u ∈ L := hB.closed htL (List.mem_of_getElem? hu')
        refine ⟨rfl, ?_⟩
        refine ⟨_, rfl, _, rfl, d, _, rfl, dget_dO (s2 _ _ hd1) huL, _, hD, ?_, ?_, ?_⟩
        · rw [nVs_len, List.length_map, List.length_take]
          have := hM.wide t (hlR t htL)
          exact szBig (by omega)
        · intro b o e
          rw [upd_ne (ne_of_none e nD)]
          exact s2 _ _ e
        · rw [upd_same, List.take_add_one, hu', List.map_append]
          exact congrArg (fun z => some (HO.lst z)) (nVs_snoc _ _).symm
      · rintro H2 ⟨s2, hD⟩
        rw [nVs_len, List.take_length] at hD
        refine ⟨D0, _, rfl, .inl ⟨SqL.of hD, fun pt nt => ?_⟩⟩
        refine ⟨by show 2 ≤ sizeLine; decide, fun ps ns => ?_⟩
        have npt : pt ≠ ps := fun z => by
          rw [← z, upd_same] at ns
          cases ns
        have s3 : Same H1 (upd (upd H2 pt (.tup (nVs ((rowOf R t).map c)))) ps (.tup [nV (c t), .ref pt])) := s2.trans ((same_new nt).trans (same_new ns))
        have hkey : KeyAt (upd (upd H2 pt (.tup (nVs ((rowOf R t).map c)))) ps (.tup [nV (c t), .ref pt])) ps (sgn R c t) :=
          ⟨pt, upd_same, by rw [upd_ne npt, upd_same]; rfl⟩
        have hN3 := hN.same s3
        have hF3 := s3 _ _ hF
        have s03 := s1.trans s3
        generalize (upd (upd H2 pt (.tup (nVs ((rowOf R t).map c)))) ps (.tup [nV (c t), .ref pt])) = H3 at s3 hkey hN3 hF3 s03
        have hmap : (L.take (i + 1)).map (sgn R c) = (L.take i).map (sgn R c) ++ [sgn R c t] := by
          rw [List.take_add_one, ht, List.map_append]
          rfl
        have hD1 : D ((L.take (i + 1)).map (sgn R c)) = push (D ((L.take i).map (sgn R c))) (sgn R c t) := by
          rw [hmap, D_append]
          rfl
        have hDl : (D ((L.take i).map (sgn R c))).length ≤ 5000 := by
          have := length_le_of_sub (D_nodup ((L.take i).map (sgn R c))) (fun x hx => mem_D.mp hx)
          rw [List.length_map, List.length_take] at this
          omega
        -- if sign not in numbers: numbers[sign] = len(numbers)
        refine ⟨fun σ H4 => σ = [some (.ref a), some (.ref d), some (.ref l), some (.ref pn), some (.ref pf), some (nV t), some (.ref ps), none] ∧ Same H H4 ∧ KeyAt H4 ps (sgn R c t) ∧
          NkAt P w H4 pn (D ((L.take (i + 1)).map (sgn R c))) ∧ H4 pf = some (.dK (dO (L.take i) fun s => nV (parted R L c s))), ?_, ?_⟩
        · refine ⟨_, rfl, _, rfl, ps, pn, _, _, rfl, rfl, hkey, hN3, _, rfl, ?_⟩
          by_cases hm : sgn R c t ∈ D ((L.take i).map (sgn R c))
          · rw [decide_eq_true hm]
            refine iteF ⟨rfl, s03, hkey, ?_, hF3⟩
            rw [hD1, push_mem hm]
            exact hN3
          · rw [decide_eq_false hm]
            refine iteT ⟨_, rfl, pn, _, rfl, hN3, ?_⟩
            refine ⟨_, rfl, _, rfl, pn, ps, _, _, rfl, rfl, rfl, hkey, hN3, hm, by omega, fun H4 k4 hN4 => ?_⟩
            have hps : ps ≠ pn := by
              obtain ⟨ys, e, _⟩ := hN3.ex
              obtain ⟨tt', e', _⟩ := hkey
              exact ne_of e' e (fun z => by cases z)
            refine ⟨rfl, Same.of_eq_but k4 s03 nn, ?_, ?_, ?_⟩
            · obtain ⟨tt', e1, e2⟩ := hkey
              obtain ⟨ys, e, _⟩ := hN3.ex
              exact ⟨tt', by rw [k4 _ hps]; exact e1, by rw [k4 _ (ne_of e2 e (fun z => by cases z))]; exact e2⟩
            · rw [hD1, push_new hm]
              exact hN4
            · rw [k4 _ nnf.symm]
              exact hF3
        · rintro σ H4 ⟨rfl, s4, hk4, hN4, hF4⟩
          -- found[state] = numbers[sign]
          have hin : sgn R c t ∈ D ((L.take (i + 1)).map (sgn R c)) := by
            rw [hD1]
            exact mem_push.mpr (.inr rfl)
          have hidx : (D ((L.take (i + 1)).map (sgn R c))).idxOf (sgn R c t) = parted R L c t := by
            unfold parted
            obtain ⟨Z, hZ⟩ := pushAll_pre (D ((L.take (i + 1)).map (sgn R c))) ((L.drop (i + 1)).map (sgn R c))
            have : D (L.map (sgn R c)) = D ((L.take (i + 1)).map (sgn R c)) ++ Z := by
              rw [← hZ, ← D_append, ← List.map_append, List.take_append_drop]
            rw [this, idxOf_pre hin]
          refine ⟨_, rfl, _, rfl, pn, ps, _, _, rfl, rfl, hk4, hN4, hin, ?_⟩
          rw [hidx]
          refine ⟨_, rfl, _, rfl, pf, _, rfl, DPut.k (k := kN t) hF4 (by rw [dO_len, List.length_take]; exact szBig (by omega)), ?_⟩
          have hnt : t ∉ L.take i := by
            intro hm
            obtain ⟨j, hj, e⟩ := List.mem_iff_getElem.mp hm
            rw [List.length_take] at hj
            rw [List.getElem_take] at e
            have hi' := (List.getElem?_eq_some_iff.mp ht)
            obtain ⟨h1, h2⟩ := hi'
            have := (List.pairwise_iff_getElem.mp hB.nodup) j i (by omega) h1 (by omega)
            exact this (by rw [e, h2])
          refine ⟨_, _, rfl, ?_, ?_, ?_⟩
          · intro b o e
            rw [upd_ne (ne_of_none e nf0)]
            exact s4 _ _ e
          · refine hN4.upd_other ?_ ?_
            · exact nnf.symm
            · intro ys e
              rw [hF4] at e
              cases e
          · rw [upd_same, List.take_add_one, ht]
            refine congrArg (fun z => some (HO.dK z)) ?_
            exact putK_dO_new (d := fun s => nV (parted R L c s)) hnt (fun _ _ => rfl)
    · rintro σ H1 ⟨y5, y6, rfl, s1, hN, hF⟩
      rw [nVs_len, List.take_length] at hF
      exact ⟨_, rfl, q H1 pf s1 nf0 hF⟩
end
end K15

namespace K15
open PySem PySem.Spec PyProof.Rows L2 Rg Mach
abbrev sHow : Stmt := topS 17
theorem scHow : FnScope ["classes"] ["classes"] (defScope sHow) := ⟨rfl, rfl, rfl, by decide +kernel, rfl, by decide +kernel, by decide +kernel⟩
def spHow : Sp := fun vs H Q _ => ∃ (d : Addr) (L : List Nat) (c : Nat → Nat), vs = [.ref d] ∧ H d = some (.dK (dO L fun s => nV (c s))) ∧ L.length ≤ 4000 ∧
  ∀ (H' : Hp), Same H H' → Q (nV (hm L c)) H'
section
variable {P : Program} {w : World} {K : PySem.W.Frag} {mg : Str → Option Value} {base : Heap}
theorem ok_how {f : Addr} {fd : FuncData} {k : Nat} (F : Fun K "how_many" "how_many" sHow f fd) (ml : mg "len" = none) (ms : mg "set" = none) (mli : mg "list" = none) :
    FnOk P w K mg base CX0 (k + 1) f fd ["classes"] spHow := by
  refine F.ok scHow (fun vs H Q E h => ?_) (fun cdv A outer s H vs Q E hr h => ?_)
  · obtain ⟨d, L, c, rfl, _⟩ := h
    rfl
  · obtain ⟨d, L, c, rfl, hd, hl, q⟩ := h
    refine ⟨_, pss_one (ps_ret (pe_lenSetN (by rfl) ml (by rfl) ms (pe_listVals rfl (pv 0) (by rfl) mli))), ?_⟩
    refine ⟨_, rfl, d, _, rfl, hd, fun p np => ?_⟩
    have ev : (dO L fun s => nV (c s)).map (·.2) = ((L.map c).map fun n : Nat => (n : Int)).map V.int := by
      unfold dO
      simp only [List.map_map]
      rfl
    refine ⟨p, (L.map c).map fun n : Nat => (n : Int), rfl, SqL.of (by rw [upd_same, ev]), by rw [List.length_map, List.length_map]; exact hl, ?_⟩
    have e2 : ((firstMet (fun i => ((L.map c).map fun n : Nat => (n : Int)).getD i 0) ((L.map c).map fun n : Nat => (n : Int)).length).length : Int) = ((hm L c : Nat) : Int) := by
      rw [List.length_map, firstMet_D _ _ (Nat.le_refl _), List.take_length, List.length_map]
      rfl
    rw [e2]
    exact q _ (same_new np)
end
end K15

namespace K15
open PySem PySem.Spec PyProof.Rows L2 Rg Mach
abbrev sCls : Stmt := topS 18
theorem scCls : FnScope ["rows", "ends", "states", "found", "later", "state"] ["rows", "ends", "states"] (defScope sCls) := ⟨rfl, rfl, rfl, by decide +kernel, rfl, by decide +kernel, by decide +kernel⟩
def spCls : Sp := fun vs H Q _ => ∃ (a d l : Addr) (xs : List Addr) (R : List (List Nat)) (n b : Nat) (L E : List Nat), vs = [.ref a, .ref d, .ref l] ∧ RowsAt H a xs R ∧ Mok n R ∧ Bfs n R b L ∧ R.length ≤ 4000 ∧ n ≤ 4000 ∧
  H d = some (.dK (dO E fun _ => .bl true)) ∧ H l = some (.lst (nVs L)) ∧
  ∀ (H' : Hp) (p : Addr) (c : Nat → Nat), Same H H' → H p = none → H' p = some (.dK (dO L fun s => nV (c s))) → (∀ s ∈ L, ∀ t ∈ L, c s = c t ↔ Alk n R E s R E t) → Q (.ref p) H'
section
variable {P : Program} {w : World} {K : PySem.W.Frag} {mg : Str → Option Value} {base : Heap}
theorem ok_cls {f fP fH : Addr} {fd fdP fdH : FuncData} {k : Nat} (F : Fun K "classes_of" "classes_of" sCls f fd)
    (FP : Fun K "parted_once" "parted_once" sPart fP fdP) (bP : Binds K fdP ["rows", "classes", "states"] []) (gP : mg "parted_once" = some (.ref fP))
    (FH : Fun K "how_many" "how_many" sHow fH fdH) (bH : Binds K fdH ["classes"] []) (gH : mg "how_many" = some (.ref fH))
    (ml : mg "len" = none) (mt : mg "tuple" = none) (ms : mg "set" = none) (mli : mg "list" = none) (mi : mg "int" = none) :
    FnOk P w K mg base CX0 (k + 2) f fd ["rows", "ends", "states"] spCls := by
  have GP : FnOk P w K mg base CX0 (k + 1) fP fdP ["rows", "classes", "states"] spPart := ok_part FP ml mt
  have GH : FnOk P w K mg base CX0 (k + 1) fH fdH ["classes"] spHow := ok_how FH ml ms mli
  refine F.ok scCls (fun vs H Q E h => ?_) (fun cdv A outer s H vs Q E hr h => ?_)
  · obtain ⟨a, d, l, xs, R, n, b, L, E', rfl, _⟩ := h
    rfl
  · obtain ⟨a, d, l, xs, R, n, b, L, E, rfl, hR, hM, hB, hsz, hn, hd, hl, q⟩ := h
    have hu := hu_of hr
    refine ⟨_, pss_cons (ps_setDc (i := 3) (own := [("state", 5)]) (g := gName 5) (tt := tYes) rfl scCls.nd rfl rfl (sw_trueD rfl rfl rfl (by decide +kernel)) (pi_list (pv 2)) (blkOk_by (own := [("state", 5)]) (N := ["rows", "ends", "states", "found", "later", "state"]) (sc := defScope sCls) (by decide +kernel))
          (fun _ _ _ _ _ => pg_name (i := 5) scCls.nd rfl (Or.inl rfl)) (fun _ _ _ _ _ => pts_nil) (fun _ _ _ _ _ => pv 5) (fun _ _ _ _ _ => pe_callTy call_int1 (by rfl) mi bInt (pa_cons (pe_cmp (pc_din hu (pv 5) (pv 1)) rfl) pa_nil)))
      (pss_cons (ps_set (i := 4) scCls.nd rfl (.inl rfl) (pe_call GP hr (by rfl) gP FP.kp bP .nil pass0 (pa_cons (pv 0) (pa_cons (pv 3) (pa_cons (pv 2) pa_nil)))))
      (pss_cons (ps_while PassesOwn.never (pt_cmpR op_gt (pe_call GH hr (by rfl) gH FH.kp bH .nil pass0 (pa_cons (pv 4) pa_nil)) (pe_call GH hr (by rfl) gH FH.kp bH .nil pass0 (pa_cons (pv 3) pa_nil)) (nomark _))
        (pss_cons (ps_set (i := 3) scCls.nd rfl (.inl rfl) (pv 4))
        (pss_one (ps_set (i := 4) scCls.nd rfl (.inl rfl) (pe_call GP hr (by rfl) gP FP.kp bP .nil pass0 (pa_cons (pv 0) (pa_cons (pv 3) (pa_cons (pv 2) pa_nil))))))))
      (pss_one (ps_ret (pv 4))))), ?_⟩
    have lenL := hB.len
    refine ⟨_, rfl, l, rfl, ⟨_, SqL.of hl⟩, fun D0 nD => ?_⟩
    refine dc_list (K := K) (a := l) (xs := nVs L) (fun i H1 => Same H H1 ∧ H1 D0 = some (.dK (dO (L.take i) fun s => nV (if s ∈ E then 1 else 0)))) ⟨same_new nD, by rw [upd_same]; rfl⟩ (fun i H1 _ ⟨s1, _⟩ => SqL.of (s1 _ _ hl)) ?_ ?_
    · rintro i v H1 hi ⟨s1, hD⟩
      obtain ⟨t, rfl, ht⟩ := nVs_at hi
      obtain ⟨r, hg, hr'⟩ := din_dO (t := t) (s1 _ _ hd)
      refine ⟨rfl, ?_⟩
      refine ⟨_, rfl, _, rfl, _, rfl, d, r, rfl, hg, .inr ⟨_, rfl, _, kN t, rfl, hD, by rw [dO_len, List.length_take]; exact szBig (by omega), ?_, ?_⟩⟩
      · intro b o e
        rw [upd_ne (ne_of_none e nD)]
        exact s1 _ _ e
      · rw [upd_same, List.take_add_one, ht]
        have hnt : t ∉ L.take i := by
          intro hm
          obtain ⟨j, hj, e⟩ := List.mem_iff_getElem.mp hm
          rw [List.length_take] at hj
          rw [List.getElem_take] at e
          obtain ⟨h1, h2⟩ := List.getElem?_eq_some_iff.mp ht
          exact (List.pairwise_iff_getElem.mp hB.nodup) j i (by omega) h1 (by omega) (by rw [e, h2])
        have ev : V.int (if r.isSome = true then 1 else 0) = nV (if t ∈ E then 1 else 0) := by
          rw [hr']
          by_cases hE : t ∈ E
          · simp [hE, nV]
          · simp [hE, nV]
        rw [ev]
        exact congrArg (fun z => some (HO.dK z)) (putK_dO_new (d := fun s => nV (if s ∈ E then 1 else 0)) hnt (fun _ _ => rfl))
    · rintro H1 ⟨s1, hD⟩
      rw [nVs_len, List.take_length] at hD
      refine ⟨_, rfl, _, rfl, _, rfl, a, D0, l, xs, R, n, b, L, _, rfl, hR.same s1, hM, hB, by omega, by omega, hD, s1 _ _ hl, fun H2 p2 s2 n2 h2 => ?_⟩
      refine ⟨fun m σ H3 => ∃ (df dl : Addr) (c : Nat → Nat), m = L.length - hm L c ∧ σ = [some (.ref a), some (.ref d), some (.ref l), some (.ref df), some (.ref dl), none] ∧ Same H H3 ∧ H dl = none ∧
        H3 df = some (.dK (dO L fun s => nV (c s))) ∧ H3 dl = some (.dK (dO L fun s => nV (parted R L c s))) ∧ MooreAt n R E L c, ⟨_, D0, p2, _, rfl, rfl, s1.trans s2, s1.free n2, s2 _ _ hD, h2, moore_start⟩, ?_⟩
      rintro m σ H3 ⟨df, dl, c, rfl, rfl, s3, ndl, hdf, hdl, hW⟩
      refine ⟨_, rfl, dl, L, _, rfl, hdl, by omega, fun H4 s4 => ?_⟩
      refine ⟨_, rfl, df, L, c, rfl, s4 _ _ hdf, by omega, fun H5 s5 => ?_⟩
      have s45 := s4.trans s5
      refine ⟨_, _, rfl, rfl, _, rfl, ite2 (fun e => ?_) (fun e => ?_)⟩
      · have hlt : hm L c < hm L (parted R L c) := by
          have := of_decide_eq_true e
          omega
        have hle := hm_le L (parted R L c)
        refine ⟨fun σ' H' => ∃ (p : Addr), σ' = [some (.ref a), some (.ref d), some (.ref l), some (.ref dl), some (.ref p), none] ∧ Same H H' ∧ H p = none ∧
          H' dl = some (.dK (dO L fun s => nV (parted R L c s))) ∧ H' p = some (.dK (dO L fun s => nV (parted R L (parted R L c) s))), ?_, ?_⟩
        · rintro σ' H' ⟨p, rfl, s6, np, h6, h7⟩
          exact ⟨L.length - hm L (parted R L c), by omega, dl, p, _, rfl, rfl, s6, np, h6, h7, moore_step hM hB hW⟩
        · refine ⟨_, rfl, ?_⟩
          refine ⟨_, rfl, _, rfl, _, rfl, a, dl, l, xs, R, n, b, L, _, rfl, hR.same (s3.trans s45), hM, hB, by omega, by omega, s45 _ _ hdl, (s3.trans s45) _ _ hl, fun H6 p6 s6 n6 h6 => ?_⟩
          exact ⟨p6, rfl, (s3.trans s45).trans s6, (s3.trans s45).free n6, s6 _ _ (s45 _ _ hdl), h6⟩
      · have hge : hm L (parted R L c) ≤ hm L c := by
          have := of_decide_eq_false (Bool.eq_false_iff.mpr e)
          omega
        exact ⟨_, rfl, q H5 dl _ (s3.trans s45) ndl (s45 _ _ hdl) (moore_end hM hB hW hge)⟩
end
end K15

namespace K15
open PySem PySem.Spec PyProof.Rows L2 Rg Mach
abbrev sReach : Stmt := topS 15
theorem scReach : FnScope ["rows", "begin", "found", "known", "at", "state"] ["rows", "begin"] (defScope sReach) :=
  ⟨rfl, rfl, rfl, by decide +kernel, rfl, by decide +kernel, by decide +kernel⟩
def spReach : Sp := fun vs H Q _ => ∃ (a : Addr) (xs : List Addr) (R : List (List Nat)) (n b : Nat), vs = [.ref a, nV b] ∧ RowsAt H a xs R ∧ Mok n R ∧ b < R.length ∧ R.length ≤ 5000 ∧
  ∀ (H' : Hp) (p : Addr) (L : List Nat), Same H H' → H p = none → H' p = some (.lst (nVs L)) → Bfs n R b L → Q (.ref p) H'
section
variable {P : Program} {w : World} {K : PySem.W.Frag} {mg : Str → Option Value} {base : Heap}
theorem ok_reach {f : Addr} {fd : FuncData} {k : Nat} (F : Fun K "reached_from" "reached_from" sReach f fd) (ml : mg "len" = none) :
    FnOk P w K mg base CX0 (k + 1) f fd ["rows", "begin"] spReach := by
  refine F.ok scReach (fun vs H Q E h => ?_) (fun cdv A outer s H vs Q E hr h => ?_)
  · obtain ⟨a, xs, R, n, b, rfl, _⟩ := h
    rfl
  · obtain ⟨a, xs, R, n, b, rfl, hR, hM, hb, hsz, q⟩ := h
    have hu := hu_of hr
    refine ⟨_, pss_cons (ps_set (i := 2) scReach.nd rfl (.inl rfl) (pe_lst (pa_cons (pv 1) pa_nil)))
      (pss_cons (ps_set (i := 3) scReach.nd rfl (.inl rfl) (pe_disp (pps_cons (pv 1) pe_bl pps_nil) (by rfl) (by rfl) (fun z => by cases z) (by decide)))
      (pss_cons (ps_set (i := 4) scReach.nd rfl (.inl rfl) pe_int)
      (pss_cons (ps_while PassesOwn.never (pt_cmpR op_lt (pv 4) (pe_callB call_len_seq (by rfl) ml bLen (pa_cons (pv 2) pa_nil)) (nomark _))
        (pss_cons (ps_for PassesOwn.never rfl (pi_list (pe_ix ix_list (pv 0) (pe_ix ix_list (pv 2) (pv 4) (fun _ _ => rfl)) (fun _ _ => rfl))) (pg_name (i := 5) scReach.nd rfl (.inl rfl))
          (pss_one (ps_if (pt_cmp (pc_dnotin hu (pv 5) (pv 3))) (pss_cons (ps_dput hu (pv 3) (pv 5) pe_bl rfl)
            (pss_one (ps_expr (pe_bm PySem.F.plainAttrs_list PySem.F.slot_list_append PySem.F.type_list_append mt_append (pv 2) (pa_cons (pv 5) pa_nil))))) pss_nil)))
        (pss_one (ps_set (i := 4) scReach.nd rfl (.inl rfl) (pe_op op_add (pv 4) pe_int)))))
      (pss_one (ps_ret (pv 2)))))), ?_⟩
    -- found = [begin]; known = {begin: True}; at = 0
    refine ⟨_, rfl, by show 1 ≤ sizeLine; decide, fun pf nf => ?_⟩
    intro pk nk
    have nfk : pf ≠ pk := fun z => by
      rw [← z, upd_same] at nk
      cases nk
    have nk0 : H pk = none := by
      rw [upd_ne nfk.symm] at nk
      exact nk
    refine ⟨_, rfl, upd_same, [(kN b, .bl true)], rfl, by show 1 ≤ 15; decide, ?_⟩
    rw [upd_upd]
    refine ⟨fun m σ H1 => ∃ (L : List Nat) (i : Nat) (y : Option V), m = R.length - i ∧ σ = [some (.ref a), some (nV b), some (.ref pf), some (.ref pk), some (nV i), y] ∧ Same H H1 ∧
      H1 pf = some (.lst (nVs L)) ∧ H1 pk = some (.dK (dO L fun _ => .bl true)) ∧ BfsAt n R b L i, ⟨_, [b], 0, none, rfl, rfl, ?_, ?_, ?_, bfs_start hb⟩, ?_⟩
    · exact (same_new nf).trans (same_new nk)
    · rw [upd_ne nfk, upd_same]
      rfl
    · rw [upd_same]
      rfl
    · rintro m σ H1 ⟨L, i, y, rfl, rfl, sm, hf, hk, hW⟩
      have hlen := hW.len
      refine ⟨_, rfl, _, rfl, pf, _, rfl, .inl (SqL.of hf), _, _, rfl, rfl, _, rfl, ite2 (fun e => ?_) (fun e => ?_)⟩
      · have hi : i < L.length := by
          have := of_decide_eq_true e
          rw [nVs_len] at this
          omega
        have hs : L[i]? = some L[i] := List.getElem?_eq_getElem hi
        have hsl : L[i] < R.length := hW.lt _ (List.getElem_mem hi)
        obtain ⟨x, hx1, hx2⟩ := (hR.same sm).get hsl
        refine ⟨fun σ' H' => ∃ (y' : Option V), σ' = [some (.ref a), some (nV b), some (.ref pf), some (.ref pk), some (nV (i + 1)), y'] ∧ Same H H' ∧
          H' pf = some (.lst (nVs (pushAll L (rowOf R L[i])))) ∧ H' pk = some (.dK (dO (pushAll L (rowOf R L[i])) fun _ => .bl true)), ?_, ?_⟩
        · rintro σ' H' ⟨y', rfl, s1, h1, h2⟩
          exact ⟨R.length - (i + 1), by omega, _, i + 1, y', rfl, rfl, s1, h1, h2, bfs_step hM hW hs⟩
        · -- for state in rows[found[at]]
          refine ⟨_, rfl, _, rfl, _, rfl, pf, _, _, _, rfl, rfl, SqL.of hf, atI_nat (nVs_get hs), a, _, _, _, rfl, rfl, SqL.of (sm _ _ hR.at_), atI_nat hx1, x, rfl, ⟨_, SqL.of hx2⟩, ?_⟩
          have hx0 : H x = some (.lst (nVs (rowOf R L[i]))) := by
            obtain ⟨x', h1', h2'⟩ := hR.get hsl
            rw [hx1] at h1'
            cases h1'
            exact h2'
          refine for_list (K := K) (a := x) (xs := nVs (rowOf R L[i])) (fun j σ' H' => ∃ (y' : Option V), σ' = [some (.ref a), some (nV b), some (.ref pf), some (.ref pk), some (nV i), y'] ∧ Same H H' ∧
            H' pf = some (.lst (nVs (pushAll L ((rowOf R L[i]).take j)))) ∧ H' pk = some (.dK (dO (pushAll L ((rowOf R L[i]).take j)) fun _ => .bl true))) ⟨y, rfl, sm, hf, hk⟩ (fun j σ' H' _ ⟨_, _, s1, _, _⟩ => SqL.of (s1 _ _ hx0)) ?_ ?_
          · rintro j v σ' H' hj ⟨y', rfl, s1, hf1, hk1⟩
            obtain ⟨t, rfl, ht⟩ := nVs_at hj
            have htk : (rowOf R L[i]).take (j + 1) = (rowOf R L[i]).take j ++ [t] := by
              rw [List.take_add_one, ht]
              rfl
            have hnext : pushAll L ((rowOf R L[i]).take (j + 1)) = push (pushAll L ((rowOf R L[i]).take j)) t := by
              rw [htk, pushAll_append]
              rfl
            generalize hL1 : pushAll L ((rowOf R L[i]).take j) = L1 at hf1 hk1 hnext
            have hl1 : L1.length ≤ R.length := by
              refine nodup_lt_length ?_ ?_
              · rw [← hL1]
                exact pushAll_nodup hW.nodup
              · intro z hz
                rw [← hL1] at hz
                rcases mem_pushAll.mp hz with z1 | z1
                · exact hW.lt z z1
                · exact hM.lt _ hsl z (List.mem_of_mem_take z1)
            rw [hnext]
            refine ⟨_, rfl, _, rfl, pk, _, rfl, DGet.k (k := kN t) hk1, _, rfl, ?_⟩
            by_cases hm : t ∈ L1
            · rw [valV_dO_in hm, push_mem hm]
              exact iteF ⟨_, rfl, s1, hf1, hk1⟩
            · rw [valV_dO_out hm]
              refine iteT ?_
              refine ⟨_, rfl, _, rfl, pk, _, rfl, DPut.k (k := kN t) hk1 (by rw [dO_len]; exact szBig (by omega)), ?_⟩
              have hf2 : (upd H' pk (.dK (putK (dO L1 fun _ => .bl true) (kN t) (.bl true)))) pf = some (.lst (nVs L1)) := by
                rw [upd_ne nfk]
                exact hf1
              refine ⟨_, rfl, .inl ⟨rfl, _, SqL.of hf2⟩, _, rfl, pf, _, _, rfl, rfl, hf2, by rw [nVs_len]; exact szBig (by omega), ?_⟩
              refine ⟨_, rfl, ?_, ?_, ?_⟩
              · intro c o e
                rw [upd_ne (ne_of_none e nf), upd_ne (ne_of_none e nk0)]
                exact s1 _ _ e
              · rw [upd_same, push_new hm, nVs_snoc]
              · rw [upd_ne nfk.symm, upd_same]
                exact congrArg (fun z => some (HO.dK z)) (putK_dO (L := L1) (c := fun _ => .bl true) (s := t))
          · rintro σ' H' ⟨y', rfl, s1, hf1, hk1⟩
            rw [nVs_len, List.take_length] at hf1 hk1
            exact ⟨_, rfl, _, _, rfl, rfl, y', rfl, s1, hf1, hk1⟩
      · have hi : L.length ≤ i := by
          have := of_decide_eq_false (Bool.eq_false_iff.mpr e)
          rw [nVs_len] at this
          omega
        exact ⟨_, rfl, q H1 pf L sm nf hf (bfs_end hW hi)⟩
end
end K15

namespace K15
open PySem PySem.Spec PyProof.Rows L2 Rg Mach
abbrev sLm : Stmt := topS 19
def nLm : List Str := ["rows", "ends", "begin", "states", "state", "known", "classes", "first", "order", "number", "found", "at", "one", "there"]
theorem scLm : FnScope nLm ["rows", "ends", "begin"] (defScope sLm) := ⟨rfl, rfl, rfl, by decide +kernel, rfl, by decide +kernel, by decide +kernel⟩
def scOne : Scope := match (defBody sLm).getD 7 (.Pass ⟨0, 0, 0, 0⟩) with
  | .Assign _ (.ListComp _ _ sc _) _ => sc
  | _ => defScope sLm
def spLm : Sp := fun vs H Q _ => ∃ (a e : Addr) (xs : List Addr) (R : List (List Nat)) (n b : Nat) (E : List Nat), vs = [.ref a, .ref e, nV b] ∧ RowsAt H a xs R ∧ Mok n R ∧ b < R.length ∧ R.length ≤ 4000 ∧ n ≤ 4000 ∧
  H e = some (.lst (nVs E)) ∧ E.length ≤ 100000 ∧
  ∀ (H' : Hp) (t p e' : Addr) (ys : List Addr) (R' : List (List Nat)) (E' : List Nat), Same H H' → H t = none → H p = none → H e' = none → p ≠ e' → (∀ y ∈ ys, H y = none ∧ y ≠ p ∧ y ≠ e') → ys.Nodup → H' t = some (.tup [.ref p, .ref e']) → RowsAt H' p ys R' → H' e' = some (.lst (nVs E')) →
    Least n R' E' → Alk n R' E' 0 R E b → R'.length ≤ R.length → Q (.ref t) H'
section
variable {P : Program} {w : World} {K : PySem.W.Frag} {mg : Str → Option Value} {base : Heap}
theorem ok_lm {f fR fC fP fH : Addr} {fd fdR fdC fdP fdH : FuncData} {k : Nat} (F : FunD K "least_machine" "least_machine" (defArgs sLm) (defBody sLm) (defScope sLm) [] [("begin", .int 0)] f fd)
    (FR : Fun K "reached_from" "reached_from" sReach fR fdR) (bR : Binds K fdR ["rows", "begin"] []) (gR : mg "reached_from" = some (.ref fR))
    (FC : Fun K "classes_of" "classes_of" sCls fC fdC) (bC : Binds K fdC ["rows", "ends", "states"] []) (gC : mg "classes_of" = some (.ref fC))
    (FP : Fun K "parted_once" "parted_once" sPart fP fdP) (bP : Binds K fdP ["rows", "classes", "states"] []) (gP : mg "parted_once" = some (.ref fP))
    (FH : Fun K "how_many" "how_many" sHow fH fdH) (bH : Binds K fdH ["classes"] []) (gH : mg "how_many" = some (.ref fH))
    (ml : mg "len" = none) (mt : mg "tuple" = none) (ms : mg "set" = none) (mli : mg "list" = none) (mi : mg "int" = none) (mr : mg "range" = none) :
    FnOk P w K mg base CX0 (k + 3) f fd ["rows", "ends", "begin"] spLm := by
  have GR : FnOk P w K mg base CX0 (k + 2) fR fdR ["rows", "begin"] spReach := ok_reach FR ml
  have GC : FnOk P w K mg base CX0 (k + 2) fC fdC ["rows", "ends", "states"] spCls := ok_cls FC FP bP gP FH bH gH ml mt ms mli mi
  refine F.ok scLm (fun vs H Q E h => ?_) (fun cdv A outer s H vs Q E hr h => ?_)
  · obtain ⟨a, e, xs, R, n, b, E', rfl, _⟩ := h
    rfl
  · obtain ⟨a, e, xs, R, n, b, E, rfl, hR, hM, hb, hsz, hn, he, hel, q⟩ := h
    have hu := hu_of hr
    refine ⟨_, PSs.nox (pss_cons (ps_set (i := 3) scLm.nd rfl (.inl rfl) (pe_call GR hr (by rfl) gR FR.kp bR .nil pass0 (pa_cons (pv 0) (pa_cons (pv 2) pa_nil))))
      (pss_cons (ps_set (i := 5) scLm.nd rfl (.inr rfl) (pe_dc (own := [("state", 4)]) (g := gName 4) (tt := tYes) rfl scLm.nd (pi_list (pv 1)) (blkOk_by (own := [("state", 4)]) (N := nLm) (sc := defScope sLm) (by decide +kernel))
          (fun _ _ _ _ _ => pg_name (i := 4) scLm.nd rfl (Or.inl rfl)) (fun _ _ _ _ _ => pts_nil) (fun _ _ _ _ _ => pv 4) (fun _ _ _ _ _ => pe_bl)))
      (pss_cons (ps_set (i := 6) scLm.nd rfl (.inr rfl) (pe_call GC hr (by rfl) gC FC.kp bC .nil pass0 (pa_cons (pv 0) (pa_cons (pv 5) (pa_cons (pv 3) pa_nil)))))
      (pss_cons (ps_set (i := 7) scLm.nd rfl (.inr rfl) pe_dnewK)
      (pss_cons (ps_for PassesOwn.never rfl (pi_list (pv 3)) (pg_name (i := 4) scLm.nd rfl (.inl rfl))
        (pss_one (ps_if (pt_cmp (pc_dnotin hu (pe_dget hu (pv 6) (pv 4) (fun _ _ => rfl)) (pv 7))) (pss_one (ps_dput hu (pv 7) (pe_dget hu (pv 6) (pv 4) (fun _ _ => rfl)) (pv 4) rfl)) pss_nil)))
      (pss_cons (ps_set (i := 8) scLm.nd rfl (.inr rfl) (pe_callTy (call_list_dK rfl) (by rfl) mli bList (pa_cons (pv 7) pa_nil)))
      (pss_cons (ps_set (i := 9) scLm.nd rfl (.inr rfl) (pe_dc (own := [("at", 11)]) (g := gName 11) (tt := tYes) (tk := tOp (rIxL K) (tVar 8) (tVar 11)) rfl scLm.nd (pi_range1 (by rfl) mr (pa_cons (pe_callB call_len_seq (by rfl) ml bLen (pa_cons (pv 8) pa_nil)) pa_nil)) (blkOk_by (own := [("at", 11)]) (N := nLm) (sc := defScope sLm) (by decide +kernel))
          (fun _ _ _ _ _ => pg_name (i := 11) scLm.nd rfl (Or.inl rfl)) (fun _ _ _ _ _ => pts_nil) (fun _ _ _ _ _ => pe_ix ix_list (pv 8) (pv 11) (fun _ _ => rfl)) (fun _ _ _ _ _ => pv 11)))
      (pss_cons (ps_setLc (i := 10) (own := [("one", 12)]) (g := gName 12) (tt := tYes) (te := tLc (iList K (tOp (rIxL K) (tVar 0) (tDGet (tVar 7) (tVar 12)))) (gName 13) tYes (tDGet (tVar 9) (tDGet (tVar 6) (tVar 13))) [13]) rfl scLm.nd rfl rfl (sw_true rfl rfl rfl (by decide +kernel)) (pi_list (pv 8)) (blkOk_by (own := [("one", 12)]) (N := nLm) (sc := defScope sLm) (by decide +kernel))
          (fun _ _ _ _ _ => pg_name (i := 12) scLm.nd rfl (Or.inl rfl)) (fun _ _ _ _ _ => pts_nil)
          (fun _ _ _ _ _ => pe_lc (own := [("there", 13)]) (g := gName 13) (tt := tYes) rfl scLm.nd (pi_list (pe_ix ix_list (pv 0) (pe_dget hu (pv 7) (pv 12) (fun _ _ => rfl)) (fun _ _ => rfl))) (blkOk_by (own := [("there", 13)]) (N := nLm) (sc := relS scOne (defScope sLm)) (by decide +kernel))
            (fun _ _ _ _ _ => pg_name (i := 13) scLm.nd rfl (Or.inl rfl)) (fun _ _ _ _ _ => pts_nil) (fun _ _ _ _ _ => pe_dget hu (pv 9) (pe_dget hu (pv 6) (pv 13) (fun _ _ => rfl)) (fun _ _ => rfl))))
      (pss_one (ps_ret (pe_tup (pa_cons (pv 10) (pa_cons (pe_lc (own := [("one", 12)]) (g := gName 12) (tt := _) rfl scLm.nd (pi_list (pv 8)) (blkOk_by (own := [("one", 12)]) (N := nLm) (sc := defScope sLm) (by decide +kernel))
          (fun _ _ _ _ _ => pg_name (i := 12) scLm.nd rfl (Or.inl rfl)) (fun _ _ _ _ _ => pts_one (pt_cmp (pc_din hu (pe_dget hu (pv 7) (pv 12) (fun _ _ => rfl)) (pv 5)))) (fun _ _ _ _ _ => pe_dget hu (pv 9) (pv 12) (fun _ _ => rfl))) pa_nil))))))))))))), ?_⟩
    -- states
    refine ⟨_, rfl, _, rfl, a, xs, R, n, b, rfl, hR, hM, hb, by omega, fun H1 ps L s1 n1 h1 hB => ?_⟩
    have lenL := hB.len
    -- known
    refine ⟨_, rfl, e, rfl, ⟨_, SqL.of (s1 _ _ he)⟩, fun pk nk => ?_⟩
    refine dc_list (K := K) (a := e) (xs := nVs E) (fun i H2 => Same H1 H2 ∧ H2 pk = some (.dK (dO (D (E.take i)) fun _ => .bl true))) ⟨same_new nk, by rw [upd_same]; rfl⟩ (fun i H2 _ ⟨s2, _⟩ => SqL.of (s2 _ _ (s1 _ _ he))) ?_ ?_
    · rintro i v H2 hi ⟨s2, hD⟩
      obtain ⟨t, rfl, ht⟩ := nVs_at hi
      have hDl : (D (E.take i)).length ≤ 100000 := by
        have := length_le_of_sub (D_nodup (E.take i)) (fun x hx => mem_D.mp hx)
        rw [List.length_take] at this
        omega
      refine ⟨rfl, ?_⟩
      refine ⟨_, rfl, _, kN t, rfl, hD, by rw [dO_len]; exact szBig (by omega), ?_, ?_⟩
      · intro b' o e'
        rw [upd_ne (ne_of_none e' nk)]
        exact s2 _ _ e'
      · rw [upd_same, take_snoc ht, D_append]
        exact congrArg (fun z => some (HO.dK z)) (putK_dO (c := fun _ => .bl true))
    rintro H2 ⟨s2, hk⟩
    rw [nVs_len, List.take_length] at hk
    have s02 := s1.trans s2
    -- classes
    refine ⟨_, rfl, _, rfl, _, rfl, a, pk, ps, xs, R, n, b, L, D E, rfl, hR.same s02, hM, hB, hsz, hn, hk, s2 _ _ h1, fun H3 pc c s3 n3 h3 hc => ?_⟩
    have s03 := s02.trans s3
    have hps3 := s3 _ _ (s2 _ _ h1)
    have hk3 := s3 _ _ hk
    -- first = {}
    intro pf nf
    have nf0 : H pf = none := s03.free nf
    have hfd : ((fsts c L).map Prod.fst).Nodup := by
      rw [fsts_fst]
      exact D_nodup _
    have fl : ∀ j, (fsts c (L.take j)).length ≤ 4000 := by
      intro j
      have h1' : (fsts c (L.take j)).length = (D ((L.take j).map c)).length := by
        rw [← fsts_fst, List.length_map]
      have h2' := length_le_of_sub (D_nodup ((L.take j).map c)) (fun x hx => mem_D.mp hx)
      rw [List.length_map, List.length_take] at h2'
      omega
    refine ⟨_, rfl, ps, rfl, ⟨_, SqL.of (by rw [upd_ne (ne_of_none hps3 nf)]; exact hps3)⟩, ?_⟩
    refine for_list (K := K) (a := ps) (xs := nVs L) (fun i σ H4 => ∃ (y : Option V), σ = [some (.ref a), some (.ref e), some (nV b), some (.ref ps), y, some (.ref pk), some (.ref pc), some (.ref pf), none, none, none, none, none, none] ∧ Same H3 H4 ∧
      H4 pf = some (.dK (fD (fsts c (L.take i))))) ⟨none, rfl, same_new nf, by rw [upd_same]; rfl⟩ (fun i σ H4 _ ⟨_, _, s4, _⟩ => SqL.of (s4 _ _ hps3)) ?_ ?_
    · rintro i v σ H4 hi ⟨y, rfl, s4, hf4⟩
      obtain ⟨t, rfl, ht⟩ := nVs_at hi
      have htL : t ∈ L := List.mem_of_getElem? ht
      refine ⟨_, rfl, _, rfl, pc, _, rfl, dget_dO (s4 _ _ h3) htL, _, rfl, pf, _, rfl, DGet.k (k := kN (c t)) hf4, _, rfl, ?_⟩
      have hsn := fsts_snoc c (L.take i) t
      rw [← take_snoc ht] at hsn
      by_cases hm : c t ∈ (fsts c (L.take i)).map Prod.fst
      · obtain ⟨p, hp, ep⟩ := List.mem_map.mp hm
        have hv : valV (fD (fsts c (L.take i))) (kN (c t)) = some (nV p.2) := valV_fD (by rw [fsts_fst]; exact D_nodup _) (by rw [← ep]; exact hp)
        rw [hv]
        refine iteF ⟨_, rfl, s4, ?_⟩
        rw [hsn, if_pos hm]
        exact hf4
      · rw [valV_fD_out hm]
        refine iteT ?_
        refine ⟨_, rfl, _, rfl, _, rfl, _, rfl, pc, _, rfl, dget_dO (s4 _ _ h3) htL, pf, _, rfl, DPut.k (k := kN (c t)) hf4 (by rw [fD_len]; exact szBig (by have := fl i; omega)), ?_⟩
        refine ⟨_, rfl, ?_, ?_⟩
        · intro b' o e'
          rw [upd_ne (ne_of_none e' nf)]
          exact s4 _ _ e'
        · rw [upd_same, hsn, if_neg hm, fD_snoc, putK_new _ (valV_fD_out hm)]
    rintro σ H4 ⟨y, rfl, s4, hf4⟩
    rw [nVs_len, List.take_length] at hf4
    have s04 := s03.trans s4
    -- order = list(first)
    refine ⟨_, rfl, pf, _, rfl, hf4, fun po no => ?_⟩
    rw [fD_keys, fsts_fst]
    have eO : (fsts c L).map Prod.fst = D (L.map c) := fsts_fst c L
    generalize hO : D (L.map c) = O at eO
    have Ond : O.Nodup := by rw [← hO]; exact D_nodup _
    have lenO : O.length ≤ L.length := by
      have := length_le_of_sub (D_nodup (L.map c)) (fun x hx => mem_D.mp hx)
      rw [List.length_map, hO] at this
      exact this
    have s5 : Same H4 (upd H4 po (.lst (nVs O))) := same_new no
    have ho5 : (upd H4 po (.lst (nVs O))) po = some (.lst (nVs O)) := upd_same
    generalize (upd H4 po (.lst (nVs O))) = H5 at s5 ho5
    have s05 := s04.trans s5
    -- number
    refine ⟨_, rfl, po, _, rfl, .inl (SqL.of ho5), _, rfl, by rw [nVs_len]; omega, by rw [nVs_len]; omega, fun pn nn => ?_⟩
    rw [nVs_len]
    refine dc_range (n := (O.length : Int).toNat) (fun i H6 => Same H5 H6 ∧ H6 pn = some (.dK (dO (O.take i) fun k => nV (O.idxOf k)))) ⟨same_new nn, by rw [upd_same]; rfl⟩ ?_ ?_
    · rintro i H6 hi ⟨s6, hn6⟩
      have hi' : i < O.length := by omega
      have ht : O[i]? = some O[i] := List.getElem?_eq_getElem hi'
      refine ⟨rfl, ?_⟩
      refine ⟨_, rfl, _, rfl, po, _, _, _, rfl, rfl, SqL.of (s6 _ _ ho5), atI_zero_add (nVs_get ht), _, rfl, _, kN O[i], rfl, hn6, by rw [dO_len, List.length_take]; exact szBig (by omega), ?_, ?_⟩
      · intro b' o e'
        rw [upd_ne (ne_of_none e' nn)]
        exact s6 _ _ e'
      · rw [upd_same, take_snoc ht]
        have ev : V.int (0 + (i : Int)) = nV (O.idxOf O[i]) := by
          rw [List.Nodup.idxOf_getElem Ond i hi', Int.zero_add]
          rfl
        rw [ev]
        exact congrArg (fun z => some (HO.dK z)) (putK_dO_new (d := fun k => nV (O.idxOf k)) (nodup_not_take Ond ht) (fun _ _ => rfl))
    rintro H6 ⟨s6, hn6⟩
    have eT : O.take ((O.length : Int).toNat) = O := by
      rw [Int.toNat_natCast, List.take_length]
    rw [eT] at hn6
    have s06 := s05.trans s6
    have ho6 := s6 _ _ ho5
    have hc6 : H6 pc = some (.dK (dO L fun s => nV (c s))) := s6 _ _ (s5 _ _ (s4 _ _ h3))
    have hf6 : H6 pf = some (.dK (fD (fsts c L))) := s6 _ _ (s5 _ _ hf4)
    have hk6 : H6 pk = some (.dK (dO (D E) fun _ => .bl true)) := s6 _ _ (s5 _ _ (s4 _ _ hk3))
    have eF : ∀ i (hi : i < O.length), ∃ s, (fsts c L)[i]? = some (O[i], s) ∧ s ∈ L ∧ ((fsts c L).map Prod.snd)[i]? = some s := by
      intro i hi
      have hil : i < (fsts c L).length := by
        have := congrArg List.length eO
        rw [List.length_map] at this
        omega
      have h1' : ((fsts c L).map Prod.fst)[i]? = some O[i] := by rw [eO, List.getElem?_eq_getElem hi]
      rw [List.getElem?_map, List.getElem?_eq_getElem hil] at h1'
      have h2' : (fsts c L)[i].1 = O[i] := Option.some.inj h1'
      refine ⟨(fsts c L)[i].2, ?_, (fsts_mem c L _ (List.getElem_mem hil)).1, ?_⟩
      · rw [List.getElem?_eq_getElem hil, ← h2']
      · rw [List.getElem?_map, List.getElem?_eq_getElem hil]
        rfl
    have numO : ∀ t ∈ L, c t ∈ O := fun t ht => by
      rw [← hO]
      exact mem_D.mpr (List.mem_map_of_mem ht)
    -- found = [[..] ..]
    refine ⟨_, rfl, po, rfl, ⟨_, SqL.of ho6⟩, fun D1 nD1 => ?_⟩
    refine lc_list (K := K) (a := po) (xs := nVs O) (fun i H7 => Same H6 H7 ∧ ∃ ys : List Addr, ys.length = i ∧ ys.Nodup ∧ (∀ y ∈ ys, H6 y = none ∧ y ≠ D1) ∧ H7 D1 = some (.lst (ys.map V.ref)) ∧
      ∀ (j : Nat) (y : Addr) (s : Nat), ys[j]? = some y → ((fsts c L).map Prod.snd)[j]? = some s → H7 y = some (.lst (nVs ((rowOf R s).map fun t => O.idxOf (c t)))))
      ⟨same_new nD1, [], rfl, List.nodup_nil, fun y hy => (nomatch hy), by rw [upd_same]; rfl, fun j y s hy => by simp at hy⟩ (fun i H7 _ ⟨s7, _⟩ => SqL.of (s7 _ _ ho6)) ?_ ?_
    · rintro i v H7 hi ⟨s7, ys, yl, ynd, ynew, hD1, hrow⟩
      obtain ⟨k, rfl, hk'⟩ := nVs_at hi
      have hi' : i < O.length := (List.getElem?_eq_some_iff.mp hk').1
      have ek : O[i] = k := (List.getElem?_eq_some_iff.mp hk').2
      obtain ⟨st, e1, e2, e3⟩ := eF i hi'
      rw [ek] at e1
      obtain ⟨x, hx1, hx2⟩ := (hR.same (s06.trans s7)).get (hB.lt st e2)
      refine ⟨rfl, ?_⟩
      refine ⟨_, rfl, _, rfl, _, rfl, pf, _, rfl, dgetK (s7 _ _ hf6) (valV_fD hfd (List.mem_of_getElem? e1)), a, _, _, _, rfl, rfl, SqL.of ((s06.trans s7) _ _ hR.at_), atI_nat hx1, x, rfl, ⟨_, SqL.of hx2⟩, fun D2 nD2 => ?_⟩
      refine lc_list (K := K) (a := x) (xs := nVs (rowOf R st)) (fun j H8 => Same H7 H8 ∧ H8 D2 = some (.lst (nVs (((rowOf R st).take j).map fun t => O.idxOf (c t))))) ⟨same_new nD2, by rw [upd_same]; rfl⟩ (fun j H8 _ ⟨s8, _⟩ => SqL.of (s8 _ _ hx2)) ?_ ?_
      · rintro j v H8 hj ⟨s8, hD2⟩
        obtain ⟨u, rfl, hu'⟩ := nVs_at hj
        have huL : u ∈ L := hB.closed e2 (List.mem_of_getElem? hu')
        refine ⟨rfl, ?_⟩
        refine ⟨_, rfl, _, rfl, _, rfl, pc, _, rfl, dget_dO (s8 _ _ (s7 _ _ hc6)) huL, pn, _, rfl, dget_dO (s8 _ _ (s7 _ _ hn6)) (numO u huL), _, hD2, ?_, ?_, ?_⟩
        · rw [nVs_len, List.length_map, List.length_take]
          have := hM.wide st (hB.lt st e2)
          exact szBig (by omega)
        · intro b' o e'
          rw [upd_ne (ne_of_none e' nD2)]
          exact s8 _ _ e'
        · rw [upd_same, take_snoc hu', List.map_append]
          exact congrArg (fun z => some (HO.lst z)) (nVs_snoc _ _).symm
      · rintro H8 ⟨s8, hD2⟩
        rw [nVs_len, List.take_length] at hD2
        have hD1' := s8 _ _ hD1
        have n12 : D2 ≠ D1 := fun z => by
          rw [z, hD1] at nD2
          cases nD2
        refine ⟨_, hD1', by rw [List.length_map]; exact szBig (by omega), ?_, ys ++ [D2], by rw [List.length_append, List.length_singleton, yl], ?_, ?_, ?_, ?_⟩
        · intro b' o e'
          rw [upd_ne (ne_of_none e' nD1)]
          exact (s7.trans s8) _ _ e'
        · rw [List.nodup_append]
          refine ⟨ynd, by simp, ?_⟩
          intro p hp q' hq' e'
          rw [List.mem_singleton] at hq'
          rw [e', hq'] at hp
          obtain ⟨j, hj, ej⟩ := List.mem_iff_getElem.mp hp
          have hjF : ∃ s, ((fsts c L).map Prod.snd)[j]? = some s := by
            obtain ⟨s', _, _, z⟩ := eF j (by omega)
            exact ⟨s', z⟩
          obtain ⟨s', hs'⟩ := hjF
          have := hrow j D2 s' (by rw [List.getElem?_eq_getElem hj, ej]) hs'
          rw [nD2] at this
          cases this
        · intro y' hy'
          rcases List.mem_append.mp hy' with z | z
          · exact ynew y' z
          · rw [List.mem_singleton] at z
            rw [z]
            exact ⟨s7.free nD2, n12⟩
        · rw [upd_same, List.map_append]
          rfl
        · intro j y' s' hy' hs'
          by_cases hj : j < ys.length
          · rw [List.getElem?_append_left hj] at hy'
            have hne := (ynew y' (List.mem_of_getElem? hy')).2
            rw [upd_ne hne]
            exact s8 _ _ (hrow j y' s' hy' hs')
          · rw [List.getElem?_append_right (by omega)] at hy'
            have hj0 : j - ys.length = 0 := by
              have := (List.getElem?_eq_some_iff.mp hy').1
              simp at this
              omega
            rw [hj0] at hy'
            have ey : D2 = y' := Option.some.inj hy'
            have ej : j = i := by omega
            rw [ej, e3] at hs'
            have es : st = s' := Option.some.inj hs'
            rw [← ey, ← es, upd_ne n12]
            exact hD2
    rintro H7 ⟨s7, ys, yl, ynd, ynew, hD1, hrow⟩
    rw [nVs_len] at yl
    -- return (found, [..])
    refine ⟨_, rfl, _, rfl, po, rfl, ⟨_, SqL.of (s7 _ _ ho6)⟩, fun D3 nD3 => ?_⟩
    refine lc_list (K := K) (a := po) (xs := nVs O) (fun i H8 => Same H7 H8 ∧ H8 D3 = some (.lst (nVs (((((fsts c L).map Prod.snd).take i).filter fun s => decide (s ∈ D E)).map fun t => O.idxOf (c t))))) ⟨same_new nD3, by rw [upd_same]; rfl⟩ (fun i H8 _ ⟨s8, _⟩ => SqL.of (s8 _ _ (s7 _ _ ho6))) ?_ ?_
    · rintro i v H8 hi ⟨s8, hD3⟩
      obtain ⟨k, rfl, hk'⟩ := nVs_at hi
      have hi' : i < O.length := (List.getElem?_eq_some_iff.mp hk').1
      have ek : O[i] = k := (List.getElem?_eq_some_iff.mp hk').2
      obtain ⟨st, e1, e2, e3⟩ := eF i hi'
      rw [ek] at e1
      have ekc : c st = k := (fsts_mem c L _ (List.mem_of_getElem? e1)).2
      obtain ⟨r, hg, hr'⟩ := din_dO (t := st) (s8 _ _ (s7 _ _ hk6))
      refine ⟨rfl, ?_⟩
      refine ⟨_, rfl, _, rfl, pf, _, rfl, dgetK (s8 _ _ (s7 _ _ hf6)) (valV_fD hfd (List.mem_of_getElem? e1)), _, rfl, pk, r, rfl, hg, _, rfl, ?_⟩
      rw [take_snoc e3, List.filter_append]
      by_cases hE : st ∈ D E
      · rw [hr', decide_eq_true hE]
        refine ⟨_, rfl, _, rfl, pn, _, rfl, dget_dO (s8 _ _ (s7 _ _ hn6)) (List.mem_of_getElem? hk'), _, hD3, ?_, ?_, ?_⟩
        · rw [nVs_len, List.length_map]
          have := List.length_filter_le (fun s => decide (s ∈ D E)) (((fsts c L).map Prod.snd).take i)
          rw [List.length_take] at this
          exact szBig (by omega)
        · intro b' o e'
          rw [upd_ne (ne_of_none e' nD3)]
          exact s8 _ _ e'
        · rw [upd_same, List.filter_cons_of_pos (by exact decide_eq_true hE), List.filter_nil, List.map_append]
          refine congrArg (fun z => some (HO.lst z)) ?_
          rw [← ekc]
          exact (nVs_snoc _ _).symm
      · rw [hr', decide_eq_false hE]
        refine ⟨s8, ?_⟩
        rw [List.filter_cons_of_neg (by simpa using hE), List.filter_nil, List.append_nil]
        exact hD3
    rintro H8 ⟨s8, hD3⟩
    have eT2 : ((fsts c L).map Prod.snd).take (nVs O).length = (fsts c L).map Prod.snd := by
      apply List.take_of_length_le
      have := congrArg List.length eO
      rw [List.length_map] at this
      rw [nVs_len, List.length_map]
      omega
    rw [eT2] at hD3
    refine ⟨by show 2 ≤ sizeLine; decide, fun pt nt => ?_⟩
    have hml := made_least (E := D E) hM hB hc
    unfold made at hml
    rw [hO] at hml
    have s08 := (s06.trans s7).trans s8
    have s9 : Same H8 (upd H8 pt (.tup [.ref D1, .ref D3])) := same_new nt
    have n13 : D1 ≠ D3 := fun z => by
      rw [← z, hD1] at nD3
      cases nD3
    have hFl : ((fsts c L).map Prod.snd).length = O.length := by
      have := congrArg List.length eO
      rw [List.length_map] at this
      rw [List.length_map]
      exact this
    refine q _ pt D1 D3 ys _ _ (s08.trans s9) (s08.free nt) (s06.free nD1) ((s06.trans s7).free nD3) n13 ?_ ynd upd_same ?_ ?_ hml.1 ?_ ?_
    · intro y' hy'
      obtain ⟨z1, z2⟩ := ynew y' hy'
      refine ⟨s06.free z1, z2, ?_⟩
      intro z
      obtain ⟨j, hj, ej⟩ := List.mem_iff_getElem.mp hy'
      obtain ⟨s', _, _, hs'⟩ := eF j (by omega)
      have := hrow j y' s' (by rw [List.getElem?_eq_getElem hj, ej]) hs'
      rw [z, nD3] at this
      cases this
    · refine ⟨s9 _ _ (s8 _ _ hD1), by rw [yl, List.length_map]; exact hFl.symm, fun j y' hy' => ?_⟩
      have hj : j < ys.length := (List.getElem?_eq_some_iff.mp hy').1
      obtain ⟨s', _, _, hs'⟩ := eF j (by omega)
      rw [s9 _ _ (s8 _ _ (hrow j y' s' hy' hs'))]
      have er : rowOf (((fsts c L).map Prod.snd).map fun s => (rowOf R s).map fun t => O.idxOf (c t)) j = (rowOf R s').map fun t => O.idxOf (c t) := by
        rw [show rowOf (((fsts c L).map Prod.snd).map fun s => (rowOf R s).map fun t => O.idxOf (c t)) j = (((fsts c L).map Prod.snd).map fun s => (rowOf R s).map fun t => O.idxOf (c t)).getD j [] from rfl, List.getD_eq_getElem?_getD, List.getElem?_map, hs']
        rfl
      rw [er]
    · exact s9 _ _ hD3
    · exact fun w hw => (hml.2 w hw).trans mem_D
    · rw [List.length_map, hFl]
      omega
end
end K15

namespace K15
open PySem PySem.Spec PyProof.Rows L2 Rg Mach
abbrev sTexts : Stmt := topS 29
abbrev sInit : Stmt := inClass sTexts 0
abbrev sSg : Stmt := inClass sTexts 1
abbrev sTab : Stmt := inClass sTexts 2
abbrev sEnd : Stmt := inClass sTexts 3
abbrev sEq : Stmt := inClass sTexts 18
abbrev sRepr : Stmt := inClass sTexts 21
def nInit : List Str := ["self", "signs", "rows", "ends", "state"]
theorem scInit : FnScope nInit ["self", "signs", "rows", "ends"] (defScope sInit) := ⟨rfl, rfl, rfl, by decide +kernel, rfl, by decide +kernel, by decide +kernel⟩
theorem scSg : FnScope ["self"] ["self"] (defScope sSg) := ⟨rfl, rfl, rfl, by decide +kernel, rfl, by decide +kernel, by decide +kernel⟩
def nTab : List Str := ["self", "row"]
theorem scTab : FnScope nTab ["self"] (defScope sTab) := ⟨rfl, rfl, rfl, by decide +kernel, rfl, by decide +kernel, by decide +kernel⟩
theorem scEnd : FnScope ["self"] ["self"] (defScope sEnd) := ⟨rfl, rfl, rfl, by decide +kernel, rfl, by decide +kernel, by decide +kernel⟩
theorem scEq : FnScope ["self", "other"] ["self", "other"] (defScope sEq) := ⟨rfl, rfl, rfl, by decide +kernel, rfl, by decide +kernel, by decide +kernel⟩
theorem scRepr : FnScope ["self"] ["self"] (defScope sRepr) := ⟨rfl, rfl, rfl, by decide +kernel, rfl, by decide +kernel, by decide +kernel⟩
section
variable {P : Program} {w : World} {K : PySem.W.Frag} {mg : Str → Option Value} {base : Heap}
theorem ok_sg {f C : Addr} {fd : FuncData} {k : Nat} (F : Fun K "signs" "Texts.signs" sSg f fd) (T : TxC K C) : FnOk P w K mg base CX0 (k + 1) f fd ["self"] (spSg C) := by
  refine F.ok scSg (fun vs H Q E h => ?_) (fun cdv A outer s H vs Q E hr h => ?_)
  · obtain ⟨p, z, t, e, ys, R, E', rfl, _⟩ := h
    rfl
  · obtain ⟨p, z, t, e, ys, R, E, rfl, ⟨⟨dx, ob⟩, _⟩, q⟩ := h
    refine ⟨_, pss_one (ps_ret (pe_fld (pv 0) rfl)), ?_⟩
    exact ⟨_, rfl, p, C, dx, _, _, rfl, ob, T.cl, T.nS, tfl_signs _ _ _, q⟩
theorem ok_tab {f C : Addr} {fd : FuncData} {k : Nat} (F : Fun K "table" "Texts.table" sTab f fd) (T : TxC K C) (mli : mg "list" = none) : FnOk P w K mg base CX0 (k + 1) f fd ["self"] (spTab C) := by
  refine F.ok scTab (fun vs H Q E h => ?_) (fun cdv A outer s H vs Q E hr h => ?_)
  · obtain ⟨p, z, t, e, ys, R, E', rfl, _⟩ := h
    rfl
  · obtain ⟨p, z, t, e, ys, R, E, rfl, ⟨⟨dx, ob⟩, hR, _⟩, hl, q⟩ := h
    have hyl := hR.len
    refine ⟨_, pss_one (ps_ret (pe_lc (own := [("row", 1)]) (g := gName 1) (tt := tYes) (te := tCB (fun xs H Q => ∃ p ys, xs = [V.ref p] ∧ (SqL K H p ys ∨ SqT K H p ys) ∧ ∀ l, H l = none → Q (.ref l) (upd H l (.lst ys))) (tCons (tVar 1) tNil)) rfl scTab.nd (pi_list (pe_fld (pv 0) rfl)) (blkOk_by (own := [("row", 1)]) (N := nTab) (sc := defScope sTab) (by decide +kernel))
      (fun _ _ _ _ _ => pg_name (i := 1) scTab.nd rfl (Or.inl rfl)) (fun _ _ _ _ _ => pts_nil) (fun _ _ _ _ _ => pe_callTy call_list_of (by rfl) mli bList (pa_cons (pv 1) pa_nil)))), ?_⟩
    refine ⟨_, rfl, p, C, dx, _, _, rfl, ob, T.cl, T.nT, tfl_table _ _ _, t, rfl, ⟨_, SqL.of hR.at_⟩, fun D1 nD1 => ?_⟩
    refine lc_list (K := K) (a := t) (xs := ys.map V.ref) (fun i H7 => Same H H7 ∧ ∃ ks : List Addr, ks.length = i ∧ H7 D1 = some (.lst (ks.map V.ref)) ∧ (∀ y ∈ ks, H y = none ∧ y ≠ D1) ∧ ks.Nodup ∧ ∀ (j : Nat) (y : Addr), ks[j]? = some y → H7 y = some (.lst (nVs (rowOf R j))))
      ⟨same_new nD1, [], rfl, by rw [upd_same]; rfl, fun y hy => (nomatch hy), List.nodup_nil, fun j y hy => by simp at hy⟩ (fun i H7 _ ⟨s7, _⟩ => SqL.of (s7 _ _ hR.at_)) ?_ ?_
    · rintro i v H7 hi ⟨s7, ks, kl, hD1, kn, knd, hrow⟩
      rw [List.getElem?_map] at hi
      obtain ⟨x, hx, rfl⟩ := Option.map_eq_some_iff.mp hi
      have hx7 := s7 _ _ (hR.row i x hx)
      have hil := (List.getElem?_eq_some_iff.mp hx).1
      refine ⟨rfl, ?_⟩
      refine ⟨_, rfl, x, _, rfl, .inl (SqL.of hx7), fun y ny => ?_⟩
      have nyD : y ≠ D1 := (ne_of_none hD1 ny).symm
      have nyk : y ∉ ks := fun hy => by
        obtain ⟨j, hj, e⟩ := List.mem_iff_getElem.mp hy
        have := hrow j y (by rw [List.getElem?_eq_getElem hj, e])
        rw [this] at ny
        cases ny
      refine ⟨_, by rw [upd_ne nyD.symm]; exact hD1, by rw [List.length_map]; exact szBig (by omega), ?_, ks ++ [y], by rw [List.length_append, List.length_singleton, kl], ?_, ?_, ?_, ?_⟩
      · intro b' o eb
        rw [upd_ne (ne_of_none eb nD1), upd_ne (ne_of_none (s7 _ _ eb) ny)]
        exact s7 _ _ eb
      · rw [upd_same, List.map_append]
        rfl
      · intro y' hy'
        rcases List.mem_append.mp hy' with z | z
        · exact kn y' z
        · rw [List.mem_singleton] at z
          rw [z]
          exact ⟨s7.free ny, nyD⟩
      · rw [List.nodup_append]
        refine ⟨knd, by simp, fun a ha b hb e => ?_⟩
        rw [List.mem_singleton] at hb
        rw [hb] at e
        rw [e] at ha
        exact nyk ha
      · intro j y' hy'
        by_cases hj : j < ks.length
        · rw [List.getElem?_append_left hj] at hy'
          have h1 := hrow j y' hy'
          rw [upd_ne (kn y' (List.mem_of_getElem? hy')).2, upd_ne (ne_of_none h1 ny)]
          exact h1
        · have hj2 : j = ks.length := by
            have := (List.getElem?_eq_some_iff.mp hy').1
            rw [List.length_append, List.length_singleton] at this
            omega
          rw [hj2, List.getElem?_concat_length] at hy'
          cases hy'
          rw [upd_ne nyD, upd_same, hj2, kl]
    · rintro H7 ⟨s7, ks, kl, hD1, kn, knd, hrow⟩
      rw [List.length_map] at kl
      exact q H7 D1 ks s7 nD1 kn knd ⟨hD1, by omega, hrow⟩
theorem ok_end {f C : Addr} {fd : FuncData} {k : Nat} (F : Fun K "ends" "Texts.ends" sEnd f fd) (T : TxC K C) (mli : mg "list" = none) : FnOk P w K mg base CX0 (k + 1) f fd ["self"] (spEnd C) := by
  refine F.ok scEnd (fun vs H Q E h => ?_) (fun cdv A outer s H vs Q E hr h => ?_)
  · obtain ⟨p, z, t, e, ys, R, E', rfl, _⟩ := h
    rfl
  · obtain ⟨p, z, t, e, ys, R, E, rfl, ⟨⟨dx, ob⟩, hR, he⟩, q⟩ := h
    refine ⟨_, pss_one (ps_ret (pe_callTy call_list_of (by rfl) mli bList (pa_cons (pe_fld (pv 0) rfl) pa_nil))), ?_⟩
    refine ⟨_, rfl, p, C, dx, _, _, rfl, ob, T.cl, T.nE, tfl_ends _ _ _, e, _, rfl, .inl (SqL.of he), fun l nl => ?_⟩
    exact q _ l (same_new nl) nl upd_same
theorem ok_eq {f C : Addr} {fd : FuncData} {k : Nat} (F : Fun K "__eq__" "Texts.__eq__" sEq f fd) (T : TxC K C) (gC : mg "Texts" = some (.ref C)) (mis : mg "isinstance" = none)
    (ha : PySem.W.findIn K (.ref C) "__class__" = some (some (.builtin "object.__class__"))) (hn : PySem.W.specialIn K (.builtin "object.__class__") "__get__" = some (some (.builtin "getset_descriptor.__get__"))) (htk : PySem.W.takesIn K (.builtin "object.__class__") = some true) (hm : PySem.W.mroIn K C (.type "object") = some true)
    (hk : PySem.W.kitOne K (.ref C) (.ref C) = some true) : FnOk P w K mg base CX0 (k + 1) f fd ["self", "other"] (spEq K C) := by
  refine F.ok scEq (fun vs H Q E h => ?_) (fun cdv A outer s H vs Q E hr h => ?_)
  · obtain ⟨p, z, t, e, ys, R, E', y, rfl, _⟩ := h
    rfl
  · obtain ⟨p, z, t, e, ys, R, E, y, rfl, ⟨⟨dx, ob⟩, hR, he⟩, q⟩ := h
    refine ⟨_, pss_cons (ps_if (pw_or (pt_not (pt_val (pe_callB call_isi (by rfl) mis bIsi (pa_cons (pv 1) (pa_cons (pe_glob (v := .ref C) (by rfl) gC rfl) pa_nil)))))
        (pw_or1 (pt_cmpR op_ne (pe_fld (pv 0) rfl) (pe_fld (pv 1) rfl) (nomark _)))).pt (pss_one (ps_ret pe_bl)) pss_nil)
      (pss_one (ps_ret (pe_and (pe_cmpR (op_eqD hr.units) (pe_fld (pv 0) rfl) (pe_fld (pv 1) rfl) (nomark _)) (pe_one (pe_cmpR (op_eqD hr.units) (pe_fld (pv 0) rfl) (pe_fld (pv 1) rfl) (nomark _)))))), ?_⟩
    rcases q with ⟨ty, hty, hk', q⟩ | ⟨p2, z2, t2, e2, ys2, R2, E2, rfl, ⟨⟨dx2, ob2⟩, hR2, he2⟩, q⟩
    · exact ⟨_, rfl, _, _, ty, _, false, rfl, .own C, hty, hk', false, rfl, q⟩
    · refine ⟨_, rfl, _, _, _, _, true, rfl, .own C, .base (.ins ob2 T.cl ha hn htk hm), hk, true, rfl, ?_⟩
      refine ⟨_, rfl, p, C, dx, _, _, rfl, ob, T.cl, T.nS, tfl_signs _ _ _, _, rfl, p2, C, dx2, _, _, rfl, ob2, T.cl, T.nS, tfl_signs _ _ _, rfl, _, rfl, ?_⟩
      by_cases hz : z = z2
      · subst hz
        rw [decide_eq_true rfl, Bool.true_and] at q
        rw [decide_eq_true rfl]
        refine ⟨_, rfl, p, C, dx, _, _, rfl, ob, T.cl, T.nT, tfl_table _ _ _, _, rfl, p2, C, dx2, _, _, rfl, ob2, T.cl, T.nT, tfl_table _ _ _, dRs R, dRs R2, dp_rows hR, dp_rows hR2, shp_dRs _, shp_dRs _, ?_⟩
        rw [eqv_dRs]
        refine ⟨_, rfl, ?_⟩
        by_cases hRR : R = R2
        · rw [decide_eq_true hRR, Bool.true_and] at q
          rw [decide_eq_true hRR]
          refine ⟨_, rfl, p, C, dx, _, _, rfl, ob, T.cl, T.nE, tfl_ends _ _ _, _, rfl, p2, C, dx2, _, _, rfl, ob2, T.cl, T.nE, tfl_ends _ _ _, dNs E, dNs E2, dp_nVs he, dp_nVs he2, shp_dNs _, shp_dNs _, ?_⟩
          rw [eqv_dNs]
          exact q
        · rw [decide_eq_false hRR, Bool.false_and] at q
          rw [decide_eq_false hRR]
          exact q
      · rw [decide_eq_false hz, Bool.false_and] at q
        rw [decide_eq_false (fun y => hz (V.str.inj y))]
        exact q
theorem str_empty_app (x : Str) : Str.empty ++ x = x := by
  show (⟨Str.empty.cps ++ x.cps⟩ : Str) = x
  obtain ⟨c⟩ := x
  show (⟨#[] ++ c⟩ : Str) = ⟨c⟩
  simp
theorem str_app_len (x y : Str) : (x ++ y).length = x.length + y.length := by
  show (x.cps ++ y.cps).size = _
  rw [Array.size_append]
  rfl
theorem ok_repr {f C : Addr} {fd : FuncData} {k : Nat} (F : Fun K "__repr__" "Texts.__repr__" sRepr f fd) (T : TxC K C) : GFn P w K mg base CX0 (k + 1) f fd ["self"] (spRepr C) := by
  refine fun_okG F scRepr (fun vs H Q E h => ?_) (fun cdv A outer s H vs Q E hr hg h => ?_)
  · obtain ⟨p, z, t, e, ys, R, E', rfl, _⟩ := h
    rfl
  · obtain ⟨p, z, t, e, ys, R, E, rfl, ⟨⟨dx, ob⟩, hR, he⟩, hz, gR, gE, q⟩ := h
    refine ⟨_, pss_one (ps_ret (pe_joined (.cons pe_str (.cons (pe_fmtR (pe_fld (pv 0) rfl)) (.cons pe_str (.cons (pe_fmtRD hg hr.units (pe_fld (pv 0) rfl)) (.cons pe_str (.cons (pe_fmtRD hg hr.units (pe_fld (pv 0) rfl)) (.cons pe_str .nil))))))))), ?_⟩
    have l1 := hz.rep
    have l2 := gR.len
    have l3 := gE.len
    have c1 : ("Texts(" : Str).length = 6 := by decide +kernel
    have c2 : (", " : Str).length = 2 := by decide +kernel
    have c3 : (")" : Str).length = 1 := by decide +kernel
    have sl : sizeLine = 16777216 := sizeLine_eq
    refine ⟨_, rfl, by rw [str_app_len, c1]; show 0 + 6 ≤ _; omega, ?_⟩
    rw [str_empty_app]
    refine ⟨_, rfl, p, C, dx, _, _, rfl, ob, T.cl, T.nS, tfl_signs _ _ _, .inl ⟨z, rfl, by omega, _, rfl, by rw [str_app_len, c1]; omega, ?_⟩⟩
    refine ⟨_, rfl, by rw [str_app_len, str_app_len, c1, c2]; omega, ?_⟩
    refine ⟨_, rfl, p, C, dx, _, _, rfl, ob, T.cl, T.nT, tfl_table _ _ _, t, dRs R, rfl, dp_rows hR, gR.shw, gR.nod, Nat.le_trans gR.dep (by decide), by omega, _, rfl, by rw [str_app_len, str_app_len, str_app_len, c1, c2]; omega, ?_⟩
    refine ⟨_, rfl, by rw [str_app_len, str_app_len, str_app_len, str_app_len, c1, c2]; omega, ?_⟩
    refine ⟨_, rfl, p, C, dx, _, _, rfl, ob, T.cl, T.nE, tfl_ends _ _ _, e, dNs E, rfl, dp_nVs he, gE.shw, gE.nod, Nat.le_trans gE.dep (by decide), by omega, _, rfl, by rw [str_app_len, str_app_len, str_app_len, str_app_len, str_app_len, c1, c2]; omega, ?_⟩
    exact ⟨_, rfl, by rw [str_app_len, str_app_len, str_app_len, str_app_len, str_app_len, str_app_len, c1, c2, c3]; omega, q⟩
end
end K15

/-! own errors whose __init__ says super().__init__(..) : the context of a def with the class's cell -/
namespace Rg
open PySem PySem.Spec PyProof.Rows L2
def cxS (P : Program) (w : World) (K : PySem.W.Frag) (mg : Str → Option Value) (base : Heap) (N : List Str) (qual : Str) (scope : Scope) (f : Addr) (cd : Value) (cc : Addr) (A : Around) (outer : List Env) (s : Shared) (H : Hp) : Cx where
  prog := P
  w := w
  K := K
  mg := mg
  base := base
  A := A.deeper (PySem.W.ksEnv qual scope s.heap.objs.size f cd cc)
  N := N
  s_0 := s
  H_0 := H
  env := PySem.W.ksEnv qual scope s.heap.objs.size f cd cc
  outer := outer
  stack := PySem.W.ksEnv qual scope s.heap.objs.size f cd cc :: outer
  ex := []
  calm := true
  fn := fun _ => false
  pn := []
  xe := fun _ _ => False
structure SuScope (N ps : List Str) (sc : Scope) : Prop where
  kind : sc.kind = .function
  co : sc.isCoroutine = false
  gen : sc.isGenerator = false
  nd : N.Nodup
  pre : N.take ps.length = ps
  par : ∀ x ∈ ps, sc.names.lookup x = some .local
  nocell : ∀ y ∈ sc.names, y.2 ≠ .cell
  free : ∀ y ∈ sc.names, y.2 = .free → y.1 = "__class__"
  cls : sc.names.lookup ("__class__" : Str) = some .free
  sup : sc.names.lookup ("super" : Str) = some .globalImplicit
theorem one_lookup {k x : Str} {c0 c : Addr} (h : [(k, c0)].lookup x = some c) : x = k ∧ c = c0 := by
  unfold List.lookup at h
  split at h
  · rename_i e
    cases h
    exact ⟨(beq_iff_eq.mp e), rfl⟩
  · cases h
theorem lookup_nd {α β : Type} [BEq α] [LawfulBEq α] {k : α} {v : β} : ∀ {l : List (α × β)}, (l.map Prod.fst).Nodup → (k, v) ∈ l → l.lookup k = some v
  | [], _, h => by cases h
  | (a, b) :: l, nd, h => by
    rw [List.map_cons, List.nodup_cons] at nd
    rcases List.mem_cons.mp h with z | z
    · injection z with z1 z2
      subst z1 z2
      rw [List.lookup_cons, beq_self_eq_true]
    · have hne : (k == a) = false := by
        rw [beq_eq_false_iff_ne]
        rintro rfl
        exact nd.1 (List.mem_map.mpr ⟨_, z, rfl⟩)
      rw [List.lookup_cons, hne]
      exact lookup_nd nd.2 z
theorem zip_look {ps : List Str} {us : List Value} {i : Nat} {x : Str} {u : Value} (nd : ps.Nodup) (hl : ps.length ≤ us.length) (h1 : ps[i]? = some x) (h2 : us[i]? = some u) : (ps.zip us).reverse.lookup x = some u := by
  refine lookup_nd ?_ ?_
  · rw [List.map_reverse, List.map_fst_zip hl]
    exact (List.reverse_perm _).nodup_iff.mpr nd
  · rw [List.mem_reverse]
    refine List.mem_of_getElem? (i := i) ?_
    rw [List.getElem?_zip_eq_some]
    exact ⟨h1, h2⟩
section
variable {P : Program} {w : World} {K : PySem.W.Frag} {mg : Str → Option Value} {base : Heap} {N ps : List Str} {qual : Str} {scope : Scope} {f cc D : Addr} {cd : Value} {A : Around} {outer : List Env} {s : Shared} {H : Hp} {us : List Value} {vs : List V}
theorem inv_startS {cl : Value} {cld : Option Addr} {csl : Array (Option Value)} {h₁ : Heap} {tk : Nat} (S : SuScope N ps scope) (hd : A.handled = none) (e0 : Env0 P w K mg base A outer s H) (hl : vs.length = ps.length) (r : Vals vs us)
    (hcc : K.lookup cc = some ⟨cl, cld, .cell (some (.ref D)), csl⟩) (hns : h₁.Ns s.heap.objs.size (fun x => (ps.zip us).reverse.lookup x)) (hk : ∀ b o, s.heap.get? b = some o → h₁.get? b = some o) :
    Inv (cxS P w K mg base N qual scope f cd cc A outer s H) [] (L2.start N vs) H { s with heap := h₁, toks := tk } := by
  have hpl : ps.length ≤ N.length := by have := congrArg List.length S.pre; rw [List.length_take] at this; omega
  have hb : base.get? cc = some ⟨cl, cld, .cell (some (.ref D)), csl⟩ := e0.mod.kin _ _ hcc
  have hcell : h₁.get? cc = some ⟨cl, cld, .cell (some (.ref D)), csl⟩ := hk _ _ (e0.bs _ _ hb).1
  have noA : ∀ b : Addr, b ∉ (cxS P w K mg base N qual scope f cd cc A outer s H).ex := fun b z => absurd (show b ∈ ([] : List Addr) from z) (by simp)
  refine ⟨⟨e0.mod, S.kind, rfl, rfl, Nat.le_refl _, fun y z c h1 h2 => ?_, fun y hy => ?_, fun y c h _ => ?_, fun _ => hd, Around.frames_deeper e0.frames, .inr ⟨rfl, rfl⟩, fun b z => absurd z (noA b), e0.bs, e0.bsz, fun b _ _ => noA b, fun b z => absurd z (noA b), e0.funs, e0.frf⟩,
    rfl, e0.bare, Un.kept hk, ⟨_, hns, fun i y v h1 h2 h3 => ?_⟩, fun y c h => ?_, e0.hok.fresh (Nat.le_refl _), fun y c h => ?_, fun p hp => absurd (show p ∈ ([] : List (Addr × Obj)) from hp) (by simp), e0.hok.kept hk, ?_⟩
  · rw [(one_lookup h1).1, (one_lookup h2).1]
  · have hy : scope.names.lookup y = some .cell ∨ scope.names.lookup y = some .free := hy
    rcases hy with hy | hy
    · exact absurd rfl (S.nocell _ (PySem.mem_of_lookup hy))
    · have := S.free _ (PySem.mem_of_lookup hy) rfl
      have hy' : y = "__class__" := this
      rw [hy']
      exact ⟨cc, rfl⟩
  · cases h
  · have hi : i < vs.length := by
      unfold L2.start at h2
      by_cases hi : i < vs.length
      · exact hi
      · rw [List.getElem?_append_right (by simpa using hi), List.getElem?_replicate] at h2
        split at h2 <;> cases h2
    have ha : vs[i]? = some v := by
      unfold L2.start at h2
      rw [List.getElem?_append_left (by simpa using hi), List.getElem?_map] at h2
      cases e : vs[i]? with
      | none => rw [e] at h2; cases h2
      | some a => rw [e] at h2; cases h2; rfl
    obtain ⟨u, hu, rv⟩ := r.get ha
    have hp : ps[i]? = some y := by
      rw [← S.pre, List.getElem?_take_of_lt (by omega)]; exact h1
    have ndP : ps.Nodup := by rw [← S.pre]; exact S.nd.sublist (List.take_sublist _ _)
    have hlu : us.length = ps.length := by rw [← r.length]; exact hl
    exact ⟨u, rv, .inl ⟨S.par y (List.mem_of_getElem? hp), zip_look ndP (by omega) hp hu⟩⟩
  · rw [(one_lookup h).2]
    exact ⟨_, _, hcell, rfl⟩
  · rw [(one_lookup h).2]
    exact (e0.bs _ _ hb).2
  · unfold L2.start
    show _ = N.length
    rw [List.length_append, List.length_map, List.length_replicate]
    omega
end
end Rg

/-! super().__init__(..) in an own error's __init__: a statement of a def with the class's cell -/
namespace Rg
open PySem PySem.Spec PyProof.Rows L2
structure SuF (P : Program) (K : PySem.W.Frag) (mg : Str → Option Value) (f cda cc C D : Addr) (fd : FuncData) : Prop where
  fn : ∃ oc od osl, K.lookup f = some ⟨oc, od, .func fd, osl⟩
  hd : ∃ ar, (fd.params.posonlyargs ++ fd.params.args).head? = some ar ∧ ar.arg = "self"
  code : ∃ ccl cdd vs ccs file tf, K.lookup cda = some ⟨ccl, cdd, .fields vs, ccs⟩ ∧ vs[2]? = some (.str file tf) ∧ ((P.main.file : Str) == file) = true
  cell : ∃ cl cld csl, K.lookup cc = some ⟨cl, cld, .cell (some (.ref D)), csl⟩
  cls : ∃ cdD, PySem.W.clsIn K D = some cdD
  sub : PySem.W.mroIn K C (.ref D) = some true
  init : PySem.W.ks_superIn K C D "__init__" = some (some (.builtin "ValueError.__init__"))
  ve : PySem.W.subIn K (.ref C) (.type "ValueError") = some true
  stat : PySem.W.nsIn K cStatics "thirdparty.any" = some none
  mgs : mg "super" = none
  top : (P.main.scope.names.lookup ("super" : Str)).isSome = false
section
variable {P : Program} {w : World} {K : PySem.W.Frag} {mg : Str → Option Value} {base : Heap} {N ps : List Str} {qual : Str} {scope : Scope} {f cda cc C D : Addr} {A : Around} {outer : List Env} {s0 s : Shared} {H0 H : Hp} {fd : FuncData} {σ : L2.St} {a : Addr} {E : Value → Shared → Prop}
/-- the method-wrapper called -/
theorem call_mw {X : Cx} {pins : List (Addr × Obj)} {u : Addr} {us : List Value} {A : Around} {Q : Value → Shared → Prop} (T : OexC X.K C) (I : Inv X pins σ H s) (e : H a = some (exo a C none)) (hu : s.heap.get? u = some (PySem.W.kxs_mw "ValueError.__init__" a)) (hl : us.length ≤ sizeLine)
    (h : ∀ s', Inv X pins σ H s' → Q .none s') : wpAny (model X.prog X.w) A (call (.ref u) us) Q E s := by
  obtain ⟨nm, q, N, bs, bm, sn, sub, ab, col, dd, k0, k1, k2, k3, k5, hC, hbm⟩ := T.cls
  obtain ⟨t1, ho⟩ := exo_at I.hok e
  obtain ⟨hp, g, d, t, os⟩ := s
  refine wpAny_call (codeAny_of_tree ?_)
  show wpAny _ A.in1 (callAny (.ref u) ⟨us, []⟩) _ _ _
  simp only [callAny]
  refine wpAny_bind (wpAny_load hu ?_)
  simp only [PySem.W.kxs_mw, show (Value.type "method-wrapper" == Value.type "method" || Value.type "method-wrapper" == Value.type "builtin_function_or_method" || Value.type "method-wrapper" == Value.type "method-wrapper") = true by decide, if_true]
  refine PySem.W.KFB.if_so (by decide) ?_
  refine wpAny_bind (PySem.W.check_bound_init PySem.F.excBase_ValueError.toExcCallFacts (I.kIn _ _ hC) ho rfl ?_)
  refine wpAny_bind (wpAny_pure (wpAny_pure ?_))
  refine ⟨plainId_quiet PySem.F.excBase_ValueError.init.plain _, codeAny_builtin PySem.F.excBase_ValueError.initEntry ?_⟩
  refine PySem.W.exc_init_tree (cls := .ref C) (t0 := t1) (dv := none) (c2 := .none) (c3 := .none) (b4 := .bool false) ho hl fun h' k hx ht => ?_
  have J := I.write (t' := t) (x := a) (e := a) (o := exo a C none) (by rw [e]; exact True.intro) (.inl rfl) k ⟨_, hx⟩ (exo_ok hx)
  have eu : upd H a (exo a C none) = H := by
    funext b
    by_cases hb : b = a
    · rw [hb, upd_same, e]
    · rw [upd_ne hb]
  rw [eu] at J
  exact h _ J
theorem su_stmt {body : List Stmt} {e : Expr} {es : List Expr} {ta : TA} {p0 p1 p2 pos pos' : Pos} {Qn : Hp → Prop} {pl : Sem Bool} (S : SuScope N ps scope) (hN : N[0]? = some ("self" : Str)) (hps : ("self" : Str) ∈ ps) (F : SuF P K mg f cda cc C D fd) (T : OexC K C)
    (I : Inv (cxS P w K mg base N qual scope f (.ref cda) cc A outer s0 H0) [] σ H s) (hσ : σ[0]? = some (some (V.ref a))) (ea : H a = some (exo a C none))
    (ha : PA (cxS P w K mg base N qual scope f (.ref cda) cc A outer s0 H0) (e :: es) ta)
    (hq : ta σ H fun vs H1 => vs.length ≤ 1000 ∧ H1 a = some (exo a C none) ∧ Qn H1)
    (hc : eval (.Call (.Attribute (.Call (.Name "super" p0) [] [] p1) "__init__" p2) (e :: es) [] pos) (PySem.W.ksEnv qual scope s0.heap.objs.size f (.ref cda) cc) = (do
      let ov ← attributeBase (.Call (.Name "super" p0) [] [] p1) "__init__" (PySem.W.ksEnv qual scope s0.heap.objs.size f (.ref cda) cc) (eval (.Call (.Name "super" p0) [] [] p1) (PySem.W.ksEnv qual scope s0.heap.objs.size f (.ref cda) cc))
      standAt p2.atName
      let (fv, first) ← holding [ov] (getMethod ov "__init__" pl)
      callWith pos fv first (backTo pos (starEach (e :: es) (PySem.W.ksEnv qual scope s0.heap.objs.size f (.ref cda) cc))) []) := by rfl)
    (he : starEach (e :: es) (PySem.W.ksEnv qual scope s0.heap.objs.size f (.ref cda) cc) = (false, eval e (PySem.W.ksEnv qual scope s0.heap.objs.size f (.ref cda) cc)) :: starEach es (PySem.W.ksEnv qual scope s0.heap.objs.size f (.ref cda) cc) := by rfl)
    (hpl : (backTo pos (starEach es (PySem.W.ksEnv qual scope s0.heap.objs.size f (.ref cda) cc))).any (·.1) = false := by rfl)
    (hs : swapsWith (.Call (.Attribute (.Call (.Name "super" p0) [] [] p1) "__init__" p2) (e :: es) [] pos) none pos'.line (PySem.W.ksEnv qual scope s0.heap.objs.size f (.ref cda) cc) = pure false := by rfl) :
    PySem.wpAt (model P w) (cxS P w K mg base N qual scope f (.ref cda) cc A outer s0 H0).A (.func body (PySem.W.ksEnv qual scope s0.heap.objs.size f (.ref cda) cc))
      (exec (.Expr (.Call (.Attribute (.Call (.Name "super" p0) [] [] p1) "__init__" p2) (e :: es) [] pos) pos') (PySem.W.ksEnv qual scope s0.heap.objs.size f (.ref cda) cc))
      (fun fl s' => fl = .next ∧ ∃ H1, Inv (cxS P w K mg base N qual scope f (.ref cda) cc A outer s0 H0) [] σ H1 s' ∧ Qn H1) (fun _ _ => False) s := by
  obtain ⟨oc, od, osl, hf⟩ := F.fn
  obtain ⟨ar, hp, har⟩ := F.hd
  obtain ⟨ccl, cdd, vs, ccs, file, tf, hcode, hvs, hfile⟩ := F.code
  obtain ⟨cl, cld, csl, hcell⟩ := F.cell
  obtain ⟨cdD, hD⟩ := F.cls
  have X : K.In s.heap := I.kIn
  obtain ⟨oD, hD1, hD2⟩ : ∃ oD, s.heap.get? D = some oD ∧ oD.data = .cls cdD := by
    unfold PySem.W.clsIn at hD
    split at hD
    · rename_i c d cd' sl ho
      cases hD
      exact ⟨_, X _ _ ho, rfl⟩
    · cases hD
  obtain ⟨t1, ho⟩ := exo_at I.hok ea
  obtain ⟨m, hns, hloc⟩ := I.loc
  have hka : scope.names.lookup ("self" : Str) = some .local := S.par _ hps
  obtain ⟨us, ru, hlk⟩ := hloc 0 "self" (.ref a) hN hσ (.inl hka)
  obtain rfl : us = Value.ref a := ru
  have hms : m "self" = some (.ref a) := by
    rcases hlk with ⟨_, z⟩ | ⟨z, _⟩
    · exact z
    · have z' : scope.names.lookup ("self" : Str) = some .cell ∨ scope.names.lookup ("self" : Str) = some .free := z
      rw [hka] at z'
      rcases z' with z' | z' <;> cases z'
  obtain ⟨mb, h1, h2⟩ := I.mod.blt
  refine PySem.ks_wpAt_Expr_any ?_ I.quiet hs
  refine PySem.ks_wpAt_MethodCall (pl := pl) ?_ hc
  refine PySem.ks_wpAt_super_base (env := PySem.W.ksEnv qual scope s0.heap.objs.size f (.ref cda) cc) S.sup S.cls (by decide) rfl (X _ _ hf) rfl hp rfl (X _ _ hcode) rfl hvs hfile F.top ?_
  rw [har]
  refine PySem.W.ks_loadName_global S.kind S.sup (Calls.loadGlobal_builtin (mg := mg) (mb := mb) (v := .type "super") (I.mod.glob.keeps I.bk) F.mgs (h1.keeps I.bk) ((h2 _ (by decide)).trans (by decide +kernel)) ⟨rfl, ?_⟩)
  refine wpAny_loadName_free S.kind S.cls rfl ⟨_, X _ _ hcell, rfl⟩ ?_
  refine wpAny_loadName_local S.kind hka hns hms ?_
  refine PySem.ks_wpAny_isType_cls hD1 hD2 ⟨rfl, ?_⟩
  refine PySem.ks_wpAny_call_super hD1 hD2 ho rfl (fun c z => by cases z) (PySem.W.looks_mroIn X F.sub) (fun h' eso k => ?_)
  have I2 := I.kept (t' := s.toks) k
  have ho2 := k _ _ ho
  have X2 : K.In h' := I2.kIn
  obtain ⟨hp, g, d, t, os⟩ := s
  cases hcc : PySem.W.clsIn K C with
  | none => have z := F.init; unfold PySem.W.ks_superIn at z; rw [hcc] at z; cases z
  | some cdC =>
    have hm := F.init
    unfold PySem.W.ks_superIn at hm
    rw [hcc] at hm
    have IA : PySem.W.InstAt h' a { cls := .ref C, dict := none, data := .fields #[.ref t1, .none, .none, .none, .bool false, .none] } C none := ⟨ho2, rfl, rfl, trivial⟩
    have hI : PySem.W.Looks (model P w) h' (isInstance (.ref a) (.type "ValueError")) true := IA.type.andThen (PySem.W.looks_subIn X2 F.ve)
    refine PySem.W.kxs_getMethod PySem.W.kxs_ValueError eso (PySem.W.looks_opaque X2 F.stat) (l₀ := cdC.mro) ?_ rfl X2 hm hI (PySem.W.ks_ne X2 IA hcc) (by decide) ?_
    · exact fun A Q E s k q => wpAny_bind ((PySem.W.looks_clsIn X2 hcc) A _ E s k (wpAny_pure q))
    · have k2 : ∀ b o, h'.get? b = some o → (h'.push (PySem.W.kxs_mw "ValueError.__init__" a)).get? b = some o := fun b o e => Heap.get?_push_of_some _ e
      have I3 := I2.kept (t' := t + 1) k2
      have hu : (h'.push (PySem.W.kxs_mw "ValueError.__init__" a)).get? h'.objs.size = some (PySem.W.kxs_mw "ValueError.__init__" a) := Heap.get?_push_at rfl rfl
      have I4 : Inv (cxS P w K mg base N qual scope f (.ref cda) cc A outer s0 H0) [(h'.objs.size, PySem.W.kxs_mw "ValueError.__init__" a)] σ H ⟨h'.push (PySem.W.kxs_mw "ValueError.__init__" a), g, d, t + 1, os⟩ := I3.pins_of fun p hp => by
        obtain rfl := List.mem_singleton.mp hp
        have lt : ∀ {b : Addr} {o : Obj}, h'.get? b = some o → b ≠ h'.objs.size := fun {b o} z => Nat.ne_of_lt (Heap.lt_size z)
        refine ⟨hu, I2.hok.fresh (Nat.le_refl _), Nat.ne_of_gt I2.lt, I2.nofs (Nat.le_refl _), fun v z => by cases z⟩
      have hrun := ha.run pos _ _ σ H _ I4 hq
      have hrun : wpAny (model P w) _ (spliced (backTo pos (starEach (e :: es) (PySem.W.ksEnv qual scope s0.heap.objs.size f (.ref cda) cc)))) _ _ _ := hrun
      show wpAny _ _ (callWith pos (Value.ref h'.objs.size) [] (backTo pos (starEach (e :: es) (PySem.W.ksEnv qual scope s0.heap.objs.size f (.ref cda) cc))) []) _ _ _
      rw [he] at hrun ⊢
      refine PySem.W.kxs_callWith (i := "ValueError.__init__") (x := a) (by show (false || (backTo pos (starEach es (PySem.W.ksEnv qual scope s0.heap.objs.size f (.ref cda) cc))).any (·.1)) = false; rw [hpl]; rfl) ?_
      refine PySem.Calls.evalArgs_plain (thn hrun fun us s5 hh => ?_)
      obtain ⟨vs5, H5, I5, r5, hl5, ea5, q5⟩ := hh
      have hu5 : s5.heap.get? h'.objs.size = some (PySem.W.kxs_mw "ValueError.__init__" a) := (I5.pin _ (List.mem_append_right _ List.mem_cons_self)).1
      refine ⟨hu5, ?_⟩
      have hlen : us.length ≤ sizeLine := by
        rw [← Paired.length r5, sizeLine_eq]
        omega
      exact call_mw (X := cxS P w K mg base N qual scope f (.ref cda) cc A outer s0 H0) T I5 ea5 hu5 hlen fun s' J => ⟨rfl, H5, J.pins_of (fun p hp => absurd hp (by simp)), q5⟩
end
end Rg

/-! own errors with one field or two: the promises of their __init__ -/
namespace Rg
open PySem PySem.Spec PyProof.Rows L2
structure SuFn (P : Program) (K : PySem.W.Frag) (mg : Str → Option Value) (qual : Str) (st : Stmt) (f C : Addr) (fd : FuncData) : Prop where
  ex : ∃ (oc : Value) (od : Option Addr) (dV kV doc pm : Value) (an : Option Addr) (cda : Addr) (ct : Value) (osl : Array (Option Value)) (cc : Addr),
    fd = PySem.W.ksFn "__init__" qual (defArgs st) (defBody st) (defScope st) dV kV doc pm an (.ref cda) ct cc ∧ K.lookup f = some ⟨oc, od, .func fd, osl⟩ ∧ PySem.W.codeIn K (.ref cda) qual = true ∧ SuF P K mg f cda cc C C fd
section
variable {P : Program} {w : World} {K : PySem.W.Frag} {mg : Str → Option Value} {base : Heap} {N ps : List Str} {qual : Str} {f C : Addr} {fd : FuncData} {st : Stmt} {CX : CXT} {k : Nat} {sp : Sp}
theorem su_fn {e : Expr} {es : List Expr} {rest : List Stmt} {p0 p1 p2 pos pos' : Pos} {pl : Env → Sem Bool} (F : SuFn P K mg qual st f C fd) (S : SuScope N ps (defScope st)) (hN : N[0]? = some ("self" : Str)) (hps : ("self" : Str) ∈ ps) (T : OexC K C)
    (hb : defBody st = .Expr (.Call (.Attribute (.Call (.Name "super" p0) [] [] p1) "__init__" p2) (e :: es) [] pos) pos' :: rest) (len : ∀ vs H Q E, sp vs H Q E → vs.length = ps.length)
    (hbody : ∀ (cda cc : Addr) (A : Around) (outer : List Env) (s : Shared) (H : Hp) (vs : List V) (Q : VK) (E : XK), sp vs H Q E → ∃ a ta t, (L2.start N vs)[0]? = some (some (V.ref a)) ∧ H a = some (exo a C none) ∧
      PA (cxS P w K mg base N qual (defScope st) f (.ref cda) cc A outer s H) (e :: es) ta ∧ PSs (cxS P w K mg base N qual (defScope st) f (.ref cda) cc A outer s H) rest t ∧
      ta (L2.start N vs) H fun vs1 H1 => vs1.length ≤ 1000 ∧ H1 a = some (exo a C none) ∧ t { nx := fun _ H' => Q .non H', rt := Q } (L2.start N vs) H1)
    (hc : ∀ env : Env, eval (.Call (.Attribute (.Call (.Name "super" p0) [] [] p1) "__init__" p2) (e :: es) [] pos) env = (do
      let ov ← attributeBase (.Call (.Name "super" p0) [] [] p1) "__init__" env (eval (.Call (.Name "super" p0) [] [] p1) env)
      standAt p2.atName
      let (fv, first) ← holding [ov] (getMethod ov "__init__" (pl env))
      callWith pos fv first (backTo pos (starEach (e :: es) env)) []))
    (he : ∀ env : Env, starEach (e :: es) env = (false, eval e env) :: starEach es env := by intro env; rfl) (hpl : ∀ env : Env, (backTo pos (starEach es env)).any (·.1) = false := by intro env; rfl)
    (hs : ∀ env : Env, swapsWith (.Call (.Attribute (.Call (.Name "super" p0) [] [] p1) "__init__" p2) (e :: es) [] pos) none pos'.line env = pure false := by intro env; rfl) :
    FnOk P w K mg base CX (k + 1) f fd ps sp := by
  obtain ⟨oc, od, dV, kV, doc, pm, an, cda, ct, osl, cc, rfl, lk, hcd, SF⟩ := F.ex
  refine ⟨len, fun A outer s H args us vs Q E hr e0 hbi r hsp => ?_⟩
  have hlen := len _ _ _ _ hsp
  have kin : K.In s.heap := e0.mod.kin.keeps (fun b o e => (e0.bs b o e).1)
  have nolim : s.heap.NoLimit := e0.mod.nolimit.keeps (fun b o e => (e0.bs b o e).1)
  obtain ⟨cl, cld, csl, hcell⟩ := SF.cell
  refine ks_codeAny_call_defAt (fd := PySem.W.ksFn "__init__" qual (defArgs st) (defBody st) (defScope st) dV kV doc pm an (.ref cda) ct cc) (body := defBody st) (binds := ps.zip us) hr.depth (kin _ _ lk) rfl nolim (PySem.W.codeRec_of kin hcd) rfl hbi S.nocell (fun y hy => S.par y.1 (List.of_mem_zip hy).1) (fun h1 hns hk => ?_) S.co S.gen S.kind
  show PySem.wpAt (model P w) (A.deeper (PySem.W.ksEnv qual (defScope st) s.heap.objs.size f (.ref cda) cc)) (.func (defBody st) (PySem.W.ksEnv qual (defScope st) s.heap.objs.size f (.ref cda) cc)) (execs (defBody st) (PySem.W.ksEnv qual (defScope st) s.heap.objs.size f (.ref cda) cc)) _ _ _
  obtain ⟨a, ta, t, hσ, ea, ha, ht, hq⟩ := hbody cda cc A outer s H vs Q E hsp
  have I0 := inv_startS (tk := s.toks + (ps.zip us).length) (qual := qual) (f := f) (cd := .ref cda) S hr.hd e0 hlen r hcell hns hk
  have h1 := su_stmt (body := defBody st) (p0 := p0) (p1 := p1) (p2 := p2) (pos := pos) (pos' := pos') S hN hps SF T I0 hσ ea ha hq (hc _) (he _) (hpl _) (hs _)
  have hcons : execs (defBody st) (PySem.W.ksEnv qual (defScope st) s.heap.objs.size f (.ref cda) cc) = execs (.Expr (.Call (.Attribute (.Call (.Name "super" p0) [] [] p1) "__init__" p2) (e :: es) [] pos) pos' :: rest) (PySem.W.ksEnv qual (defScope st) s.heap.objs.size f (.ref cda) cc) := by rw [hb]
  rw [hcons]
  refine ks_wpAt_execs_cons (PySem.wpAt_mono h1 (fun fl s1 hh => ?_) (fun _ _ z => z.elim))
  obtain ⟨rfl, H1, I1, q1⟩ := hh
  refine PySem.wpAt_of_wpAny (wpAny_mono (ht.run [] s1 _ H1 _ I1 q1) (fun fl s' hs' => ?_) (fun _ _ z => False.elim z))
  cases fl with
  | ret u =>
    obtain ⟨v, σ', H', J, rv, q⟩ := hs'
    exact ⟨v, H', J.os, J.bare, J.base, J.hok, rv, q⟩
  | next =>
    obtain ⟨σ', H', J, q⟩ := hs'
    exact ⟨V.non, H', J.os, J.bare, J.base, J.hok, rfl, q⟩
  | brk =>
    obtain ⟨_, _, _, q⟩ := hs'
    exact q.elim
  | cont =>
    obtain ⟨_, _, _, q⟩ := hs'
    exact q.elim
theorem su_eval {e : Expr} {es : List Expr} {p0 p1 p2 pos : Pos} (env : Env) (hap : (p2.endLine == pos.line) = true) (hf : methodCallForm ((e :: es).length + ([] : List Keyword).length) (backTo pos (starEach (e :: es) env)) (backToKw pos (keywordEach [] env)) = true) :
    eval (.Call (.Attribute (.Call (.Name "super" p0) [] [] p1) "__init__" p2) (e :: es) [] pos) env = (do
      let ov ← attributeBase (.Call (.Name "super" p0) [] [] p1) "__init__" env (eval (.Call (.Name "super" p0) [] [] p1) env)
      standAt p2.atName
      let (fv, first) ← holding [ov] (getMethod ov "__init__" (do return (← importBound (.Call (.Name "super" p0) [] [] p1) env).getD true))
      callWith pos fv first (backTo pos (starEach (e :: es) env)) []) := by
  show (do
      let ov ← attributeBase (.Call (.Name "super" p0) [] [] p1) "__init__" env (eval (.Call (.Name "super" p0) [] [] p1) env)
      standAt p2.atName
      methodCall (.Call (.Name "super" p0) [] [] p1) "__init__" p2 pos env ov ((e :: es).length + ([] : List Keyword).length) (backTo pos (starEach (e :: es) env)) (backToKw pos (keywordEach [] env))) = _
  unfold methodCall methodCallPos calleeOf
  simp only [hf, hap, if_true, Bool.not_true, Bool.false_or, pure_bind]
  rfl
/-- __init__(self, x): super().__init__(x); self.g = x -/
def spEr1 (C : Addr) (g : Str) : Sp := fun vs H Q _ => ∃ a v, vs = [.ref a, v] ∧ H a = some (exo a C none) ∧ ∀ d, H d = none → d ≠ a → Q .non (upd (upd H d (exd d [(g, v)])) a (exo a C (some d)))
/-- __init__(self, x, y): super().__init__(x, y); self.g = x; self.h = y -/
def spEr2 (C : Addr) (g h : Str) : Sp := fun vs H Q _ => ∃ a v u, vs = [.ref a, v, u] ∧ H a = some (exo a C none) ∧ ∀ d, H d = none → d ≠ a → Q .non (upd (upd (upd H d (exd d [(g, v)])) a (exo a C (some d))) d (exd d [(h, u), (g, v)]))
theorem ok_er1 {x g : Str} {p0 p1 p2 p3 p4 p5 p6 pos pos' pos2 : Pos} (F : SuFn P K mg qual st f C fd) (S : SuScope ["self", x] ["self", x] (defScope st)) (T : OexC K C) (hg : PySem.W.findIn K (.ref C) g = some none)
    (hb : defBody st = [.Expr (.Call (.Attribute (.Call (.Name "super" p0) [] [] p1) "__init__" p2) [.Name x p3] [] pos) pos', .Assign [.Attribute (.Name "self" p4) g p5] (.Name x p6) pos2])
    (hap : (p2.endLine == pos.line) = true) (hd : (x == ("__debug__" : Str)) = false := by decide) (hcd : (x == ("__classdict__" : Str)) = false := by decide) :
    FnOk P w K mg base CX (k + 1) f fd ["self", x] (spEr1 C g) := by
  refine su_fn F S rfl (by simp) T hb (fun vs H Q E h => ?_) (fun cda cc A outer s H vs Q E h => ?_) (fun env => su_eval env hap rfl)
  · obtain ⟨a, v, rfl, _⟩ := h
    rfl
  · obtain ⟨a, v, rfl, ea, q⟩ := h
    have v0 : Vis (cxS P w K mg base ["self", x] qual (defScope st) f (.ref cda) cc A outer s H).env.scope "self" := .inl (S.par _ (by simp))
    have v1 : Vis (cxS P w K mg base ["self", x] qual (defScope st) f (.ref cda) cc A outer s H).env.scope x := .inl (S.par _ (by simp))
    refine ⟨a, _, _, rfl, ea, pa_cons (pe_var (i := 1) rfl v1 hd hcd) pa_nil, pss_one (ps_ost (pe_var (i := 0) rfl v0) (pe_var (i := 1) rfl v1 hd hcd)), ?_⟩
    exact ⟨v, rfl, by show 1 ≤ 1000; decide, ea, v, rfl, _, rfl, a, C, rfl, T, hg, .inl ⟨ea, q⟩⟩
theorem ok_er2 {x y g h : Str} {p0 p1 p2 p3 p4 p5 p6 p7 p8 p9 p10 pos pos' pos2 pos3 : Pos} (F : SuFn P K mg qual st f C fd) (S : SuScope ["self", x, y] ["self", x, y] (defScope st)) (T : OexC K C) (hg : PySem.W.findIn K (.ref C) g = some none) (hh : PySem.W.findIn K (.ref C) h = some none)
    (hb : defBody st = [.Expr (.Call (.Attribute (.Call (.Name "super" p0) [] [] p1) "__init__" p2) [.Name x p3, .Name y p4] [] pos) pos', .Assign [.Attribute (.Name "self" p5) g p6] (.Name x p7) pos2, .Assign [.Attribute (.Name "self" p8) h p9] (.Name y p10) pos3])
    (hap : (p2.endLine == pos.line) = true) (hd : (x == ("__debug__" : Str)) = false := by decide) (hcd : (x == ("__classdict__" : Str)) = false := by decide) (hd2 : (y == ("__debug__" : Str)) = false := by decide) (hcd2 : (y == ("__classdict__" : Str)) = false := by decide) :
    FnOk P w K mg base CX (k + 1) f fd ["self", x, y] (spEr2 C g h) := by
  refine su_fn F S rfl (by simp) T hb (fun vs H Q E h => ?_) (fun cda cc A outer s H vs Q E h => ?_) (fun env => su_eval env hap rfl)
  · obtain ⟨a, v, u, rfl, _⟩ := h
    rfl
  · obtain ⟨a, v, u, rfl, ea, q⟩ := h
    have v0 : Vis (cxS P w K mg base ["self", x, y] qual (defScope st) f (.ref cda) cc A outer s H).env.scope "self" := .inl (S.par _ (by simp))
    have v1 : Vis (cxS P w K mg base ["self", x, y] qual (defScope st) f (.ref cda) cc A outer s H).env.scope x := .inl (S.par _ (by simp))
    have v2 : Vis (cxS P w K mg base ["self", x, y] qual (defScope st) f (.ref cda) cc A outer s H).env.scope y := .inl (S.par _ (by simp))
    refine ⟨a, _, _, rfl, ea, pa_cons (pe_var (i := 1) rfl v1 hd hcd) (pa_cons (pe_var (i := 2) rfl v2 hd2 hcd2) pa_nil),
      pss_cons (ps_ost (pe_var (i := 0) rfl v0) (pe_var (i := 1) rfl v1 hd hcd)) (pss_one (ps_ost (pe_var (i := 0) rfl v0) (pe_var (i := 2) rfl v2 hd2 hcd2))), ?_⟩
    refine ⟨v, rfl, u, rfl, by show 2 ≤ 1000; decide, ea, v, rfl, _, rfl, a, C, rfl, T, hg, .inl ⟨ea, fun d hdn hda => ?_⟩⟩
    have hd0 : (upd (upd H d (exd d [(g, v)])) a (exo a C (some d))) d = some (exd d [(g, v)]) := by rw [upd_ne hda, upd_same]
    exact ⟨u, rfl, _, rfl, a, C, rfl, T, hh, .inr ⟨d, [(g, v)], upd_same, hd0, by show 1 ≤ 900; decide, q d hdn hda⟩⟩
end
end Rg

namespace Rg
open PySem PySem.Spec PyProof.Rows L2 Mach
/-- either of two rules for one operator -/
theorem op_or2 {X : Cx} {f : Value → Value → Sem Value} {r1 r2 : R2} (h1 : OpR X f r1) (h2 : OpR X f r2) : OpR X f (fun x y H Q => r1 x y H Q ∨ r2 x y H Q) := by
  intro pins s σ H x y v u Q I rx ry h
  rcases h with h | h
  · exact h1 pins s σ H x y v u Q I rx ry h
  · exact h2 pins s σ H x y v u Q I rx ry h
/-- repr of a text, or of a list or tuple of data -/
theorem call_repr_v {X : Cx} (hg : X.A.guards = some []) (hu : X.A.units + 64 < cLine) : CallR X (.builtin "repr")
    (fun xs H Q => ∃ (x : V) (d : PyData), xs = [x] ∧ Dp X.K H x d ∧ ((∃ a, x = .ref a) ∨ ∃ z, x = .str z ∧ d = .str z) ∧ d.showable = true ∧ d.hasDict = false ∧ d.depth ≤ 60 ∧ d.shown.length ≤ sizeLine ∧ Q (.str d.shown) H) := by
  intro pins s σ H xs us Q I r h
  obtain ⟨x, d, rfl, hd, hx, hs, hnd, hdp, hz, q⟩ := h
  rcases hx with ⟨a, rfl⟩ | ⟨z, rfl, rfl⟩
  · exact call_repr_data hg hu pins s σ H [.ref a] us Q I r ⟨a, d, rfl, hd, hs, hnd, hdp, hz, q⟩
  · exact call_repr_str pins s σ H [.str z] us Q I r ⟨z, rfl, hz, q⟩
def spAlkV (K : PySem.W.Frag) : Sp := fun vs H Q _ => ∃ (x y : V) (d : PyData) (i k : Nat), vs = [x, y] ∧ Dp K H x d ∧ Dp K H y d ∧ ((∃ a, x = .ref a) ∨ ∃ z, x = .str z ∧ d = .str z) ∧ ((∃ a, y = .ref a) ∨ ∃ z, y = .str z ∧ d = .str z) ∧ Gd i k d ∧ i ≤ 60 ∧ k ≤ 100000 ∧ Q (.bl true) H
/-- what is told of a set -/
def dTold (z : Str) (R : List (List Nat)) (E : List Nat) : PyData := .list [.str z, dRs R, dNs E, .str (reprTx z R E)]
theorem sg_low {z : Str} (h : SgOk z) : PyData.strOk z = true := by
  unfold PyData.strOk
  rw [Array.all_eq_true]
  intro i hi
  have := lett_low (h.in_ (i := i) (Array.getElem?_eq_getElem hi))
  exact decide_eq_true (by omega)
theorem strOk_app {x y : Str} (hx : PyData.strOk x = true) (hy : PyData.strOk y = true) : PyData.strOk (x ++ y) = true := by
  unfold PyData.strOk at *
  show (x.cps ++ y.cps).all _ = true
  rw [Array.all_append, hx, hy]
  rfl
theorem strOk_from : ∀ (ts : List Str) (k : Nat) (acc : Str), PyData.strOk acc = true → (∀ t ∈ ts, PyData.strOk t = true) → PyData.strOk (textFrom k acc ts) = true
  | [], _, _, h, _ => h
  | t :: ts, k, acc, h, ht => by
    refine strOk_from ts (k + 1) _ (strOk_app (strOk_app h ?_) (ht t List.mem_cons_self)) fun x hx => ht x (List.mem_cons_of_mem _ hx)
    by_cases hk : k > 0
    · rw [if_pos hk]
      decide +kernel
    · rw [if_neg hk]
      decide +kernel
theorem strOk_list {ts : List Str} (h : ∀ t ∈ ts, PyData.strOk t = true) : PyData.strOk (listText ts) = true :=
  strOk_app (strOk_from ts 0 _ (by decide +kernel) h) (by decide +kernel)
theorem shownAll_map {α : Type} (f : α → PyData) : ∀ l : List α, PyData.shownAll (l.map f) = l.map fun x => (f x).shown
  | [] => rfl
  | x :: l => by
    rw [List.map_cons, List.map_cons, ← shownAll_map f l]
    rfl
theorem strOk_num {n : Nat} (h : n < 32) : PyData.strOk (PyData.shown (.int (n : Int))) = true := by
  have key : ∀ m : Fin 32, PyData.strOk (PyData.shown (.int (m.val : Int))) = true := by decide +kernel
  exact key ⟨n, h⟩
theorem strOk_dNs {ns : List Nat} (h : ∀ n ∈ ns, n < 32) : PyData.strOk (dNs ns).shown = true := by
  show PyData.strOk (listText (PyData.shownAll _)) = true
  rw [shownAll_map]
  refine strOk_list fun t ht => ?_
  obtain ⟨n, hn, rfl⟩ := List.mem_map.mp ht
  exact strOk_num (h n hn)
theorem strOk_dRs {R : List (List Nat)} (h : ∀ r ∈ R, ∀ n ∈ r, n < 32) : PyData.strOk (dRs R).shown = true := by
  show PyData.strOk (listText (PyData.shownAll _)) = true
  rw [shownAll_map]
  refine strOk_list fun t ht => ?_
  obtain ⟨r, hr, rfl⟩ := List.mem_map.mp ht
  exact strOk_dNs (h r hr)
/-! ### the signs that are drawn -/
def sgMenu : List Str := ["ab", "abc", "xz", "a", "mno", "akyz", "b", "cd", "def", "bcde"]
theorem menu_ok {z : Str} (h : z ∈ sgMenu) : SgOk z := by
  have key : ∀ z ∈ sgMenu, sgB z = true := by decide +kernel
  exact sgOk_of (key z h)
theorem menu_rep {z : Str} (h : z ∈ sgMenu) : PyData.strOk (reprText z) = true := by
  have key : ∀ z ∈ sgMenu, PyData.strOk (reprText z) = true := by decide +kernel
  exact key z h
/-- a least machine of few states -/
structure Few (n : Nat) (R : List (List Nat)) (E : List Nat) : Prop where
  least : Least n R E
  n4 : n ≤ 4
  few : R.length ≤ 16
theorem row_of_mem {R : List (List Nat)} {r : List Nat} (hr : r ∈ R) : ∃ i, i < R.length ∧ rowOf R i = r := by
  obtain ⟨i, hi, rfl⟩ := List.mem_iff_getElem.mp hr
  refine ⟨i, hi, ?_⟩
  unfold rowOf
  rw [List.getD_eq_getElem?_getD, List.getElem?_eq_getElem hi]
  rfl
section
variable {n : Nat} {R : List (List Nat)} {E : List Nat}
theorem Few.lt (h : Few n R E) : ∀ x ∈ E, x < R.length := fun x hx => by
  rw [h.least.ends] at hx
  exact List.mem_range.mp (List.mem_filter.mp hx).1
theorem Few.el (h : Few n R E) : E.length ≤ R.length := by
  have h1 := congrArg List.length h.least.ends
  have h2 := List.length_filter_le (fun q => decide (q ∈ E)) (List.range R.length)
  rw [List.length_range] at h2
  omega
theorem Few.rw_ (h : Few n R E) : ∀ r ∈ R, r.length ≤ 4 ∧ ∀ x ∈ r, x < 32 := fun r hr => by
  obtain ⟨i, hi, rfl⟩ := row_of_mem hr
  have h1 := h.n4
  have h2 := h.few
  exact ⟨by rw [h.least.ok.wide i hi]; exact h1, fun x hx => by have := h.least.ok.lt i hi x hx; omega⟩
theorem Few.gR (h : Few n R E) : Gd 2 592 (dRs R) := (gd_dRs (L := 4) h.rw_).le (Nat.le_refl _) (by have := h.few; omega)
theorem Few.gE (h : Few n R E) : Gd 1 144 (dNs E) := (gd_dNs fun x hx => by have := h.lt x hx; have := h.few; omega).le (Nat.le_refl _) (by have := h.el; have := h.few; omega)
theorem str_len_app (x y : Str) : (x ++ y).length = x.length + y.length := by
  show (x.cps ++ y.cps).size = _
  rw [Array.size_append]
  rfl
theorem Few.rl (h : Few n R E) {z : Str} (hz : SgOk z) : (reprTx z R E).length ≤ 12000 := by
  have l1 := hz.rep
  have l2 := h.gR.len
  have l3 := h.gE.len
  have c1 : ("Texts(" : Str).length = 6 := by decide +kernel
  have c2 : (", " : Str).length = 2 := by decide +kernel
  have c3 : (")" : Str).length = 1 := by decide +kernel
  unfold reprTx
  rw [str_len_app, str_len_app, str_len_app, str_len_app, str_len_app, str_len_app, c1, c2, c3]
  omega
theorem Few.ok (h : Few n R E) {z : Str} (hz : z ∈ sgMenu) : PyData.strOk (reprTx z R E) = true := by
  unfold reprTx
  refine strOk_app (strOk_app (strOk_app (strOk_app (strOk_app (strOk_app (by decide +kernel) (menu_rep hz)) (by decide +kernel)) (strOk_dRs fun r hr x hx => (h.rw_ r hr).2 x hx)) (by decide +kernel)) (strOk_dNs fun x hx => by have := h.lt x hx; have := h.few; omega)) (by decide +kernel)
theorem Few.gd (h : Few n R E) {z : Str} (hz : z ∈ sgMenu) : Gd 3 20000 (dTold z R E) := by
  have h1 := (menu_ok hz).few
  refine (gd_list (e := 2) (gdAll_cons ((gd_str (sg_low (menu_ok hz)) (k := 4) h1).le (by decide) (Nat.le_refl _)) (gdAll_cons h.gR (gdAll_cons (h.gE.le (by decide) (Nat.le_refl _)) (gdAll_cons ((gd_str (h.ok hz) (k := 12000) (h.rl (menu_ok hz))).le (by decide) (Nat.le_refl _)) gdAll_nil))))).le (by decide) (by omega)
end
theorem eqv_str (x y : Str) : PyData.eqv (.str x) (.str y) = decide (x = y) := by
  simp only [PyData.eqv]
  by_cases h : x = y
  · rw [decide_eq_true h, h]
    simp
  · rw [decide_eq_false h]
    exact beq_eq_false_iff_ne.mpr h
theorem eqv_told (z : Str) (R R' : List (List Nat)) (E E' : List Nat) : PyData.eqv (dTold z R E) (dTold z R' E') = (decide (R = R') && decide (E = E')) := by
  have h1 : PyData.eqv (dTold z R E) (dTold z R' E') = (PyData.eqv (.str z) (.str z) && (PyData.eqv (dRs R) (dRs R') && (PyData.eqv (dNs E) (dNs E') && (PyData.eqv (.str (reprTx z R E)) (.str (reprTx z R' E')) && true)))) := by
    unfold dTold
    simp only [PyData.eqv, PyData.eqvAll]
  rw [h1, eqv_str, eqv_dRs, eqv_dNs, eqv_str, decide_eq_true rfl, Bool.true_and, Bool.and_true]
  by_cases hR : R = R'
  · by_cases hE : E = E'
    · rw [hR, hE, decide_eq_true rfl, decide_eq_true rfl, decide_eq_true rfl]
      rfl
    · rw [decide_eq_false hE, Bool.false_and]
  · rw [decide_eq_false hR, Bool.false_and, Bool.false_and]
end Rg

/-! Plain mathematics: pairs of machines, languages as truths of words -/
namespace Mach
def prow (m : Nat) (r s : List Nat) : List Nat := List.zipWith (fun a b => a * m + b) r s
def pr (R S : List (List Nat)) : List (List Nat) := R.flatMap fun r => S.map fun s => prow S.length r s
def prEnd (W : Bool → Bool → Bool) (E F : List Nat) (m p k : Nat) : List Nat := ((List.range k).filter fun q => W (decide (p ∈ E)) (decide (q ∈ F))).map fun q => p * m + q
def prEs (W : Bool → Bool → Bool) (E F : List Nat) (m N : Nat) : List Nat := (List.range N).flatMap fun p => prEnd W E F m p m
theorem flat_len {α β : Type} {f : α → List β} {m : Nat} : ∀ (R : List α), (∀ r ∈ R, (f r).length = m) → (R.flatMap f).length = R.length * m
  | [], _ => by simp
  | a :: R, h => by
    rw [List.flatMap_cons, List.length_append, flat_len R (fun r hr => h r (List.mem_cons_of_mem _ hr)), h a List.mem_cons_self, List.length_cons, Nat.succ_mul, Nat.add_comm]
theorem flat_at {α β : Type} {f : α → List β} {m : Nat} : ∀ (R : List α) (_ : ∀ r ∈ R, (f r).length = m) (p q : Nat) (_ : q < m), (R.flatMap f)[p * m + q]? = R[p]?.bind fun r => (f r)[q]?
  | [], _, p, q, _ => by simp
  | a :: R, h, 0, q, hq => by
    rw [List.flatMap_cons, Nat.zero_mul, Nat.zero_add, List.getElem?_append_left (by rw [h a List.mem_cons_self]; exact hq)]
    rfl
  | a :: R, h, p + 1, q, hq => by
    rw [List.flatMap_cons, List.getElem?_append_right (by rw [h a List.mem_cons_self, Nat.succ_mul]; omega), h a List.mem_cons_self,
      show (p + 1) * m + q - m = p * m + q from by rw [Nat.succ_mul]; omega, flat_at R (fun r hr => h r (List.mem_cons_of_mem _ hr)) p q hq]
    rfl
section
variable {n : Nat} {R S : List (List Nat)} {E F : List Nat}
theorem pr_len (R S : List (List Nat)) : (pr R S).length = R.length * S.length := flat_len R fun r _ => by rw [List.length_map]
theorem pr_row {p q : Nat} (hp : p < R.length) (hq : q < S.length) : rowOf (pr R S) (p * S.length + q) = prow S.length (rowOf R p) (rowOf S q) := by
  unfold rowOf
  rw [List.getD_eq_getElem?_getD, pr, flat_at R (fun r _ => by rw [List.length_map]) p q hq, List.getElem?_eq_getElem hp]
  show ((S.map _)[q]?).getD [] = _
  rw [List.getElem?_map, List.getElem?_eq_getElem hq]
  simp [List.getD_eq_getElem?_getD, hp, hq]
theorem pq_lt {p q N m : Nat} (hp : p < N) (hq : q < m) : p * m + q < N * m := by
  have : (p + 1) * m ≤ N * m := Nat.mul_le_mul_right m hp
  rw [Nat.succ_mul] at this
  omega
theorem pq_of {i N m : Nat} (h : i < N * m) : ∃ p q, p < N ∧ q < m ∧ i = p * m + q := by
  have hm : 0 < m := by
    rcases Nat.eq_zero_or_pos m with z | z
    · rw [z, Nat.mul_zero] at h
      omega
    · exact z
  refine ⟨i / m, i % m, Nat.div_lt_of_lt_mul (by rw [Nat.mul_comm]; exact h), Nat.mod_lt _ hm, ?_⟩
  have := Nat.div_add_mod i m
  rw [Nat.mul_comm] at this
  omega
theorem prow_len (m : Nat) {r s : List Nat} (h : r.length = n) (h' : s.length = n) : (prow m r s).length = n := by
  unfold prow
  rw [List.length_zipWith, h, h', Nat.min_self]
theorem pr_mok (hR : Mok n R) (hS : Mok n S) : Mok n (pr R S) := by
  constructor
  · intro i hi
    rw [pr_len] at hi
    obtain ⟨p, q, hp, hq, rfl⟩ := pq_of hi
    rw [pr_row hp hq]
    exact prow_len _ (hR.wide p hp) (hS.wide q hq)
  · intro i hi x hx
    rw [pr_len] at hi ⊢
    obtain ⟨p, q, hp, hq, rfl⟩ := pq_of hi
    rw [pr_row hp hq, prow] at hx
    obtain ⟨k, hk, rfl⟩ := List.getElem_of_mem hx
    rw [List.getElem_zipWith]
    rw [List.length_zipWith] at hk
    exact pq_lt (hR.lt p hp _ (List.getElem_mem _)) (hS.lt q hq _ (List.getElem_mem _))
theorem pr_dl (hR : Mok n R) (hS : Mok n S) {p q k : Nat} (hp : p < R.length) (hq : q < S.length) (hk : k < n) : dl (pr R S) (p * S.length + q) k = dl R p k * S.length + dl S q k := by
  unfold dl
  rw [pr_row hp hq, prow, List.getD_eq_getElem?_getD, List.getD_eq_getElem?_getD, List.getD_eq_getElem?_getD]
  have h1 : k < (rowOf R p).length := by rw [hR.wide p hp]; exact hk
  have h2 : k < (rowOf S q).length := by rw [hS.wide q hq]; exact hk
  rw [List.getElem?_zipWith, List.getElem?_eq_getElem h1, List.getElem?_eq_getElem h2]
  rfl
theorem pr_run (hR : Mok n R) (hS : Mok n S) : ∀ (w : List Nat) {p q : Nat}, p < R.length → q < S.length → Wd n w → runM (pr R S) (p * S.length + q) w = runM R p w * S.length + runM S q w
  | [], _, _, _, _, _ => rfl
  | k :: w, p, q, hp, hq, hw => by
    have hk := hw k List.mem_cons_self
    rw [runM_cons, runM_cons, runM_cons, pr_dl hR hS hp hq hk]
    exact pr_run hR hS w (dl_lt hR hp hk) (dl_lt hS hq hk) fun j hj => hw j (List.mem_cons_of_mem _ hj)
variable {W : Bool → Bool → Bool}
theorem mem_prEnd {m p k x : Nat} : x ∈ prEnd W E F m p k ↔ ∃ q, q < k ∧ x = p * m + q ∧ W (decide (p ∈ E)) (decide (q ∈ F)) = true := by
  unfold prEnd
  rw [List.mem_map]
  constructor
  · rintro ⟨q, h, rfl⟩
    rw [List.mem_filter, List.mem_range] at h
    exact ⟨q, h.1, rfl, h.2⟩
  · rintro ⟨q, h1, rfl, h2⟩
    exact ⟨q, List.mem_filter.mpr ⟨List.mem_range.mpr h1, h2⟩, rfl⟩
theorem mem_prEs {m N x : Nat} : x ∈ prEs W E F m N ↔ ∃ p q, p < N ∧ q < m ∧ x = p * m + q ∧ W (decide (p ∈ E)) (decide (q ∈ F)) = true := by
  unfold prEs
  rw [List.mem_flatMap]
  constructor
  · rintro ⟨p, h, h'⟩
    obtain ⟨q, a, b, c⟩ := mem_prEnd.mp h'
    exact ⟨p, q, List.mem_range.mp h, a, b, c⟩
  · rintro ⟨p, q, h, a, b, c⟩
    exact ⟨p, List.mem_range.mpr h, mem_prEnd.mpr ⟨q, a, b, c⟩⟩
theorem prEs_lt {m N x : Nat} (h : x ∈ prEs W E F m N) : x < N * m := by
  obtain ⟨p, q, a, b, rfl, _⟩ := mem_prEs.mp h
  exact pq_lt a b
theorem prEnd_len (m p k : Nat) : (prEnd W E F m p k).length ≤ k := by
  unfold prEnd
  rw [List.length_map]
  exact Nat.le_trans (List.length_filter_le _ _) (by rw [List.length_range]; exact Nat.le_refl _)
theorem prEs_succ (m N : Nat) : prEs W E F m (N + 1) = prEs W E F m N ++ prEnd W E F m N m := by
  unfold prEs
  rw [List.range_succ, List.flatMap_append, List.flatMap_cons, List.flatMap_nil, List.append_nil]
theorem prEs_len (m : Nat) : ∀ N, (prEs W E F m N).length ≤ N * m
  | 0 => by simp [prEs]
  | N + 1 => by
    rw [prEs_succ, List.length_append, Nat.succ_mul]
    exact Nat.add_le_add (prEs_len m N) (prEnd_len m N m)
theorem prEnd_succ (m p k : Nat) : prEnd W E F m p (k + 1) = prEnd W E F m p k ++ (if W (decide (p ∈ E)) (decide (k ∈ F)) = true then [p * m + k] else []) := by
  unfold prEnd
  rw [List.range_succ, List.filter_append, List.map_append]
  congr 1
  by_cases h : W (decide (p ∈ E)) (decide (k ∈ F)) = true
  · rw [if_pos h, List.filter_cons_of_pos (p := fun q => W (decide (p ∈ E)) (decide (q ∈ F))) h]
    rfl
  · rw [if_neg h, List.filter_cons_of_neg (p := fun q => W (decide (p ∈ E)) (decide (q ∈ F))) h]
    rfl
theorem pq_inj {p q p' q' m : Nat} (hq : q < m) (hq' : q' < m) (h : p * m + q = p' * m + q') : p = p' ∧ q = q' := by
  have h1 : (p * m + q) / m = p := by
    rw [Nat.mul_comm, Nat.mul_add_div (by omega), Nat.div_eq_of_lt hq, Nat.add_zero]
  have h2 : (p' * m + q') / m = p' := by
    rw [Nat.mul_comm, Nat.mul_add_div (by omega), Nat.div_eq_of_lt hq', Nat.add_zero]
  have h3 : p = p' := by rw [← h1, ← h2, h]
  subst h3
  exact ⟨rfl, by omega⟩
theorem pq_mem {m N p q : Nat} (hp : p < N) (hq : q < m) : p * m + q ∈ prEs W E F m N ↔ W (decide (p ∈ E)) (decide (q ∈ F)) = true := by
  rw [mem_prEs]
  constructor
  · rintro ⟨p', q', a, b, c, d⟩
    obtain ⟨rfl, rfl⟩ := pq_inj hq b c
    exact d
  · intro h
    exact ⟨p, q, hp, hq, rfl, h⟩
/-! ### languages -/
def Lg (n : Nat) (R : List (List Nat)) (E : List Nat) (L : List Nat → Bool) : Prop := ∀ w, Wd n w → decide (runM R 0 w ∈ E) = L w
variable {L M : List Nat → Bool}
theorem lg_pr (hR : Mok n R) (hS : Mok n S) (r0 : 0 < R.length) (s0 : 0 < S.length) (l : Lg n R E L) (m : Lg n S F M) : Lg n (pr R S) (prEs W E F S.length R.length) fun w => W (L w) (M w) := by
  intro w hw
  have e := pr_run hR hS w r0 s0 hw
  rw [Nat.zero_mul, Nat.zero_add] at e
  show _ = W (L w) (M w)
  rw [e, ← l w hw, ← m w hw]
  by_cases h : W (decide (runM R 0 w ∈ E)) (decide (runM S 0 w ∈ F)) = true
  · rw [h]
    exact decide_eq_true ((pq_mem (runM_lt hR r0 hw) (runM_lt hS s0 hw)).mpr h)
  · rw [Bool.eq_false_iff.mpr h]
    exact decide_eq_false fun z => h ((pq_mem (runM_lt hR r0 hw) (runM_lt hS s0 hw)).mp z)
theorem lg_alk {R' : List (List Nat)} {E' : List Nat} (l : Lg n R E L) (a : Alk n R' E' 0 R E 0) : Lg n R' E' L := fun w hw => by
  rw [← l w hw]
  exact decide_eq_decide.mpr (a w hw)
theorem alk_lg {R' : List (List Nat)} {E' : List Nat} {L' : List Nat → Bool} (l : Lg n R E L) (l' : Lg n R' E' L') (h : ∀ w, Wd n w → L w = L' w) : Alk n R E 0 R' E' 0 := fun w hw => by
  have := (l w hw).trans ((h w hw).trans (l' w hw).symm)
  exact decide_eq_decide.mp this
theorem lg_not (hR : Mok n R) (r0 : 0 < R.length) (l : Lg n R E L) : Lg n R ((List.range R.length).filter fun q => decide (q ∉ E)) fun w => !L w := by
  intro w hw
  show _ = !L w
  rw [← l w hw]
  have hl := runM_lt hR r0 hw
  by_cases h : runM R 0 w ∈ E
  · rw [decide_eq_true h]
    exact decide_eq_false fun z => (of_decide_eq_true (List.mem_filter.mp z).2) h
  · rw [decide_eq_false h]
    exact decide_eq_true (List.mem_filter.mpr ⟨List.mem_range.mpr hl, decide_eq_true h⟩)
theorem least_lt (h : Least n R E) {x : Nat} (hx : x ∈ E) : x < R.length := by
  have := h.ends
  rw [this] at hx
  exact List.mem_range.mp (List.mem_filter.mp hx).1
theorem least_len (h : Least n R E) : E.length ≤ R.length := by
  have := h.ends
  rw [this]
  exact Nat.le_trans (List.length_filter_le _ _) (by rw [List.length_range]; exact Nat.le_refl _)
theorem ends_nil (h : Least n R E) (l : Lg n R E L) : E = [] ↔ ∀ w, Wd n w → L w = false := by
  constructor
  · intro e w hw
    rw [← l w hw, e]
    rfl
  · intro hf
    cases E with
    | nil => rfl
    | cons x E =>
      obtain ⟨w, hw, e⟩ := h.acc x (least_lt h List.mem_cons_self)
      have := l w hw
      rw [hf w hw, e] at this
      exact absurd List.mem_cons_self (of_decide_eq_false this)
theorem lg_uniq {R' : List (List Nat)} {E' : List Nat} {L' : List Nat → Bool} (h : Least n R E) (h' : Least n R' E') (l : Lg n R E L) (l' : Lg n R' E' L') (e : ∀ w, Wd n w → L w = L' w) : R = R' ∧ E = E' :=
  least_unique h h' (alk_lg l l' e)
theorem every_mok (n : Nat) : Mok n [List.replicate n 0] := by
  constructor
  · intro q hq
    have : q = 0 := by simpa using hq
    rw [this]
    simp [rowOf]
  · intro q hq x hx
    have : q = 0 := by simpa using hq
    rw [this] at hx
    have : x = 0 := List.eq_of_mem_replicate (show x ∈ List.replicate n 0 by simpa [rowOf] using hx)
    rw [this]
    show 0 < 1
    decide
theorem every_run (n : Nat) {w : List Nat} (hw : Wd n w) : runM [List.replicate n 0] 0 w = 0 := by
  have := runM_lt (every_mok n) (show 0 < [List.replicate n 0].length by simp) hw
  simpa using this
theorem lg_every (n : Nat) : Lg n [List.replicate n 0] [0] fun _ => true := fun w hw => by
  rw [every_run n hw]
  rfl
theorem lg_none (n : Nat) : Lg n [List.replicate n 0] [] fun _ => false := fun w hw => rfl
end
end Mach

namespace Rg
open PySem PySem.Spec PyProof.Rows L2 Mach
/-- a machine made by drawing, of at most m states -/
def spMachM : Sp := fun vs H Q _ => ∃ (g c : Addr) (z : Str) (m : Nat), vs = [.ref g, .str z, nV m] ∧ Bag H g c ∧ 1 ≤ z.length ∧ z.length ≤ 4 ∧ 1 ≤ m ∧ m ≤ 100 ∧
  ∀ (H' : Hp) (t pr pe : Addr) (xs : List Addr) (R : List (List Nat)) (E : List Nat), Bag H' g c → But g H H' → (∀ x ∈ t :: pr :: pe :: xs, H x = none) → H' t = some (.tup [.ref pr, .ref pe]) → RowsAt H' pr xs R → H' pe = some (.lst (nVs E)) →
    Mok z.length R → 0 < R.length → R.length ≤ m → (∀ x ∈ E, x < R.length) → E.length ≤ 100 → Q (.ref t) H'
end Rg

/-! sets of texts by their languages; x in a tuple of data; texts over signs -/
namespace Rg
open PySem PySem.Spec PyProof.Rows L2 Mach
def rInDT (K : PySem.W.Frag) : R2 := fun x y H Q => ∃ d ds, Dp K H x d ∧ Dp K H y (.tuple ds) ∧ SeqAt.shaped d = true ∧ SeqAt.shaped (.tuple ds) = true ∧ Q (.bl (ds.any fun z => PyData.eqv z d)) H
theorem op_inDT {X : Cx} (hu : X.A.units + 65 < cLine) : OpR X (compareOp .In) (rInDT X.K) := by
  intro pins s σ H x y v u Q I rx ry h
  obtain ⟨d, ds, hd, he, sd, se, q⟩ := h
  obtain ⟨as, r1⟩ := Dp.reads I d x v hd rx
  obtain ⟨bs, r2⟩ := Dp.reads I (.tuple ds) y u he ry
  exact SeqAt.in_tuple_reads r2 r1 (SeqAt.canLay_of_shaped se) (SeqAt.canLay_of_shaped sd) (room_in_shaped sd hu) ⟨.bl _, H, I, rfl, q⟩
/-- the set at p over z has the texts of L, its machine at most m states -/
def TxL (C : Addr) (H : Hp) (p : Addr) (z : Str) (m : Nat) (L : List Nat → Bool) : Prop := ∃ (t e : Addr) (ys : List Addr) (R : List (List Nat)) (E : List Nat), TxAt C H p z t e ys R E ∧ Least z.cps.size R E ∧ Lg z.cps.size R E L ∧ R.length ≤ m
theorem TxL.same {C : Addr} {H H' : Hp} {p : Addr} {z : Str} {m : Nat} {L : List Nat → Bool} (h : TxL C H p z m L) (s : Same H H') : TxL C H' p z m L := by
  obtain ⟨t, e, ys, R, E, a, b, c, d⟩ := h
  exact ⟨t, e, ys, R, E, a.same s, b, c, d⟩
theorem TxL.ins {C : Addr} {H : Hp} {p : Addr} {z : Str} {m : Nat} {L : List Nat → Bool} (h : TxL C H p z m L) : ∃ dx fs, H p = some (.ins C dx fs) := by
  obtain ⟨t, e, ys, R, E, ⟨⟨dx, ob⟩, _, _⟩, _⟩ := h
  exact ⟨dx, _, ob⟩
theorem TxL.le {C : Addr} {H : Hp} {p : Addr} {z : Str} {m k : Nat} {L : List Nat → Bool} (h : TxL C H p z m L) (hk : m ≤ k) : TxL C H p z k L := by
  obtain ⟨t, e, ys, R, E, a, b, c, d⟩ := h
  exact ⟨t, e, ys, R, E, a, b, c, Nat.le_trans d hk⟩
/-- some pairs of truths -/
def Wan (K : PySem.W.Frag) (H : Hp) (x : V) (W : Bool → Bool → Bool) : Prop := ∃ ds, Dp K H x (.tuple ds) ∧ SeqAt.shaped (.tuple ds) = true ∧ ∀ a b, (ds.any fun z => PyData.eqv z (.tuple [.bool a, .bool b])) = W a b
theorem shp_two (a b : Bool) : SeqAt.shaped (.tuple [.bool a, .bool b]) = true := by
  cases a <;> cases b <;> decide +kernel
/-- texts_paired of two sets over the same signs -/
def spPair (K : PySem.W.Frag) (C : Addr) : Sp := fun vs H Q _ => ∃ (p q : Addr) (x : V) (z : Str) (m k : Nat) (L M : List Nat → Bool) (W : Bool → Bool → Bool), vs = [.ref p, .ref q, x] ∧ SgOk z ∧ TxL C H p z m L ∧ TxL C H q z k M ∧ m * k ≤ 4000 ∧ (∀ H', Same H H' → Wan K H' x W) ∧
  ∀ (H' : Hp) (r : Addr), Same H H' → TxL C H' r z (m * k) (fun w => W (L w) (M w)) → Q (.ref r) H'
def spBin (C : Addr) (W : Bool → Bool → Bool) : Sp := fun vs H Q _ => ∃ (p q : Addr) (z : Str) (m k : Nat) (L M : List Nat → Bool), vs = [.ref p, .ref q] ∧ SgOk z ∧ TxL C H p z m L ∧ TxL C H q z k M ∧ m * k ≤ 4000 ∧
  ∀ (H' : Hp) (r : Addr), Same H H' → TxL C H' r z (m * k) (fun w => W (L w) (M w)) → Q (.ref r) H'
def spInv (C : Addr) : Sp := fun vs H Q _ => ∃ (p : Addr) (z : Str) (m : Nat) (L : List Nat → Bool), vs = [.ref p] ∧ SgOk z ∧ TxL C H p z m L ∧ m ≤ 4000 ∧
  ∀ (H' : Hp) (r : Addr), Same H H' → TxL C H' r z m (fun w => !L w) → Q (.ref r) H'
def spWith (C : Addr) : Sp := fun vs H Q _ => ∃ (p q : Addr) (z : Str) (m k : Nat) (L M : List Nat → Bool), vs = [.ref p, .ref q] ∧ SgOk z ∧ TxL C H p z m L ∧ TxL C H q z k M ∧ m * k ≤ 4000 ∧
  ∀ (H' : Hp) (b : Bool), Same H H' → (b = true ↔ ∀ w, Wd z.cps.size w → L w = true → M w = true) → Q (.bl b) H'
/-- all_texts, none -/
def spEvery (C : Addr) (b : Bool) : Sp := fun vs H Q _ => ∃ (z : Str), vs = [.str z] ∧ SgOk z ∧ ∀ (H' : Hp) (r : Addr), Same H H' → TxL C H' r z 1 (fun _ => b) → Q (.ref r) H'
/-! ### texts over signs -/
def txt (z : Str) (w : List Nat) : Str := ⟨(w.map fun k => z.cps.getD k 0).toArray⟩
def one (z : Str) (k : Nat) : Str := ⟨#[z.cps.getD k 0]⟩
def SgIx (z : Str) : Prop := ∀ k, k < z.cps.size → ∃ rest, Builtin.Str.occurrences z (one z k) 0 z.length 1 = k :: rest
theorem menu_ix {z : Str} (h : z ∈ sgMenu) : SgIx z := by
  have key : ∀ z ∈ sgMenu, ∀ k ∈ List.range z.cps.size, (Builtin.Str.occurrences z (one z k) 0 z.length 1).head? = some k := by decide +kernel
  intro k hk
  have := key z h k (List.mem_range.mpr hk)
  cases e : Builtin.Str.occurrences z (one z k) 0 z.length 1 with
  | nil => rw [e] at this; cases this
  | cons a l =>
    rw [e] at this
    cases this
    exact ⟨l, rfl⟩
theorem txt_at {z : Str} {w : List Nat} {i c : Nat} (h : (txt z w).cps[i]? = some c) : ∃ k, w[i]? = some k ∧ (⟨#[c]⟩ : Str) = one z k := by
  unfold txt at h
  rw [List.getElem?_toArray, List.getElem?_map] at h
  cases e : w[i]? with
  | none => rw [e] at h; cases h
  | some k =>
    rw [e] at h
    cases h
    exact ⟨k, rfl, rfl⟩
theorem txt_size (z : Str) (w : List Nat) : (txt z w).cps.size = w.length := by
  unfold txt
  rw [List.size_toArray, List.length_map]
theorem txt_len (z : Str) (w : List Nat) : (txt z w).length = w.length := txt_size z w
theorem one_mem {z : Str} {k : Nat} (h : k < z.cps.size) : z.cps.getD k 0 ∈ z.cps.toList := by
  rw [Array.getD_eq_getD_getElem?, Array.getElem?_eq_getElem h]
  exact Array.getElem_mem_toList h
theorem txt_snoc (z : Str) (w : List Nat) (k : Nat) : txt z w ++ one z k = txt z (w ++ [k]) := by
  unfold txt one
  rw [List.map_append]
  show (⟨_⟩ : Str) = ⟨_⟩
  congr 1
  simp
def spIsText : Sp := fun vs H Q _ => ∃ (z : Str) (w : List Nat), vs = [.str z, .str (txt z w)] ∧ Wd z.cps.size w ∧ w.length ≤ 1000 ∧ ∀ H', Same H H' → Q (.bl true) H'
/-- the state to which a text leads -/
def spBehind : Sp := fun vs H Q _ => ∃ (z : Str) (a : Addr) (xs : List Addr) (R : List (List Nat)) (w : List Nat), vs = [.str z, .ref a, .str (txt z w)] ∧ SgIx z ∧ RowsAt H a xs R ∧ Mok z.cps.size R ∧ 0 < R.length ∧ Wd z.cps.size w ∧ w.length ≤ 1000 ∧ Q (nV (runM R 0 w)) H
def spIn (C : Addr) : Sp := fun vs H Q _ => ∃ (p : Addr) (z : Str) (m : Nat) (L : List Nat → Bool) (w : List Nat), vs = [.ref p, .str (txt z w)] ∧ SgIx z ∧ TxL C H p z m L ∧ Wd z.cps.size w ∧ w.length ≤ 1000 ∧ ∀ H', Same H H' → Q (.bl (L w)) H'
end Rg

/-! expressions that make sets of texts: which language they make -/
namespace Rg
open PySem PySem.Spec PyProof.Rows L2 Mach
/-- what the operators of the class ask -/
structure TxB (K : PySem.W.Frag) (C fQ : Addr) : Prop where
  T : TxC K C
  eqc : EqCls K C fQ
  nC : PySem.W.notFirst K C (.ref C) = true
  ha : PySem.W.findIn K (.ref C) "__class__" = some (some (.builtin "object.__class__"))
  hn : PySem.W.specialIn K (.builtin "object.__class__") "__get__" = some (some (.builtin "getset_descriptor.__get__"))
  ht : PySem.W.takesIn K (.builtin "object.__class__") = some true
  hm : PySem.W.mroIn K C (.type "object") = some true
  sf : PySem.W.selfFirst K C = true
/-- an operator -/
def OpOk (P : Program) (w : World) (K : PySem.W.Frag) (mg : Str → Option Value) (base : Heap) (C : Addr) (k : Nat) (op : Operator) (W : Bool → Bool → Bool) : Prop := ∃ (f : Addr) (fd : FuncData), PySem.W.findIn K (.ref C) (PySem.dunder op.info.2) = some (some (.ref f)) ∧ PySem.W.isFn K (.ref f) = true ∧
  FnOk P w K mg base CX0 k f fd ["self", "other"] (spBin C W) ∧ Binds K fd ["self", "other"] []
def InvOk (P : Program) (w : World) (K : PySem.W.Frag) (mg : Str → Option Value) (base : Heap) (C : Addr) (k : Nat) : Prop := ∃ (f : Addr) (fd : FuncData), PySem.W.findIn K (.ref C) "__invert__" = some (some (.ref f)) ∧ PySem.W.isFn K (.ref f) = true ∧
  FnOk P w K mg base CX0 k f fd ["self"] (spInv C) ∧ Binds K fd ["self"] []
theorem op_bin {X : Cx} {C : Addr} {k : Nat} {op : Operator} {W : Bool → Bool → Bool} (sf : PySem.W.selfFirst X.K C = true) (h : OpOk X.prog X.w X.K X.mg X.base C k op W) (hr : Room k X.A) : OpR X (binaryOp op) (rBinOwn C (spBin C W) [] E0) := by
  obtain ⟨f, fd, h1, h2, h3, h4⟩ := h
  exact op_binOwn sf h1 h2 h3 hr h4 .nil pass0
theorem un_inv' {X : Cx} {C : Addr} {k : Nat} (h : InvOk X.prog X.w X.K X.mg X.base C k) (hr : Room k X.A) : UnR X (unaryOp .Invert) (rInvOwn C (spInv C) [] E0) := by
  obtain ⟨f, fd, h1, h2, h3, h4⟩ := h
  exact un_invOwn h1 h2 h3 hr h4 .nil pass0
/-- t, read in σ from H0 on, makes a set over z of at most m states with the texts of L -/
def Ev (C : Addr) (z : Str) (σ : L2.St) (H0 : Hp) (t : TE) (m : Nat) (L : List Nat → Bool) : Prop := ∀ (H : Hp) (Q : VK), Same H0 H → (∀ (H' : Hp) (r : Addr), Same H H' → TxL C H' r z m L → Q (.ref r) H') → t σ H Q
section
variable {K : PySem.W.Frag} {C fQ : Addr} {z : Str} {σ : L2.St} {H0 : Hp} {ta tb : TE} {m k : Nat} {L M : List Nat → Bool} {W : Bool → Bool → Bool}
theorem ev_var {i : Nat} {p : Addr} (hs : σ[i]? = some (some (.ref p))) (h : TxL C H0 p z m L) : Ev C z σ H0 (tVar i) m L := fun H Q s q => ⟨_, hs, q H p (fun _ _ e => e) (h.same s)⟩
theorem ev_bin (hz : SgOk z) (a : Ev C z σ H0 ta m L) (b : Ev C z σ H0 tb k M) (hk : m * k ≤ 4000) : Ev C z σ H0 (tOp (rBinOwn C (spBin C W) [] E0) ta tb) (m * k) (fun w => W (L w) (M w)) := fun H Q s q => by
  refine a H _ s fun H1 p s1 h1 => ?_
  refine b H1 _ (s.trans s1) fun H2 r s2 h2 => ?_
  have h1' := h1.same s2
  obtain ⟨dx, fs, o1⟩ := h1'.ins
  obtain ⟨dy, gs, o2⟩ := h2.ins
  exact ⟨p, dx, fs, r, dy, gs, rfl, rfl, o1, o2, p, r, z, m, k, L, M, rfl, hz, h1', h2, hk, fun H3 r3 s3 h3 => q H3 r3 ((s1.trans s2).trans s3) h3⟩
theorem ev_inv (hz : SgOk z) (a : Ev C z σ H0 ta m L) (hm : m ≤ 4000) : Ev C z σ H0 (tUn (rInvOwn C (spInv C) [] E0) ta) m (fun w => !L w) := fun H Q s q => by
  refine a H _ s fun H1 p s1 h1 => ?_
  obtain ⟨dx, fs, o1⟩ := h1.ins
  exact ⟨p, dx, fs, rfl, o1, p, z, m, L, rfl, hz, h1, hm, fun H2 r s2 h2 => q H2 r (s1.trans s2) h2⟩
theorem ev_every {t : TA} {b : Bool} (hz : SgOk z) (ht : ∀ H Q, (Q [.str z] H → t σ H Q)) : Ev C z σ H0 (tCall (spEvery C b) [] E0 t) 1 (fun _ => b) := fun H Q s q => ht H _ ⟨z, rfl, hz, q⟩
/-- a != b of sets with the same texts -/
theorem ne_ev (B : TxB K C fQ) {H : Hp} {Q : VK} (s : Same H0 H) (a : Ev C z σ H0 ta m L) (b : Ev C z σ H0 tb k M) (e : ∀ w, Wd z.cps.size w → L w = M w) (q : ∀ H', Same H H' → Q (.bl false) H') :
    tOp (rNeOwn K C (spEq K C) [] E0) ta tb σ H Q := by
  refine a H _ s fun H1 p s1 h1 => ?_
  refine b H1 _ (s.trans s1) fun H2 r s2 h2 => ?_
  obtain ⟨t, e', ys, R, E, T1, hL1, hg1, _⟩ := h1.same s2
  obtain ⟨t2, e2, ys2, R2, E2, T2, hL2, hg2, _⟩ := h2
  obtain ⟨⟨dx, ob⟩, _, _⟩ := id T1
  obtain ⟨⟨dx2, ob2⟩, _, _⟩ := id T2
  obtain ⟨eR, eE⟩ := lg_uniq hL1 hL2 hg1 hg2 e
  refine ⟨p, dx, _, .ref C, rfl, ob, .base (.ins ob2 B.T.cl B.ha B.hn B.ht B.hm), B.nC, p, z, t, e', ys, R, E, .ref r, rfl, T1, .inr ⟨r, z, t2, e2, ys2, R2, E2, rfl, T2, true, ?_, q H2 (s1.trans s2)⟩⟩
  rw [eR, eE]
  simp
/-- a.is_within(b) where it is so -/
theorem with_ev (hz : SgOk z) {H : Hp} {Q : VK} (s : Same H0 H) (a : Ev C z σ H0 ta m L) (b : Ev C z σ H0 tb k M) (hk : m * k ≤ 4000) (q : ∀ H' c, Same H H' → (c = true ↔ ∀ w, Wd z.cps.size w → L w = true → M w = true) → Q (.bl c) H') :
    tMeth C "is_within" (spWith C) [] E0 ta (tCons tb tNil) σ H Q := by
  refine a H _ s fun H1 p s1 h1 => ?_
  obtain ⟨t, e', ys, R, E, T1, hL1, hg1, _⟩ := id h1
  obtain ⟨⟨dx, ob⟩, _, _⟩ := id T1
  refine ⟨p, dx, _, rfl, ob, tfl_no _ _ _ (by decide +kernel) (by decide +kernel) (by decide +kernel), ?_⟩
  refine b H1 _ (s.trans s1) fun H2 r s2 h2 => ?_
  exact ⟨p, r, z, m, k, L, M, rfl, hz, h1.same s2, h2, hk, fun H3 c s3 h3 => q H3 c ((s1.trans s2).trans s3) h3⟩
end
end Rg

/-! own errors without arguments: raised, caught, asked -/
namespace Rg
open PySem PySem.Spec PyProof.Rows L2 Mach
section
variable {X : Cx} {C : Addr} {bmB : List Value} {B newId initId : String}
/-- X() -/
theorem pmk_own0 {x : Str} {p pos : Pos} (F : ExcBaseFacts B newId initId bmB) (q : PySem.W.excIn X.K C bmB newId = true) (gC : X.mg x = some (.ref C)) (kC : PySem.W.keepIn X.K (.ref C) = true) (r : Raises X (.ref C)) (hg : Gl X x)
    (hdb : (x == ("__debug__" : Str)) = false := by decide) : PMk X (.Call (.Name x p) [] [] pos) (fun _ H Q => Q (.ref C) none H) := by
  intro pins s σ H Q I h
  refine wpAny_Call_Name_kw (ld_glob I hg gC ?_ hdb)
  refine PySem.W.callWith_K0 I.kIn kC ?_
  show wpAny _ _ (call (.ref C) []) _ _ _
  obtain ⟨bm, N, nm, qn, bs, hdct, sn, sub, ab, col, dd, k0, k1, k2, k3, k5, mN, hC, hN, hni, T⟩ := exc_obj I.kIn q
  refine wpAny_call_exc_subT F T hC hN hni (fun h' e hm => ?_) (by show 0 ≤ sizeLine; omega)
  exact mk_of I hm r h (I.hok.gone hm.new)
/-- what a try around wishes, whatever the slots -/
def AnySt (n : Nat) (W : WX) : XK := fun cls d H => ∀ σ : L2.St, σ.length = n → W cls d σ H
theorem passLen {W : WX} (tk : Takes X W) : Passes (L2.CX X.prog X.w) X (AnySt X.N.length W) := fun pins σ H s e s' I c => tk e s' (XE.of_call I (fun cls d H' h => h σ I.len) c)
/-- a def lets out what a call in it lets out -/
theorem passOut {E : XK} (tk : Takes X (fun cls d _ H => E cls d H)) : Passes (L2.CX X.prog X.w) X E := fun pins σ H s e s' I c => tk e s' (XE.of_call I (fun cls d H' h => h) c)
/-- isinstance(e, c) of the caught one -/
def rIsE' (K : PySem.W.Frag) (D a : Addr) (cls : Value) (d : Option Addr) : List V → Hp → VK → Prop := fun xs H Q => cls = .ref D ∧ d = none ∧ rIsE K D a xs H Q
theorem call_isE' {a D : Addr} {oe : Obj} {cls : Value} {d : Option Addr} {pn : List (Addr × Obj)} (C : ExcC X.K D) (hz : Zc cls d oe) (hf : ∃ vs, oe.data = .fields vs) : CallR (X.suite a ((a, oe) :: pn)) (.builtin "isinstance") (rIsE' X.K D a cls d) := by
  intro pins s σ H xs us Q I r h
  obtain ⟨rfl, rfl, h⟩ := h
  exact call_isE C hz hf pins s σ H xs us Q I r h
end
end Rg

/-! isinstance of a caught error, whether it has fields or not -/
namespace Rg
open PySem PySem.Spec PyProof.Rows L2
section
variable {K : PySem.W.Frag} {x D : Addr} {ox : Obj} {od : Option Obj}
theorem kitx_err (C : ExcC K D) : PySem.W.KitX K (.ref x) (.ref D) (fun h => PySem.W.InstAt h x ox D od) :=
  PySem.W.kitx_exc (by obtain ⟨cd, hc, _⟩ := PySem.W.any_some C.hd; rw [hc]; rfl) C.hg C.hk C.hs C.ha C.hn C.ht C.hm
end
section
variable {X : Cx} {a D : Addr} {oe : Obj} {cls : Value} {d : Option Addr} {pn : List (Addr × Obj)}
/-- isinstance(e, c) of the caught one, which has fields -/
def rIsF (K : PySem.W.Frag) (D a : Addr) (cls : Value) (d : Option Addr) : List V → Hp → VK → Prop := fun xs H Q => cls = .ref D ∧ (∃ dd fs, d = some dd ∧ H dd = some (.xd fs)) ∧ ∃ (c : V) (cv : Value) (b : Bool), xs = [.ref a, c] ∧ (∀ u, RelV c u → u = cv) ∧ PySem.W.kitOne K (.ref D) cv = some b ∧ Q (.bl b) H
/-- isinstance(e, (c, ..)) -/
def rIsFT (K : PySem.W.Frag) (D a : Addr) (cls : Value) (d : Option Addr) : List V → Hp → VK → Prop := fun xs H Q => cls = .ref D ∧ (∃ dd fs, d = some dd ∧ H dd = some (.xd fs)) ∧ ∃ (tp : Addr) (cs : List V) (us : List Value) (b : Bool), xs = [.ref a, .ref tp] ∧ H tp = some (.tup cs) ∧ Paired ClsV cs us ∧ PySem.W.kitAny K (.ref D) us = some b ∧ Q (.bl b) H
theorem inst_err {pins : List (Addr × Obj)} {σ : L2.St} {H : Hp} {s : Shared} (I : Inv (X.suite a ((a, oe) :: pn)) pins σ H s) (hz : Zc (.ref D) d oe) (hf : ∃ vs, oe.data = .fields vs) {dd : Addr} {fs : List (Str × V)} (ed : d = some dd) (ea : H dd = some (.xd fs)) : ∃ od, PySem.W.InstAt s.heap a oe D (some od) := by
  subst ed
  obtain ⟨ha, _⟩ := I.pin (a, oe) (List.mem_append_left _ List.mem_cons_self)
  obtain ⟨vs, hd⟩ := hf
  have hx : ObjOk X.prog X.w H s.heap dd (.xd fs) := I.hok dd _ ea
  obtain ⟨mA, hns, hr⟩ := hx
  obtain ⟨od, hod, _⟩ := lookIn_ns hns
  exact ⟨od, ha, hz.1, by unfold PySem.W.notCls; rw [hd] <;> rfl, by rw [hz.2]; exact hod⟩
theorem call_isF (C : ExcC X.K D) (hz : Zc cls d oe) (hf : ∃ vs, oe.data = .fields vs) : CallR (X.suite a ((a, oe) :: pn)) (.builtin "isinstance") (rIsF X.K D a cls d) := by
  intro pins s σ H xs us Q I r h
  obtain ⟨rfl, ⟨dd, fs, ed, ea⟩, c, cv, b, rfl, hcv, e, q⟩ := h
  cases r with
  | cons rx rr =>
    cases rr with
    | cons rt rr =>
      cases rr
      cases rx
      have ec := hcv _ rt
      subst ec
      obtain ⟨od, J⟩ := inst_err I hz hf ed ea
      exact PySem.W.kia_one (kitx_err C) I.kIn J e (fun z => nomatch z) fun tk => ⟨.bl b, H, I.kept (t' := tk) fun _ _ z => z, rfl, q⟩
theorem call_isFT (C : ExcC X.K D) (hz : Zc cls d oe) (hf : ∃ vs, oe.data = .fields vs) : CallR (X.suite a ((a, oe) :: pn)) (.builtin "isinstance") (rIsFT X.K D a cls d) := by
  intro pins s σ H xs us Q I r h
  obtain ⟨rfl, ⟨dd, fs, ed, ea⟩, tp, cs, ws, b, rfl, hT, k, e, q⟩ := h
  obtain ⟨wa, wt, rfl, ra, rt⟩ := vals2 r
  cases (show wa = Value.ref a from ra)
  cases (show wt = Value.ref tp from rt)
  obtain ⟨od, J⟩ := inst_err I hz hf ed ea
  obtain ⟨_, its, rv, o, h1, h2, _, h3⟩ := (show ObjOk X.prog X.w H s.heap tp (HO.tup cs) from I.hok tp _ hT)
  have e3 := ClsV.all k rv
  subst e3
  obtain ⟨oc, od, dt, sl⟩ := o
  simp only at h2 h3
  subst h2 h3
  exact PySem.W.kia_tup (kitx_err C) I.kIn J h1 e (fun z => nomatch z) fun tk => ⟨.bl b, H, I.kept (t' := tk) fun _ _ z => z, rfl, q⟩
end
end Rg

/-! Texts(..) of any three things: the set, or Wrong -/
namespace K15
open PySem PySem.Spec PyProof.Rows L2 Rg Mach
/-- the class Wrong and its __init__ -/
structure WrC (P : Program) (w : World) (K : PySem.W.Frag) (mg : Str → Option Value) (base : Heap) (Wr fW : Addr) (fdW : FuncData) : Prop where
  T : OexC K Wr
  i : PySem.W.findIn K (.ref Wr) "__init__" = some (some (.ref fW))
  t : PySem.W.typeIn K (.ref fW) = some (.type "function")
  F : FnOk P w K mg base CX0 1 fW fdW ["self", "place"] (spEr1 Wr "place")
  b : Binds K fdW ["self", "place"] []
  g : mg "Wrong" = some (.ref Wr)
def spInitQ (K : PySem.W.Frag) (C Wr : Addr) : Sp := fun vs H Q E => ∃ (p dx : Addr) (x y u : V) (a b c : Tg), vs = [.ref p, x, y, u] ∧ H p = some (.ins C dx []) ∧
  Tq K C (mask p H) x a ∧ Tq K C (mask p H) y b ∧ Tq K C (mask p H) u c ∧ a.few ∧ b.few ∧ c.few ∧
  (∀ z R E, GoodM a b c z R E → R.length ≤ 4000 ∧ ∀ (H' : Hp) (t e' : Addr) (ys : List Addr) (R' : List (List Nat)) (E' : List Nat), (∀ b o, H b = some o → b ≠ p → H' b = some o) → TxAt C H' p z t e' ys R' E' →
    Least z.cps.size R' E' → Alk z.cps.size R' E' 0 R E 0 → R'.length ≤ R.length → Q .non H') ∧
  (∀ n, dueQ a b c = some n → ∀ (H' : Hp) (d : Addr), (∀ b o, H b = some o → b ≠ p → H' b = some o) → H d = none → H' d = some (.xd [("place", nV n)]) → E (.ref Wr) (some d) H')
theorem mask_keep {p : Addr} {H H' : Hp} (h : ∀ b o, H b = some o → b ≠ p → H' b = some o) : Same (mask p H) H' := fun b o e => by
  obtain ⟨n, e⟩ := mask_inv e
  exact h b o e n
section
variable {P : Program} {w : World} {K : PySem.W.Frag} {mg : Str → Option Value} {base : Heap}
theorem raise_wr {Wr : Addr} {σ : L2.St} {H : Hp} {n : Nat} {E : XK} (hE : ∀ (H' : Hp) (d : Addr), Same H H' → H d = none → H' d = some (.xd [("place", nV n)]) → E (.ref Wr) (some d) H') :
    tMkO Wr (spEr1 Wr "place") [] (tCons (tC (nV n)) tNil) σ H E := by
  refine ⟨by show 1 ≤ 1000; decide, fun a na => ⟨a, nV n, rfl, upd_same, fun d nd hda => ⟨rfl, d, [("place", nV n)], upd_same, ?_, ?_, ?_⟩⟩⟩
  · rw [upd_ne hda, upd_same]
  · rw [upd_ne hda] at nd
    exact nd
  · have nd' : H d = none := by rw [upd_ne hda] at nd; exact nd
    refine hE _ d (fun b o e => ?_) nd' upd_same
    have hbd : b ≠ d := ne_of_none e nd'
    have hba : b ≠ a := ne_of_none e na
    rw [upd_ne hbd, del_ne hba, upd_ne hba, upd_ne hbd, upd_ne hba]
    exact e
theorem ok_initQ {f C Wr fW fS fR fN fM : Addr} {fd fdW fdS fdR fdN fdM : FuncData} {k : Nat} {ds : List Value} (F : Fun K "__init__" "Texts.__init__" sInit f fd) (T : TxC K C) (O : OwnC K C) (WR : WrC P w K mg base Wr fW fdW)
    (GS : FnOk P w K mg base CX0 (k + 2) fS fdS ["thing"] (spIsSgQ K C)) (FS : Fun K "is_signs" "is_signs" sIsSg fS fdS) (bS : Binds K fdS ["thing"] []) (gS : mg "is_signs" = some (.ref fS))
    (GR : FnOk P w K mg base CX0 (k + 2) fR fdR ["wide", "thing"] (spAreRQ K C)) (FR : Fun K "are_rows" "are_rows" sAreR fR fdR) (bR : Binds K fdR ["wide", "thing"] []) (gR : mg "are_rows" = some (.ref fR))
    (GN : FnOk P w K mg base CX0 (k + 2) fN fdN ["many", "thing"] (spIsNumQ K C)) (FN : Fun K "is_number" "is_number" sIsNum fN fdN) (bN : Binds K fdN ["many", "thing"] []) (gN : mg "is_number" = some (.ref fN))
    (GM : FnOk P w K mg base CX0 (k + 2) fM fdM ["rows", "ends", "begin"] spLm) (kM : PySem.W.keepIn K (.ref fM) = true) (gM : mg "least_machine" = some (.ref fM)) (vd : Vals [.int 0] ds) (bd : Binds K fdM ["rows", "ends", "begin"] ds)
    (mis : mg "isinstance" = none) (mli : mg "list" = none) (ml : mg "len" = none) (ma : mg "all" = none) :
    FnOk P w K mg base (L2.CX P w) (k + 3) f fd ["self", "signs", "rows", "ends"] (spInitQ K C Wr) := by
  refine F.okX scInit (fun vs H Q E h => ?_) (fun cdv A outer s H vs Q E hr h => ?_)
  · obtain ⟨p, dx, x, y, u, a, b, c, rfl, _⟩ := h
    rfl
  · obtain ⟨p, dx, x, y, u, a, b, c, rfl, hp, hx, hy, hu, fa, fb, fc, qm, qe⟩ := h
    refine ⟨_, pss_cons (ps_if (pt_not (pt_val (pe_call GS hr (by rfl) gS FS.kp bS .nil pass0 (pa_cons (pv 1) pa_nil)))) (pss_one (ps_raise rfl (takes_of (E := E) rfl rfl rfl rfl) (pmk_oex WR.T WR.i WR.t WR.F (hr.mono (by omega)) WR.b .nil pass0 (by rfl) WR.g (pa_cons pe_int pa_nil)))) pss_nil)
      (pss_cons (ps_if (pt_not (pt_val (pe_call GR hr (by rfl) gR FR.kp bR .nil pass0 (pa_cons (pe_callB call_len_str (by rfl) ml bLen (pa_cons (pv 1) pa_nil)) (pa_cons (pv 2) pa_nil))))) (pss_one (ps_raise rfl (takes_of (E := E) rfl rfl rfl rfl) (pmk_oex WR.T WR.i WR.t WR.F (hr.mono (by omega)) WR.b .nil pass0 (by rfl) WR.g (pa_cons pe_int pa_nil)))) pss_nil)
      (pss_cons (ps_if (PT.nox (pw_or (pt_not (pt_val (pe_callB call_isi (by rfl) mis bIsi (pa_cons (pv 3) (pa_cons (pe_bltn (v := .ty "list") (by rfl) mli bList rfl) pa_nil)))))
          (pw_or1 (pt_not (pt_val (pe_callB (cr_all rfl) (by rfl) ma bAll (pa_cons (pe_lc (own := [("state", 4)]) (g := gName 4) (tt := tYes) (te := tCall (spIsNumQ K C) [] E0 (tCons (tCB (fun xs H Q => ∃ p ys, xs = [V.ref p] ∧ (SqL K H p ys ∨ SqT K H p ys) ∧ Q (V.int (ys.length : Nat)) H) (tCons (tVar 2) tNil)) (tCons (tVar 4) tNil))) rfl scInit.nd (pi_list (pv 3)) (blkOk_by (own := [("state", 4)]) (N := nInit) (sc := defScope sInit) (by decide +kernel))
            (fun _ _ _ _ _ => pg_name (i := 4) scInit.nd rfl (Or.inl rfl)) (fun _ _ _ _ _ => pts_nil) (fun _ _ _ _ _ => pe_call GN hr (by rfl) gN FN.kp bN .nil pass0 (pa_cons (pe_callB call_len_seq (by rfl) ml bLen (pa_cons (pv 2) pa_nil)) (pa_cons (pv 4) pa_nil)))) pa_nil)))))).pt) (pss_one (ps_raise rfl (takes_of (E := E) rfl rfl rfl rfl) (pmk_oex WR.T WR.i WR.t WR.F (hr.mono (by omega)) WR.b .nil pass0 (by rfl) WR.g (pa_cons pe_int pa_nil)))) pss_nil)
      (PSs.nox (pss_cons (ps_fld (pv 0) (pv 1) rfl)
      (pss_one (ps_asg (pe_call GM hr (by rfl) gM kM bd vd pass0 (pa_cons (pv 2) (pa_cons (pv 3) pa_nil))) (pg_tup rfl (pgs_cons (pg_fld (pv 0)) (pgs_cons (pg_fld (pv 0)) pgs_nil))))))))), ?_⟩
    have hm0 : Same (mask p H) H := mask_same
    have bad : ∀ n, dueQ a b c = some n → ∀ H1, Same H H1 → ∀ (H' : Hp) (d : Addr), Same H1 H' → H1 d = none → H' d = some (.xd [("place", nV n)]) → E (.ref Wr) (some d) H' := fun n hn H1 s1 H' d s2 nd hd =>
      qe n hn H' d (fun b o e _ => s2 _ _ (s1 _ _ e)) (s1.free nd) hd
    refine ⟨_, rfl, x, a, rfl, hx.sm hm0, fa, fun H1 s1 => ⟨_, rfl, ?_⟩⟩
    by_cases hs : sgQ a = true
    case neg =>
      rw [Bool.eq_false_iff.mpr hs]
      exact raise_wr (n := 0) (σ := []) (bad 0 (by unfold dueQ; rw [if_neg hs]) H1 s1)
    rw [hs]
    obtain ⟨z, rfl⟩ : ∃ z, a = .dat (.str z) := by
      cases a with
      | own => cases hs
      | dat d => cases d <;> first | exact ⟨_, rfl⟩ | cases hs
    cases hx.str
    have hsz := sgOk_of hs
    have h4 := hsz.few
    have hzl : z.length = z.cps.size := rfl
    refine ⟨_, rfl, z, rfl, szKe (by omega), _, rfl, z.cps.size, y, b, rfl, (hy.sm hm0).sm s1, fb, fun H2 s2 => ⟨_, rfl, ?_⟩⟩
    have s12 := s1.trans s2
    by_cases hrw : rowsQ z.cps.size b = true
    case neg =>
      rw [Bool.eq_false_iff.mpr hrw]
      exact raise_wr (n := 1) (σ := []) (bad 1 (by unfold dueQ; rw [if_pos hs]; exact if_neg hrw) H2 s12)
    rw [hrw]
    obtain ⟨rs, rfl⟩ : ∃ rs, b = .dat (.list rs) := by
      cases b with
      | own => cases hrw
      | dat d => cases d <;> first | exact ⟨_, rfl⟩ | cases hrw
    obtain ⟨ar, xr, rfl, har, hxr⟩ := hy.lst
    have hrl := hxr.length
    have hrfew := (few_list fb).1
    have har2 := s12 _ _ (hm0 _ _ har)
    have hdue : ∀ e, endsQ rs.length c = e → dueQ (.dat (.str z)) (.dat (.list rs)) c = (if e = true then none else some 2) := fun e he => by
      unfold dueQ
      rw [if_pos hs, if_pos (show rowsQ (Tg.wide (.dat (.str z))) (.dat (.list rs)) = true from hrw), show (Tg.dat (.list rs)).many = rs.length from rfl, he]
    obtain ⟨_, _, kc, kt, kk⟩ := ((hu.sm hm0).sm s12).qL O
    refine ⟨_, rfl, _, _, _, _, _, rfl, kc, kt, kk, _, rfl, ?_⟩
    by_cases hL : c.isL = true
    case neg =>
      rw [Bool.eq_false_iff.mpr hL]
      exact raise_wr (n := 2) (σ := []) (bad 2 (by rw [hdue false (endsQ_no (Bool.eq_false_iff.mpr hL))]; rfl) H2 s12)
    rw [hL]
    obtain ⟨es, rfl⟩ := Tg.isL_list hL
    obtain ⟨e, xe, rfl, he, hxe⟩ := hu.lst
    have hel := hxe.length
    have hefew := (few_list fc).1
    have he2 := s12 _ _ (hm0 _ _ he)
    refine ⟨_, rfl, e, rfl, ⟨_, SqL.of he2⟩, fun D1 nD1 => ?_⟩
    refine lc_list (K := K) (a := e) (xs := xe) (fun i H3 => Same H2 H3 ∧ H3 D1 = some (.lst ((es.take i).map fun d => V.bl (nmD rs.length d)))) ⟨same_new nD1, upd_same⟩ (fun i H3 _ ⟨s3, _⟩ => SqL.of (s3 _ _ he2)) ?_ ?_
    · rintro i v H3 hi ⟨s3, hD⟩
      obtain ⟨d', hd', hdq'⟩ := (((hxe.sm hm0).sm s12).sm s3).get hi
      have hil := (List.getElem?_eq_some_iff.mp hd').1
      refine ⟨rfl, ?_⟩
      refine ⟨_, rfl, ar, _, rfl, .inl (SqL.of (s3 _ _ har2)), _, rfl, rs.length, v, .dat d', by rw [hrl]; rfl, .dat hdq', _, hD, by rw [List.length_map, List.length_take]; exact szK (by omega), ?_, ?_⟩
      · intro b o e
        rw [upd_ne (ne_of_none e nD1)]
        exact s3 _ _ e
      · rw [upd_same, take_snoc hd', List.map_append]
        rfl
    rintro H3 ⟨s3, hD⟩
    rw [hel, List.take_length, map_bl] at hD
    refine ⟨D1, _, rfl, SqL.of hD, _, rfl, ?_⟩
    rw [all_id_map]
    have s03 := s12.trans s3
    by_cases hE : es.all (nmD rs.length) = true
    case neg =>
      rw [Bool.eq_false_iff.mpr hE]
      exact raise_wr (n := 2) (σ := []) (bad 2 (by rw [hdue false (show endsQ rs.length (.dat (.list es)) = false from Bool.eq_false_iff.mpr hE)]; rfl) H3 s03)
    rw [hE]
    obtain ⟨z', R, E1, gm⟩ := due_none (hdue true (show endsQ rs.length (.dat (.list es)) = true from hE))
    have ez : z' = z := by have := gm.ea; cases this; rfl
    subst ez
    obtain ⟨hRl, q⟩ := qm _ R E1 gm
    have eb := gm.eb
    have ec := gm.ec
    rw [eb] at hy
    rw [ec] at hu
    obtain ⟨ar', xs, e1, hR0⟩ : ∃ a xs, V.ref ar = .ref a ∧ RowsAt (mask p H) a xs R := by
      cases hy with
      | dat h => exact dRs_dq h
    cases e1
    obtain ⟨e', e1, hE0⟩ : ∃ a, V.ref e = .ref a ∧ mask p H a = some (.lst (nVs E1)) := by
      cases hu with
      | dat h => exact dNs_dq h
    cases e1
    have hR := hR0.same hm0
    have heE := hm0 _ _ hE0
    have hElen : E1.length ≤ 100000 := by
      have : es.length = E1.length := by
        have e2 : PyData.list es = dNs E1 := by injection ec
        unfold dNs at e2
        injection e2 with e2
        rw [e2, List.length_map]
      omega
    have h0 := gm.pos
    have hM := gm.mok
    -- self.its_signs = signs
    have hp3 := s03 _ _ hp
    refine ⟨_, rfl, _, rfl, p, C, dx, [], rfl, hp3, T.cl, T.nS, by show 0 < 1000; decide, ?_⟩
    have k4 : ∀ b o, H b = some o → b ≠ p → (upd H3 p (.ins C dx (putF "its_signs" (.str z') []))) b = some o := fun b o eb hb => by
      rw [upd_ne hb]
      exact s03 _ _ eb
    have hp4 : (upd H3 p (.ins C dx (putF "its_signs" (.str z') []))) p = some (.ins C dx (putF "its_signs" (.str z') [])) := upd_same
    generalize (upd H3 p (.ins C dx (putF "its_signs" (.str z') []))) = H4 at k4 hp4
    have hep : e ≠ p := ne_of heE hp (fun z => by cases z)
    have hap : ar ≠ p := ne_of hR.at_ hp (fun z => by cases z)
    have hR4 : RowsAt H4 ar xs R := ⟨k4 _ _ hR.at_ hap, hR.len, fun i x hx => k4 _ _ (hR.row i x hx) (ne_of (hR.row i x hx) hp (fun z => by cases z))⟩
    -- least machine
    refine ⟨_, rfl, _, rfl, ar, e, xs, R, z'.cps.size, 0, E1, rfl, hR4, hM, h0, hRl, by omega, k4 _ _ heE hep, hElen, fun H5 t pr pe ys R' E' s5 nt nr ne npe ny nd ht hr5 he5 hL hA hll => ?_⟩
    refine ⟨t, _, rfl, SqT.of ht, rfl, _, _, rfl, ?_⟩
    have hp5 := s5 _ _ hp4
    have prp : pr ≠ p := (ne_of_none hp4 nr).symm
    have pep : pe ≠ p := (ne_of_none hp4 ne).symm
    refine ⟨_, rfl, p, C, dx, _, rfl, hp5, T.cl, T.nT, by show 1 < 1000; decide, _, _, rfl, ?_⟩
    refine ⟨_, rfl, p, C, dx, _, rfl, upd_same, T.cl, T.nE, ?_, rfl, ?_⟩
    · show (putF "its_table" (V.ref pr) (putF "its_signs" (V.str z') [])).length < 1000
      have : (putF "its_table" (V.ref pr) (putF "its_signs" (V.str z') [])).length = 2 := by
        show (if ("its_signs" : Str) = "its_table" then [(("its_signs" : Str), V.ref pr)] else (("its_signs" : Str), V.str z') :: putF "its_table" (V.ref pr) []).length = 2
        rw [if_neg tf_st]
        rfl
      omega
    have kk : ∀ b o, H5 b = some o → b ≠ p → (upd (upd H5 p (.ins C dx (putF "its_table" (.ref pr) (putF "its_signs" (.str z') [])))) p (.ins C dx (tfl z' pr pe))) b = some o := fun b o eb hb => by
      rw [upd_ne hb, upd_ne hb]
      exact eb
    refine q _ pr pe ys R' E' (fun b o eb hb => kk b o (s5 _ _ (k4 b o eb hb)) hb) ⟨⟨dx, upd_same⟩, ⟨kk _ _ hr5.at_ prp, hr5.len, fun i x hx => kk _ _ (hr5.row i x hx) ?_⟩, kk _ _ he5 pep⟩ hL hA hll
    exact (ne_of_none hp4 (ny x (List.mem_of_getElem? hx)).1).symm
end
end K15

/-! sorted(set(text)) -/
namespace Rg
open PySem PySem.Spec PyProof.Rows L2 PySem.Froz
def sOf (e : Int × Value) : Str := match e.2 with | .str k _ => k | _ => Str.empty
/-- the payload of a set of texts l, with what its walk asks -/
structure TxR (P : Program) (w : World) (D : SD) (l : List Str) : Prop where
  ok : TxOk P w D l
  pm : (D.1.toList.map sOf).Perm l
  vs : ∀ e ∈ D.1.toList, ∃ k tk, e.2 = Value.str k tk
  ris : Ris D.2.2.place.toList
  led : w.params.followText "set-order" = true ∨ D.2.2.led = true
  nd : l.Nodup
section
variable {P : Program} {w : World} {A : Around} {E : Value → Shared → Prop} {s : Shared}
theorem tail_keeps {ep : Nat} {es : Array (Int × Value)} {t : SetTable} {b : Bool} (r : Ris t.place.toList) : Ris (tailTx ep es t b).2.2.place.toList ∧ (tailTx ep es t b).2.2.led = t.led ∧ (tailTx ep es t b).1.toList.Perm es.toList := by
  unfold tailTx
  by_cases c : (!b && t.tooFull) = true
  · rw [if_pos c]
    exact ⟨relayAll_ris _ _ _, relayAll_led _ _ _, relayAll_perm _ _ _⟩
  · rw [if_neg c]
    exact ⟨r, rfl, .refl _⟩
theorem TxR.more {D : SD} {l : List Str} {k : Str} (u : Tok) (R : TxR P w D l) (hk : k ∉ l) : TxR P w (addTx (hashStr w k) (.str k u) D) (k :: l) := by
  obtain ⟨es, ep, t⟩ := D
  have r1 := layNew_ris t es (hashStr w k) (.str k u) R.ris
  have r2 := layNew_led t es (hashStr w k) (.str k u)
  have r3 := layNew_perm t es (hashStr w k) (.str k u)
  have key : ∀ t2 : SetTable, t2.place = (layNew t es (hashStr w k) (.str k u)).2.1.place → t2.led = (layNew t es (hashStr w k) (.str k u)).2.1.led →
      Ris (tailTx ep (layNew t es (hashStr w k) (.str k u)).1 t2 (layNew t es (hashStr w k) (.str k u)).2.2.1).2.2.place.toList ∧ (tailTx ep (layNew t es (hashStr w k) (.str k u)).1 t2 (layNew t es (hashStr w k) (.str k u)).2.2.1).2.2.led = t.led ∧
      (tailTx ep (layNew t es (hashStr w k) (.str k u)).1 t2 (layNew t es (hashStr w k) (.str k u)).2.2.1).1.toList.Perm (es.push (hashStr w k, .str k u)).toList := fun t2 e1 e2 => by
    obtain ⟨a, b, c⟩ := tail_keeps (ep := ep) (es := (layNew t es (hashStr w k) (.str k u)).1) (t := t2) (b := (layNew t es (hashStr w k) (.str k u)).2.2.1) (by rw [e1]; exact r1)
    exact ⟨a, by rw [b, e2, r2], c.trans r3⟩
  have hadd : Ris (addTx (hashStr w k) (.str k u) (es, ep, t)).2.2.place.toList ∧ (addTx (hashStr w k) (.str k u) (es, ep, t)).2.2.led = t.led ∧ (addTx (hashStr w k) (.str k u) (es, ep, t)).1.toList.Perm (es.push (hashStr w k, .str k u)).toList := by
    unfold addTx
    refine key _ ?_ ?_
    · show (if _ then _ else _ : SetTable).place = _
      split <;> rfl
    · show (if _ then _ else _ : SetTable).led = _
      split <;> rfl
  refine ⟨add_ok u R.ok, ?_, fun e he => ?_, hadd.1, ?_, List.nodup_cons.mpr ⟨hk, R.nd⟩⟩
  · refine (hadd.2.2.map sOf).trans ?_
    rw [Array.toList_push, List.map_append]
    exact (List.perm_append_comm).trans (R.pm.cons k)
  · have := hadd.2.2.mem_iff.mp he
    rw [Array.toList_push] at this
    rcases List.mem_append.mp this with z | z
    · exact R.vs e z
    · rw [List.mem_singleton.mp z]
      exact ⟨k, u, rfl⟩
  · rw [hadd.2.1]
    exact R.led
/-- a text put into the set, new or not -/
theorem addT {a : Addr} {D : SD} {l : List Str} {k : Str} {u : Tok} {Q : Bool → Shared → Prop} (ho : s.heap.get? a = some (sObj "set" D)) (R : TxR P w D l) (room : l.length + 1 < scanBound)
    (h : ∀ (b : Bool) (h' : Heap) (D' : SD) (l' : List Str), TxR P w D' l' → (∀ y, y ∈ l' ↔ y = k ∨ y ∈ l) → l'.length ≤ l.length + 1 → h'.get? a = some (sObj "set" D') → (∀ b, b ≠ a → h'.get? b = s.heap.get? b) → h'.objs.size = s.heap.objs.size → Q b { s with heap := h' }) :
    wpAny (model P w) A (setAddHashed a (.str k u) (hashStr w k)) Q E s := by
  by_cases hk : k ∈ l
  · obtain ⟨es, ep, t⟩ := D
    have hd : (sObj "set" (es, ep, t)).data = .set es ep t := rfl
    have hsz : es.size = l.length := R.ok.sz
    obtain ⟨e, he1, he2⟩ := (R.ok.mem k).mp hk
    unfold setAddHashed setAddHashedIn
    refine wpAny_holding (wpAny_bind (wpAny_setState_of ho hd R.ok.fit ?_))
    dsimp only
    rw [byScan_of rfl (show es.size < scanBound by omega) R.ok.el]
    simp only [↓reduceIte]
    unfold setAddByScan
    refine wpAny_bind (wpAny_bind (wpAny_rule (wpAny_bind (wpAny_setScan_of (knd := strKind P w) (k := k) (is_str k u) ho hd R.ok.fit R.ok.el ?_))))
    cases hr : List.findIdx? (fun e => (strKind P w).is k e.2) es.toList with
    | none =>
      have := List.findIdx?_eq_none_iff.mp hr e he1
      rw [he2] at this
      cases this
    | some j =>
      refine wpAny_pure (wpAny_pure ?_)
      exact h false s.heap (es, ep, t) l R (fun y => ⟨.inr, fun z => z.elim (fun q => by rw [q]; exact hk) id⟩) (by omega) ho (fun _ _ => rfl) rfl
  · refine add_x ho R.ok hk (by omega) ?_
    exact h true _ _ (k :: l) (R.more u hk) (fun y => List.mem_cons) (by rw [List.length_cons]; exact Nat.le_refl _) (get_upd _ ho rfl) (fun b hb => Heap.get?_update_other _ _ (Ne.symm hb)) (Heap.size_after_update ..)
end
section
variable {P : Program} {w : World} {A : Around} {R : Result → Shared → Prop}
/-- the signs of a text, one behind another, into the set -/
theorem upd_loop {a I : Addr} {fp wr : List Addr} {x : Str} {St : Nat → Heap → Prop} (W : Walks P w A.in1 I fp wr x.cps.size (SignAt x) St) (haf : a ∉ fp) (hsz : x.cps.size + 1 < scanBound) :
    ∀ (k i : Nat) (s : Shared) (D : SD) (l : List Str), x.cps.size - i = k → i ≤ x.cps.size → St i s.heap → s.heap.get? a = some (sObj "set" D) → TxR P w D l → l.length ≤ i → (∀ y, y ∈ l ↔ ∃ j c, j < i ∧ x.cps[j]? = some c ∧ y = sing c) →
      (∀ (s' : Shared) (D' : SD) (l' : List Str), TxR P w D' l' → (∀ y, y ∈ l' ↔ ∃ j c, j < x.cps.size ∧ x.cps[j]? = some c ∧ y = sing c) → l'.length ≤ x.cps.size → s'.heap.get? a = some (sObj "set" D') → (∀ b o, b ≠ a → b ∉ wr → s.heap.get? b = some o → s'.heap.get? b = some o) → s'.gens = s.gens → s'.os = s.os → s'.drawn = s.drawn → R (.ok (.ret .none)) s') →
      codeAny (model P w) A (.builtin "set.update.loop" ⟨[.ref a, .ref I], []⟩) R s := by
  have haw : a ∉ wr := fun z => haf (W.sub _ z)
  intro k
  induction k with
  | zero =>
    intro i s D l hk hi hst ho hR hli hl hQ
    have ei : i = x.cps.size := by omega
    subst ei
    refine codeAny_builtin PyProof.Rows.F.entry_set_update_loop ?_
    rw [Around.under_plainId PyProof.Rows.F.plain_set_update_loop _]
    refine wpAny_bind (m := pyNext (.ref I)) (W.done s _ _ hst fun h' tk kp => wpAny_pure ?_)
    exact hQ _ D l hR hl hli (kp _ _ haw ho) (fun b o _ hb e => kp _ _ hb e) rfl rfl rfl
  | succ k ih =>
    intro i s D l hk hi hst ho hR hli hl hQ
    refine codeAny_builtin PyProof.Rows.F.entry_set_update_loop ?_
    rw [Around.under_plainId PyProof.Rows.F.plain_set_update_loop _]
    refine wpAny_bind (m := pyNext (.ref I)) (W.item i s _ _ (by omega) hst fun v h' tk hv hst' kp => ?_)
    obtain ⟨c, u, hc, rfl⟩ := hv
    refine wpAny_bind (m := holding [Value.str (sing c) u] (setAdd a (.str (sing c) u))) (wpAny_holding ?_)
    unfold setAdd
    refine wpAny_holding (wpAny_bind ((strKind P w).pyHash (k := sing c) (is_str _ _) ?_))
    refine addT (s := { s with heap := h', toks := tk + 1 }) (kp _ _ haw ho) hR (by omega) fun b h2 D2 l2 R2 m2 n2 o2 k2 z2 => ?_
    refine wpAny_pure ⟨plainId_quiet PyProof.Rows.F.plain_set_update_loop _, ih (i + 1) _ D2 l2 (by omega) (by omega) (W.frame _ _ _ hst' fun b hb o e => ?_) o2 R2 (by omega) (fun y => ?_) fun s' D' l' r1 r2 r3 r4 r5 r6 r7 r8 => ?_⟩
    · show h2.get? b = some o
      rw [k2 b (fun z => haf (z ▸ hb))]
      exact e
    · rw [m2 y, hl y]
      constructor
      · rintro (rfl | ⟨j, c', hj, h1, h2'⟩)
        · exact ⟨i, c, by omega, hc, rfl⟩
        · exact ⟨j, c', by omega, h1, h2'⟩
      · rintro ⟨j, c', hj, h1, h2'⟩
        by_cases e : j = i
        · subst e
          rw [hc] at h1
          cases h1
          exact .inl h2'
        · exact .inr ⟨j, c', by omega, h1, h2'⟩
    · refine hQ s' D' l' r1 r2 r3 r4 (fun b o hb hw e => r5 b o hb hw ?_) r6 r7 r8
      show h2.get? b = some o
      rw [k2 b hb]
      exact kp _ _ hw e
end
end Rg

namespace Rg
open PySem PySem.Spec PyProof.Rows L2 PySem.Froz
def frS (w : World) : Obj := { cls := .type "set", dict := none, data := .set #[] 0 (.fresh 0 0 (!w.params.followText "set-order")) }
section
variable {P : Program} {w : World} {A : Around} {E : Value → Shared → Prop} {s : Shared}
theorem txR_fresh : TxR P w (#[], 0, .fresh 0 0 (!w.params.followText "set-order")) [] := by
  refine ⟨TxOk.nil (by rfl), .nil, (fun e he => by simp at he), List.Pairwise.nil, ?_, List.nodup_nil⟩
  show _ ∨ (!w.params.followText "set-order") = true
  cases w.params.followText "set-order"
  · exact .inr rfl
  · exact .inl rfl
/-- a new set, whatever it is to be made of -/
theorem new1 (v : Value) {G : Value → Shared → Prop} (g : G (.ref s.heap.objs.size) { s with heap := s.heap.push (frS w) }) : codeAny (model P w) A (.call (.builtin "set.__new__") ⟨[.type "set", v], []⟩) (wants G E) s := by
  refine codeAny_of_tree ?_
  refine wpAny_bind (m := checkBuiltinCall "set.__new__" ⟨[.type "set", v], []⟩) (wpAny_of_eq (PySem.F.newCall_set_1 v) ?_)
  refine wpAny_pure ⟨plainId_quiet PySem.F.plain_set_new _, codeAny_builtin PySem.F.entry_set_new ?_⟩
  rw [Around.under_plainId PySem.F.plain_set_new _]
  unfold Builtin.«set.__new__» Builtin.Frozenset.newClass
  have q0 := sub_set_self
  obtain ⟨hp, gg, dd, tk, os⟩ := s
  dsimp only
  wp_walk
  refine wpAny_askSetting (wpAny_pure ?_)
  dsimp only
  simp only [newObj]
  exact wpAny_bind (wpAny_alloc (wpAny_pure (wpAny_pure g)))
/-- set(text) -/
theorem call_setS {x : Str} {u : Tok} {Q : Value → Shared → Prop} (hh : A.handled = none) (hsz : x.cps.size + 1 < scanBound)
    (h : ∀ (s' : Shared) (D : SD) (l : List Str), TxR P w D l → (∀ y, y ∈ l ↔ ∃ j c, j < x.cps.size ∧ x.cps[j]? = some c ∧ y = sing c) → l.length ≤ x.cps.size → s'.heap.get? s.heap.objs.size = some (sObj "set" D) → (∀ b o, s.heap.get? b = some o → s'.heap.get? b = some o) → s'.gens = s.gens → s'.os = s.os → s'.drawn = s.drawn → Q (.ref s.heap.objs.size) s') :
    wpAny (model P w) A (call (.type "set") [.str x u]) Q E s := by
  obtain ⟨c0, tl0, m0⟩ := F.called_set.mro
  have m1 := F.called_set.made
  have m2 := F.called_set.sub
  refine wpAny_call (codeAny_of_tree (wpAny_pure ⟨Code.quiet_builtin _ (by decide +kernel), codeAny_builtin F.entry_type_call ?_⟩))
  rw [Around.under_plain (weight_type_call_type "set" [.str x u] []) rfl]
  have m3 := F.called_set.notType
  have m4 := F.called_set.canCreate
  have m5 := PySem.F.typeCall_set_1 (.str x u)
  repeat (any_goals (first | assumption | wp_step))
  refine codeAny_mono (new1 (.str x u) (E := E) (G := fun y s1 => y = .ref s.heap.objs.size ∧ s1 = { s with heap := s.heap.push (frS w) }) ⟨rfl, rfl⟩) fun r s1 hr => ?_
  cases r with
  | error e => exact hr
  | ok fl =>
    cases fl with
    | ret y =>
      obtain ⟨rfl, rfl⟩ := hr
      have hS : (s.heap.push (frS w)).get? s.heap.objs.size = some (frS w) := Heap.get?_push_size _ rfl
      have hT : Shared.TypeIs { s with heap := s.heap.push (frS w) } (.ref s.heap.objs.size) "set" := ⟨_, hS, rfl⟩
      have m6 := F.called_set.init.lookup
      have m7 := F.called_set.init.bind (.ref s.heap.objs.size)
      repeat (any_goals (first | assumption | wp_step))
      refine codeAny_mono (codeAny_call_builtin (R := wants (fun r s2 => r = .none ∧ Q (.ref s.heap.objs.size) s2) E) F.called_set.init.plain F.entry_set_init (check_set_init_1 hT ?_)) fun r2 s2 hr2 => ?_
      · unfold Builtin.«set.__init__» noKeywords Builtin.Frozenset.updateFrom
        generalize hPI : pyIter = PI
        generalize hAS : Builtin.Frozenset.isAnySet = AS
        wp_walk
        subst hAS
        refine L2.Fz.anySet ?_
        have e0 : (Value.type "str" == Value.type "dict") = false := by decide
        have e1 : typeOf (Value.str x u) = pure (Value.type "str") := rfl
        rw [e1]
        simp only [Bool.false_eq_true, if_false]
        refine wpAny_bind (wpAny_pure ?_)
        rw [e0]
        simp only [Bool.false_eq_true, if_false]
        subst hPI
        refine wpAny_bind (wpAny_pyIter_str fun o St W st0 => ?_)
        refine wpAny_bind (wpAny_runValue ?_)
        have ha : ((s.heap.push (frS w)).push o).get? s.heap.objs.size = some (sObj "set" (#[], 0, .fresh 0 0 (!w.params.followText "set-order"))) := Heap.get?_push_of_some _ hS
        refine upd_loop (W _ (by simp [hh])) (fun z => ?_) hsz _ 0 _ _ [] rfl (Nat.zero_le _) st0 ha txR_fresh (Nat.le_refl _) (fun y => ⟨fun z => (nomatch z), fun ⟨j, c, hj, _⟩ => absurd hj (Nat.not_lt_zero _)⟩) fun s' D' l' r1 r2 r3 r4 r5 r6 r7 r8 => ?_
        · rw [List.mem_singleton] at z
          rw [Heap.size_push] at z
          exact absurd z (Nat.ne_of_lt (Nat.lt_succ_self _))
        · refine wpAny_pure (wpAny_pure ⟨rfl, h s' D' l' r1 r2 r3 r4 (fun b o e => r5 b o (Nat.ne_of_lt (Heap.lt_size e)) (fun z => ?_) (Heap.get?_push_of_some _ (Heap.get?_push_of_some _ e))) r6 r7 r8⟩)
          rw [List.mem_singleton, Heap.size_push] at z
          have hb : b < s.heap.objs.size := Heap.lt_size e
          have hz : b = s.heap.objs.size + 1 := z
          exact absurd hb (by rw [hz]; exact Nat.not_lt.mpr (Nat.le_succ _))
      · cases r2 with
        | error e => exact hr2
        | ok f2 =>
          cases f2 with
          | ret y2 =>
            obtain ⟨rfl, hq⟩ := hr2
            repeat (any_goals (first | assumption | wp_step))
          | _ => exact hr2.elim
    | _ => exact hr.elim
end
end Rg

namespace Rg
open PySem PySem.Spec PyProof.Rows L2 PySem.Froz
theorem strs_of : ∀ vs : List Value, (∀ v ∈ vs, ∃ k tk, v = Value.str k tk) → ∃ ks, StrsAre vs ks ∧ ks = vs.map fun v => sOf (0, v)
  | [], _ => ⟨[], .nil, rfl⟩
  | v :: vs, h => by
    obtain ⟨k, tk, rfl⟩ := h v List.mem_cons_self
    obtain ⟨ks, a, b⟩ := strs_of vs fun x hx => h x (List.mem_cons_of_mem _ hx)
    exact ⟨k :: ks, .cons k tk a, by rw [b]; rfl⟩
section
variable {P : Program} {w : World} {A : Around} {E : Value → Shared → Prop} {s : Shared}
theorem sorted_setS {a : Addr} {D : SD} {l : List Str} {Q : Value → Shared → Prop} (ho : s.heap.get? a = some (sObj "set" D)) (R : TxR P w D l) (hh : A.handled = none) (h64 : l.length < 64)
    (hQ : ∀ (s' : Shared) (p : Addr) (out : Array Value) (c : Nat) (ys : List Str), (∀ b o, s.heap.get? b = some o → s'.heap.get? b = some o) → s'.gens = s.gens → s'.os = s.os → s.heap.objs.size ≤ p → s'.heap.get? p = some (seqObj "list" out c) → StrsAre out.toList ys → ys.Perm l → sortedS ys = true → Q (.ref p) s') :
    wpAny (model P w) A (call (.builtin "sorted") [.ref a]) Q E s := by
  obtain ⟨es, ep, t⟩ := D
  have hsz : es.size = l.length := R.ok.sz
  refine Calls.call_function_entry kind_sorted plain_sorted entry_sorted (args_sorted1 _) ?_
  unfold Builtin.«sorted»
  refine wpAny_bind (m := checkCount "sorted" 1 1 _) (wpAny_pure ?_)
  refine wpAny_bind (collect_set (A := A.in1) hh ⟨_, ho, rfl, rfl⟩ R.ok.fit (by rw [hsz]; exact Nat.lt_trans h64 (by decide)) R.ris R.led fun s1 vs k1 hz g1 o1 pm => ?_)
  have hvl : vs.length = l.length := by rw [pm.length_eq, List.length_map, Array.length_toList]; exact hsz
  obtain ⟨ks, hks, eks⟩ := strs_of vs fun v hv => by
    obtain ⟨e, he, q⟩ := List.mem_map.mp (pm.mem_iff.mp hv)
    obtain ⟨k, tk, q2⟩ := R.vs e he
    exact ⟨k, tk, by rw [← q]; exact q2⟩
  have pk : ks.Perm l := by
    rw [eks]
    refine (pm.map _).trans ?_
    rw [List.map_map]
    exact R.pm
  refine wpAny_bind (wpAny_newList ?_ (by rw [hvl, sizeLine_eq]; omega))
  have hoL : (s1.heap.push (seqObj "list" vs.toArray 0)).get? s1.heap.objs.size = some (seqObj "list" vs.toArray 0) := Heap.get?_push_size _ rfl
  refine wpAny_bind (wpAny_holding (wpAny_call_entry slot_list_sort ⟨_, hoL, rfl⟩ entry_list_sort (list_sort_treeK strKind_oneLt hoL hks.keysOf (fun v₁ v₂ rest e => keyKind_strs (by rw [← e]; exact hks)) (by rw [hvl]; exact h64) fun st q1 q2 => ⟨_, rfl, ?_⟩) (args_list_sort _)))
  obtain ⟨ys, y1, y2, y3⟩ := sorted_out_str hks q1 q2
  obtain ⟨c, hc⟩ := sortedHeap_at (vs := vs) (out := (arrOf st).map (·.2)) hoL
  refine wpAny_pure ⟨_, rfl, hQ _ s1.heap.objs.size _ c ys (fun b u e => ?_) g1 o1 hz hc y1 (y2.trans pk) y3⟩
  have q := k1 b u e
  have hlt := Heap.lt_size q
  show (sortedHeap (s1.heap.push (seqObj "list" vs.toArray 0)) s1.heap.objs.size vs _).get? b = some u
  rw [sortedHeap_old (Nat.ne_of_lt hlt) (by rw [size_push']; exact Nat.lt_succ_of_lt hlt)]
  exact Heap.get?_push_of_some _ q
end
theorem bSorted' : bootBuiltins "sorted" = some (.builtin "sorted") := by decide +kernel
section
variable {X : Cx} {p p2 q pos : Pos}
/-- sorted(set(x)), x a text of fewer than 64 signs -/
theorem pe_sortSet {a : Expr} {ta : TE} (hg : Gl X "sorted") (hm : X.mg "sorted" = none) (hg2 : Gl X "set") (hm2 : X.mg "set" = none) (ha : PE X a ta) (hc : X.calm = true := by rfl)
    (na : starEach [a] X.env = (false, eval a X.env) :: starEach [] X.env := by rfl) : PE X (.Call (.Name "sorted" p) [.Call (.Name "set" p2) [a] [] q] [] pos)
      (fun σ H Q => ta σ H fun x H1 => ∃ z : Str, x = .str z ∧ z.cps.size < 63 ∧ ∀ (ys : List Str) (r : Addr), sortedS ys = true → ys.Nodup → (∀ y, y ∈ ys ↔ ∃ c ∈ z.cps.toList, y = ⟨#[c]⟩) → H1 r = none → Q (.ref r) (upd H1 r (.lst (ys.map V.str)))) := by
  refine ⟨?_⟩
  intro pins s σ H Q I h
  refine Call_ (ld_blt I hg hm bSorted' ?_)
  refine PyProof.Rows.callWith_builtin1 (PyProof.Rows.args_cons ?_ rfl) rfl rfl
  refine Call_ (ld_blt I hg2 hm2 bSet ?_)
  refine PyProof.Rows.callWith_type1 (PyProof.Rows.args_cons (thn (ha.run pins s σ H _ I h) ?_) na) na rfl
  rintro v s1 ⟨x, H1, I1, r1, z, rfl, hz, q1⟩
  refine PyProof.Rows.args_nil ?_
  obtain ⟨u, rfl⟩ := r1
  refine call_setS (I1.ok.hd hc) (Nat.lt_trans (show z.cps.size + 1 < 64 by omega) (by decide)) fun s2 D l t1 t2 t3 t4 t5 t6 t7 t8 => ?_
  refine PyProof.Rows.args_nil ?_
  have e2 : s2 = { s1 with heap := s2.heap, toks := s2.toks } := by
    cases s2
    cases s1
    cases t6
    cases t7
    cases t8
    rfl
  have I2 : Inv X pins σ H1 { s1 with heap := s2.heap, toks := s2.toks } := I1.kept fun b o e => t5 b o e
  rw [← e2] at I2
  refine sorted_setS t4 t1 (I2.ok.hd hc) (by omega) fun s3 r out c ys k g o hr hg' hi hp hs => ?_
  have hlen : (ys.map V.str).length ≤ sizeLine := by rw [List.length_map, hp.length_eq, sizeLine_eq]; omega
  have hn : H1 r = none := I2.hok.fresh hr
  have J : Inv X pins σ (upd H1 r (.lst (ys.map V.str))) { s2 with heap := s3.heap, gens := s3.gens, drawn := s3.drawn, toks := s3.toks } :=
    I2.call (ch := []) (Un.laid k hr hn) (I2.hok.laid k hr ⟨hlen, out.toList, c, vals_of_strs hi, hg'⟩) (by rw [g]; exact I2.bare) (fun _ z => nomatch z)
  have e3 : s3 = { s2 with heap := s3.heap, gens := s3.gens, drawn := s3.drawn, toks := s3.toks } := by
    cases s3
    cases s2
    cases o
    rfl
  rw [e3]
  refine ⟨.ref r, _, J, rfl, q1 ys r hs (hp.nodup_iff.mpr t1.nd) (fun y => ?_) hn⟩
  rw [hp.mem_iff, t2 y]
  constructor
  · rintro ⟨j, c, hj, h1, h2⟩
    exact ⟨c, List.mem_of_getElem? (by rw [Array.getElem?_toList]; exact h1), h2⟩
  · rintro ⟨c, h1, h2⟩
    obtain ⟨j, hj, e⟩ := List.mem_iff_getElem.mp h1
    rw [Array.length_toList] at hj
    exact ⟨j, c, hj, by rw [← Array.getElem?_toList, List.getElem?_eq_getElem (by rw [Array.length_toList]; exact hj), e], h2⟩
end
end Rg

namespace Rg
open PySem PySem.Spec PyProof.Rows L2 Mach
theorem eqvAll_strs : ∀ xs ys : List Str, PyData.eqvAll (xs.map PyData.str) (ys.map PyData.str) = decide (xs = ys)
  | [], [] => rfl
  | [], b :: T => rfl
  | a :: S, [] => rfl
  | a :: S, b :: T => by
    show (PyData.eqv (.str a) (.str b) && PyData.eqvAll _ _) = _
    rw [eqvAll_strs S T, eqv_str]
    by_cases h1 : a = b
    · by_cases h2 : S = T
      · rw [h1, h2]
        simp
      · rw [decide_eq_false h2, Bool.and_false, decide_eq_false (fun z => h2 (List.cons.inj z).2)]
    · rw [decide_eq_false h1, Bool.false_and, decide_eq_false (fun z => h1 (List.cons.inj z).1)]
theorem shp_strs {xs : List Str} (h : ∀ x ∈ xs, PyData.strOk x = true) : SeqAt.shaped (.list (xs.map PyData.str)) = true := by
  have h1 : PyData.canLayAll0 (xs.map PyData.str) = true ∧ PyData.depthAll (xs.map PyData.str) = 0 := by
    induction xs with
    | nil => exact ⟨rfl, rfl⟩
    | cons a l ih =>
      have ih := ih fun x hx => h x (List.mem_cons_of_mem _ hx)
      exact ⟨by simp only [List.map_cons, PyData.canLayAll0, PyData.canLay0, h a List.mem_cons_self, ih.1, Bool.and_self], by simp only [List.map_cons, PyData.depthAll, PyData.depth, ih.2, Nat.max_self]⟩
  unfold SeqAt.shaped
  simp only [PyData.canLay0, PyData.depth, h1.1, h1.2, Bool.true_and]
  decide
theorem dpAll_strs {K : PySem.W.Frag} {H : Hp} : ∀ xs : List Str, DpAll K H (xs.map V.str) (xs.map PyData.str)
  | [] => .nil
  | x :: xs => .cons (.str x) (dpAll_strs xs)
def one1 (c : Nat) : Str := ⟨#[c]⟩
theorem one1_inj {a b : Nat} (h : one1 a = one1 b) : a = b := by
  have : (one1 a).cps = (one1 b).cps := by rw [h]
  simpa [one1] using this
theorem strict_uniq : ∀ {a b : List Nat}, a.Pairwise (· < ·) → b.Pairwise (· < ·) → (∀ x, x ∈ a ↔ x ∈ b) → a = b
  | [], [], _, _, _ => rfl
  | [], y :: b, _, _, h => absurd ((h y).mpr List.mem_cons_self) (by simp)
  | x :: a, [], _, _, h => absurd ((h x).mp List.mem_cons_self) (by simp)
  | x :: a, y :: b, ha, hb, h => by
    rw [List.pairwise_cons] at ha hb
    have e : x = y := by
      rcases List.mem_cons.mp ((h x).mp List.mem_cons_self) with z | z
      · exact z
      · rcases List.mem_cons.mp ((h y).mpr List.mem_cons_self) with z2 | z2
        · exact z2.symm
        · have h1 := ha.1 y z2
          have h2 := hb.1 x z
          omega
    subst e
    rw [strict_uniq ha.2 hb.2 fun u => ?_]
    constructor
    · intro hu
      rcases List.mem_cons.mp ((h u).mp (List.mem_cons_of_mem _ hu)) with z | z
      · have := ha.1 u hu
        omega
      · exact z
    · intro hu
      rcases List.mem_cons.mp ((h u).mpr (List.mem_cons_of_mem _ hu)) with z | z
      · have := hb.1 u hu
        omega
      · exact z
theorem rising_le : ∀ (cs : List Nat) (p : Nat), PyProof.Rows.risingS (one1 p) (cs.map one1) = true → (p :: cs).Pairwise (· ≤ ·)
  | [], p, _ => by simp
  | c :: cs, p, h => by
    have h' : (!ltCps (one1 c).cps.toList (one1 p).cps.toList && PyProof.Rows.risingS (one1 c) (cs.map one1)) = true := h
    rw [Bool.and_eq_true] at h'
    have ih := rising_le cs c h'.2
    have hpc : p ≤ c := by
      have h1 := h'.1
      have h2 : ltCps (one1 c).cps.toList (one1 p).cps.toList = (decide (c < p) || (c == p && false)) := rfl
      rw [h2] at h1
      simp at h1
      exact h1
    rw [List.pairwise_cons]
    refine ⟨fun x hx => ?_, ih⟩
    rcases List.mem_cons.mp hx with z | z
    · rw [z]; exact hpc
    · exact Nat.le_trans hpc ((List.pairwise_cons.mp ih).1 x z)
theorem all_one1 {P : Nat → Prop} : ∀ {ys : List Str}, (∀ y ∈ ys, ∃ c, P c ∧ y = one1 c) → ∃ cs : List Nat, ys = cs.map one1
  | [], _ => ⟨[], rfl⟩
  | y :: ys, h => by
    obtain ⟨c, _, rfl⟩ := h y List.mem_cons_self
    obtain ⟨cs, rfl⟩ := all_one1 fun x hx => h x (List.mem_cons_of_mem _ hx)
    exact ⟨c :: cs, rfl⟩
theorem one1_mem {cs : List Nat} {c : Nat} : one1 c ∈ cs.map one1 ↔ c ∈ cs := by
  rw [List.mem_map]
  exact ⟨fun ⟨d, hd, e⟩ => one1_inj e ▸ hd, fun h => ⟨c, h, rfl⟩⟩
theorem sgs_sorted {z : Str} {ys : List Str} (h : PyProof.Rows.sortedS ys = true) (nd : ys.Nodup) (hm : ∀ y, y ∈ ys ↔ ∃ c ∈ z.cps.toList, y = (⟨#[c]⟩ : Str)) : decide (z.cps.toList.map one1 = ys) = decide (z.cps.toList.Pairwise (· < ·)) := by
  obtain ⟨cs, rfl⟩ := all_one1 (P := fun c => c ∈ z.cps.toList) fun y hy => by
    obtain ⟨c, h1, h2⟩ := (hm y).mp hy
    exact ⟨c, h1, h2⟩
  have hle : cs.Pairwise (· ≤ ·) := by
    cases cs with
    | nil => exact List.Pairwise.nil
    | cons c cs => exact rising_le cs c h
  have hnd : cs.Nodup := by
    rw [List.Nodup, List.pairwise_map] at nd
    exact nd.imp fun hab e => hab (by rw [e])
  have hlt : cs.Pairwise (· < ·) := (hle.and hnd).imp fun ⟨h1, h2⟩ => Nat.lt_of_le_of_ne h1 h2
  have hmem : ∀ c, c ∈ z.cps.toList ↔ c ∈ cs := fun c => by
    rw [← one1_mem (cs := cs), hm (one1 c)]
    exact ⟨fun hc => ⟨c, hc, rfl⟩, fun ⟨d, hd, e⟩ => one1_inj (b := d) e ▸ hd⟩
  rw [Bool.eq_iff_iff, decide_eq_true_iff, decide_eq_true_iff]
  constructor
  · intro e
    have : z.cps.toList = cs := by
      have := congrArg (List.map fun x : Str => x.cps.toList.headD 0) e
      rw [List.map_map, List.map_map] at this
      simpa [one1, Function.comp_def] using this
    rw [this]
    exact hlt
  · intro hz
    rw [strict_uniq hz hlt hmem]
end Rg

/-! the law's own look -/
namespace K15
open PySem PySem.Spec PyProof.Rows L2 Rg Mach
abbrev sIsSt : Stmt := topS 45
abbrev sDue : Stmt := topS 46
theorem scIsSt : FnScope ["_law_many", "_law_thing"] ["_law_many", "_law_thing"] (defScope sIsSt) := ⟨rfl, rfl, rfl, by decide +kernel, rfl, by decide +kernel, by decide +kernel⟩
def nDue : List Str := ["_law_things", "_law_signs_here", "_law_rows", "_law_ends", "_law_row", "_law_sign", "_law_there", "_law_one"]
theorem scDue : FnScope nDue ["_law_things"] (defScope sDue) := ⟨rfl, rfl, rfl, by decide +kernel, rfl, by decide +kernel, by decide +kernel⟩
def oN : Option Nat → V
  | none => .non
  | some n => nV n
/-- three things stand at p -/
structure Th3 (K : PySem.W.Frag) (C : Addr) (H : Hp) (p : Addr) (x y u : V) (a b c : Tg) : Prop where
  at_ : H p = some (.tup [x, y, u])
  x : Tq K C H x a
  y : Tq K C H y b
  u : Tq K C H u c
theorem Th3.sm {K : PySem.W.Frag} {C : Addr} {H H' : Hp} {p : Addr} {x y u : V} {a b c : Tg} (h : Th3 K C H p x y u a b c) (s : Same H H') : Th3 K C H' p x y u a b c := ⟨s _ _ h.at_, h.x.sm s, h.y.sm s, h.u.sm s⟩
/-- none of them too great; signs are ones that can be compared -/
structure Few3 (a b c : Tg) : Prop where
  fa : a.few
  fb : b.few
  fc : c.few
  zok : ∀ z, a = .dat (.str z) → z.cps.size ≤ 4 → PyData.strOk z = true
  low : ∀ z R E, GoodM a b c z R E → R.length ≤ 16
def spDueQ (K : PySem.W.Frag) (C : Addr) : Sp := fun vs H Q _ => ∃ (p : Addr) (x y u : V) (a b c : Tg), vs = [.ref p] ∧ Th3 K C H p x y u a b c ∧ Few3 a b c ∧ ∀ H', Same H H' → Q (oN (dueQ a b c)) H'
theorem strOk_one {z : Str} (h : PyData.strOk z = true) {c : Nat} (hc : c ∈ z.cps.toList) : PyData.strOk (one1 c) = true := by
  unfold PyData.strOk at *
  rw [Array.all_eq_true] at *
  obtain ⟨i, hi, rfl⟩ := List.mem_iff_getElem.mp hc
  rw [Array.length_toList] at hi
  intro j hj
  have hj0 : j = 0 := by
    have : j < 1 := hj
    omega
  subst hj0
  rw [Array.getElem_toList]
  exact h i hi
section
variable {P : Program} {w : World} {K : PySem.W.Frag} {mg : Str → Option Value} {base : Heap}
theorem ok_isSt {f C : Addr} {fd : FuncData} {k : Nat} (F : Fun K "_law_is_state" "_law_is_state" sIsSt f fd) (O : OwnC K C) (mis : mg "isinstance" = none) (mi : mg "int" = none) (mb : mg "bool" = none) :
    FnOk P w K mg base CX0 (k + 1) f fd ["_law_many", "_law_thing"] (spIsNumQ K C) := by
  refine F.ok scIsSt (fun vs H Q E h => ?_) (fun cdv A outer s H vs Q E hr h => ?_)
  · obtain ⟨n, v, t, rfl, _⟩ := h
    rfl
  · obtain ⟨n, v, t, rfl, hv, q⟩ := h
    refine ⟨_, pss_one (ps_ret (pe_and (pe_callB call_isi (by rfl) mis bIsi (pa_cons (pv 1) (pa_cons (pe_bltn (v := .ty "int") (by rfl) mi bInt rfl) pa_nil)))
      (pe_and (pe_not (pe_callB call_isi (by rfl) mis bIsi (pa_cons (pv 1) (pa_cons (pe_bltn (v := .ty "bool") (by rfl) mb bBool rfl) pa_nil)))) (pe_one (pe_chain op_le op_lt pe_int (pv 1) (pv 0)))))), ?_⟩
    obtain ⟨_, _, kc, kt, kk⟩ := hv.qI O
    refine ⟨_, rfl, _, _, _, _, _, rfl, kc, kt, kk, _, rfl, ite2 (fun e => ?_) (fun e => ?_)⟩
    · obtain ⟨_, _, kc, kt, kk⟩ := hv.qB O
      refine ⟨_, rfl, _, _, _, _, _, rfl, kc, kt, kk, _, rfl, _, rfl, ite2 (fun e2 => ?_) (fun e2 => ?_)⟩
      · have e3 : t.isW = true := by unfold Tg.isW; rw [e, e2]; rfl
        obtain ⟨i, rfl⟩ := Tg.isW_num e3
        cases hv.int
        have e2 : numQ n (.dat (.int i)) = (decide (0 ≤ i) && decide (i < (n : Int))) := rfl
        rw [e2] at q
        refine ⟨_, rfl, _, _, rfl, rfl, _, rfl, ?_⟩
        by_cases h0 : (0 : Int) ≤ i
        · rw [decide_eq_true h0, Bool.true_and] at q
          exact ite2 (fun _ => ⟨_, rfl, _, _, rfl, rfl, q⟩) (fun z => absurd (decide_eq_true h0) z)
        · rw [decide_eq_false h0, Bool.false_and] at q
          exact ite2 (fun z => absurd (of_decide_eq_true z) h0) (fun _ => q)
      · have e3 : t.isW = false := by unfold Tg.isW; rw [e, Bool.eq_false_iff.mpr e2]; rfl
        rw [numQ_isW e3] at q
        exact q
    · have e3 : t.isW = false := by unfold Tg.isW; rw [Bool.eq_false_iff.mpr e]; rfl
      rw [numQ_isW e3] at q
      exact q
theorem filt_snoc {α : Type} {f : α → Bool} {l : List α} {i : Nat} {x : α} (h : l[i]? = some x) : (l.take (i + 1)).filter f = (l.take i).filter f ++ (if f x = true then [x] else []) := by
  rw [take_snoc h, List.filter_append]
  congr 1
  by_cases c : f x = true
  · rw [if_pos c, List.filter_cons_of_pos c]; rfl
  · rw [if_neg c, List.filter_cons_of_neg c]; rfl
theorem ok_dueQ {f C fI : Addr} {fd fdI : FuncData} {k : Nat} (F : Fun K "_law_due" "_law_due" sDue f fd) (O : OwnC K C)
    (FI : Fun K "_law_is_state" "_law_is_state" sIsSt fI fdI) (bI : Binds K fdI ["_law_many", "_law_thing"] []) (gI : mg "_law_is_state" = some (.ref fI))
    (mis : mg "isinstance" = none) (mi : mg "int" = none) (mb : mg "bool" = none) (ms : mg "str" = none) (ml : mg "len" = none) (mli : mg "list" = none) (mso : mg "sorted" = none) (mse : mg "set" = none) :
    FnOk P w K mg base CX0 (k + 2) f fd ["_law_things"] (spDueQ K C) := by
  have GI : FnOk P w K mg base CX0 (k + 1) fI fdI ["_law_many", "_law_thing"] (spIsNumQ K C) := ok_isSt FI O mis mi mb
  refine F.ok scDue (fun vs H Q E h => ?_) (fun cdv A outer s H vs Q E hr h => ?_)
  · obtain ⟨p, x, y, u, a, b, c, rfl, _⟩ := h
    rfl
  · obtain ⟨p, x, y, u, a, b, c, rfl, hT, hF, q⟩ := h
    refine ⟨_, pss_cons (ps_asg (pv 0) (pg_tup rfl (pgs_cons (pg_name (i := 1) scDue.nd rfl (.inl rfl)) (pgs_cons (pg_name (i := 2) scDue.nd rfl (.inr rfl)) (pgs_cons (pg_name (i := 3) scDue.nd rfl (.inl rfl)) pgs_nil)))))
      (pss_cons (ps_if (pw_or (pt_not (pt_val (pe_callB call_isi (by rfl) mis bIsi (pa_cons (pv 1) (pa_cons (pe_bltn (v := .ty "str") (by rfl) ms bStr rfl) pa_nil)))))
        (pw_or (pt_not (pt_chain op_lt op_lt pe_int (pe_callB call_len_str (by rfl) ml bLen (pa_cons (pv 1) pa_nil)) pe_int))
        (pw_or1 (pt_cmpR (op_neD hr.units) (pe_callTy (call_listS rfl) (by rfl) mli bList (pa_cons (pv 1) pa_nil)) (pe_sortSet (by rfl) mso (by rfl) mse (pv 1)) (nomark _))))).pt (pss_one (ps_ret pe_int)) pss_nil)
      (pss_cons (ps_if (pt_cmpR (op_neL0 hr.units0) (pe_lc (own := [("_law_sign", 5)]) (g := gName 5) (tt := tTest (tOp (fun x y H Q => ∃ (c : Nat) (z : Str), x = .str ⟨#[c]⟩ ∧ y = .str z ∧ Q (.bl (!decide (c ∈ z.cps.toList))) H) (tVar 5) (tC (.str letters)))) (te := tVar 5) rfl scDue.nd (pi_str (pv 1)) (blkOk_by (own := [("_law_sign", 5)]) (N := nDue) (sc := defScope sDue) (by decide +kernel))
          (fun _ _ _ _ _ => pg_name (i := 5) scDue.nd rfl (Or.inl rfl)) (fun _ _ _ _ _ => pts_one (pt_cmpR op_notIn_sign (pv 5) pe_str rfl)) (fun _ _ _ _ _ => pv 5)) (pe_lst pa_nil) (nomark _)) (pss_one (ps_ret pe_int)) pss_nil)
      (pss_cons (ps_if (pw_or (pt_not (pt_val (pe_callB call_isi (by rfl) mis bIsi (pa_cons (pv 2) (pa_cons (pe_bltn (v := .ty "list") (by rfl) mli bList rfl) pa_nil)))))
        (pw_or1 (pt_cmpR (op_eqL0 hr.units0) (pv 2) (pe_lst pa_nil) (nomark _)))).pt (pss_one (ps_ret pe_int)) pss_nil)
      (pss_cons (ps_for PassesOwn.never rfl (pi_list (pv 2)) (pg_name (i := 4) scDue.nd rfl (.inl rfl))
        (pss_cons (ps_if (pw_or (pt_not (pt_val (pe_callB call_isi (by rfl) mis bIsi (pa_cons (pv 4) (pa_cons (pe_bltn (v := .ty "list") (by rfl) mli bList rfl) pa_nil)))))
          (pw_or1 (pt_cmpR op_ne (pe_callB call_len_seq (by rfl) ml bLen (pa_cons (pv 4) pa_nil)) (pe_callB call_len_str (by rfl) ml bLen (pa_cons (pv 1) pa_nil)) (nomark _)))).pt (pss_one (ps_ret pe_int)) pss_nil)
        (pss_one (ps_if (pt_cmpR (op_neL0 hr.units0) (pe_lc (own := [("_law_there", 6)]) (g := gName 6) (tt := tNot (tB (tCall (spIsNumQ K C) [] E0 (tCons (tCB (fun xs H Q => ∃ p ys, xs = [V.ref p] ∧ (SqL K H p ys ∨ SqT K H p ys) ∧ Q (V.int (ys.length : Nat)) H) (tCons (tVar 2) tNil)) (tCons (tVar 6) tNil))))) (te := tVar 6) rfl scDue.nd (pi_list (pv 4)) (blkOk_by (own := [("_law_there", 6)]) (N := nDue) (sc := defScope sDue) (by decide +kernel))
          (fun _ _ _ _ _ => pg_name (i := 6) scDue.nd rfl (Or.inl rfl)) (fun _ _ _ _ _ => pts_one (pt_not (pt_val (pe_call GI hr (by rfl) gI FI.kp bI .nil pass0 (pa_cons (pe_callB call_len_seq (by rfl) ml bLen (pa_cons (pv 2) pa_nil)) (pa_cons (pv 6) pa_nil)))))) (fun _ _ _ _ _ => pv 6)) (pe_lst pa_nil) (nomark _)) (pss_one (ps_ret pe_int)) pss_nil))))
      (pss_cons (ps_if (pw_or (pt_not (pt_val (pe_callB call_isi (by rfl) mis bIsi (pa_cons (pv 3) (pa_cons (pe_bltn (v := .ty "list") (by rfl) mli bList rfl) pa_nil)))))
        (pw_or1 (pt_cmpR (op_neL0 hr.units0) (pe_lc (own := [("_law_one", 7)]) (g := gName 7) (tt := tNot (tB (tCall (spIsNumQ K C) [] E0 (tCons (tCB (fun xs H Q => ∃ p ys, xs = [V.ref p] ∧ (SqL K H p ys ∨ SqT K H p ys) ∧ Q (V.int (ys.length : Nat)) H) (tCons (tVar 2) tNil)) (tCons (tVar 7) tNil))))) (te := tVar 7) rfl scDue.nd (pi_list (pv 3)) (blkOk_by (own := [("_law_one", 7)]) (N := nDue) (sc := defScope sDue) (by decide +kernel))
          (fun _ _ _ _ _ => pg_name (i := 7) scDue.nd rfl (Or.inl rfl)) (fun _ _ _ _ _ => pts_one (pt_not (pt_val (pe_call GI hr (by rfl) gI FI.kp bI .nil pass0 (pa_cons (pe_callB call_len_seq (by rfl) ml bLen (pa_cons (pv 2) pa_nil)) (pa_cons (pv 7) pa_nil)))))) (fun _ _ _ _ _ => pv 7)) (pe_lst pa_nil) (nomark _)))).pt (pss_one (ps_ret pe_int)) pss_nil)
      (pss_one (ps_ret pe_non))))))), ?_⟩
    have no0 : sgQ a = false → ∀ H', Same H H' → Q (nV 0) H' := fun e H' s => by
      have : dueQ a b c = some 0 := by unfold dueQ; rw [if_neg (by rw [e]; exact Bool.false_ne_true)]
      rw [this] at q
      exact q H' s
    refine ⟨_, rfl, p, _, rfl, SqT.of hT.at_, rfl, x, _, rfl, y, _, rfl, u, _, rfl, rfl, ?_⟩
    obtain ⟨_, _, kc, kt, kk⟩ := hT.x.qS O
    refine ⟨_, rfl, _, _, _, _, _, rfl, kc, kt, kk, _, rfl, ?_⟩
    by_cases hS : a.isS = true
    case neg =>
      rw [Bool.eq_false_iff.mpr hS]
      exact no0 (sgQ_no (Bool.eq_false_iff.mpr hS)) H fun _ _ z => z
    rw [hS]
    obtain ⟨z, rfl⟩ := Tg.isS_str hS
    cases hT.x.str
    have hz := few_str hF.fa
    have hlen : z.length = z.cps.size := rfl
    have hsg : sgQ (.dat (.str z)) = (decide (1 ≤ z.cps.size) && decide (z.cps.size ≤ 4) && decide (∀ c ∈ z.cps.toList, c ∈ letters.cps.toList) && decide (z.cps.toList.Pairwise (· < ·))) := rfl
    rw [hsg] at no0
    refine ⟨_, rfl, _, rfl, szBigLe (by rw [hlen]; exact hz), _, _, rfl, rfl, _, rfl, ite2 (fun c1 => ?_) (fun c1 => ?_)⟩
    case _ =>
      have h1 : 1 ≤ z.cps.size := by have := of_decide_eq_true c1; rw [hlen] at this; omega
      refine ⟨_, _, rfl, rfl, _, rfl, ?_⟩
      by_cases h4 : z.cps.size ≤ 4
      case neg =>
        rw [decide_eq_false (show ¬ ((z.length : Nat) : Int) < 5 by rw [hlen]; omega)]
        exact no0 (by rw [decide_eq_false h4, Bool.and_false, Bool.false_and, Bool.false_and]) H fun _ _ z => z
      rw [decide_eq_true (show ((z.length : Nat) : Int) < 5 by rw [hlen]; omega)]
      rw [decide_eq_true h4, decide_eq_true h1, Bool.true_and, Bool.true_and] at no0
      have hok := hF.zok z rfl h4
      refine ⟨_, rfl, z, rfl, by omega, fun q1 n1 => ?_⟩
      have s1 := same_new (o := .lst (z.cps.toList.map fun c => V.str ⟨#[c]⟩)) n1
      have hq1 : (upd H q1 (.lst (z.cps.toList.map fun c => V.str ⟨#[c]⟩))) q1 = some (.lst ((z.cps.toList.map one1).map V.str)) := by
        rw [upd_same, List.map_map]
        rfl
      generalize (upd H q1 (.lst (z.cps.toList.map fun c => V.str ⟨#[c]⟩))) = H1 at s1 hq1
      refine ⟨_, rfl, z, rfl, by omega, fun ys r hs nd hm nr => ?_⟩
      have s2 : Same H1 (upd H1 r (.lst (ys.map V.str))) := same_new nr
      have hr2 : (upd H1 r (.lst (ys.map V.str))) r = some (.lst (ys.map V.str)) := upd_same
      generalize (upd H1 r (.lst (ys.map V.str))) = H2 at s2 hr2
      have s02 := s1.trans s2
      refine ⟨.list ((z.cps.toList.map one1).map .str), .list (ys.map .str), .lst (SqL.of (s2 _ _ hq1)) (dpAll_strs _), .lst (SqL.of hr2) (dpAll_strs _), shp_strs fun x hx => ?_, shp_strs fun x hx => ?_, _, rfl, ?_⟩
      · obtain ⟨c, hc, rfl⟩ := List.mem_map.mp hx
        exact strOk_one hok hc
      · obtain ⟨c, hc, rfl⟩ := (hm x).mp hx
        exact strOk_one hok hc
      rw [show PyData.eqv (.list ((z.cps.toList.map one1).map .str)) (.list (ys.map .str)) = decide (z.cps.toList.map one1 = ys) by simp only [PyData.eqv]; exact eqvAll_strs _ _, sgs_sorted hs nd hm]
      by_cases hP : z.cps.toList.Pairwise (· < ·)
      case neg =>
        rw [decide_eq_false hP]
        exact no0 (by rw [decide_eq_false hP, Bool.and_false]) H2 s02
      rw [decide_eq_true hP]
      rw [decide_eq_true hP, Bool.and_true] at no0
      -- letters
      refine ⟨_, rfl, z, rfl, fun D1 nD1 => ?_⟩
      refine lc_str (x := z) (fun i H3 => Same H2 H3 ∧ H3 D1 = some (.lst (((z.cps.toList.take i).filter fun c => !decide (c ∈ letters.cps.toList)).map fun c => V.str ⟨#[c]⟩))) ⟨same_new nD1, upd_same⟩ ?_ ?_
      · rintro i c H3 hc ⟨s3, hD⟩
        have hil : i < z.cps.size := (Array.getElem?_eq_some_iff.mp hc).1
        have hsn := filt_snoc (f := fun c => !decide (c ∈ letters.cps.toList)) (l := z.cps.toList) (i := i) (x := c) (by rw [Array.getElem?_toList]; exact hc)
        refine ⟨rfl, ?_⟩
        refine ⟨_, rfl, c, letters, rfl, rfl, _, rfl, ite2 (fun e => ?_) (fun e => ?_)⟩
        · refine ⟨_, rfl, _, hD, ?_, ?_, ?_⟩
          · rw [List.length_map]
            refine szBig (Nat.le_trans (List.length_filter_le _ _) ?_)
            rw [List.length_take]
            omega
          · intro b o e
            rw [upd_ne (ne_of_none e nD1)]
            exact s3 _ _ e
          · rw [upd_same, hsn, if_pos e, List.map_append]
            rfl
        · refine ⟨s3, ?_⟩
          rw [hsn, if_neg e, List.append_nil]
          exact hD
      rintro H3 ⟨s3, hD⟩
      rw [show z.cps.toList.take z.cps.size = z.cps.toList from List.take_of_length_le (by rw [Array.length_toList]; exact Nat.le_refl _)] at hD
      refine ⟨by show 0 ≤ sizeLine; decide, fun D2 nD2 => ?_⟩
      have s4 : Same H3 (upd H3 D2 (.lst [])) := same_new nD2
      refine ⟨D1, D2, _, rfl, rfl, SqL.of (s4 _ _ hD), SqL.of upd_same, _, rfl, ?_⟩
      have s04 := (s02.trans s3).trans s4
      generalize (upd H3 D2 (.lst [])) = H4 at s04
      rw [if_pos rfl, List.isEmpty_map]
      by_cases hL : ∀ c ∈ z.cps.toList, c ∈ letters.cps.toList
      case neg =>
        have : ((z.cps.toList.filter fun c => !decide (c ∈ letters.cps.toList)).isEmpty) = false := by
          rw [Bool.eq_false_iff]
          intro y
          rw [List.isEmpty_iff, List.filter_eq_nil_iff] at y
          exact hL fun c hc => by
            have := y c hc
            simpa using this
        rw [this]
        exact no0 (by rw [decide_eq_false hL]) H4 s04
      have : ((z.cps.toList.filter fun c => !decide (c ∈ letters.cps.toList)).isEmpty) = true := by
        rw [List.isEmpty_iff, List.filter_eq_nil_iff]
        intro c hc
        simpa using hL c hc
      rw [this]
      have hsgT : sgQ (.dat (.str z)) = true := by
        rw [hsg, decide_eq_true h1, decide_eq_true h4, decide_eq_true hL, decide_eq_true hP]
        rfl
      clear no0 this s4 hD s3 hq1 hr2 s1 s2 hm
      have no1 : rowsQ z.cps.size b = false → ∀ H', Same H H' → Q (nV 1) H' := fun e H' s => by
        have : dueQ (.dat (.str z)) b c = some 1 := by unfold dueQ; rw [if_pos hsgT]; exact if_neg (by rw [show (Tg.dat (.str z)).wide = z.cps.size from rfl, e]; exact Bool.false_ne_true)
        rw [this] at q
        exact q H' s
      have hT4 := hT.sm s04
      obtain ⟨_, _, kc, kt, kk⟩ := hT4.y.qL O
      refine ⟨_, rfl, _, _, _, _, _, rfl, kc, kt, kk, _, rfl, ?_⟩
      by_cases hB : b.isL = true
      case neg =>
        rw [Bool.eq_false_iff.mpr hB]
        exact no1 (rowsQ_no (Bool.eq_false_iff.mpr hB)) H4 s04
      rw [hB]
      obtain ⟨rs, rfl⟩ := Tg.isL_list hB
      obtain ⟨ar, xr, rfl, har, hxr⟩ := hT4.y.lst
      have hrl := hxr.length
      obtain ⟨hrfew, hrf⟩ := few_list hF.fb
      have hrq : rowsQ z.cps.size (.dat (.list rs)) = (!rs.isEmpty && rs.all (rowQ z.cps.size rs.length)) := rfl
      rw [hrq] at no1
      refine ⟨_, rfl, by show 0 ≤ sizeLine; decide, fun pn nn => ?_⟩
      have s5 : Same H4 (upd H4 pn (.lst [])) := same_new nn
      refine ⟨ar, pn, xr, rfl, rfl, SqL.of (s5 _ _ har), SqL.of upd_same, _, rfl, ?_⟩
      generalize (upd H4 pn (.lst [])) = H5 at s5
      have s05 := s04.trans s5
      refine ite2 (fun e => ?_) (fun e => ?_)
      · have : rs.isEmpty = true := by
          cases xr with
          | nil => cases hxr; rfl
          | cons => cases e
        exact no1 (by rw [this]; rfl) H5 s05
      have hne : rs.isEmpty = false := by
        cases rs with
        | nil => cases hxr; exact absurd rfl e
        | cons => rfl
      rw [hne] at no1 hrq
      have har5 := s5 _ _ har
      have hxr5 := hxr.sm s5
      refine ⟨_, rfl, ar, rfl, ⟨_, SqL.of har5⟩, ?_⟩
      refine for_list (K := K) (a := ar) (xs := xr) (fun j σ H6 => (∃ y4 : Option V, σ = [some (.ref p), some (.str z), some (.ref ar), some u, y4, none, none, none]) ∧ Same H5 H6 ∧ (rs.take j).all (rowQ z.cps.size rs.length) = true) ⟨⟨none, rfl⟩, fun _ _ z => z, rfl⟩ (fun j σ H6 _ ⟨_, s6, _⟩ => SqL.of (s6 _ _ har5)) ?_ ?_
      · rintro j v σ H6 hj ⟨⟨y4, rfl⟩, s6, hal⟩
        obtain ⟨d, hd, hdq⟩ := (hxr5.sm s6).get hj
        have hdm : d ∈ rs := List.mem_of_getElem? hd
        have hdt : Tq K C H6 v (.dat d) := .dat hdq
        have s06 := s05.trans s6
        have bad : rowQ z.cps.size rs.length d = false → ∀ H7, Same H6 H7 → Q (nV 1) H7 := fun e H7 s7 => by
          refine no1 ?_ H7 (s06.trans s7)
          rw [Bool.not_false, Bool.true_and, Bool.eq_false_iff]
          intro y
          rw [List.all_eq_true.mp y d hdm] at e
          cases e
        obtain ⟨_, _, kc, kt, kk⟩ := hdt.qL O
        refine ⟨_, rfl, _, _, _, _, _, rfl, kc, kt, kk, _, rfl, ?_⟩
        by_cases hL2 : (Tg.dat d).isL = true
        case neg =>
          have e1 := Bool.eq_false_iff.mpr hL2
          rw [e1]
          refine bad ?_ H6 (fun _ _ z => z)
          cases d <;> first | rfl | cases e1
        rw [hL2]
        obtain ⟨es, e1⟩ := Tg.isL_list hL2
        cases e1
        obtain ⟨x', zs, rfl, hx', hzs⟩ := hdt.lst
        have hzl := hzs.length
        have hel := (few_list (hrf _ hdm)).1
        have hrw : rowQ z.cps.size rs.length (.list es) = (decide (es.length = z.cps.size) && es.all (nmD rs.length)) := rfl
        refine ⟨_, rfl, x', _, rfl, .inl (SqL.of hx'), _, rfl, _, rfl, szBigLe (by rw [hlen]; exact hz), rfl, _, rfl, ?_⟩
        by_cases hlen2 : es.length = z.cps.size
        case neg =>
          rw [decide_eq_false (fun e => hlen2 (by rw [← hzl]; exact nV_inj e))]
          exact bad (by rw [hrw, decide_eq_false hlen2, Bool.false_and]) H6 (fun _ _ z => z)
        rw [decide_eq_true (show V.int ((zs.length : Nat) : Int) = V.int ((z.length : Nat) : Int) by rw [hzl, hlen2]; rfl)]
        refine ⟨_, rfl, x', rfl, ⟨_, SqL.of hx'⟩, fun D1 nD1 => ?_⟩
        refine lc_list (K := K) (a := x') (xs := zs) (fun i H7 => Same H6 H7 ∧ ∃ ks : List V, H7 D1 = some (.lst ks) ∧ ks.length ≤ i ∧ (ks.isEmpty = true ↔ (es.take i).all (nmD rs.length) = true)) ⟨same_new nD1, [], upd_same, Nat.le_refl _, by simp⟩ (fun i H7 _ ⟨s7, _⟩ => SqL.of (s7 _ _ hx')) ?_ ?_
        · rintro i v H7 hi ⟨s7, ks, hD, hkl, hk⟩
          obtain ⟨d', hd', hdq'⟩ := (hzs.sm s7).get hi
          have hil := (List.getElem?_eq_some_iff.mp hd').1
          refine ⟨rfl, ?_⟩
          refine ⟨_, rfl, ar, _, rfl, .inl (SqL.of (s7 _ _ (s6 _ _ har5))), _, rfl, rs.length, v, .dat d', by rw [hrl]; rfl, .dat hdq', _, rfl, ite2 (fun e => ?_) (fun e => ?_)⟩
          · refine ⟨_, rfl, _, hD, szBig (by omega), fun b o e => ?_, ks ++ [v], upd_same, by rw [List.length_append, List.length_singleton]; omega, ?_⟩
            · rw [upd_ne (ne_of_none e nD1)]
              exact s7 _ _ e
            · have e' : nmD rs.length d' = false := (by have e2 : (!nmD rs.length d') = true := e; simpa using e2)
              rw [take_snoc hd', List.all_append, List.all_cons, e', Bool.false_and, Bool.and_false]
              simp
          · have e' : nmD rs.length d' = true := by
              have : ¬ (!nmD rs.length d') = true := e
              simpa using this
            refine ⟨s7, ks, hD, by omega, ?_⟩
            rw [hk, take_snoc hd', List.all_append, List.all_cons, e']
            simp
        rintro H7 ⟨s7, ks, hD, hkl, hk⟩
        rw [hzl, List.take_length] at hk
        refine ⟨by show 0 ≤ sizeLine; decide, fun D2 nD2 => ?_⟩
        have s8 : Same H7 (upd H7 D2 (.lst [])) := same_new nD2
        refine ⟨D1, D2, _, rfl, rfl, SqL.of (s8 _ _ hD), SqL.of upd_same, _, rfl, ?_⟩
        generalize (upd H7 D2 (.lst [])) = H8 at s8
        rw [if_pos rfl]
        by_cases hal2 : es.all (nmD rs.length) = true
        · rw [hk.mpr hal2]
          refine ⟨⟨_, rfl⟩, (s6.trans s7).trans s8, ?_⟩
          rw [take_snoc hd, List.all_append, hal, List.all_cons, hrw, decide_eq_true hlen2, hal2]
          rfl
        · have : ks.isEmpty = false := by
            rw [Bool.eq_false_iff]
            exact fun y => hal2 (hk.mp y)
          rw [this]
          exact bad (by rw [hrw, Bool.eq_false_iff.mpr hal2, Bool.and_false]) H8 (s7.trans s8)
      rintro σ H6 ⟨⟨y4, rfl⟩, s6, hal⟩
      rw [hrl, List.take_length] at hal
      rw [hal] at hrq
      have s06 := s05.trans s6
      have hdue : ∀ e, endsQ rs.length c = e → dueQ (.dat (.str z)) (.dat (.list rs)) c = (if e = true then none else some 2) := fun e he => by
        unfold dueQ
        rw [if_pos hsgT, if_pos (show rowsQ (Tg.wide (.dat (.str z))) (.dat (.list rs)) = true from hrq), show (Tg.dat (.list rs)).many = rs.length from rfl, he]
      obtain ⟨_, _, kc, kt, kk⟩ := (hT.sm s06).u.qL O
      refine ⟨_, rfl, _, _, _, _, _, rfl, kc, kt, kk, _, rfl, ?_⟩
      by_cases hC : c.isL = true
      case neg =>
        rw [Bool.eq_false_iff.mpr hC]
        rw [hdue false (endsQ_no (Bool.eq_false_iff.mpr hC))] at q
        exact q H6 s06
      rw [hC]
      obtain ⟨es, rfl⟩ := Tg.isL_list hC
      obtain ⟨e, xe, rfl, he, hxe⟩ := (hT.sm s06).u.lst
      have hel := hxe.length
      have hefew := (few_list hF.fc).1
      refine ⟨_, rfl, e, rfl, ⟨_, SqL.of he⟩, fun D1 nD1 => ?_⟩
      refine lc_list (K := K) (a := e) (xs := xe) (fun i H7 => Same H6 H7 ∧ ∃ ks : List V, H7 D1 = some (.lst ks) ∧ ks.length ≤ i ∧ (ks.isEmpty = true ↔ (es.take i).all (nmD rs.length) = true)) ⟨same_new nD1, [], upd_same, Nat.le_refl _, by simp⟩ (fun i H7 _ ⟨s7, _⟩ => SqL.of (s7 _ _ he)) ?_ ?_
      · rintro i v H7 hi ⟨s7, ks, hD, hkl, hk⟩
        obtain ⟨d', hd', hdq'⟩ := (hxe.sm s7).get hi
        have hil := (List.getElem?_eq_some_iff.mp hd').1
        refine ⟨rfl, ?_⟩
        refine ⟨_, rfl, ar, _, rfl, .inl (SqL.of (s7 _ _ (s6 _ _ har5))), _, rfl, rs.length, v, .dat d', by rw [hrl]; rfl, .dat hdq', _, rfl, ite2 (fun e => ?_) (fun e => ?_)⟩
        · refine ⟨_, rfl, _, hD, szBig (by omega), fun b o e => ?_, ks ++ [v], upd_same, by rw [List.length_append, List.length_singleton]; omega, ?_⟩
          · rw [upd_ne (ne_of_none e nD1)]
            exact s7 _ _ e
          · have e' : nmD rs.length d' = false := (by have e2 : (!nmD rs.length d') = true := e; simpa using e2)
            rw [take_snoc hd', List.all_append, List.all_cons, e', Bool.false_and, Bool.and_false]
            simp
        · have e' : nmD rs.length d' = true := by
            have : ¬ (!nmD rs.length d') = true := e
            simpa using this
          refine ⟨s7, ks, hD, by omega, ?_⟩
          rw [hk, take_snoc hd', List.all_append, List.all_cons, e']
          simp
      rintro H7 ⟨s7, ks, hD, hkl, hk⟩
      rw [hel, List.take_length] at hk
      refine ⟨by show 0 ≤ sizeLine; decide, fun D2 nD2 => ?_⟩
      have s8 : Same H7 (upd H7 D2 (.lst [])) := same_new nD2
      refine ⟨D1, D2, _, rfl, rfl, SqL.of (s8 _ _ hD), SqL.of upd_same, _, rfl, ?_⟩
      generalize (upd H7 D2 (.lst [])) = H8 at s8
      have s08 := (s06.trans s7).trans s8
      rw [if_pos rfl]
      by_cases hal2 : es.all (nmD rs.length) = true
      · rw [hk.mpr hal2]
        rw [hdue true (show endsQ rs.length (.dat (.list es)) = true from hal2)] at q
        exact q H8 s08
      · have : ks.isEmpty = false := by
          rw [Bool.eq_false_iff]
          exact fun y => hal2 (hk.mp y)
        rw [this]
        rw [hdue false (show endsQ rs.length (.dat (.list es)) = false from Bool.eq_false_iff.mpr hal2)] at q
        exact q H8 s08
    case _ =>
      have h1 : ¬ 1 ≤ z.cps.size := fun y => c1 (decide_eq_true (by rw [hlen]; omega))
      exact ⟨_, rfl, no0 (by rw [decide_eq_false h1, Bool.false_and, Bool.false_and, Bool.false_and]) H fun _ _ z => z⟩
end
end K15

/-! what a set tells, or the place that is refused -/
namespace K15
open PySem PySem.Spec PyProof.Rows L2 Rg Mach
abbrev sTold : Stmt := topS 47
def nTold : List Str := ["_law_things", "_law_made", "e"]
theorem scTold : FnScope nTold ["_law_things"] (defScope sTold) := ⟨rfl, rfl, rfl, by decide +kernel, rfl, by decide +kernel, by decide +kernel⟩
def dMade (z : Str) (R : List (List Nat)) (E : List Nat) : PyData := .tuple [.str "made", .str z, dRs R, dNs E]
def dWrong (n : Nat) : PyData := .tuple [.str "wrong", .int (n : Int)]
theorem upd_mkQ {H : Hp} {C x dx : Addr} (nx : H x = none) (ndx : H dx = none) (nex : dx ≠ x) : Same H (upd (upd H dx (.own x)) x (.ins C dx [])) := fun b o e => by
  rw [upd_ne (ne_of_none e nx), upd_ne (ne_of_none e ndx)]
  exact e
/-- what is asked of a caught Wrong -/
structure WrX (K : PySem.W.Frag) (mg : Str → Option Value) (Wr TE NI NT : Addr) : Prop where
  gT : mg "TextError" = some (.ref TE)
  gW : mg "Wrong" = some (.ref Wr)
  gI : mg "NoItem" = some (.ref NI)
  gN : mg "NoText" = some (.ref NT)
  e : PySem.W.exmOne K (.ref Wr) (.ref TE) = some true
  c : ExcC K Wr
  x : XfC K Wr
  n : PySem.W.findIn K (.ref Wr) "place" = some none
  k : PySem.W.kitAny K (.ref Wr) [.ref NI, .ref NT] = some false
def spToldQ (K : PySem.W.Frag) (C : Addr) : Sp := fun vs H Q _ => ∃ (p : Addr) (x y u : V) (a b c : Tg), vs = [.ref p] ∧ Th3 K C H p x y u a b c ∧ Few3 a b c ∧
  (∀ z R E, GoodM a b c z R E → ∀ (H' : Hp) (q : Addr) (R' : List (List Nat)) (E' : List Nat), Same H H' → Dp K H' (.ref q) (dMade z R' E') → Least z.cps.size R' E' → Alk z.cps.size R' E' 0 R E 0 → R'.length ≤ R.length → Q (.ref q) H') ∧
  (∀ n, dueQ a b c = some n → ∀ (H' : Hp) (q : Addr), Same H H' → H' q = some (.tup [.str "wrong", nV n]) → Q (.ref q) H')
def tArgs (K : PySem.W.Frag) : TA := tCons (tOp (rIxT K) (tVar 0) (tC (.int 0))) (tCons (tOp (rIxT K) (tVar 0) (tC (.int 1))) (tCons (tOp (rIxT K) (tVar 0) (tC (.int 2))) tNil))
def tTryT (K : PySem.W.Frag) (C Wr : Addr) (W : WX) : TS := tSeq (tAsg (tMake C (spInitQ K C Wr) [] (AnySt 3 W) (tArgs K)) (gName 1)) (tRet (tTup (tCons (tC (.str "made")) (tCons (tProp C (spSg C) [] E0 (tVar 1)) (tCons (tMeth C "table" (spTab C) [] E0 (tVar 1) tNil) (tCons (tMeth C "ends" (spEnd C) [] E0 (tVar 1) tNil) tNil))))))
section
variable {P : Program} {w : World} {K : PySem.W.Frag} {mg : Str → Option Value} {base : Heap}
theorem ok_toldQ {f C Wr TE NI NT fI f1 f2 f3 pp : Addr} {fd fdI fd1 fd2 fd3 : FuncData} {k : Nat} (F : Fun K "_law_told" "_law_told" sTold f fd) (T : TxC K C) (M : Mk K C fI) (gC : mg "Texts" = some (.ref C)) (WX : WrX K mg Wr TE NI NT) (mis : mg "isinstance" = none)
    (GI : FnOk P w K mg base (L2.CX P w) (k + 3) fI fdI ["self", "signs", "rows", "ends"] (spInitQ K C Wr)) (bI : Binds K fdI ["self", "signs", "rows", "ends"] [])
    (G1 : FnOk P w K mg base CX0 (k + 3) f1 fd1 ["self"] (spSg C)) (b1 : Binds K fd1 ["self"] []) (p1 : PropOf K C "signs" pp f1)
    (G2 : FnOk P w K mg base CX0 (k + 4) f2 fd2 ["self"] (spTab C)) (b2 : Binds K fd2 ["self"] []) (m2 : Meth K C "table" f2)
    (G3 : FnOk P w K mg base CX0 (k + 4) f3 fd3 ["self"] (spEnd C)) (b3 : Binds K fd3 ["self"] []) (m3 : Meth K C "ends" f3) :
    FnOk P w K mg base CX0 (k + 5) f fd ["_law_things"] (spToldQ K C) := by
  refine F.ok scTold (fun vs H Q E h => ?_) (fun cdv A outer s H vs Q E hr h => ?_)
  · obtain ⟨p, x, y, u, a, b, c, rfl, _⟩ := h
    rfl
  · obtain ⟨p, x, y, u, a, b, c, rfl, hT, hF, qm, qe⟩ := h
    have hr1 : Room (k + 4) (A.deeper (envOfC "_law_told" (defScope sTold) s.heap.objs.size f cdv)) := hr
    refine ⟨_, pss_cons (ps_try_as (i := 2) (tb := tTryT K C Wr) (Wout := fun _ _ _ _ => False) rfl rfl scTold.nd rfl rfl ⟨rfl, by decide, Or.inl WX.gT⟩ takes0
      (fun W pn xe tk _ => pss_cons (ps_set (i := 1) scTold.nd rfl (.inl rfl) (pe_make M GI hr1 (by rfl) gC bI .nil (passLen tk) (pa_cons (pe_ix ix_tup (pv 0) pe_int (fun _ _ => rfl)) (pa_cons (pe_ix ix_tup (pv 0) pe_int (fun _ _ => rfl)) (pa_cons (pe_ix ix_tup (pv 0) pe_int (fun _ _ => rfl)) pa_nil)))))
        (pss_one (ps_ret (pe_tup (pa_cons pe_str (pa_cons (pe_prop (pv 1) T.cl p1 G1 hr1 b1 .nil pass0 rfl) (pa_cons (pe_meth0 (pv 1) T.cl m2 G2 hr b2 .nil pass0) (pa_cons (pe_meth0 (pv 1) T.cl m3 G3 hr b3 .nil pass0) pa_nil))))))))
      (fun a oe cls d pn hz hf => pss_one (ps_if (pw_and (pt_val (pe_callB (call_isF WX.c hz hf) (by rfl) mis bIsi (pa_cons (pv 2) (pa_cons (pe_glob (v := .ref Wr) (by rfl) WX.gW rfl) pa_nil))))
          (pw_and1 (pt_not (pt_val (pe_callB (call_isFT WX.c hz hf) (by rfl) mis bIsi (pa_cons (pv 2) (pa_cons (pe_tup (pa_cons (pe_glob (v := .ref NI) (by rfl) WX.gI rfl) (pa_cons (pe_glob (v := .ref NT) (by rfl) WX.gN rfl) pa_nil))) pa_nil))))))).pt
        (pss_one (ps_ret (pe_tup (pa_cons pe_str (pa_cons (pe_xf WX.x WX.n hz hf (pv 2)) pa_nil))))) pss_nil)))
      (pss_one (ps_ret (pe_tup (pa_cons pe_str (pa_cons pe_int pa_nil))))), ?_⟩
    refine ⟨_, rfl, p, _, _, _, rfl, rfl, SqT.of hT.at_, (rfl : atI [x, y, u] 0 = some x), _, rfl, p, _, _, _, rfl, rfl, SqT.of hT.at_, (rfl : atI [x, y, u] 1 = some y), _, rfl, p, _, _, _, rfl, rfl, SqT.of hT.at_, (rfl : atI [x, y, u] 2 = some u), fun o dx no ndx nex => ?_⟩
    have s1 := upd_mkQ (C := C) no ndx nex
    have hob : (upd (upd H dx (.own o)) o (.ins C dx [])) o = some (.ins C dx []) := upd_same
    generalize (upd (upd H dx (.own o)) o (.ins C dx [])) = H1 at s1 hob
    have sm : Same H (mask o H1) := fun b' ob e => mask_at (s1 _ _ e) (ne_of_none e no)
    refine ⟨o, dx, x, y, u, a, b, c, rfl, hob, hT.x.sm sm, hT.y.sm sm, hT.u.sm sm, hF.fa, hF.fb, hF.fc, fun z R E1 gm => ⟨Nat.le_trans (hF.low z R E1 gm) (by decide), fun H2 t e' ys R' E' k2 hTx hL hA hll => ?_⟩, fun n hn H2 d k2 nd hd => ?_⟩
    · refine ⟨rfl, ?_⟩
      have s2 : Same H H2 := fun b' ob e => k2 _ _ (s1 _ _ e) (ne_of_none e no)
      have hRl := hF.low z R E1 gm
      obtain ⟨dx2, ob2⟩ := hTx.ob
      refine ⟨_, rfl, o, dx2, _, rfl, ob2, o, z, t, e', ys, R', E', rfl, hTx, ?_⟩
      refine ⟨_, rfl, o, dx2, _, rfl, ob2, tfl_no _ _ _ (by decide +kernel) (by decide +kernel) (by decide +kernel), o, z, t, e', ys, R', E', rfl, hTx, by omega, fun H3 q1 xs s3 nq nxs ndx2 hR3 => ?_⟩
      refine ⟨_, rfl, o, dx2, _, rfl, s3 _ _ ob2, tfl_no _ _ _ (by decide +kernel) (by decide +kernel) (by decide +kernel), o, z, t, e', ys, R', E', rfl, hTx.same s3, fun H4 q2 s4 nq2 hE4 => ?_⟩
      refine ⟨by show 4 ≤ sizeLine; decide, fun q nq => ?_⟩
      have s5 : Same H4 (upd H4 q (.tup [.str "made", .str z, .ref q1, .ref q2])) := same_new nq
      exact qm z R E1 gm _ q R' E' (((s2.trans s3).trans s4).trans s5) (.tup (SqT.of upd_same) (.cons (.str _) (.cons (.str _) (.cons (dp_rows ((hR3.same s4).same s5)) (.cons (dp_nVs (s5 _ _ hE4)) .nil))))) hL hA hll
    · intro σ hσ
      have s2 : Same H H2 := fun b' ob e => k2 _ _ (s1 _ _ e) (ne_of_none e no)
      refine ⟨true, WX.e, fun _ ea hea => ?_, fun q => Bool.noConfusion q⟩
      have h3 : (σ.set 2 (some (V.ref ea)))[2]? = some (some (V.ref ea)) := by
        rw [List.getElem?_set_self (by rw [hσ]; decide)]
      refine ⟨_, h3, rfl, ⟨d, _, rfl, hd⟩, .ref Wr, .ref Wr, true, rfl, (fun u r => r), kit_self, true, rfl, ?_⟩
      refine ⟨_, h3, by show 2 ≤ sizeLine; decide, fun tp ntp => ?_⟩
      have s3 : Same H2 (upd H2 tp (.tup [.ref NI, .ref NT])) := same_new ntp
      have htp : (upd H2 tp (.tup [.ref NI, .ref NT])) tp = some (.tup [.ref NI, .ref NT]) := upd_same
      generalize (upd H2 tp (.tup [.ref NI, .ref NT])) = H3 at s3 htp
      refine ⟨rfl, ⟨d, _, rfl, s3 _ _ hd⟩, tp, _, _, false, rfl, htp, .cons (.own NI) (.cons (.own NT) .nil), WX.k, false, rfl, ?_⟩
      refine ⟨_, h3, rfl, rfl, d, _, nV n, rfl, s3 _ _ hd, rfl, by show 2 ≤ sizeLine; decide, fun q nq => ?_⟩
      have s4 : Same H3 (upd H3 q (.tup [.str "wrong", nV n])) := same_new nq
      exact qe n hn _ q ((s2.trans s3).trans s4) upd_same
end
end K15

namespace Rg
open PySem PySem.Spec PyProof.Rows L2 Mach
/-- the bag made of a script -/
def spBag (K : PySem.W.Frag) : Sp := fun vs H Q _ => ∃ (a : Addr) (ns : List Int), vs = [.ref a] ∧ SqL K H a (ns.map V.int) ∧ ns.length ≤ 63 ∧
  ∀ (H' : Hp) (g l : Addr), Same H H' → H g = none → H l = none → Bag H' g l → Q (.ref g) H'
def sgnsOk (z : Str) : Prop := 1 ≤ z.length ∧ z.length ≤ 4
def spSigns : Sp := fun vs H Q _ => ∃ (g c : Addr), vs = [.ref g] ∧ Bag H g c ∧ ∀ (H' : Hp) (z : Str), sgnsOk z → Bag H' g c → But g H H' → Q (.str z) H'
def spMixed : Sp := fun vs H Q _ => ∃ (g c l : Addr) (E : List Nat), vs = [.ref g, .ref l] ∧ Bag H g c ∧ H l = some (.lst (nVs E)) ∧ l ≠ g ∧ E.length ≤ 4000 ∧
  ∀ (H' : Hp) (p : Addr) (E' : List Nat), Bag H' g c → But g H H' → H p = none → H' p = some (.lst (nVs E')) → E'.Perm E → Q (.ref p) H'
end Rg
namespace K15
open PySem PySem.Spec PyProof.Rows L2 Rg Mach
abbrev sBag : Stmt := topS 39
abbrev sSigns : Stmt := topS 42
theorem scBag : FnScope ["_law_script", "_law_cell"] ["_law_script"] (defScope sBag) := ⟨rfl, rfl, rfl, by decide +kernel, rfl, by decide +kernel, by decide +kernel⟩
theorem scSigns : FnScope ["_law_bag_here"] ["_law_bag_here"] (defScope sSigns) := ⟨rfl, rfl, rfl, by decide +kernel, rfl, by decide +kernel, by decide +kernel⟩
section
variable {P : Program} {w : World} {K : PySem.W.Frag} {mg : Str → Option Value} {base : Heap}
theorem ok_bag {f : Addr} {fd : FuncData} {k : Nat} (F : Fun K "_law_bag" "_law_bag" sBag f fd) (ma : mg "abs" = none) :
    FnOk P w K mg base CX0 (k + 1) f fd ["_law_script"] (spBag K) := by
  refine F.ok scBag (fun vs H Q E h => ?_) (fun cdv A outer s H vs Q E hr h => ?_)
  · obtain ⟨a, ns, rfl, _⟩ := h
    rfl
  · obtain ⟨a, ns, rfl, hS, hl, q⟩ := h
    refine ⟨_, pss_one (ps_ret (pe_lst (pa_cons pe_int (pa_cons pe_int (pa_cons pe_int (pa_cons
      (pe_lc (own := [("_law_cell", 1)]) (g := gName 1) (tt := tYes) rfl scBag.nd (pi_list (pe_slice sl_list (pv 0) po_none (po_some pe_int))) (blkOk_by (own := [("_law_cell", 1)]) (N := ["_law_script", "_law_cell"]) (sc := defScope sBag) (by decide +kernel))
        (fun _ _ _ _ _ => pg_name (i := 1) scBag.nd rfl (Or.inl rfl)) (fun _ _ _ _ _ => pts_nil) (fun _ _ _ _ _ => pe_callB call_abs (by rfl) ma bAbs (pa_cons (pv 1) pa_nil))) pa_nil)))))), ?_⟩
    refine ⟨_, rfl, 63, rfl, a, _, rfl, hS, fun p1 n1 => ?_⟩
    obtain ⟨zs, ez, hz, hzl⟩ := cut_ints ns none (some 63)
    rw [ez]
    have h1 : (upd H p1 (.lst (zs.map V.int))) p1 = some (.lst (zs.map V.int)) := upd_same
    have s1 : Same H (upd H p1 (.lst (zs.map V.int))) := same_new n1
    generalize (upd H p1 (.lst (zs.map V.int))) = H1 at h1 s1
    refine ⟨p1, rfl, ⟨_, SqL.of h1⟩, fun D0 nD => ?_⟩
    refine lc_list (K := K) (a := p1) (xs := zs.map V.int) (fun i H2 => Same H1 H2 ∧ ∃ cs : List Int, cs.length = i ∧ (∀ c ∈ cs, 0 ≤ c) ∧ H2 D0 = some (.lst (cs.map V.int))) ⟨same_new nD, [], rfl, fun c hc => (nomatch hc), by rw [upd_same]; rfl⟩
      (fun i H2 _ ⟨s2, _⟩ => SqL.of (s2 _ _ h1)) ?_ ?_
    · rintro i v H2 hi ⟨s2, cs, cl, cp, hD⟩
      rw [List.getElem?_map] at hi
      obtain ⟨c, hc, rfl⟩ := Option.map_eq_some_iff.mp hi
      have hi' : i < zs.length := (List.getElem?_eq_some_iff.mp hc).1
      refine ⟨rfl, ?_⟩
      refine ⟨_, rfl, _, rfl, _, hD, by rw [List.length_map]; exact szBig (by omega), ?_, cs ++ [if c < 0 then -c else c], by rw [List.length_append, List.length_singleton, cl], ?_, ?_⟩
      · intro b o e
        rw [upd_ne (ne_of_none e nD)]
        exact s2 _ _ e
      · intro x hx
        rcases List.mem_append.mp hx with z | z
        · exact cp x z
        · rw [List.mem_singleton] at z
          rw [z]
          split <;> omega
      · rw [upd_same, List.map_append]
        rfl
    · rintro H2 ⟨s2, cs, cl, cp, hD⟩
      rw [List.length_map] at cl
      refine ⟨by show 4 ≤ sizeLine; decide, fun g ng => ?_⟩
      have s3 : Same H2 (upd H2 g (BagL 0 1234567891 0 D0)) := same_new ng
      refine q _ g D0 (s1.trans (s2.trans s3)) ((s1.trans s2).free ng) (s1.free nD) ⟨0, 1234567891, 0, cs, upd_same, s3 _ _ hD, by decide, by decide, by decide, cp, by omega⟩
theorem ok_signs {f fT : Addr} {fd fdT : FuncData} {k : Nat} (F : Fun K "_law_signs" "_law_signs" sSigns f fd)
    (FT : Fun K "_law_take" "_law_take" sTake fT fdT) (bT : Binds K fdT ["_law_bag_here", "_law_many"] []) (gT : mg "_law_take" = some (.ref fT)) (mi : mg "int" = none) :
    FnOk P w K mg base CX0 (k + 2) f fd ["_law_bag_here"] spSigns := by
  have GT : FnOk P w K mg base CX0 (k + 1) fT fdT ["_law_bag_here", "_law_many"] spTake := ok_take FT mi
  refine F.ok scSigns (fun vs H Q E h => ?_) (fun cdv A outer s H vs Q E hr h => ?_)
  · obtain ⟨g, c, rfl, _⟩ := h
    rfl
  · obtain ⟨g, c, rfl, hB, q⟩ := h
    refine ⟨_, pss_one (ps_ret (pe_ix ix_list (pe_lst (pa_cons pe_str (pa_cons pe_str (pa_cons pe_str (pa_cons pe_str (pa_cons pe_str (pa_cons pe_str (pa_cons pe_str pa_nil)))))))) (pe_call GT hr (by rfl) gT FT.kp bT .nil pass0 (pa_cons (pv 0) (pa_cons pe_int pa_nil))) (fun _ _ => rfl))), ?_⟩
    refine ⟨by show 7 ≤ sizeLine; decide, fun p np => ?_⟩
    refine ⟨_, rfl, g, c, 7, rfl, hB.new np, by decide, by decide, fun H' r hr' hB' B' => ?_⟩
    have hp := B' p _ (hB.ne np) upd_same
    have hall : ∀ r : Nat, r < 7 → ∃ z : Str, ([.str "ab", .str "ab", .str "abc", .str "xz", .str "a", .str "mno", .str "akyz"] : List V)[r]? = some (.str z) ∧ sgnsOk z := by
      intro r hr7
      match r, hr7 with
      | 0, _ => exact ⟨_, rfl, by unfold sgnsOk; decide⟩
      | 1, _ => exact ⟨_, rfl, by unfold sgnsOk; decide⟩
      | 2, _ => exact ⟨_, rfl, by unfold sgnsOk; decide⟩
      | 3, _ => exact ⟨_, rfl, by unfold sgnsOk; decide⟩
      | 4, _ => exact ⟨_, rfl, by unfold sgnsOk; decide⟩
      | 5, _ => exact ⟨_, rfl, by unfold sgnsOk; decide⟩
      | 6, _ => exact ⟨_, rfl, by unfold sgnsOk; decide⟩
    obtain ⟨z, ez, hz⟩ := hall r (by omega)
    exact ⟨p, _, _, _, rfl, rfl, SqL.of hp, atI_nat ez, q H' z hz hB' (((But.refl g H).new np).trans B')⟩
end
end K15

namespace K15
open PySem PySem.Spec PyProof.Rows L2 Rg Mach
abbrev sMach : Stmt := topS 43
def nMach : List Str := ["_law_bag_here", "_law_signs_here", "_law_states", "_law_wide", "_law_way", "_law_first", "_law_many", "_law_rows", "_law_k", "_law_j"]
theorem scMach : FnScope nMach ["_law_bag_here", "_law_signs_here", "_law_states"] (defScope sMach) := ⟨rfl, rfl, rfl, by decide +kernel, rfl, by decide +kernel, by decide +kernel⟩
def scRows : Scope := match (defBody sMach).getD 5 (.Pass ⟨0, 0, 0, 0⟩) with
  | .Assign _ (.ListComp _ _ sc _) _ => sc
  | _ => defScope sMach
section
variable {P : Program} {w : World} {K : PySem.W.Frag} {mg : Str → Option Value} {base : Heap}
theorem ok_mach {f fT : Addr} {fd fdT : FuncData} {k : Nat} (F : Fun K "_law_machine" "_law_machine" sMach f fd)
    (FT : Fun K "_law_take" "_law_take" sTake fT fdT) (bT : Binds K fdT ["_law_bag_here", "_law_many"] []) (gT : mg "_law_take" = some (.ref fT)) (mi : mg "int" = none) (ml : mg "len" = none) (mr : mg "range" = none) :
    FnOk P w K mg base CX0 (k + 2) f fd ["_law_bag_here", "_law_signs_here", "_law_states"] spMach := by
  have GT : FnOk P w K mg base CX0 (k + 1) fT fdT ["_law_bag_here", "_law_many"] spTake := ok_take FT mi
  refine F.ok scMach (fun vs H Q E h => ?_) (fun cdv A outer s H vs Q E hr h => ?_)
  · obtain ⟨g, c, z, m, rfl, _⟩ := h
    rfl
  · obtain ⟨g, c, z, m, rfl, hB, hz1, hz4, hm1, hm2, q⟩ := h
    refine ⟨_, pss_cons (ps_asg (pe_tup (pa_cons (pe_callB call_len_str (by rfl) ml bLen (pa_cons (pv 1) pa_nil)) (pa_cons (pe_call GT hr (by rfl) gT FT.kp bT .nil pass0 (pa_cons (pv 0) (pa_cons pe_int pa_nil))) pa_nil)))
        (pg_tup rfl (pgs_cons (pg_name (i := 3) scMach.nd rfl (.inr rfl)) (pgs_cons (pg_name (i := 4) scMach.nd rfl (.inl rfl)) pgs_nil))))
      (pss_cons (ps_if (pt_cmpR op_eq (pv 4) pe_int (nomark _)) (pss_one (ps_ret (pe_tup (pa_cons (pe_lst (pa_cons (pe_op op_rep (pe_lst (pa_cons pe_int pa_nil)) (pv 3)) pa_nil))
          (pa_cons (pe_op op_rep (pe_lst (pa_cons pe_int pa_nil)) (pe_call GT hr (by rfl) gT FT.kp bT .nil pass0 (pa_cons (pv 0) (pa_cons pe_int pa_nil)))) pa_nil))))) pss_nil)
      (C8.pss_cut (ps_if (pw_and (pt_cmpR op_lt (pv 4) pe_int (nomark _)) (pw_and1 (pt_cmpR op_gt (pv 2) pe_int (nomark _)))).pt
        (pss_cons (ps_setLc (i := 5) (own := [("_law_k", 8)]) (g := gName 8) (tt := tYes) rfl scMach.nd rfl rfl (sw_true rfl rfl rfl (by decide +kernel)) (pi_range1 (by rfl) mr (pa_cons (pv 3) pa_nil)) (blkOk_by (own := [("_law_k", 8)]) (N := nMach) (sc := defScope sMach) (by decide +kernel))
            (fun _ _ _ _ _ => pg_name (i := 8) scMach.nd rfl (Or.inl rfl)) (fun _ _ _ _ _ => pts_nil) (fun _ _ _ _ _ => pe_callTy call_int1 (by rfl) mi bInt (pa_cons (pe_cmpR op_eq (pv 8) pe_int (nomark _)) pa_nil)))
        (pss_one (ps_ret (pe_tup (pa_cons (pe_lst (pa_cons (pv 5) (pa_cons (pe_ix ix_list (pe_lst (pa_cons (pv 5) (pa_cons
            (pe_lc (own := [("_law_k", 8)]) (g := gName 8) (tt := tYes) rfl scMach.nd (pi_range1 (by rfl) mr (pa_cons (pv 3) pa_nil)) (blkOk_by (own := [("_law_k", 8)]) (N := nMach) (sc := defScope sMach) (by decide +kernel))
              (fun _ _ _ _ _ => pg_name (i := 8) scMach.nd rfl (Or.inl rfl)) (fun _ _ _ _ _ => pts_nil) (fun _ _ _ _ _ => pe_callTy call_int1 (by rfl) mi bInt (pa_cons (pe_cmpR op_gt (pv 8) pe_int (nomark _)) pa_nil))) pa_nil)))
            (pe_op op_sub (pv 4) pe_int) (fun _ _ => rfl)) pa_nil))) (pa_cons (pe_lst (pa_cons (pe_call GT hr (by rfl) gT FT.kp bT .nil pass0 (pa_cons (pv 0) (pa_cons pe_int pa_nil))) pa_nil)) pa_nil)))))) pss_nil)
      (C8.pss_cut (ps_if (pw_and (pt_cmpR op_eq (pv 4) pe_int (nomark _)) (pw_and1 (pt_cmpR op_gt (pv 2) pe_int (nomark _)))).pt
        (pss_one (ps_ret (pe_tup (pa_cons (pe_lst (pa_cons (pe_op op_cat (pe_lst (pa_cons pe_int pa_nil)) (pe_op op_rep (pe_lst (pa_cons pe_int pa_nil)) (pe_op op_sub (pv 3) pe_int)))
            (pa_cons (pe_op op_rep (pe_lst (pa_cons pe_int pa_nil)) (pv 3)) (pa_cons (pe_op op_rep (pe_lst (pa_cons pe_int pa_nil)) (pv 3)) pa_nil))))
            (pa_cons (pe_lst (pa_cons (pe_call GT hr (by rfl) gT FT.kp bT .nil pass0 (pa_cons (pv 0) (pa_cons pe_int pa_nil))) pa_nil)) pa_nil))))) pss_nil)
      (pss_cons (ps_set (i := 6) scMach.nd rfl (.inr rfl) (pe_op op_add pe_int (pe_call GT hr (by rfl) gT FT.kp bT .nil pass0 (pa_cons (pv 0) (pa_cons (pv 2) pa_nil)))))
      (pss_cons (ps_setLc (i := 7) (own := [("_law_k", 8)]) (g := gName 8) (tt := tYes) (te := tLc (iRng1 (tCons (tVar 3) tNil)) (gName 9) tYes (tCall spTake [] E0 (tCons (tVar 0) (tCons (tVar 6) tNil))) [9]) rfl scMach.nd rfl rfl (sw_true rfl rfl rfl (by decide +kernel)) (pi_range1 (by rfl) mr (pa_cons (pv 6) pa_nil)) (blkOk_by (own := [("_law_k", 8)]) (N := nMach) (sc := defScope sMach) (by decide +kernel))
            (fun _ _ _ _ _ => pg_name (i := 8) scMach.nd rfl (Or.inl rfl)) (fun _ _ _ _ _ => pts_nil)
            (fun _ _ _ _ _ => pe_lc (own := [("_law_j", 9)]) (g := gName 9) (tt := tYes) rfl scMach.nd (pi_range1 (by rfl) mr (pa_cons (pv 3) pa_nil)) (blkOk_by (own := [("_law_j", 9)]) (N := nMach) (sc := relS scRows (defScope sMach)) (by decide +kernel))
              (fun _ _ _ _ _ => pg_name (i := 9) scMach.nd rfl (Or.inl rfl)) (fun _ _ _ _ _ => pts_nil) (fun _ _ _ _ _ => pe_call GT hr (by rfl) gT FT.kp bT .nil pass0 (pa_cons (pv 0) (pa_cons (pv 6) pa_nil)))))
      (pss_one (ps_ret (pe_tup (pa_cons (pv 7) (pa_cons
            (pe_lc (own := [("_law_k", 8)]) (g := gName 8) (tt := _) rfl scMach.nd (pi_range1 (by rfl) mr (pa_cons (pv 6) pa_nil)) (blkOk_by (own := [("_law_k", 8)]) (N := nMach) (sc := defScope sMach) (by decide +kernel))
              (fun _ _ _ _ _ => pg_name (i := 8) scMach.nd rfl (Or.inl rfl)) (fun _ _ _ _ _ => pts_one (pt_cmpR op_eq (pe_call GT hr (by rfl) gT FT.kp bT .nil pass0 (pa_cons (pv 0) (pa_cons pe_int pa_nil))) pe_int (nomark _))) (fun _ _ _ _ _ => pv 8)) pa_nil)))))))))), ?_⟩
    have fin : ∀ (H9 : Hp) (t pr pe : Addr) (xs : List Addr) (R : List (List Nat)) (E : List Nat), Dr g c H H9 → (∀ x ∈ t :: pr :: pe :: xs, H x = none) → H9 t = some (.tup [.ref pr, .ref pe]) → RowsAt H9 pr xs R → H9 pe = some (.lst (nVs E)) →
        Mok z.length R → 0 < R.length → R.length ≤ m + 3 → (∀ x ∈ E, x < R.length) → E.length ≤ 100 → Q (.ref t) H9 := fun H9 t pr pe xs R E d => q H9 t pr pe xs R E d.bag d.but
    have zs : z.length ≤ sizeLine := szBigLe (by omega)
    -- wide, way
    refine ⟨_, rfl, z, rfl, zs, _, rfl, g, c, 8, rfl, hB, by decide, by decide, fun H1 way hw hB1 B1 => ?_⟩
    refine ⟨by show 2 ≤ sizeLine; decide, fun t0 n0 => ?_⟩
    refine ⟨t0, _, rfl, SqT.of upd_same, rfl, _, _, rfl, _, _, rfl, rfl, ?_⟩
    have d2 : Dr g c H (upd H1 t0 (.tup [.int (z.length : Int), nV way])) := (Dr.mk hB1 B1).same (same_new n0)
    generalize (upd H1 t0 (.tup [.int (z.length : Int), nV way])) = H2 at d2
    refine ⟨_, rfl, rfl, _, rfl, ite2 (fun e0 => ?_) (fun e0 => ?_)⟩
    · -- way 0
      refine ⟨by show 1 ≤ sizeLine; decide, fun p1 n1 => ?_⟩
      refine ⟨_, rfl, p1, (z.length : Int), _, rfl, rfl, upd_same, by omega, by omega, by rw [Int.toNat_natCast]; exact szBigLe (by show 1 * z.length ≤ 100000; omega), fun p2 n2 => ?_⟩
      rw [Int.toNat_natCast, show ([V.int 0] : List V) = [nV 0] from rfl, rep_nVs]
      have s2 : Same H2 (upd (upd H2 p1 (.lst [nV 0])) p2 (.lst (nVs (List.replicate z.length 0)))) := (same_new n1).trans (same_new n2)
      have h2 : (upd (upd H2 p1 (.lst [nV 0])) p2 (.lst (nVs (List.replicate z.length 0)))) p2 = some (.lst (nVs (List.replicate z.length 0))) := upd_same
      have n2' : H2 p2 = none := (same_new n1).free n2
      generalize (upd (upd H2 p1 (.lst [nV 0])) p2 (.lst (nVs (List.replicate z.length 0)))) = H3 at s2 h2
      refine ⟨by show 1 ≤ sizeLine; decide, fun p3 n3 => ?_⟩
      have s3 : Same H3 (upd H3 p3 (.lst [.ref p2])) := same_new n3
      have h3 : (upd H3 p3 (.lst [.ref p2])) p3 = some (.lst [.ref p2]) := upd_same
      generalize (upd H3 p3 (.lst [.ref p2])) = H4 at s3 h3
      refine ⟨by show 1 ≤ sizeLine; decide, fun p4 n4 => ?_⟩
      have s4 : Same H4 (upd H4 p4 (.lst [.int 0])) := same_new n4
      have h4 : (upd H4 p4 (.lst [.int 0])) p4 = some (.lst [.int 0]) := upd_same
      generalize (upd H4 p4 (.lst [.int 0])) = H5 at s4 h4
      have d5 := ((d2.same s2).same s3).same s4
      refine ⟨_, rfl, g, c, 2, rfl, d5.bag, by decide, by decide, fun H6 r hr6 hB6 B6 => ?_⟩
      have d56 : Dr g c H5 H6 := ⟨hB6, B6⟩
      have d6 := d5.trans d56
      have g4 : p4 ≠ g := ((d2.same s2).same s3).ne n4
      have g3 : p3 ≠ g := (d2.same s2).ne n3
      have g2 : p2 ≠ g := d2.ne n2'
      refine ⟨p4, (r : Int), _, rfl, rfl, d56.keep h4 g4, by omega, by omega, by rw [Int.toNat_natCast]; exact szBigLe (by show 1 * r ≤ 100000; omega), fun p5 n5 => ?_⟩
      rw [Int.toNat_natCast, show ([V.int 0] : List V) = [nV 0] from rfl, rep_nVs]
      have s6 : Same H6 (upd H6 p5 (.lst (nVs (List.replicate r 0)))) := same_new n5
      have h6 : (upd H6 p5 (.lst (nVs (List.replicate r 0)))) p5 = some (.lst (nVs (List.replicate r 0))) := upd_same
      generalize (upd H6 p5 (.lst (nVs (List.replicate r 0)))) = H7 at s6 h6
      refine ⟨by show 2 ≤ sizeLine; decide, fun t nt => ?_⟩
      have s7 : Same H7 (upd H7 t (.tup [.ref p3, .ref p5])) := same_new nt
      have d7 := d6.same s6
      refine fin _ t p3 p5 [p2] [List.replicate z.length 0] (List.replicate r 0) (d7.same s7) ?_ upd_same (rows_mk (s7 _ _ (s6 _ _ (d56.keep (s4 _ _ h3) g3))) (.cons (s7 _ _ (s6 _ _ (d56.keep (s4 _ _ (s3 _ _ h2)) g2))) .nil)) (s7 _ _ h6) ?_ (by show 0 < 1; decide) (by show 1 ≤ m + 3; omega) ?_ ?_
      · intro x hx
        simp only [List.mem_cons, List.not_mem_nil, or_false] at hx
        rcases hx with rfl | rfl | rfl | rfl
        · exact d7.free nt
        · exact (d2.same s2).free n3
        · exact d6.free n5
        · exact d2.free n2'
      · refine mok_of fun row hrow => ?_
        rw [List.mem_singleton] at hrow
        rw [hrow]
        exact ⟨List.length_replicate, fun x hx => by rw [List.eq_of_mem_replicate hx]; show 0 < 1; decide⟩
      · intro x hx
        rw [List.eq_of_mem_replicate hx]
        show 0 < 1
        decide
      · rw [List.length_replicate]
        omega
    · refine ⟨fun σ' H' => σ' = [some (.ref g), some (.str z), some (nV m), some (.int (z.length : Int)), some (nV way), none, none, none, none, none] ∧ H' = H2, ?_, ?_⟩
      · refine ⟨_, rfl, _, _, rfl, rfl, _, rfl, ite2 (fun e1 => ?_) (fun e1 => iteF ⟨rfl, rfl⟩)⟩
        refine ⟨_, rfl, _, _, rfl, rfl, _, rfl, ite2 (fun e2 => ?_) (fun e2 => ⟨rfl, rfl⟩)⟩
        -- way 1 or 2
        have hw3 : way < 3 := by
          have := of_decide_eq_true e1
          omega
        have hw0 : way ≠ 0 := by
          intro zz
          rw [zz] at e0
          exact e0 (decide_eq_true rfl)
        refine ⟨_, rfl, _, rfl, by omega, by omega, fun p1 n1 => ?_⟩
        refine lc_range (n := (z.length : Int).toNat) (fun i H3 => Same H2 H3 ∧ ∃ row : List Nat, row.length = i ∧ (∀ x ∈ row, x < 2) ∧ H3 p1 = some (.lst (nVs row))) ⟨same_new n1, [], rfl, fun x hx => (nomatch hx), by rw [upd_same]; rfl⟩ ?_ ?_
        · rintro i H3 hi ⟨s3, row, rl, rx, h1⟩
          refine ⟨rfl, ?_⟩
          refine ⟨_, rfl, rfl, .inr ⟨_, rfl, _, h1, by rw [nVs_len]; exact szBig (by omega), ?_, row ++ [if V.int (0 + (i : Int)) = V.int 0 then 1 else 0], by rw [List.length_append, List.length_singleton, rl], ?_, ?_⟩⟩
          · intro b o e
            rw [upd_ne (ne_of_none e n1)]
            exact s3 _ _ e
          · intro x hx
            rcases List.mem_append.mp hx with y | y
            · exact rx x y
            · rw [List.mem_singleton] at y
              rw [y]
              split <;> omega
          · rw [upd_same, nVs_snoc]
            refine congrArg (fun l => some (HO.lst (nVs row ++ [l]))) ?_
            by_cases hh : V.int (0 + (i : Int)) = V.int 0
            · rw [if_pos hh, decide_eq_true hh]
              rfl
            · rw [if_neg hh, decide_eq_false hh]
              rfl
        · rintro H3 ⟨s3, row, rl, rx, h1⟩
          rw [Int.toNat_natCast] at rl
          have d3 := d2.same s3
          have g1 : p1 ≠ g := d2.ne n1
          -- return ([first, [first, [..]][way - 1]], [take])
          refine ⟨_, rfl, _, rfl, _, rfl, _, rfl, by omega, by omega, fun p2 n2 => ?_⟩
          refine lc_range (n := (z.length : Int).toNat) (fun i H4 => Same H3 H4 ∧ ∃ row2 : List Nat, row2.length = i ∧ (∀ x ∈ row2, x < 2) ∧ H4 p2 = some (.lst (nVs row2))) ⟨same_new n2, [], rfl, fun x hx => (nomatch hx), by rw [upd_same]; rfl⟩ ?_ ?_
          · rintro i H4 hi ⟨s4, row2, rl2, rx2, h2⟩
            refine ⟨rfl, ?_⟩
            refine ⟨_, rfl, _, _, rfl, rfl, .inr ⟨_, rfl, _, h2, by rw [nVs_len]; exact szBig (by omega), ?_, row2 ++ [if (0 : Int) < 0 + (i : Int) then 1 else 0], by rw [List.length_append, List.length_singleton, rl2], ?_, ?_⟩⟩
            · intro b o e
              rw [upd_ne (ne_of_none e n2)]
              exact s4 _ _ e
            · intro x hx
              rcases List.mem_append.mp hx with y | y
              · exact rx2 x y
              · rw [List.mem_singleton] at y
                rw [y]
                split <;> omega
            · rw [upd_same, nVs_snoc]
              refine congrArg (fun l => some (HO.lst (nVs row2 ++ [l]))) ?_
              by_cases hh : (0 : Int) < 0 + (i : Int)
              · rw [if_pos hh, decide_eq_true hh]
                rfl
              · rw [if_neg hh, decide_eq_false hh]
                rfl
          · rintro H4 ⟨s4, row2, rl2, rx2, h2⟩
            rw [Int.toNat_natCast] at rl2
            refine ⟨by show 2 ≤ sizeLine; decide, fun p3 n3 => ?_⟩
            have s5 : Same H4 (upd H4 p3 (.lst [.ref p1, .ref p2])) := same_new n3
            have h3 : (upd H4 p3 (.lst [.ref p1, .ref p2])) p3 = some (.lst [.ref p1, .ref p2]) := upd_same
            generalize (upd H4 p3 (.lst [.ref p1, .ref p2])) = H5 at s5 h3
            have d5 := (d3.same s4).same s5
            have g2 : p2 ≠ g := d3.ne n2
            -- which of the two
            obtain ⟨px, rowx, ex, epx, rlx, rxx, hpx, gpx, npx⟩ : ∃ (px : Addr) (rowx : List Nat), ([.ref p1, .ref p2] : List V)[way - 1]? = some (.ref px) ∧ ((way : Int) - 1 = ((way - 1 : Nat) : Int)) ∧ rowx.length = z.length ∧ (∀ x ∈ rowx, x < 2) ∧ H5 px = some (.lst (nVs rowx)) ∧ px ≠ g ∧ H px = none := by
              by_cases h1w : way = 1
              · exact ⟨p1, row, by rw [h1w]; rfl, by omega, rl, rx, s5 _ _ (s4 _ _ h1), g1, d2.free n1⟩
              · have h2w : way = 2 := by omega
                exact ⟨p2, row2, by rw [h2w]; rfl, by omega, rl2, rx2, s5 _ _ h2, g2, d3.free n2⟩
            refine ⟨_, rfl, _, _, rfl, rfl, p3, _, ((way - 1 : Nat) : Int), _, rfl, by rw [← epx], SqL.of h3, atI_nat ex, ?_⟩
            refine ⟨by show 2 ≤ sizeLine; decide, fun p4 n4 => ?_⟩
            have s6 : Same H5 (upd H5 p4 (.lst [.ref p1, .ref px])) := same_new n4
            have h4 : (upd H5 p4 (.lst [.ref p1, .ref px])) p4 = some (.lst [.ref p1, .ref px]) := upd_same
            generalize (upd H5 p4 (.lst [.ref p1, .ref px])) = H6 at s6 h4
            have d6 := d5.same s6
            have g4 : p4 ≠ g := d5.ne n4
            refine ⟨_, rfl, g, c, 2, rfl, d6.bag, by decide, by decide, fun H7 r hr7 hB7 B7 => ?_⟩
            have d67 : Dr g c H6 H7 := ⟨hB7, B7⟩
            refine ⟨by show 1 ≤ sizeLine; decide, fun p5 n5 => ?_⟩
            have s8 : Same H7 (upd H7 p5 (.lst [nV r])) := same_new n5
            have h5 : (upd H7 p5 (.lst [nV r])) p5 = some (.lst (nVs [r])) := upd_same
            generalize (upd H7 p5 (.lst [nV r])) = H8 at s8 h5
            refine ⟨by show 2 ≤ sizeLine; decide, fun t nt => ?_⟩
            have s9 : Same H8 (upd H8 t (.tup [.ref p4, .ref p5])) := same_new nt
            have d8 := (d6.trans d67).same s8
            have kp : ∀ {p : Addr} {o : HO}, H6 p = some o → p ≠ g → (upd H8 t (.tup [.ref p4, .ref p5])) p = some o := fun h n => s9 _ _ (s8 _ _ (d67.keep h n))
            refine fin _ t p4 p5 [p1, px] [row, rowx] [r] (d8.same s9) ?_ upd_same (rows_mk (kp h4 g4) (.cons (kp (s6 _ _ (s5 _ _ (s4 _ _ h1))) g1) (.cons (kp (s6 _ _ hpx) gpx) .nil))) (s9 _ _ h5) ?_ (by show 0 < 2; decide) (by show 2 ≤ m + 3; omega) ?_ (by show 1 ≤ 100; decide)
            · intro x hx
              simp only [List.mem_cons, List.not_mem_nil, or_false] at hx
              rcases hx with rfl | rfl | rfl | rfl | rfl
              · exact d8.free nt
              · exact d5.free n4
              · exact (d6.trans d67).free n5
              · exact d2.free n1
              · exact npx
            · refine mok_of fun rr hrr => ?_
              simp only [List.mem_cons, List.not_mem_nil, or_false] at hrr
              rcases hrr with rfl | rfl
              · exact ⟨rl, rx⟩
              · exact ⟨rlx, rxx⟩
            · intro x hx
              rw [List.mem_singleton] at hx
              rw [hx]
              show r < 2
              omega
      · rintro σ' H' ⟨rfl, rfl⟩
        refine ⟨fun σ' H'' => σ' = [some (.ref g), some (.str z), some (nV m), some (.int (z.length : Int)), some (nV way), none, none, none, none, none] ∧ H'' = H', ?_, ?_⟩
        · refine ⟨_, rfl, rfl, _, rfl, ite2 (fun e1 => ?_) (fun e1 => iteF ⟨rfl, rfl⟩)⟩
          refine ⟨_, rfl, _, _, rfl, rfl, _, rfl, ite2 (fun e2 => ?_) (fun e2 => ⟨rfl, rfl⟩)⟩
          -- way 3
          refine ⟨by show 1 ≤ sizeLine; decide, fun p1 n1 => ?_⟩
          have s1 : Same H' (upd H' p1 (.lst [.int 1])) := same_new n1
          have h1 : (upd H' p1 (.lst [.int 1])) p1 = some (.lst [.int 1]) := upd_same
          generalize (upd H' p1 (.lst [.int 1])) = H3 at s1 h1
          refine ⟨by show 1 ≤ sizeLine; decide, fun p2 n2 => ?_⟩
          have s2 : Same H3 (upd H3 p2 (.lst [.int 2])) := same_new n2
          have h2 : (upd H3 p2 (.lst [.int 2])) p2 = some (.lst [nV 2]) := upd_same
          generalize (upd H3 p2 (.lst [.int 2])) = H4 at s2 h2
          refine ⟨_, rfl, _, _, rfl, rfl, p2, (z.length : Int) - 1, _, rfl, rfl, h2, by omega, by omega, ?_, fun p3 n3 => ?_⟩
          · exact szBigLe (by show 1 * ((z.length : Int) - 1).toNat ≤ 100000; omega)
          rw [rep_nVs]
          have s3 : Same H4 (upd H4 p3 (.lst (nVs (List.replicate ((z.length : Int) - 1).toNat 2)))) := same_new n3
          have h3 : (upd H4 p3 (.lst (nVs (List.replicate ((z.length : Int) - 1).toNat 2)))) p3 = some (.lst (nVs (List.replicate ((z.length : Int) - 1).toNat 2))) := upd_same
          generalize (upd H4 p3 (.lst (nVs (List.replicate ((z.length : Int) - 1).toNat 2)))) = H5 at s3 h3
          refine ⟨p1, p3, _, _, rfl, rfl, s3 _ _ (s2 _ _ h1), h3, ?_, fun p4 n4 => ?_⟩
          · rw [nVs_len, List.length_replicate]
            exact szBigLe (by show 1 + ((z.length : Int) - 1).toNat ≤ 100000; omega)
          have s4 : Same H5 (upd H5 p4 (.lst ([V.int 1] ++ nVs (List.replicate ((z.length : Int) - 1).toNat 2)))) := same_new n4
          have h4 : (upd H5 p4 (.lst ([V.int 1] ++ nVs (List.replicate ((z.length : Int) - 1).toNat 2)))) p4 = some (.lst (nVs (1 :: List.replicate ((z.length : Int) - 1).toNat 2))) := upd_same
          generalize (upd H5 p4 (.lst ([V.int 1] ++ nVs (List.replicate ((z.length : Int) - 1).toNat 2)))) = H6 at s4 h4
          -- [2] * wide, twice
          refine ⟨by show 1 ≤ sizeLine; decide, fun p5 n5 => ?_⟩
          have s5 : Same H6 (upd H6 p5 (.lst [.int 2])) := same_new n5
          have h5 : (upd H6 p5 (.lst [.int 2])) p5 = some (.lst [nV 2]) := upd_same
          generalize (upd H6 p5 (.lst [.int 2])) = H7 at s5 h5
          refine ⟨_, rfl, p5, (z.length : Int), _, rfl, rfl, h5, by omega, by omega, by exact szBigLe (by show 1 * (z.length : Int).toNat ≤ 100000; omega), fun p6 n6 => ?_⟩
          rw [rep_nVs, Int.toNat_natCast]
          have s6 : Same H7 (upd H7 p6 (.lst (nVs (List.replicate z.length 2)))) := same_new n6
          have h6 : (upd H7 p6 (.lst (nVs (List.replicate z.length 2)))) p6 = some (.lst (nVs (List.replicate z.length 2))) := upd_same
          generalize (upd H7 p6 (.lst (nVs (List.replicate z.length 2)))) = H8 at s6 h6
          refine ⟨by show 1 ≤ sizeLine; decide, fun p7 n7 => ?_⟩
          have s7 : Same H8 (upd H8 p7 (.lst [.int 2])) := same_new n7
          have h7 : (upd H8 p7 (.lst [.int 2])) p7 = some (.lst [nV 2]) := upd_same
          generalize (upd H8 p7 (.lst [.int 2])) = H9 at s7 h7
          refine ⟨_, rfl, p7, (z.length : Int), _, rfl, rfl, h7, by omega, by omega, by exact szBigLe (by show 1 * (z.length : Int).toNat ≤ 100000; omega), fun p8 n8 => ?_⟩
          rw [rep_nVs, Int.toNat_natCast]
          have s8 : Same H9 (upd H9 p8 (.lst (nVs (List.replicate z.length 2)))) := same_new n8
          have h8 : (upd H9 p8 (.lst (nVs (List.replicate z.length 2)))) p8 = some (.lst (nVs (List.replicate z.length 2))) := upd_same
          generalize (upd H9 p8 (.lst (nVs (List.replicate z.length 2)))) = Ha at s8 h8
          refine ⟨by show 3 ≤ sizeLine; decide, fun p9 n9 => ?_⟩
          have s9 : Same Ha (upd Ha p9 (.lst [.ref p4, .ref p6, .ref p8])) := same_new n9
          have h9 : (upd Ha p9 (.lst [.ref p4, .ref p6, .ref p8])) p9 = some (.lst [.ref p4, .ref p6, .ref p8]) := upd_same
          generalize (upd Ha p9 (.lst [.ref p4, .ref p6, .ref p8])) = Hb at s9 h9
          have s15 := (s1.trans s2).trans s3
          have s17 := ((s15.trans s4).trans s5)
          have s19 := (s17.trans s6).trans s7
          have d5 := d2.same s15
          have d7 := d2.same s17
          have d9 := d2.same s19
          have da := d9.same s8
          have db := da.same s9
          refine ⟨_, rfl, g, c, 2, rfl, db.bag, by decide, by decide, fun Hc r hrc hBc Bc => ?_⟩
          have dbc : Dr g c Hb Hc := ⟨hBc, Bc⟩
          refine ⟨by show 1 ≤ sizeLine; decide, fun pe ne => ?_⟩
          have se : Same Hc (upd Hc pe (.lst [nV r])) := same_new ne
          have he : (upd Hc pe (.lst [nV r])) pe = some (.lst (nVs [r])) := upd_same
          generalize (upd Hc pe (.lst [nV r])) = Hd at se he
          refine ⟨by show 2 ≤ sizeLine; decide, fun t nt => ?_⟩
          have st : Same Hd (upd Hd t (.tup [.ref p9, .ref pe])) := same_new nt
          have dd := (db.trans dbc).same se
          have kp : ∀ {p : Addr} {o : HO}, Hb p = some o → p ≠ g → (upd Hd t (.tup [.ref p9, .ref pe])) p = some o := fun h n => st _ _ (se _ _ (dbc.keep h n))
          refine fin _ t p9 pe [p4, p6, p8] [1 :: List.replicate ((z.length : Int) - 1).toNat 2, List.replicate z.length 2, List.replicate z.length 2] [r] (dd.same st) ?_ upd_same
            (rows_mk (kp h9 (da.ne n9)) (.cons (kp (s9 _ _ (s8 _ _ (s7 _ _ (s6 _ _ (s5 _ _ h4))))) (d5.ne n4)) (.cons (kp (s9 _ _ (s8 _ _ (s7 _ _ h6))) (d7.ne n6)) (.cons (kp (s9 _ _ h8) (d9.ne n8)) .nil)))) (st _ _ he) ?_ (by show 0 < 3; decide) (by show 3 ≤ m + 3; omega) ?_ (by show 1 ≤ 100; decide)
          · intro x hx
            simp only [List.mem_cons, List.not_mem_nil, or_false] at hx
            rcases hx with rfl | rfl | rfl | rfl | rfl | rfl
            · exact dd.free nt
            · exact da.free n9
            · exact (db.trans dbc).free ne
            · exact d5.free n4
            · exact d7.free n6
            · exact d9.free n8
          · refine mok_of fun rr hrr => ?_
            simp only [List.mem_cons, List.not_mem_nil, or_false] at hrr
            rcases hrr with rfl | rfl | rfl
            · refine ⟨by rw [List.length_cons, List.length_replicate]; omega, fun x hx => ?_⟩
              rcases List.mem_cons.mp hx with y | y
              · rw [y]
                show 1 < 3
                decide
              · rw [List.eq_of_mem_replicate y]
                show 2 < 3
                decide
            · exact ⟨List.length_replicate, fun x hx => by rw [List.eq_of_mem_replicate hx]; show 2 < 3; decide⟩
            · exact ⟨List.length_replicate, fun x hx => by rw [List.eq_of_mem_replicate hx]; show 2 < 3; decide⟩
          · intro x hx
            rw [List.mem_singleton] at hx
            rw [hx]
            show r < 3
            omega
        · rintro σ' H'' ⟨rfl, rfl⟩
          -- a drawn one
          refine ⟨_, rfl, _, rfl, g, c, (m : Int), rfl, d2.bag, by omega, by omega, fun H3 r3 hr3 hB3 B3 => ?_⟩
          have d3 := d2.trans (Dr.mk hB3 B3)
          refine ⟨1, (r3 : Int), rfl, rfl, ?_⟩
          have hM1 : 1 ≤ 1 + r3 ∧ 1 + r3 ≤ 100 := by omega
          -- rows
          refine ⟨_, rfl, 1 + (r3 : Int), rfl, by omega, by omega, fun p1 n1 => ?_⟩
          have np1 : H p1 = none := d3.free n1
          have g1 : p1 ≠ g := d3.ne n1
          have c1 : p1 ≠ c := d3.ne2 n1
          refine lc_range (n := (1 + (r3 : Int)).toNat) (fun i H4 => Dr g c H H4 ∧ ∃ (xs : List Addr) (R : List (List Nat)), xs.length = i ∧ (∀ x ∈ xs, H x = none ∧ x ≠ g ∧ x ≠ c ∧ x ≠ p1) ∧ (∀ r ∈ R, r.length = z.length ∧ ∀ x ∈ r, x < 1 + r3) ∧ H4 p1 = some (.lst (xs.map V.ref)) ∧ Paired (fun (x : Addr) (r : List Nat) => H4 x = some (.lst (nVs r))) xs R)
            ⟨d3.same (same_new n1), [], [], rfl, fun x hx => (nomatch hx), fun x hx => (nomatch hx), by rw [upd_same]; rfl, .nil⟩ ?_ ?_
          · rintro i H4 hi ⟨d4, xs, R, xl, xn, rr, hp1, pr⟩
            refine ⟨rfl, ?_⟩
            refine ⟨_, rfl, (z.length : Int), rfl, by omega, by omega, fun p2 n2 => ?_⟩
            have np2 : H p2 = none := d4.free n2
            have g2 : p2 ≠ g := d4.ne n2
            have c2 : p2 ≠ c := d4.ne2 n2
            refine lc_range (n := (z.length : Int).toNat) (fun j H5 => Dr g c H4 H5 ∧ ∃ row : List Nat, row.length = j ∧ (∀ x ∈ row, x < 1 + r3) ∧ H5 p2 = some (.lst (nVs row))) ⟨(Dr.refl d4.bag).same (same_new n2), [], rfl, fun x hx => (nomatch hx), by rw [upd_same]; rfl⟩ ?_ ?_
            · rintro j H5 hj ⟨d5, row, rl, rx, hp2⟩
              refine ⟨rfl, ?_⟩
              refine ⟨_, rfl, _, rfl, g, c, 1 + (r3 : Int), rfl, d5.bag, by omega, by omega, fun H6 r6 hr6 hB6 B6 => ?_⟩
              have d56 : Dr g c H5 H6 := ⟨hB6, B6⟩
              refine ⟨_, d56.keep hp2 g2, by rw [nVs_len]; exact szBig (by omega), ?_, row ++ [r6], by rw [List.length_append, List.length_singleton, rl], ?_, ?_⟩
              · exact (d5.trans d56).upd_own n2 g2 c2
              · intro x hx
                rcases List.mem_append.mp hx with y | y
                · exact rx x y
                · rw [List.mem_singleton] at y
                  omega
              · rw [upd_same, nVs_snoc]
            · rintro H5 ⟨d5, row, rl, rx, hp2⟩
              rw [Int.toNat_natCast] at rl
              have n12 : p2 ≠ p1 := fun y => by
                rw [y, hp1] at n2
                cases n2
              refine ⟨_, d5.keep hp1 g1, by rw [List.length_map]; exact szBig (by omega), ?_, xs ++ [p2], R ++ [row], by rw [List.length_append, List.length_singleton, xl], ?_, ?_, ?_, ?_⟩
              · exact (d4.trans d5).upd_own np1 g1 c1
              · intro x hx
                rcases List.mem_append.mp hx with y | y
                · exact xn x y
                · rw [List.mem_singleton] at y
                  rw [y]
                  exact ⟨np2, g2, c2, n12⟩
              · intro x hx
                rcases List.mem_append.mp hx with y | y
                · exact rr x y
                · rw [List.mem_singleton] at y
                  rw [y]
                  exact ⟨rl, rx⟩
              · rw [upd_same, List.map_append]
                rfl
              · refine paired_snoc (paired_keep pr fun x hx r hxr => ?_) ?_
                · obtain ⟨_, xg, _, xp⟩ := xn x hx
                  rw [upd_ne xp]
                  exact d5.keep hxr xg
                · rw [upd_ne n12]
                  exact hp2
          · rintro H4 ⟨d4, xs, R, xl, xn, rr, hp1, pr⟩
            have xlM : xs.length = 1 + r3 := by omega
            -- return (rows, [..])
            refine ⟨_, rfl, _, rfl, 1 + (r3 : Int), rfl, by omega, by omega, fun p3 n3 => ?_⟩
            have np3 : H p3 = none := d4.free n3
            have g3 : p3 ≠ g := d4.ne n3
            have c3 : p3 ≠ c := d4.ne2 n3
            refine lc_range (n := (1 + (r3 : Int)).toNat) (fun i H5 => Dr g c H4 H5 ∧ ∃ E : List Nat, E.length ≤ i ∧ (∀ x ∈ E, x < i) ∧ H5 p3 = some (.lst (nVs E))) ⟨(Dr.refl d4.bag).same (same_new n3), [], Nat.le_refl _, fun x hx => (nomatch hx), by rw [upd_same]; rfl⟩ ?_ ?_
            · rintro i H5 hi ⟨d5, E, el, ex, hp3⟩
              refine ⟨rfl, ?_⟩
              refine ⟨_, rfl, g, c, 2, rfl, d5.bag, by decide, by decide, fun H6 r6 hr6 hB6 B6 => ?_⟩
              have d56 : Dr g c H5 H6 := ⟨hB6, B6⟩
              refine ⟨rfl, _, rfl, ite2 (fun e6 => ?_) (fun e6 => ?_)⟩
              · refine ⟨_, rfl, _, d56.keep hp3 g3, by rw [nVs_len]; exact szBig (by omega), (d5.trans d56).upd_own n3 g3 c3, E ++ [i], by rw [List.length_append, List.length_singleton]; omega, ?_, ?_⟩
                · intro x hx
                  rcases List.mem_append.mp hx with y | y
                  · have := ex x y
                    omega
                  · rw [List.mem_singleton] at y
                    omega
                · rw [upd_same, nVs_snoc]
                  have ei : V.int (0 + (i : Int)) = nV i := by
                    rw [Int.zero_add]
                    rfl
                  rw [ei]
              · exact ⟨d5.trans d56, E, by omega, fun x hx => by have := ex x hx; omega, d56.keep hp3 g3⟩
            · rintro H5 ⟨d5, E, el, ex, hp3⟩
              refine ⟨by show 2 ≤ sizeLine; decide, fun t nt => ?_⟩
              have st : Same H5 (upd H5 t (.tup [.ref p1, .ref p3])) := same_new nt
              have dd := d4.trans d5
              have hRl : R.length = 1 + r3 := by
                rw [← Paired.length pr]
                exact xlM
              refine fin _ t p1 p3 xs R E (dd.same st) ?_ upd_same (rows_mk (st _ _ (d5.keep hp1 g1)) (paired_keep pr fun x hx r hxr => st _ _ (d5.keep hxr (xn x hx).2.1))) (st _ _ hp3) ?_ (by omega) (by omega) ?_ (by omega)
              · intro x hx
                rcases List.mem_cons.mp hx with rfl | hx
                · exact dd.free nt
                rcases List.mem_cons.mp hx with rfl | hx
                · exact np1
                rcases List.mem_cons.mp hx with rfl | hx
                · exact np3
                · exact (xn x hx).1
              · refine mok_of fun r hr' => ?_
                rw [hRl]
                exact rr r hr'
              · intro x hx
                have := ex x hx
                omega
end
end K15

/-! values of any kind -/
namespace K15
open PySem PySem.Spec PyProof.Rows L2 Rg Mach
abbrev sOdd : Stmt := topS 41
def nOdd : List Str := ["_law_bag_here", "_law_deep", "_law_k", "_law_some"]
theorem scOdd : FnScope nOdd ["_law_bag_here"] (defScope sOdd) := ⟨rfl, rfl, rfl, by decide +kernel, rfl, by decide +kernel, by decide +kernel⟩
def deepD : Nat → PyData
  | 0 => .list []
  | n + 1 => .list [deepD n]
def zeroD : List (Key × PyData) := [(.inl 0, .int 0)]
def oddA : List PyData := [.none, .bool true, .bool false, .int 0, .int 1, .int (-1), .int (10 ^ 39), .str "", .str "0", .tuple [], .list [], .dict (([] : List (Key × PyData)).map fun p => (kyD p.1, p.2)), .list [.int 0], .tuple [.int 0], .tuple [.bool true], .tuple [.int 0, .int 0]]
def oddMenu : List PyData := oddA ++ [deepD 5, .dict (zeroD.map fun p => (kyD p.1, p.2))]
def spOddQ (K : PySem.W.Frag) : Sp := fun vs H Q _ => ∃ (g c : Addr), vs = [.ref g] ∧ Bag H g c ∧ ∀ (H' : Hp) (v : V) (d : PyData), Bag H' g c → But g H H' → Dq K (mask g H') v d → d ∈ oddMenu → Q v H'
section
variable {P : Program} {w : World} {K : PySem.W.Frag} {mg : Str → Option Value} {base : Heap}
theorem md_new {g p : Addr} {H : Hp} {o : HO} (np : H p = none) : Same (mask g H) (mask g (upd H p o)) := mask_sm (same_new np)
theorem md_at {g p : Addr} {H : Hp} {o : HO} (n : p ≠ g) : mask g (upd H p o) p = some o := mask_at upd_same n
theorem ok_oddQ {f fT : Addr} {fd fdT : FuncData} {k : Nat} (F : Fun K "_law_odd" "_law_odd" sOdd f fd)
    (FT : Fun K "_law_take" "_law_take" sTake fT fdT) (bT : Binds K fdT ["_law_bag_here", "_law_many"] []) (gT : mg "_law_take" = some (.ref fT)) (mi : mg "int" = none) (mr : mg "range" = none) :
    FnOk P w K mg base CX0 (k + 2) f fd ["_law_bag_here"] (spOddQ K) := by
  have GT : FnOk P w K mg base CX0 (k + 1) fT fdT ["_law_bag_here", "_law_many"] spTake := ok_take FT mi
  refine F.ok scOdd (fun vs H Q E h => ?_) (fun cdv A outer s H vs Q E hr h => ?_)
  · obtain ⟨g, c, rfl, _⟩ := h
    rfl
  · obtain ⟨g, c, rfl, hB, q⟩ := h
    refine ⟨_, pss_cons (ps_set (i := 1) scOdd.nd rfl (.inl rfl) (pe_lst pa_nil))
      (pss_cons (ps_for PassesOwn.never rfl (pi_range1 rfl mr (pa_cons pe_int pa_nil)) (pg_name (i := 2) scOdd.nd rfl (.inl rfl)) (pss_one (ps_set (i := 1) scOdd.nd rfl (.inl rfl) (pe_lst (pa_cons (pv 1) pa_nil)))))
      (pss_cons (ps_set (i := 3) scOdd.nd rfl (.inl rfl) (pe_lst (pa_cons pe_non (pa_cons pe_bl (pa_cons pe_bl (pa_cons pe_int (pa_cons pe_int (pa_cons (pe_un un_neg pe_int) (pa_cons (pe_op op_pow pe_int pe_int) (pa_cons pe_str (pa_cons pe_str (pa_cons (pe_tup pa_nil) (pa_cons (pe_lst pa_nil) (pa_cons pe_dnewK (pa_cons (pe_lst (pa_cons pe_int pa_nil)) (pa_cons (pe_tup (pa_cons pe_int pa_nil)) (pa_cons (pe_tup (pa_cons pe_bl pa_nil)) (pa_cons (pe_tup (pa_cons pe_int (pa_cons pe_int pa_nil))) pa_nil))))))))))))))))))
      (pss_one (ps_ret (pe_ix ix_list (pe_op op_cat (pv 3) (pe_lst (pa_cons (pv 1) (pa_cons (pe_disp (pps_cons pe_int pe_int pps_nil) (by rfl) (by rfl) (fun z => by cases z) (by decide)) pa_nil)))) (pe_call GT hr (by rfl) gT FT.kp bT .nil pass0 (pa_cons (pv 0) (pa_cons pe_int pa_nil))) (fun _ _ => rfl)))))), ?_⟩
    refine ⟨by show 0 ≤ sizeLine; decide, fun p0 n0 => ?_⟩
    have g0 : p0 ≠ g := hB.ne n0
    refine ⟨5, rfl, by decide, by decide, ?_⟩
    refine for_range (n := 5) (fun i σ H1 => ∃ (v : V) (y2 : Option V), σ = [some (.ref g), some v, y2, none] ∧ Same H H1 ∧ Dq K (mask g H1) v (deepD i)) ⟨_, none, rfl, same_new n0, .lst (md_at g0) .nil⟩ ?_ ?_
    · rintro i σ H1 hi ⟨v, y2, rfl, s1, hd⟩
      refine ⟨v, rfl, by show 1 ≤ sizeLine; decide, fun p1 n1 => ?_⟩
      have g1 : p1 ≠ g := (hB.same s1).ne n1
      exact ⟨_, _, rfl, s1.trans (same_new n1), .lst (md_at g1) (.cons (hd.sm (md_new n1)) .nil)⟩
    rintro σ H1 ⟨v, y2, rfl, s1, hd⟩
    have hB1 := hB.same s1
    clear n0 g0
    -- 16 items
    refine ⟨1, rfl, 10, 39, rfl, rfl, ⟨by decide, by decide, by decide⟩, ?_⟩
    refine ⟨by show 0 ≤ sizeLine; decide, fun a1 n1 => ?_⟩
    have s2 := same_new (o := .tup []) n1
    have d2 : Dq K (mask g (upd H1 a1 (.tup []))) (.ref a1) (.tuple []) := .tup (SqT.of (md_at (hB1.ne n1))) .nil
    generalize (upd H1 a1 (.tup [])) = H2 at s2 d2
    have hB2 := hB1.same s2
    refine ⟨by show 0 ≤ sizeLine; decide, fun a2 n2 => ?_⟩
    have s3 := same_new (o := .lst []) n2
    have d3 : Dq K (mask g (upd H2 a2 (.lst []))) (.ref a2) (.list []) := .lst (md_at (hB2.ne n2)) .nil
    generalize (upd H2 a2 (.lst [])) = H3 at s3 d3
    have hB3 := hB2.same s3
    intro a3 n3
    have s4 := same_new (o := .dK []) n3
    have d4 : Dq K (mask g (upd H3 a3 (.dK []))) (.ref a3) (.dict (([] : List (Key × PyData)).map fun p => (kyD p.1, p.2))) := .dct (md_at (hB3.ne n3)) .nil
    generalize (upd H3 a3 (.dK [])) = H4 at s4 d4
    have hB4 := hB3.same s4
    refine ⟨by show 1 ≤ sizeLine; decide, fun a4 n4 => ?_⟩
    have s5 := same_new (o := .lst [.int 0]) n4
    have d5 : Dq K (mask g (upd H4 a4 (.lst [.int 0]))) (.ref a4) (.list [.int 0]) := .lst (md_at (hB4.ne n4)) (.cons (.int 0) .nil)
    generalize (upd H4 a4 (.lst [.int 0])) = H5 at s5 d5
    have hB5 := hB4.same s5
    refine ⟨by show 1 ≤ sizeLine; decide, fun a5 n5 => ?_⟩
    have s6 := same_new (o := .tup [.int 0]) n5
    have d6 : Dq K (mask g (upd H5 a5 (.tup [.int 0]))) (.ref a5) (.tuple [.int 0]) := .tup (SqT.of (md_at (hB5.ne n5))) (.cons (.int 0) .nil)
    generalize (upd H5 a5 (.tup [.int 0])) = H6 at s6 d6
    have hB6 := hB5.same s6
    refine ⟨by show 1 ≤ sizeLine; decide, fun a6 n6 => ?_⟩
    have s7 := same_new (o := .tup [.bl true]) n6
    have d7 : Dq K (mask g (upd H6 a6 (.tup [.bl true]))) (.ref a6) (.tuple [.bool true]) := .tup (SqT.of (md_at (hB6.ne n6))) (.cons (.bl true) .nil)
    generalize (upd H6 a6 (.tup [.bl true])) = H7 at s7 d7
    have hB7 := hB6.same s7
    refine ⟨by show 2 ≤ sizeLine; decide, fun a7 n7 => ?_⟩
    have s8 := same_new (o := .tup [.int 0, .int 0]) n7
    have d8 : Dq K (mask g (upd H7 a7 (.tup [.int 0, .int 0]))) (.ref a7) (.tuple [.int 0, .int 0]) := .tup (SqT.of (md_at (hB7.ne n7))) (.cons (.int 0) (.cons (.int 0) .nil))
    generalize (upd H7 a7 (.tup [.int 0, .int 0])) = H8 at s8 d8
    have hB8 := hB7.same s8
    have m8 := mask_sm (g := g) s8
    have m7 := (mask_sm (g := g) s7).trans m8
    have m6 := (mask_sm (g := g) s6).trans m7
    have m5 := (mask_sm (g := g) s5).trans m6
    have m4 := (mask_sm (g := g) s4).trans m5
    have m3 := (mask_sm (g := g) s3).trans m4
    have m2 := (mask_sm (g := g) s2).trans m3
    have hA : DqAll K (mask g H8) [.non, .bl true, .bl false, .int 0, .int 1, .int (-1), .int (10 ^ 39), .str "", .str "0", .ref a1, .ref a2, .ref a3, .ref a4, .ref a5, .ref a6, .ref a7] oddA :=
      .cons .non (.cons (.bl true) (.cons (.bl false) (.cons (.int 0) (.cons (.int 1) (.cons (.int (-1)) (.cons (.int (10 ^ 39)) (.cons (.str "") (.cons (.str "0") (.cons (d2.sm m3) (.cons (d3.sm m4) (.cons (d4.sm m5) (.cons (d5.sm m6) (.cons (d6.sm m7) (.cons (d7.sm m8) (.cons d8 .nil)))))))))))))))
    have hdd := hd.sm m2
    have s18 := ((((((s2.trans s3).trans s4).trans s5).trans s6).trans s7).trans s8)
    have s08 := s1.trans s18
    clear d2 d3 d4 d5 d6 d7 d8 m2 m3 m4 m5 m6 m7 m8 n1 n2 n3 n4 n5 n6 n7 s2 s3 s4 s5 s6 s7 s8 hB2 hB3 hB4 hB5 hB6 hB7 hd
    refine ⟨by show 16 ≤ sizeLine; decide, fun l1 nl1 => ?_⟩
    generalize hH9 : upd H8 l1 _ = H9
    have t1 : Same H8 H9 := by
      rw [← hH9]
      exact same_new nl1
    have hl1 : H9 l1 = some (.lst [.non, .bl true, .bl false, .int 0, .int 1, .int (-1), .int (10 ^ 39), .str "", .str "0", .ref a1, .ref a2, .ref a3, .ref a4, .ref a5, .ref a6, .ref a7]) := by
      rw [← hH9]
      exact upd_same
    clear hH9
    have hB9 := hB8.same t1
    refine ⟨_, rfl, v, rfl, fun dz ndz => ⟨upd_same, [(.inl 0, .int 0)], rfl, by decide, ?_⟩⟩
    have ez : mergeK [] [((Sum.inl 0 : Key), V.int 0)] = [(Sum.inl 0, V.int 0)] := rfl
    rw [ez]
    have gz : dz ≠ g := hB9.ne ndz
    have t2 : Same H9 (upd (upd H9 dz (.dK [])) dz (.dK [(.inl 0, .int 0)])) := fun b o e => by
      rw [upd_ne (ne_of_none e ndz), upd_ne (ne_of_none e ndz)]
      exact e
    have dZ : Dq K (mask g (upd (upd H9 dz (.dK [])) dz (.dK [(.inl 0, .int 0)]))) (.ref dz) (.dict (zeroD.map fun p => (kyD p.1, p.2))) := .dct (md_at gz) (.cons (.int 0) .nil)
    generalize (upd (upd H9 dz (.dK [])) dz (.dK [(.inl 0, .int 0)])) = H10 at t2 dZ
    have hB10 := hB9.same t2
    refine ⟨by show 2 ≤ sizeLine; decide, fun l2 nl2 => ?_⟩
    have t3 : Same H10 (upd H10 l2 (.lst [v, .ref dz])) := same_new nl2
    have hl2 : (upd H10 l2 (.lst [v, .ref dz])) l2 = some (.lst [v, .ref dz]) := upd_same
    generalize (upd H10 l2 (.lst [v, .ref dz])) = H11 at t3 hl2
    have hB11 := hB10.same t3
    refine ⟨l1, l2, _, _, rfl, rfl, t3 _ _ (t2 _ _ hl1), hl2, by show 16 + 2 ≤ sizeLine; decide, fun l3 nl3 => ?_⟩
    have t4 : Same H11 (upd H11 l3 (.lst ([.non, .bl true, .bl false, .int 0, .int 1, .int (-1), .int (10 ^ 39), .str "", .str "0", .ref a1, .ref a2, .ref a3, .ref a4, .ref a5, .ref a6, .ref a7] ++ [v, .ref dz]))) := same_new nl3
    have hl3 := upd_same (H := H11) (a := l3) (o := .lst ([.non, .bl true, .bl false, .int 0, .int 1, .int (-1), .int (10 ^ 39), .str "", .str "0", .ref a1, .ref a2, .ref a3, .ref a4, .ref a5, .ref a6, .ref a7] ++ [v, .ref dz]))
    have t812 := (((t1.trans t2).trans t3).trans t4)
    have hAll : DqAll K (mask g (upd H11 l3 (.lst ([.non, .bl true, .bl false, .int 0, .int 1, .int (-1), .int (10 ^ 39), .str "", .str "0", .ref a1, .ref a2, .ref a3, .ref a4, .ref a5, .ref a6, .ref a7] ++ [v, .ref dz])))) ([.non, .bl true, .bl false, .int 0, .int 1, .int (-1), .int (10 ^ 39), .str "", .str "0", .ref a1, .ref a2, .ref a3, .ref a4, .ref a5, .ref a6, .ref a7] ++ [v, .ref dz]) oddMenu :=
      (hA.sm (mask_sm t812)).append (.cons (hdd.sm (mask_sm t812)) (.cons (dZ.sm (mask_sm (t3.trans t4))) .nil))
    generalize ([.non, .bl true, .bl false, .int 0, .int 1, .int (-1), .int (10 ^ 39), .str "", .str "0", .ref a1, .ref a2, .ref a3, .ref a4, .ref a5, .ref a6, .ref a7] ++ [v, .ref dz] : List V) = LL at t4 hl3 t812 hAll
    have hLL : LL.length = 18 := hAll.length
    generalize (upd H11 l3 (.lst LL)) = H12 at t4 hl3 t812 hAll
    have hB12 := hB8.same t812
    refine ⟨_, rfl, g, c, 18, rfl, hB12, by decide, by decide, fun H13 r hr' hB13 b13 => ?_⟩
    have gl : l3 ≠ g := hB11.ne nl3
    have hr18 : r < LL.length := by omega
    have ev : LL[r]? = some LL[r] := List.getElem?_eq_getElem hr18
    obtain ⟨d, hd, hdq⟩ := hAll.get ev
    exact ⟨l3, _, _, _, rfl, rfl, SqL.of (b13 _ _ gl hl3), atI_nat ev, q H13 _ d hB13 ((But.of_same (s08.trans t812)).trans b13) (hdq.sm b13.mask) (List.mem_of_getElem? hd)⟩
end
end K15

/-! one of the three things put otherwise -/
namespace Rg
open PySem PySem.Spec PyProof.Rows L2
section
variable {K : PySem.W.Frag} {H : Hp}
theorem DqAll.drop {vs : List V} {ds : List PyData} (h : DqAll K H vs ds) (n : Nat) : DqAll K H (vs.drop n) (ds.drop n) := by
  induction n generalizing vs ds with
  | zero => exact h
  | succ n ih =>
    cases h with
    | nil => exact .nil
    | cons _ a => exact ih a
theorem DqAll.take {vs : List V} {ds : List PyData} (h : DqAll K H vs ds) (n : Nat) : DqAll K H (vs.take n) (ds.take n) := by
  induction n generalizing vs ds with
  | zero => rw [List.take_zero, List.take_zero]; exact .nil
  | succ n ih =>
    cases h with
    | nil => rw [List.take_nil, List.take_nil]; exact .nil
    | cons a b => exact .cons a (ih b)
end
theorem dq_list {K : PySem.W.Frag} {H : Hp} {v : V} {ds : List PyData} (h : Dq K H v (.list ds)) : ∃ a xs, v = .ref a ∧ H a = some (.lst xs) ∧ DqAll K H xs ds := by
  cases h with
  | lst h1 h2 => exact ⟨_, _, rfl, h1, h2⟩
/-- a or b, read up to what is wanted -/
theorem ifExp_cut {c : Bool} {t1 t2 : TE} {σ : L2.St} {H : Hp} {Q : VK} (R : V → Hp → Prop) (h1 : c = true → ∀ Q' : VK, (∀ v H', R v H' → Q' v H') → t1 σ H Q') (h2 : c = false → ∀ Q' : VK, (∀ v H', R v H' → Q' v H') → t2 σ H Q') (key : ∀ v H', R v H' → Q v H') : if c = true then t1 σ H Q else t2 σ H Q := by
  cases c with
  | true => exact h1 rfl Q key
  | false => exact h2 rfl Q key
theorem cutV_take (xs : List V) (n : Nat) : cutV xs none (some (n : Int)) = xs.take n := by
  unfold cutV
  rw [HT.sIx_none, HT.sIx_nat]
  simp
theorem cutV_drop (xs : List V) (n : Nat) : cutV xs (some (n : Int)) none = xs.drop n := by
  unfold cutV
  rw [HT.sIx_none, HT.sIx_nat]
  by_cases h : n ≤ xs.length
  · rw [Nat.min_eq_left h]
    exact List.take_of_length_le (by rw [List.length_drop]; exact Nat.le_refl _)
  · rw [Nat.min_eq_right (by omega), List.drop_of_length_le (Nat.le_refl _), List.drop_of_length_le (by omega), List.take_nil]
end Rg
namespace K15
open PySem PySem.Spec PyProof.Rows L2 Rg Mach
abbrev sSpoilt : Stmt := topS 48
def nSpoilt : List Str := ["_law_bag_here", "_law_things", "_law_signs_here", "_law_rows", "_law_ends", "_law_odd_here", "_law_way", "_law_many", "_law_state", "_law_some", "_law_at", "_law_row", "_law_other", "_law_spoilt_here"]
theorem scSpoilt : FnScope nSpoilt ["_law_bag_here", "_law_things"] (defScope sSpoilt) := ⟨rfl, rfl, rfl, by decide +kernel, rfl, by decide +kernel, by decide +kernel⟩
/-- how great the three things are -/
structure Sp3 (e k : Nat) (a b c : PyData) : Prop where
  ga : Gq e k a
  gb : Gq e k b
  gc : Gq e k c
  rows : ∀ ds, b = .list ds → ds.length ≤ 12
  zok : ∀ z, a = .str z → PyData.strOk z = true
/-- the three things, beside the bag -/
structure At3 (K : PySem.W.Frag) (g : Addr) (H : Hp) (p : Addr) (x y u : V) (a b c : PyData) : Prop where
  at_ : mask g H p = some (.tup [x, y, u])
  x : Dq K (mask g H) x a
  y : Dq K (mask g H) y b
  u : Dq K (mask g H) u c
theorem At3.but {K : PySem.W.Frag} {g : Addr} {H H' : Hp} {p : Addr} {x y u : V} {a b c : PyData} (h : At3 K g H p x y u a b c) (s : But g H H') : At3 K g H' p x y u a b c := ⟨s.mask _ _ h.at_, h.x.sm s.mask, h.y.sm s.mask, h.u.sm s.mask⟩
def spSpoilt (K : PySem.W.Frag) : Sp := fun vs H Q _ => ∃ (g l p : Addr) (x y u : V) (a b c : PyData) (e k : Nat), vs = [.ref g, .ref p] ∧ Bag H g l ∧ At3 K g H p x y u a b c ∧ Sp3 e k a b c ∧ 2 ≤ e ∧ 60 ≤ k ∧ k ≤ 3000 ∧
  ∀ (H' : Hp) (q : Addr) (x' y' u' : V) (a' b' c' : PyData), Bag H' g l → But g H H' → At3 K g H' q x' y' u' a' b' c' → Sp3 (e + 9) (4 * k) a' b' c' → Q (.ref q) H'
def oddOk : PyData → Bool := fun d => gqB 7 20 d && (match d with | .list ds => decide (ds.length ≤ 1) | .str z => PyData.strOk z | _ => true)
theorem odd_all : ∀ d ∈ oddMenu, oddOk d = true := by decide +kernel
theorem odd_gq {d : PyData} (h : d ∈ oddMenu) : Gq 7 20 d := by
  have h1 := odd_all d h
  unfold oddOk at h1
  rw [Bool.and_eq_true] at h1
  exact gq_of h1.1
theorem odd_len {ds : List PyData} (h : .list ds ∈ oddMenu) : ds.length ≤ 12 := by
  have h1 := odd_all _ h
  unfold oddOk at h1
  rw [Bool.and_eq_true] at h1
  have := of_decide_eq_true h1.2
  omega
theorem odd_str {z : Str} (h : .str z ∈ oddMenu) : PyData.strOk z = true := by
  have h1 := odd_all _ h
  unfold oddOk at h1
  rw [Bool.and_eq_true] at h1
  exact h1.2
def stA (n : Nat) : List PyData := [.int (n : Int), .int (-1), .bool true, .none, .str "0", .list [.int 0], .int (10 ^ 30), .int 0]
theorem st_gq {n : Nat} (hn : n ≤ 12) {o d : PyData} (ho : Gq 7 20 o) (h : d ∈ stA n ++ [o]) : Gq 7 20 d := by
  have key : ∀ m : Fin 13, ∀ d ∈ stA m.val, gqB 7 20 d = true := by decide +kernel
  rcases List.mem_append.mp h with z | z
  · exact gq_of (key ⟨n, by omega⟩ d z)
  · rw [List.mem_singleton] at z
    rw [z]; exact ho
def sgA : List PyData := [.str "ba", .str "aa", .str "abcde", .str "", .str "A", .str "a1", .str "aB", .list [.str "a", .str "b"]]
def sgB' : List PyData := [.str "abcd", .str "z", .str "a b"]
theorem sg_all : ∀ d ∈ sgA ++ sgB', (gqB 7 20 d && (match d with | .str z => PyData.strOk z | _ => true)) = true := by decide +kernel
section
variable {P : Program} {w : World} {K : PySem.W.Frag} {mg : Str → Option Value} {base : Heap}
theorem ok_spoilt {f C fT fO : Addr} {fd fdT fdO : FuncData} {k : Nat} (F : Fun K "_law_spoilt" "_law_spoilt" sSpoilt f fd) (O : OwnC K C)
    (FT : Fun K "_law_take" "_law_take" sTake fT fdT) (bT : Binds K fdT ["_law_bag_here", "_law_many"] []) (gT : mg "_law_take" = some (.ref fT))
    (FO : Fun K "_law_odd" "_law_odd" sOdd fO fdO) (bO : Binds K fdO ["_law_bag_here"] []) (gO : mg "_law_odd" = some (.ref fO))
    (mi : mg "int" = none) (mr : mg "range" = none) (mis : mg "isinstance" = none) (mli : mg "list" = none) (ml : mg "len" = none) (mtu : mg "tuple" = none) :
    FnOk P w K mg base CX0 (k + 3) f fd ["_law_bag_here", "_law_things"] (spSpoilt K) := by
  have GT : FnOk P w K mg base CX0 (k + 2) fT fdT ["_law_bag_here", "_law_many"] spTake := ok_take FT mi
  have GO : FnOk P w K mg base CX0 (k + 2) fO fdO ["_law_bag_here"] (spOddQ K) := ok_oddQ FO FT bT gT mi mr
  refine F.ok scSpoilt (fun vs H Q E h => ?_) (fun cdv A outer s H vs Q E hr h => ?_)
  · obtain ⟨g, l, p, x, y, u, a, b, c, e, k, rfl, _⟩ := h
    rfl
  · obtain ⟨g, l, p, x, y, u, a, b, c, e, k, rfl, hB, h3, hS, he2, hk1, hk2, q⟩ := h
    refine ⟨_, pss_cons (ps_asg (pv 1) (pg_tup rfl (pgs_cons (pg_name (i := 2) scSpoilt.nd rfl (.inl rfl)) (pgs_cons (pg_name (i := 3) scSpoilt.nd rfl (.inl rfl)) (pgs_cons (pg_name (i := 4) scSpoilt.nd rfl (.inl rfl)) pgs_nil)))))
      (pss_cons (ps_par3 (i := 5) (j := 6) (l := 7) rfl scSpoilt.nd rfl rfl rfl (by decide) (by decide) (by decide) rfl rfl rfl (pa_cons (pe_call GO hr (by rfl) gO FO.kp bO .nil pass0 (pa_cons (pv 0) pa_nil)) (pa_cons (pe_call GT hr (by rfl) gT FT.kp bT .nil pass0 (pa_cons (pv 0) (pa_cons pe_int pa_nil)))
          (pa_cons (pe_ifExp (pt_val (pe_callB call_isi (by rfl) mis bIsi (pa_cons (pv 3) (pa_cons (pe_bltn (v := .ty "list") (by rfl) mli bList rfl) pa_nil)))) (pe_callB call_len_seq (by rfl) ml bLen (pa_cons (pv 3) pa_nil)) pe_int) pa_nil))) (by rfl))
      (pss_cons (ps_set (i := 8) scSpoilt.nd rfl (.inl rfl) (pe_ix ix_list (pe_lst (pa_cons (pv 7) (pa_cons (pe_un un_neg pe_int) (pa_cons pe_bl (pa_cons pe_non (pa_cons pe_str (pa_cons (pe_lst (pa_cons pe_int pa_nil)) (pa_cons (pe_op op_pow pe_int pe_int) (pa_cons pe_int (pa_cons (pv 5) pa_nil)))))))))) (pe_call GT hr (by rfl) gT FT.kp bT .nil pass0 (pa_cons (pv 0) (pa_cons pe_int pa_nil))) (fun _ _ => rfl)))
      (pss_cons (ps_if (pt_cmpR op_eq (pv 6) pe_int (nomark _))
        (pss_cons (ps_set (i := 9) scSpoilt.nd rfl (.inl rfl) (pe_lst (pa_cons pe_str (pa_cons pe_str (pa_cons pe_str (pa_cons pe_str (pa_cons pe_str (pa_cons pe_str (pa_cons pe_str (pa_cons (pe_lst (pa_cons pe_str (pa_cons pe_str pa_nil))) (pa_cons (pv 5) (pa_cons pe_str (pa_cons pe_str (pa_cons pe_str pa_nil))))))))))))))
        (pss_one (ps_ret (pe_tup (pa_cons (pe_ix ix_list (pv 9) (pe_call GT hr (by rfl) gT FT.kp bT .nil pass0 (pa_cons (pv 0) (pa_cons pe_int pa_nil))) (fun _ _ => rfl)) (pa_cons (pv 3) (pa_cons (pv 4) pa_nil))))))) pss_nil)
      (C8.pss_cut (ps_if (pw_and (pt_cmpR op_eq (pv 6) pe_int (nomark _)) (pw_and (pt_val (pe_callB call_isi (by rfl) mis bIsi (pa_cons (pv 3) (pa_cons (pe_bltn (v := .ty "list") (by rfl) mli bList rfl) pa_nil)))) (pw_and1 (pt_cmpR (op_neL0 hr.units0) (pv 3) (pe_lst pa_nil) (nomark _))))).pt
        (pss_cons (ps_set (i := 10) scSpoilt.nd rfl (.inl rfl) (pe_call GT hr (by rfl) gT FT.kp bT .nil pass0 (pa_cons (pv 0) (pa_cons (pe_callB call_len_seq (by rfl) ml bLen (pa_cons (pv 3) pa_nil)) pa_nil))))
        (pss_cons (ps_set (i := 11) scSpoilt.nd rfl (.inl rfl) (pe_ifExp (pt_val (pe_callB call_isi (by rfl) mis bIsi (pa_cons (pe_ix ix_list (pv 3) (pv 10) (fun _ _ => rfl)) (pa_cons (pe_bltn (v := .ty "list") (by rfl) mli bList rfl) pa_nil)))) (pe_ix ix_list (pv 3) (pv 10) (fun _ _ => rfl)) (pe_lst pa_nil)))
        (pss_cons (ps_set (i := 9) scSpoilt.nd rfl (.inl rfl) (pe_lst (pa_cons (pe_op op_cat (pv 11) (pe_lst (pa_cons pe_int pa_nil))) (pa_cons (pe_slice sl_list (pv 11) (po_some pe_int) po_none) (pa_cons (pe_op op_cat (pe_lst (pa_cons (pv 8) pa_nil)) (pe_slice sl_list (pv 11) (po_some pe_int) po_none))
            (pa_cons (pe_callTy call_tuple_of (by rfl) mtu bTuple (pa_cons (pv 11) pa_nil)) (pa_cons (pv 5) (pa_cons (pe_op op_cat (pe_op op_cat (pe_slice sl_list (pv 11) po_none (po_some pe_int)) (pe_lst (pa_cons (pv 8) pa_nil))) (pe_slice sl_list (pv 11) (po_some pe_int) po_none)) (pa_cons (pe_lst pa_nil) pa_nil)))))))))
        (pss_cons (ps_set (i := 12) scSpoilt.nd rfl (.inl rfl) (pe_op op_cat (pe_op op_cat (pe_slice sl_list (pv 3) po_none (po_some (pv 10))) (pe_lst (pa_cons (pe_ix ix_list (pv 9) (pe_call GT hr (by rfl) gT FT.kp bT .nil pass0 (pa_cons (pv 0) (pa_cons pe_int pa_nil))) (fun _ _ => rfl)) pa_nil))) (pe_slice sl_list (pv 3) (po_some (pe_op op_add (pv 10) pe_int)) po_none)))
        (pss_one (ps_ret (pe_tup (pa_cons (pv 2) (pa_cons (pe_ix ix_list (pe_lst (pa_cons (pv 12) (pa_cons (pv 12) (pa_cons (pv 12) (pa_cons (pe_lst pa_nil) (pa_cons (pe_callTy call_tuple_of (by rfl) mtu bTuple (pa_cons (pv 3) pa_nil)) (pa_cons (pv 5) pa_nil))))))) (pe_call GT hr (by rfl) gT FT.kp bT .nil pass0 (pa_cons (pv 0) (pa_cons pe_int pa_nil))) (fun _ _ => rfl)) (pa_cons (pv 4) pa_nil)))))))))) pss_nil)
      (pss_cons (ps_set (i := 13) scSpoilt.nd rfl (.inl rfl) (pe_ifExp (pt_not (pt_val (pe_callB call_isi (by rfl) mis bIsi (pa_cons (pv 4) (pa_cons (pe_bltn (v := .ty "list") (by rfl) mli bList rfl) pa_nil))))) (pe_lst (pa_cons (pv 4) pa_nil)) (pe_op op_cat (pv 4) (pe_lst (pa_cons (pv 8) pa_nil)))))
      (pss_one (ps_ret (pe_tup (pa_cons (pv 2) (pa_cons (pv 3) (pa_cons (pe_ix ix_list (pe_lst (pa_cons (pv 13) (pa_cons (pv 13) (pa_cons (pv 5) (pa_cons (pe_callTy call_tuple_of (by rfl) mtu bTuple (pa_cons (pv 13) pa_nil)) pa_nil))))) (pe_call GT hr (by rfl) gT FT.kp bT .nil pass0 (pa_cons (pv 0) (pa_cons pe_int pa_nil))) (fun _ _ => rfl)) pa_nil))))))))))), ?_⟩
    refine ⟨_, rfl, p, _, rfl, SqT.of (mask_same _ _ h3.at_), rfl, x, _, rfl, y, _, rfl, u, _, rfl, rfl, ?_⟩
    refine ⟨_, rfl, g, l, rfl, hB, fun H1 vo od hB1 b1 hdo hom => ?_⟩
    refine ⟨_, rfl, g, l, 3, rfl, hB1, by decide, by decide, fun H2 way hw hB2 b2 => ?_⟩
    have h32 := (h3.but b1).but b2
    obtain ⟨_, _, kc, kt, kk⟩ := (Tq.dat (C := C) (h32.y.sm mask_same)).qL O
    refine ⟨_, rfl, _, _, _, _, _, rfl, kc, kt, kk, _, rfl, ?_⟩
    refine ifExp_cut (fun v H' => H' = H2 ∧ ∃ m : Nat, m ≤ 12 ∧ v = nV m) (fun hL Q' hQ => ?_) (fun _ Q' hQ => hQ _ _ ⟨rfl, 1, by decide, rfl⟩) ?_
    · obtain ⟨ds, e1⟩ := Tg.isL_list hL
      have e2 : b = .list ds := by injection e1
      subst e2
      obtain ⟨ar, xs, rfl, har, hxs⟩ := dq_list h32.y
      exact ⟨_, rfl, ar, xs, rfl, .inl (SqL.of (mask_same _ _ har)), hQ _ _ ⟨rfl, xs.length, by rw [hxs.length]; exact hS.rows ds rfl, rfl⟩⟩
    rintro _ H2b ⟨eH, m, hm, rfl⟩
    rw [eH]
    clear eH H2b
    -- state
    have hod := odd_gq hom
    have hdo2 := hdo.sm b2.mask
    refine ⟨_, _, _, rfl, ?_⟩
    refine ⟨_, rfl, 1, rfl, ?_⟩
    refine ⟨by show 1 ≤ sizeLine; decide, fun z0 n_z0 => ?_⟩
    generalize hEq : upd H2 z0 _ = H3
    have s3 : Same H2 H3 := by
      rw [← hEq]
      exact same_new n_z0
    have h3x : H3 z0 = some (.lst [.int 0]) := by
      rw [← hEq]
      exact upd_same
    clear hEq
    have hB3 := hB2.same s3
    have g_z0 : z0 ≠ g := hB2.ne n_z0
    refine ⟨10, 30, rfl, rfl, ⟨by decide, by decide, by decide⟩, ?_⟩
    refine ⟨_, rfl, by show 9 ≤ sizeLine; decide, fun z1 n_z1 => ?_⟩
    generalize hEq : upd H3 z1 _ = H4
    have s4 : Same H3 H4 := by
      rw [← hEq]
      exact same_new n_z1
    have h4 : H4 z1 = some (.lst [nV m, .int (-1), .bl true, .non, .str "0", .ref z0, .int (10 ^ 30), .int 0, vo]) := by
      rw [← hEq]
      exact upd_same
    clear hEq
    have hB4 := hB3.same s4
    have g_z1 : z1 ≠ g := hB3.ne n_z1
    refine ⟨_, rfl, g, l, 9, rfl, hB4, by decide, by decide, fun H5 r hr9 hB5 b5 => ?_⟩
    have hA5 : DqAll K (mask g H5) [nV m, .int (-1), .bl true, .non, .str "0", .ref z0, .int (10 ^ 30), .int 0, vo] (stA m ++ [od]) :=
      DqAll.sm b5.mask (.cons (.int _) (.cons (.int (-1)) (.cons (.bl true) (.cons .non (.cons (.str "0") (.cons (.lst (mask_at (s4 _ _ h3x) g_z0) (.cons (.int 0) .nil)) (.cons (.int (10 ^ 30)) (.cons (.int 0) (.cons (hdo2.sm (mask_sm (s3.trans s4))) .nil)))))))))
    obtain ⟨vs, hvs⟩ : ∃ v, ([nV m, .int (-1), .bl true, .non, .str "0", .ref z0, .int (10 ^ 30), .int 0, vo] : List V)[r]? = some v := ⟨_, List.getElem?_eq_getElem (by show r < 9; omega)⟩
    obtain ⟨dst, hdst, hst⟩ := hA5.get hvs
    have gst := st_gq hm hod (List.mem_of_getElem? hdst)
    refine ⟨z1, _, _, _, rfl, rfl, SqL.of (b5 _ _ g_z1 h4), atI_nat hvs, ?_⟩
    have b25 : But g H2 H5 := (But.of_same (s3.trans s4)).trans b5
    have b05 : But g H H5 := (b1.trans b2).trans b25
    have h35 := h32.but b25
    have hdo5 := hdo2.sm b25.mask
    clear hA5 hvs hdst h4 hB4 s4 h3x s3 hB3 g_z0 g_z1 hdo2 hB2 hB1 h32 b25 kc kt kk hr9
    -- way 0
    refine ⟨_, rfl, rfl, _, rfl, ite2 (fun _ => ?_) (fun _ => ?_)⟩
    · refine ⟨by show 2 ≤ sizeLine; decide, fun w0 n_w0 => ?_⟩
      generalize hEq : upd H5 w0 _ = H6
      have s6 : Same H5 H6 := by
        rw [← hEq]
        exact same_new n_w0
      have h6 : H6 w0 = some (.lst [.str "a", .str "b"]) := by
        rw [← hEq]
        exact upd_same
      clear hEq
      have hB6 := hB5.same s6
      have g_w0 : w0 ≠ g := hB5.ne n_w0
      refine ⟨_, rfl, by show 12 ≤ sizeLine; decide, fun w1 n_w1 => ?_⟩
      generalize hEq : upd H6 w1 _ = H7
      have s7 : Same H6 H7 := by
        rw [← hEq]
        exact same_new n_w1
      have h7 : H7 w1 = some (.lst [.str "ba", .str "aa", .str "abcde", .str "", .str "A", .str "a1", .str "aB", .ref w0, vo, .str "abcd", .str "z", .str "a b"]) := by
        rw [← hEq]
        exact upd_same
      clear hEq
      have hB7 := hB6.same s7
      have g_w1 : w1 ≠ g := hB6.ne n_w1
      refine ⟨_, rfl, _, rfl, g, l, 12, rfl, hB7, by decide, by decide, fun H8 r hr12 hB8 b8 => ?_⟩
      have hA8 : DqAll K (mask g H8) [.str "ba", .str "aa", .str "abcde", .str "", .str "A", .str "a1", .str "aB", .ref w0, vo, .str "abcd", .str "z", .str "a b"] (sgA ++ ([od] ++ sgB')) :=
        DqAll.sm b8.mask (.cons (.str _) (.cons (.str _) (.cons (.str _) (.cons (.str _) (.cons (.str _) (.cons (.str _) (.cons (.str _) (.cons (.lst (mask_at (s7 _ _ h6) g_w0) (.cons (.str _) (.cons (.str _) .nil))) (.cons (hdo5.sm (mask_sm (s6.trans s7))) (.cons (.str _) (.cons (.str _) (.cons (.str _) .nil))))))))))))
      obtain ⟨v8, hv8⟩ : ∃ v, ([.str "ba", .str "aa", .str "abcde", .str "", .str "A", .str "a1", .str "aB", .ref w0, vo, .str "abcd", .str "z", .str "a b"] : List V)[r]? = some v := ⟨_, List.getElem?_eq_getElem (by show r < 12; omega)⟩
      obtain ⟨d8, hd8, hdq8⟩ := hA8.get hv8
      refine ⟨w1, _, _, _, rfl, rfl, SqL.of (b8 _ _ g_w1 h7), atI_nat hv8, _, rfl, _, rfl, by show 3 ≤ sizeLine; decide, fun q1 n_q1 => ?_⟩
      have b58 : But g H5 H8 := (But.of_same (s6.trans s7)).trans b8
      have h38 := h35.but b58
      have g_q1 : q1 ≠ g := hB8.ne n_q1
      have sN : Same H8 (upd H8 q1 (.tup [v8, y, u])) := same_new n_q1
      have hmem := List.mem_of_getElem? hd8
      have h8 : Gq 7 20 d8 ∧ ∀ z, d8 = .str z → PyData.strOk z = true := by
        have one : d8 ∈ sgA ++ sgB' → Gq 7 20 d8 ∧ ∀ z, d8 = .str z → PyData.strOk z = true := fun h => by
          have h1 := sg_all d8 h
          rw [Bool.and_eq_true] at h1
          exact ⟨gq_of h1.1, fun z e => by subst e; exact h1.2⟩
        rcases List.mem_append.mp hmem with h | h
        · exact one (List.mem_append_left _ h)
        · rcases List.mem_append.mp h with h | h
          · rw [List.mem_singleton] at h
            subst h
            exact ⟨hod, fun z e => by subst e; exact odd_str hom⟩
          · exact one (List.mem_append_right _ h)
      exact q _ q1 v8 y u d8 b c (hB8.same sN) ((b05.trans b58).trans (.of_same sN)) ⟨md_at g_q1, hdq8.sm (mask_sm sN), h38.y.sm (mask_sm sN), h38.u.sm (mask_sm sN)⟩
        ⟨h8.1.le (by omega) (by omega), hS.gb.le (by omega) (by omega), hS.gc.le (by omega) (by omega), hS.rows, h8.2⟩
    -- way 1
    refine ⟨fun σ H6 => σ = [some (.ref g), some (.ref p), some x, some y, some u, some vo, some (nV way), some (nV m), some vs, none, none, none, none, none] ∧ Bag H6 g l ∧ But g H5 H6, ?_, ?_⟩
    rotate_left
    · rintro σ H6 ⟨rfl, hB6, b56⟩
      have h36 := h35.but b56
      have hdo6 := hdo5.sm b56.mask
      have hst6 := hst.sm b56.mask
      obtain ⟨_, _, kc, kt, kk⟩ := (Tq.dat (C := C) (h36.u.sm mask_same)).qL O
      refine ⟨_, rfl, _, _, _, _, _, rfl, kc, kt, kk, _, rfl, ?_⟩
      refine ifExp_cut (fun v H' => Same H6 H' ∧ ∃ es, Dq K (mask g H') v (.list es) ∧ GqAll (e + 7) (k + 22) es) (fun hn Q' hQ => ?_) (fun hn Q' hQ => ?_) ?_
      · refine ⟨_, rfl, by show 1 ≤ sizeLine; decide, fun t0 n_t0 => ?_⟩
        refine hQ _ _ ⟨same_new n_t0, [c], .lst (md_at (hB6.ne n_t0)) (.cons (h36.u.sm (md_new n_t0)) .nil), ?_⟩
        have := gqAll_cons hS.gc gqAll_nil
        exact ⟨this.shw, Nat.le_trans this.dep (by omega), this.lv, Nat.le_trans this.bk (by omega)⟩
      · obtain ⟨cs, e1⟩ := Tg.isL_list (show (Tg.dat c).isL = true by simpa using hn)
        have e2 : c = .list cs := by injection e1
        subst e2
        obtain ⟨ac, xc, rfl, hac, hxc⟩ := dq_list h36.u
        have hcl := hxc.length
        have hcl2 : cs.length ≤ k := Nat.le_trans (bulkAll_len cs) hS.gc.all.bk
        refine ⟨_, rfl, _, rfl, by show 1 ≤ sizeLine; decide, fun t0 n_t0 => ?_⟩
        generalize hEq : upd H6 t0 _ = H7
        have s7 : Same H6 H7 := by
          rw [← hEq]
          exact same_new n_t0
        have h7 : H7 t0 = some (.lst [vs]) := by
          rw [← hEq]
          exact upd_same
        clear hEq
        have hB7 := hB6.same s7
        have g_t0 : t0 ≠ g := hB6.ne n_t0
        refine ⟨ac, t0, xc, _, rfl, rfl, s7 _ _ (mask_same _ _ hac), h7, szBigLe (by show xc.length + 1 ≤ _; omega), fun t1 n_t1 => ?_⟩
        have n1 := same_new (o := .lst (xc ++ [vs])) n_t1
        refine hQ _ _ ⟨s7.trans n1, cs ++ [dst], .lst (md_at (hB7.ne n_t1)) ((hxc.sm (mask_sm (s7.trans n1))).append (.cons (hst6.sm (mask_sm (s7.trans n1))) .nil)), ?_⟩
        have ga := hS.gc.all
        have gb : GqAll (e + 7) 21 [dst] := gqAll_cons (gst.le (show 7 ≤ e + 7 by omega) (Nat.le_refl _)) gqAll_nil
        have g1 := gqAll_append (⟨ga.shw, Nat.le_trans ga.dep (by omega), ga.lv, ga.bk⟩ : GqAll (e + 7) k cs) gb
        exact ⟨g1.shw, g1.dep, g1.lv, Nat.le_trans g1.bk (by omega)⟩
      rintro v7 H7 ⟨s7, es, hes, ges⟩
      have hB7 := hB6.same s7
      obtain ⟨ta, tx, rfl, hta, htx⟩ := dq_list hes
      have hdo7 := hdo6.sm (mask_sm s7)
      refine ⟨_, rfl, _, rfl, _, rfl, _, rfl, _, rfl, _, rfl, ta, tx, rfl, .inl ⟨SqL.of (mask_same _ _ hta), fun t2 n_t2 => ?_⟩⟩
      generalize hEq : upd H7 t2 _ = H8
      have s8 : Same H7 H8 := by
        rw [← hEq]
        exact same_new n_t2
      have h8 : H8 t2 = some (.tup tx) := by
        rw [← hEq]
        exact upd_same
      clear hEq
      have hB8 := hB7.same s8
      have g_t2 : t2 ≠ g := hB7.ne n_t2
      refine ⟨by show 4 ≤ sizeLine; decide, fun t3 n_t3 => ?_⟩
      generalize hEq : upd H8 t3 _ = H9
      have s9 : Same H8 H9 := by
        rw [← hEq]
        exact same_new n_t3
      have h9 : H9 t3 = some (.lst [.ref ta, .ref ta, vo, .ref t2]) := by
        rw [← hEq]
        exact upd_same
      clear hEq
      have hB9 := hB8.same s9
      have g_t3 : t3 ≠ g := hB8.ne n_t3
      have m79 := mask_sm (g := g) (s8.trans s9)
      have hA9 : DqAll K (mask g H9) [.ref ta, .ref ta, vo, .ref t2] [.list es, .list es, od, .tuple es] :=
        .cons (hes.sm m79) (.cons (hes.sm m79) (.cons (hdo7.sm m79) (.cons (.tup (SqT.of (mask_at (s9 _ _ h8) g_t2)) (htx.sm m79)) .nil)))
      refine ⟨_, rfl, g, l, 4, rfl, hB9, by decide, by decide, fun H10 r4 hr4 hB10 b10 => ?_⟩
      obtain ⟨v4, hv4⟩ : ∃ v, ([.ref ta, .ref ta, vo, .ref t2] : List V)[r4]? = some v := ⟨_, List.getElem?_eq_getElem (by show r4 < 4; omega)⟩
      obtain ⟨d4, hd4, hdq4⟩ := (hA9.sm b10.mask).get hv4
      have b510 : But g H5 H10 := (b56.trans (.of_same ((s7.trans s8).trans s9))).trans b10
      refine ⟨t3, _, _, _, rfl, rfl, SqL.of (b10 _ _ g_t3 h9), atI_nat hv4, by show 3 ≤ sizeLine; decide, fun q1 n_q1 => ?_⟩
      have h310 := h35.but b510
      have g_q1 : q1 ≠ g := hB10.ne n_q1
      have sN : Same H10 (upd H10 q1 (.tup [x, y, v4])) := same_new n_q1
      have gd4 : Gq (e + 9) (4 * k) d4 := by
        have hmem := List.mem_of_getElem? hd4
        simp only [List.mem_cons, List.not_mem_nil, or_false] at hmem
        rcases hmem with rfl | rfl | rfl | rfl
        · exact (gq_list ges).le (by omega) (by omega)
        · exact (gq_list ges).le (by omega) (by omega)
        · exact hod.le (by omega) (by omega)
        · exact (gq_tuple ges).le (by omega) (by omega)
      exact q _ q1 x y v4 a b d4 (hB10.same sN) ((b05.trans b510).trans (.of_same sN)) ⟨md_at g_q1, h310.x.sm (mask_sm sN), h310.y.sm (mask_sm sN), hdq4.sm (mask_sm sN)⟩
        ⟨hS.ga.le (by omega) (by omega), hS.gb.le (by omega) (by omega), gd4, hS.rows, hS.zok⟩
    refine ⟨_, rfl, rfl, _, rfl, ite2 (fun _ => ?_) (fun _ => ?_)⟩
    · obtain ⟨_, _, kc, kt, kk⟩ := (Tq.dat (C := C) (h35.y.sm mask_same)).qL O
      refine ⟨_, rfl, _, _, _, _, _, rfl, kc, kt, kk, _, rfl, ite2 (fun hL => ?_) (fun _ => ?_)⟩
      · obtain ⟨ds, e1⟩ := Tg.isL_list hL
        have e2 : b = .list ds := by injection e1
        subst e2
        obtain ⟨ar, xs, rfl, har, hxs⟩ := dq_list h35.y
        have hxl := hxs.length
        have hds8 := hS.rows ds rfl
        have g_ar := (mask_inv har).1
        refine ⟨_, rfl, by show 0 ≤ sizeLine; decide, fun e0 n_e0 => ?_⟩
        generalize hEq : upd H5 e0 _ = H6
        have s6 : Same H5 H6 := by
          rw [← hEq]
          exact same_new n_e0
        have h6 : H6 e0 = some (.lst []) := by
          rw [← hEq]
          exact upd_same
        clear hEq
        have hB6 := hB5.same s6
        have g_e0 : e0 ≠ g := hB5.ne n_e0
        refine ⟨ar, e0, xs, rfl, rfl, SqL.of (s6 _ _ (mask_same _ _ har)), SqL.of h6, _, rfl, ite2 (fun hne => ?_) (fun _ => ?_)⟩
        · have hpos : 0 < ds.length := by
            cases xs with
            | nil => cases hne
            | cons => rw [← hxl]; exact Nat.succ_pos _
          refine ⟨_, rfl, _, rfl, ar, xs, rfl, .inl (SqL.of (s6 _ _ (mask_same _ _ har))), g, l, _, rfl, hB6, by omega, by omega, fun H7 at_ hat hB7 b7 => ?_⟩
          have b57 : But g H5 H7 := (But.of_same s6).trans b7
          have h37 := h35.but b57
          have har7 := b57.mask _ _ har
          have hxs7 := hxs.sm b57.mask
          have hdo7 := hdo5.sm b57.mask
          have hst7 := hst.sm b57.mask
          obtain ⟨vr, hvr⟩ : ∃ v, xs[at_]? = some v := ⟨_, List.getElem?_eq_getElem (by omega)⟩
          obtain ⟨dr, hdr, hrq⟩ := hxs7.get hvr
          have gdr : Gq (e - 1) k dr := hS.gb.all.mem dr (List.mem_of_getElem? hdr)
          obtain ⟨_, _, kc, kt, kk⟩ := (Tq.dat (C := C) (hrq.sm mask_same)).qL O
          refine ⟨_, rfl, _, rfl, ar, _, _, _, rfl, rfl, SqL.of (mask_same _ _ har7), atI_nat hvr, _, _, _, _, _, rfl, kc, kt, kk, _, rfl, ?_⟩
          refine ifExp_cut (fun v H' => Same H7 H' ∧ ∃ es, Dq K (mask g H') v (.list es) ∧ GqAll e k es) (fun hL Q' hQ => ?_) (fun _ Q' hQ => ⟨by show 0 ≤ sizeLine; decide, fun e1 n_e1 => hQ _ _ ⟨same_new n_e1, [], .lst (md_at (hB7.ne n_e1)) .nil, ⟨rfl, Nat.zero_le _, rfl, Nat.zero_le _⟩⟩⟩) ?_
          · obtain ⟨es, e1⟩ := Tg.isL_list hL
            have e2 : dr = .list es := by injection e1
            subst e2
            have ga := gdr.all
            exact ⟨_, rfl, _, rfl, ar, _, _, _, rfl, rfl, SqL.of (mask_same _ _ har7), atI_nat hvr, hQ _ _ ⟨fun _ _ z => z, es, hrq, ⟨ga.shw, Nat.le_trans ga.dep (by omega), ga.lv, ga.bk⟩⟩⟩
          rintro v8 H8 ⟨s8, es, hres, ges⟩
          have hB8 := hB7.same s8
          obtain ⟨ra, rx, rfl, hra, hrx⟩ := dq_list hres
          have hrl := hrx.length
          have hel : es.length ≤ k := Nat.le_trans (bulkAll_len es) ges.bk
          have g_ra := (mask_inv hra).1
          have hraP := mask_same _ _ hra
          have szs : ∀ n : Nat, n ≤ 20000 → n ≤ sizeLine := fun n h => szBigLe (by omega)
          -- row + [0]
          refine ⟨_, rfl, by show 1 ≤ sizeLine; decide, fun a0 n_a0 => ?_⟩
          generalize hEq : upd H8 a0 _ = H9
          have s9 : Same H8 H9 := by
            rw [← hEq]
            exact same_new n_a0
          have h9 : H9 a0 = some (.lst [.int 0]) := by
            rw [← hEq]
            exact upd_same
          clear hEq
          have hB9 := hB8.same s9
          have g_a0 : a0 ≠ g := hB8.ne n_a0
          refine ⟨ra, a0, rx, _, rfl, rfl, s9 _ _ hraP, h9, szs _ (by show rx.length + 1 ≤ _; omega), fun a1 n_a1 => ?_⟩
          generalize hEq : upd H9 a1 _ = H10
          have s10 : Same H9 H10 := by
            rw [← hEq]
            exact same_new n_a1
          have h10 : H10 a1 = some (.lst (rx ++ [.int 0])) := by
            rw [← hEq]
            exact upd_same
          clear hEq
          have hB10 := hB9.same s10
          have g_a1 : a1 ≠ g := hB9.ne n_a1
          have s8x10 := s9.trans s10
          -- row[1:]
          refine ⟨_, rfl, 1, rfl, ra, rx, rfl, SqL.of (s8x10 _ _ hraP), fun a2 n_a2 => ?_⟩
          generalize hEq : upd H10 a2 _ = H11
          have s11 : Same H10 H11 := by
            rw [← hEq]
            exact same_new n_a2
          have h11 : H11 a2 = some (.lst (cutV rx (some 1) none)) := by
            rw [← hEq]
            exact upd_same
          clear hEq
          have hB11 := hB10.same s11
          have g_a2 : a2 ≠ g := hB10.ne n_a2
          rw [show (some (1 : Int)) = some ((1 : Nat) : Int) from rfl, cutV_drop] at h11
          have s8x11 := s8x10.trans s11
          -- [state] + row[1:]
          refine ⟨_, rfl, by show 1 ≤ sizeLine; decide, fun a3 n_a3 => ?_⟩
          generalize hEq : upd H11 a3 _ = H12
          have s12 : Same H11 H12 := by
            rw [← hEq]
            exact same_new n_a3
          have h12 : H12 a3 = some (.lst [vs]) := by
            rw [← hEq]
            exact upd_same
          clear hEq
          have hB12 := hB11.same s12
          have g_a3 : a3 ≠ g := hB11.ne n_a3
          have s8x12 := s8x11.trans s12
          refine ⟨_, rfl, 1, rfl, ra, rx, rfl, SqL.of (s8x12 _ _ hraP), fun a4 n_a4 => ?_⟩
          generalize hEq : upd H12 a4 _ = H13
          have s13 : Same H12 H13 := by
            rw [← hEq]
            exact same_new n_a4
          have h13 : H13 a4 = some (.lst (cutV rx (some 1) none)) := by
            rw [← hEq]
            exact upd_same
          clear hEq
          have hB13 := hB12.same s13
          have g_a4 : a4 ≠ g := hB12.ne n_a4
          rw [show (some (1 : Int)) = some ((1 : Nat) : Int) from rfl, cutV_drop] at h13
          have s8x13 := s8x12.trans s13
          refine ⟨a3, a4, [vs], _, rfl, rfl, s13 _ _ h12, h13, szs _ (by show 1 + _ ≤ _; rw [List.length_drop]; omega), fun a5 n_a5 => ?_⟩
          generalize hEq : upd H13 a5 _ = H14
          have s14 : Same H13 H14 := by
            rw [← hEq]
            exact same_new n_a5
          have h14 : H14 a5 = some (.lst ([vs] ++ rx.drop 1)) := by
            rw [← hEq]
            exact upd_same
          clear hEq
          have hB14 := hB13.same s14
          have g_a5 : a5 ≠ g := hB13.ne n_a5
          have s8x14 := s8x13.trans s14
          -- tuple(row)
          refine ⟨_, rfl, ra, rx, rfl, .inl ⟨SqL.of (s8x14 _ _ hraP), fun a6 n_a6 => ?_⟩⟩
          generalize hEq : upd H14 a6 _ = H15
          have s15 : Same H14 H15 := by
            rw [← hEq]
            exact same_new n_a6
          have h15 : H15 a6 = some (.tup rx) := by
            rw [← hEq]
            exact upd_same
          clear hEq
          have hB15 := hB14.same s15
          have g_a6 : a6 ≠ g := hB14.ne n_a6
          have s8x15 := s8x14.trans s15
          -- row[:1] + [state] + row[2:]
          refine ⟨_, rfl, _, rfl, 1, rfl, ra, rx, rfl, SqL.of (s8x15 _ _ hraP), fun a7 n_a7 => ?_⟩
          generalize hEq : upd H15 a7 _ = H16
          have s16 : Same H15 H16 := by
            rw [← hEq]
            exact same_new n_a7
          have h16 : H16 a7 = some (.lst (cutV rx none (some 1))) := by
            rw [← hEq]
            exact upd_same
          clear hEq
          have hB16 := hB15.same s16
          have g_a7 : a7 ≠ g := hB15.ne n_a7
          rw [show (some (1 : Int)) = some ((1 : Nat) : Int) from rfl, cutV_take] at h16
          have s8x16 := s8x15.trans s16
          refine ⟨_, rfl, by show 1 ≤ sizeLine; decide, fun a8 n_a8 => ?_⟩
          generalize hEq : upd H16 a8 _ = H17
          have s17 : Same H16 H17 := by
            rw [← hEq]
            exact same_new n_a8
          have h17 : H17 a8 = some (.lst [vs]) := by
            rw [← hEq]
            exact upd_same
          clear hEq
          have hB17 := hB16.same s17
          have g_a8 : a8 ≠ g := hB16.ne n_a8
          have s8x17 := s8x16.trans s17
          refine ⟨a7, a8, _, _, rfl, rfl, s17 _ _ h16, h17, szs _ (by show _ + 1 ≤ _; rw [List.length_take]; omega), fun a9 n_a9 => ?_⟩
          generalize hEq : upd H17 a9 _ = H18
          have s18 : Same H17 H18 := by
            rw [← hEq]
            exact same_new n_a9
          have h18 : H18 a9 = some (.lst (rx.take 1 ++ [vs])) := by
            rw [← hEq]
            exact upd_same
          clear hEq
          have hB18 := hB17.same s18
          have g_a9 : a9 ≠ g := hB17.ne n_a9
          have s8x18 := s8x17.trans s18
          refine ⟨_, rfl, 2, rfl, ra, rx, rfl, SqL.of (s8x18 _ _ hraP), fun b0 n_b0 => ?_⟩
          generalize hEq : upd H18 b0 _ = H19
          have s19 : Same H18 H19 := by
            rw [← hEq]
            exact same_new n_b0
          have h19 : H19 b0 = some (.lst (cutV rx (some 2) none)) := by
            rw [← hEq]
            exact upd_same
          clear hEq
          have hB19 := hB18.same s19
          have g_b0 : b0 ≠ g := hB18.ne n_b0
          rw [show (some (2 : Int)) = some ((2 : Nat) : Int) from rfl, cutV_drop] at h19
          have s8x19 := s8x18.trans s19
          refine ⟨a9, b0, _, _, rfl, rfl, s19 _ _ h18, h19, szs _ (by rw [List.length_append, List.length_take, List.length_drop]; show _ + 1 + _ ≤ _; omega), fun b1_ n_b1_ => ?_⟩
          generalize hEq : upd H19 b1_ _ = H20
          have s20 : Same H19 H20 := by
            rw [← hEq]
            exact same_new n_b1_
          have h20 : H20 b1_ = some (.lst (rx.take 1 ++ [vs] ++ rx.drop 2)) := by
            rw [← hEq]
            exact upd_same
          clear hEq
          have hB20 := hB19.same s20
          have g_b1_ : b1_ ≠ g := hB19.ne n_b1_
          have s8x20 := s8x19.trans s20
          refine ⟨by show 0 ≤ sizeLine; decide, fun b2_ n_b2_ => ?_⟩
          generalize hEq : upd H20 b2_ _ = H21
          have s21 : Same H20 H21 := by
            rw [← hEq]
            exact same_new n_b2_
          have h21 : H21 b2_ = some (.lst []) := by
            rw [← hEq]
            exact upd_same
          clear hEq
          have hB21 := hB20.same s21
          have g_b2_ : b2_ ≠ g := hB20.ne n_b2_
          have s8x21 := s8x20.trans s21
          have m21 := mask_sm (g := g) s8x21
          have hrx21 := hrx.sm m21
          have hst21 := (hst7.sm (mask_sm s8)).sm m21
          have hdo21 := (hdo7.sm (mask_sm s8)).sm m21
          have D1 : Dq K (mask g H21) (.ref a1) (.list (es ++ [.int 0])) := .lst (mask_at (((((((((((s11.trans s12).trans s13).trans s14).trans s15).trans s16).trans s17).trans s18).trans s19).trans s20).trans s21) _ _ h10) g_a1) (hrx21.append (.cons (.int 0) .nil))
          have D2 : Dq K (mask g H21) (.ref a2) (.list (es.drop 1)) := .lst (mask_at ((((((((((s12.trans s13).trans s14).trans s15).trans s16).trans s17).trans s18).trans s19).trans s20).trans s21) _ _ h11) g_a2) (hrx21.drop 1)
          have D3 : Dq K (mask g H21) (.ref a5) (.list ([dst] ++ es.drop 1)) := .lst (mask_at (((((((s15.trans s16).trans s17).trans s18).trans s19).trans s20).trans s21) _ _ h14) g_a5) (.cons hst21 (hrx21.drop 1))
          have D4 : Dq K (mask g H21) (.ref a6) (.tuple es) := .tup (SqT.of (mask_at ((((((s16.trans s17).trans s18).trans s19).trans s20).trans s21) _ _ h15) g_a6)) hrx21
          have D6 : Dq K (mask g H21) (.ref b1_) (.list (es.take 1 ++ [dst] ++ es.drop 2)) := .lst (mask_at (s21 _ _ h20) g_b1_) (((hrx21.take 1).append (.cons hst21 .nil)).append (hrx21.drop 2))
          have D7 : Dq K (mask g H21) (.ref b2_) (.list []) := .lst (mask_at h21 g_b2_) .nil
          refine ⟨by show 7 ≤ sizeLine; decide, fun b3 n_b3 => ?_⟩
          generalize hEq : upd H21 b3 _ = H22
          have s22 : Same H21 H22 := by
            rw [← hEq]
            exact same_new n_b3
          have h22 : H22 b3 = some (.lst [.ref a1, .ref a2, .ref a5, .ref a6, vo, .ref b1_, .ref b2_]) := by
            rw [← hEq]
            exact upd_same
          clear hEq
          have hB22 := hB21.same s22
          have g_b3 : b3 ≠ g := hB21.ne n_b3
          have hA22 : DqAll K (mask g H21) [.ref a1, .ref a2, .ref a5, .ref a6, vo, .ref b1_, .ref b2_] [.list (es ++ [.int 0]), .list (es.drop 1), .list ([dst] ++ es.drop 1), .tuple es, od, .list (es.take 1 ++ [dst] ++ es.drop 2), .list []] :=
            .cons D1 (.cons D2 (.cons D3 (.cons D4 (.cons hdo21 (.cons D6 (.cons D7 .nil))))))
          have gst' : GqAll 7 21 [dst] := by
            have := gqAll_cons gst (gqAll_nil (e := 7))
            exact this
          have up : ∀ {d : PyData}, Gq (e + 8) (2 * k + 22) d → Gq (e + 8) (2 * k + 22) d := fun h => h
          have gall : ∀ d ∈ ([.list (es ++ [.int 0]), .list (es.drop 1), .list ([dst] ++ es.drop 1), .tuple es, od, .list (es.take 1 ++ [dst] ++ es.drop 2), .list []] : List PyData), Gq (e + 8) (2 * k + 22) d := by
            have ge7 : GqAll (e + 7) k es := ⟨ges.shw, Nat.le_trans ges.dep (by omega), ges.lv, ges.bk⟩
            have gs7 : GqAll (e + 7) 21 [dst] := ⟨gst'.shw, Nat.le_trans gst'.dep (by omega), gst'.lv, gst'.bk⟩
            have g0 : GqAll (e + 7) 1 [.int 0] := ⟨by decide +kernel, Nat.zero_le _, by decide +kernel, by decide⟩
            have gd1 : GqAll (e + 7) k (es.drop 1) := GqAll.sub (List.drop_sublist _ _) ge7
            have gd2 : GqAll (e + 7) k (es.drop 2) := GqAll.sub (List.drop_sublist _ _) ge7
            have gt1 : GqAll (e + 7) k (es.take 1) := GqAll.sub (List.take_sublist _ _) ge7
            have hcut : GqAll (e + 7) (k + 21) (es.take 1 ++ [dst] ++ es.drop 2) := by
              have hsub : GqAll (e + 7) k (es.take 1 ++ es.drop 2) := GqAll.sub (by
                have h1 : (es.take 1 ++ es.drop 2).Sublist (es.take 1 ++ es.drop 1) := List.Sublist.append (List.Sublist.refl _) (by
                  rw [show es.drop 2 = (es.drop 1).drop 1 by rw [List.drop_drop]]
                  exact List.drop_sublist _ _)
                rw [List.take_append_drop] at h1
                exact h1) ge7
              have hb1 := hsub.bk
              have hb2 := gs7.bk
              have e3 : ∀ a b : List PyData, PyData.bulkAll (a ++ b) = PyData.bulkAll a + PyData.bulkAll b := by
                intro a
                induction a with
                | nil => intro b; simp [PyData.bulkAll]
                | cons x a ih => intro b; simp only [List.cons_append, PyData.bulkAll, ih b]; omega
              have hh := gqAll_append (gqAll_append gt1 gs7) gd2
              refine ⟨hh.shw, hh.dep, hh.lv, ?_⟩
              rw [e3] at hb1 ⊢
              rw [e3]
              omega
            intro d hd
            simp only [List.mem_cons, List.not_mem_nil, or_false] at hd
            rcases hd with rfl | rfl | rfl | rfl | rfl | rfl | rfl
            · exact (gq_list (gqAll_append ge7 g0)).le (by omega) (by omega)
            · exact (gq_list gd1).le (by omega) (by omega)
            · exact (gq_list (gqAll_append gs7 gd1)).le (by omega) (by omega)
            · exact (gq_tuple ge7).le (by omega) (by omega)
            · exact hod.le (by omega) (by omega)
            · exact (gq_list hcut).le (by omega) (by omega)
            · exact ⟨rfl, by show 1 ≤ _; omega, rfl, Nat.zero_le _⟩
          clear D1 D2 D3 D4 D6 D7 h9 h10 h11 h12 h13 h14 h15 h16 h17 h18 h19 h20 h21 s8x10 s8x11 s8x12 s8x13 s8x14 s8x15 s8x16 s8x17 s8x18 s8x19 s8x20 s9 s10 s11 s12 s13 s14 s15 s16 s17 s18 s19 s20 s21 hB9 hB10 hB11 hB12 hB13 hB14 hB15 hB16 hB17 hB18 hB19 hB20 n_a0 n_a1 n_a2 n_a3 n_a4 n_a5 n_a6 n_a7 n_a8 n_a9 n_b0 n_b1_ n_b2_
          have s722 : Same H7 H22 := (s8.trans s8x21).trans s22
          have har22 := s722 _ _ (mask_same _ _ har7)
          -- other
          have hatl : at_ < ds.length := by omega
          refine ⟨_, rfl, _, rfl, _, rfl, ar, xs, rfl, SqL.of har22, fun c0 n_c0 => ?_⟩
          generalize hEq : upd H22 c0 _ = H23
          have s23 : Same H22 H23 := by
            rw [← hEq]
            exact same_new n_c0
          have h23 : H23 c0 = some (.lst (cutV xs none (some (at_ : Int)))) := by
            rw [← hEq]
            exact upd_same
          clear hEq
          have hB23 := hB22.same s23
          have g_c0 : c0 ≠ g := hB22.ne n_c0
          rw [cutV_take] at h23
          refine ⟨_, rfl, _, rfl, g, l, 7, rfl, hB23, by decide, by decide, fun H24 r7 hr7 hB24 b24 => ?_⟩
          obtain ⟨v7, hv7⟩ : ∃ v, ([.ref a1, .ref a2, .ref a5, .ref a6, vo, .ref b1_, .ref b2_] : List V)[r7]? = some v := ⟨_, List.getElem?_eq_getElem (by show r7 < 7; omega)⟩
          obtain ⟨d7, hd7, hdq7⟩ := hA22.get hv7
          have gd7 := gall d7 (List.mem_of_getElem? hd7)
          have m2124 : Same (mask g H21) (mask g H24) := (mask_sm (s22.trans s23)).trans b24.mask
          refine ⟨b3, _, _, _, rfl, rfl, SqL.of (b24 _ _ g_b3 (s23 _ _ h22)), atI_nat hv7, by show 1 ≤ sizeLine; decide, fun c1 n_c1 => ?_⟩
          generalize hEq : upd H24 c1 _ = H25
          have s25 : Same H24 H25 := by
            rw [← hEq]
            exact same_new n_c1
          have h25 : H25 c1 = some (.lst [v7]) := by
            rw [← hEq]
            exact upd_same
          clear hEq
          have hB25 := hB24.same s25
          have g_c1 : c1 ≠ g := hB24.ne n_c1
          refine ⟨c0, c1, _, _, rfl, rfl, s25 _ _ (b24 _ _ g_c0 h23), h25, szs _ (by show _ + 1 ≤ _; rw [List.length_take]; omega), fun c2 n_c2 => ?_⟩
          generalize hEq : upd H25 c2 _ = H26
          have s26 : Same H25 H26 := by
            rw [← hEq]
            exact same_new n_c2
          have h26 : H26 c2 = some (.lst (xs.take at_ ++ [v7])) := by
            rw [← hEq]
            exact upd_same
          clear hEq
          have hB26 := hB25.same s26
          have g_c2 : c2 ≠ g := hB25.ne n_c2
          have b726 : But g H7 H26 := (((But.of_same s722).trans (.of_same s23)).trans b24).trans (.of_same (s25.trans s26))
          have har26 := b726 _ _ g_ar (mask_same _ _ har7)
          refine ⟨_, rfl, _, rfl, _, _, rfl, rfl, _, rfl, ar, xs, rfl, SqL.of har26, fun c3 n_c3 => ?_⟩
          generalize hEq : upd H26 c3 _ = H27
          have s27 : Same H26 H27 := by
            rw [← hEq]
            exact same_new n_c3
          have h27 : H27 c3 = some (.lst (cutV xs (some ((at_ : Int) + 1)) none)) := by
            rw [← hEq]
            exact upd_same
          clear hEq
          have hB27 := hB26.same s27
          have g_c3 : c3 ≠ g := hB26.ne n_c3
          rw [show (some ((at_ : Int) + 1)) = some ((at_ + 1 : Nat) : Int) from rfl, cutV_drop] at h27
          refine ⟨c2, c3, _, _, rfl, rfl, s27 _ _ h26, h27, szs _ (by rw [List.length_append, List.length_take, List.length_drop]; show _ + 1 + _ ≤ _; omega), fun c4 n_c4 => ?_⟩
          generalize hEq : upd H27 c4 _ = H28
          have s28 : Same H27 H28 := by
            rw [← hEq]
            exact same_new n_c4
          have h28 : H28 c4 = some (.lst (xs.take at_ ++ [v7] ++ xs.drop (at_ + 1))) := by
            rw [← hEq]
            exact upd_same
          clear hEq
          have hB28 := hB27.same s28
          have g_c4 : c4 ≠ g := hB27.ne n_c4
          have b728 : But g H7 H28 := b726.trans (.of_same (s27.trans s28))
          have hxs28 := hxs7.sm b728.mask
          have hdq28 : Dq K (mask g H28) v7 d7 := hdq7.sm (m2124.trans (mask_sm (((s25.trans s26).trans s27).trans s28)))
          have DO : Dq K (mask g H28) (.ref c4) (.list (ds.take at_ ++ [d7] ++ ds.drop (at_ + 1))) := .lst (mask_at h28 g_c4) (((hxs28.take at_).append (.cons hdq28 .nil)).append (hxs28.drop (at_ + 1)))
          -- the six
          refine ⟨_, rfl, _, rfl, _, rfl, _, rfl, by show 0 ≤ sizeLine; decide, fun c5 n_c5 => ?_⟩
          generalize hEq : upd H28 c5 _ = H29
          have s29 : Same H28 H29 := by
            rw [← hEq]
            exact same_new n_c5
          have h29 : H29 c5 = some (.lst []) := by
            rw [← hEq]
            exact upd_same
          clear hEq
          have hB29 := hB28.same s29
          have g_c5 : c5 ≠ g := hB28.ne n_c5
          refine ⟨_, rfl, ar, xs, rfl, .inl ⟨SqL.of (s29 _ _ (b728 _ _ g_ar (mask_same _ _ har7))), fun c6 n_c6 => ?_⟩⟩
          generalize hEq : upd H29 c6 _ = H30
          have s30 : Same H29 H30 := by
            rw [← hEq]
            exact same_new n_c6
          have h30 : H30 c6 = some (.tup xs) := by
            rw [← hEq]
            exact upd_same
          clear hEq
          have hB30 := hB29.same s30
          have g_c6 : c6 ≠ g := hB29.ne n_c6
          refine ⟨_, rfl, by show 6 ≤ sizeLine; decide, fun c7 n_c7 => ?_⟩
          generalize hEq : upd H30 c7 _ = H31
          have s31 : Same H30 H31 := by
            rw [← hEq]
            exact same_new n_c7
          have h31 : H31 c7 = some (.lst [.ref c4, .ref c4, .ref c4, .ref c5, .ref c6, vo]) := by
            rw [← hEq]
            exact upd_same
          clear hEq
          have hB31 := hB30.same s31
          have g_c7 : c7 ≠ g := hB30.ne n_c7
          have m31 := mask_sm (g := g) ((s29.trans s30).trans s31)
          have hA31 : DqAll K (mask g H31) [.ref c4, .ref c4, .ref c4, .ref c5, .ref c6, vo] [.list (ds.take at_ ++ [d7] ++ ds.drop (at_ + 1)), .list (ds.take at_ ++ [d7] ++ ds.drop (at_ + 1)), .list (ds.take at_ ++ [d7] ++ ds.drop (at_ + 1)), .list [], .tuple ds, od] :=
            .cons (DO.sm m31) (.cons (DO.sm m31) (.cons (DO.sm m31) (.cons (.lst (mask_at ((s30.trans s31) _ _ h29) g_c5) .nil) (.cons (.tup (SqT.of (mask_at (s31 _ _ h30) g_c6)) (hxs28.sm m31)) (.cons ((hdo7.sm b728.mask).sm m31) .nil)))))
          refine ⟨_, rfl, g, l, 6, rfl, hB31, by decide, by decide, fun H32 r6 hr6 hB32 b32 => ?_⟩
          obtain ⟨v6, hv6⟩ : ∃ v, ([.ref c4, .ref c4, .ref c4, .ref c5, .ref c6, vo] : List V)[r6]? = some v := ⟨_, List.getElem?_eq_getElem (by show r6 < 6; omega)⟩
          obtain ⟨d6, hd6, hdq6⟩ := (hA31.sm b32.mask).get hv6
          have b532 : But g H5 H32 := (b57.trans b728).trans ((But.of_same ((s29.trans s30).trans s31)).trans b32)
          refine ⟨c7, _, _, _, rfl, rfl, SqL.of (b32 _ _ g_c7 h31), atI_nat hv6, _, rfl, by show 3 ≤ sizeLine; decide, fun q1 n_q1 => ?_⟩
          have h332 := h35.but b532
          have g_q1 : q1 ≠ g := hB32.ne n_q1
          have sN : Same H32 (upd H32 q1 (.tup [x, v6, u])) := same_new n_q1
          have gds := hS.gb.all
          have gds' : GqAll (e + 8) k ds := ⟨gds.shw, Nat.le_trans gds.dep (by omega), gds.lv, gds.bk⟩
          have hoth : GqAll (e + 8) (3 * k + 23) (ds.take at_ ++ [d7] ++ ds.drop (at_ + 1)) := by
            have hsub : GqAll (e + 8) k (ds.take at_ ++ ds.drop (at_ + 1)) := GqAll.sub (by
              have h1 : (ds.take at_ ++ ds.drop (at_ + 1)).Sublist (ds.take at_ ++ ds.drop at_) := List.Sublist.append (List.Sublist.refl _) (by
                rw [show ds.drop (at_ + 1) = (ds.drop at_).drop 1 by rw [List.drop_drop]]
                exact List.drop_sublist _ _)
              rw [List.take_append_drop] at h1
              exact h1) gds'
            have hb1 := hsub.bk
            have gs : GqAll (e + 8) (2 * k + 23) [d7] := gqAll_cons gd7 gqAll_nil
            have hb2 := gs.bk
            have e3 : ∀ a b : List PyData, PyData.bulkAll (a ++ b) = PyData.bulkAll a + PyData.bulkAll b := by
              intro a
              induction a with
              | nil => intro b; simp [PyData.bulkAll]
              | cons x a ih => intro b; simp only [List.cons_append, PyData.bulkAll, ih b]; omega
            have hh := gqAll_append (gqAll_append (GqAll.sub (List.take_sublist at_ ds) gds') gs) (GqAll.sub (List.drop_sublist (at_ + 1) ds) gds')
            refine ⟨hh.shw, hh.dep, hh.lv, ?_⟩
            rw [e3] at hb1 ⊢
            rw [e3]
            omega
          have hd6' : Gq (e + 9) (4 * k) d6 ∧ ∀ es, d6 = .list es → es.length ≤ 12 := by
            have hmem := List.mem_of_getElem? hd6
            simp only [List.mem_cons, List.not_mem_nil, or_false] at hmem
            have o1 : Gq (e + 9) (4 * k) (.list (ds.take at_ ++ [d7] ++ ds.drop (at_ + 1))) ∧ ∀ es, PyData.list (ds.take at_ ++ [d7] ++ ds.drop (at_ + 1)) = .list es → es.length ≤ 12 := ⟨(gq_list hoth).le (by omega) (by omega), fun es e1 => by
              have e2 : ds.take at_ ++ [d7] ++ ds.drop (at_ + 1) = es := by injection e1
              rw [← e2, List.length_append, List.length_append, List.length_take, List.length_drop]
              show _ + 1 + _ ≤ 12
              omega⟩
            rcases hmem with rfl | rfl | rfl | rfl | rfl | rfl
            · exact o1
            · exact o1
            · exact o1
            · exact ⟨⟨rfl, by show 1 ≤ _; omega, rfl, Nat.zero_le _⟩, fun es e1 => by have e2 : [] = es := by injection e1
                                                                                      rw [← e2]; exact Nat.zero_le _⟩
            · exact ⟨(gq_tuple gds').le (by omega) (by omega), fun es e1 => by cases e1⟩
            · exact ⟨hod.le (by omega) (by omega), fun es e1 => by subst e1; exact odd_len hom⟩
          exact q _ q1 x v6 u a d6 c (hB32.same sN) ((b05.trans b532).trans (.of_same sN)) ⟨md_at g_q1, h332.x.sm (mask_sm sN), hdq6.sm (mask_sm sN), h332.u.sm (mask_sm sN)⟩
            ⟨hS.ga.le (by omega) (by omega), hd6'.1, hS.gc.le (by omega) (by omega), hd6'.2, hS.zok⟩
        · exact ⟨rfl, hB6, .of_same s6⟩
      · exact ⟨rfl, hB5, .refl _ _⟩
    · exact ⟨rfl, hB5, .refl _ _⟩
end
end K15

namespace Rg
open PySem PySem.Spec PyProof.Rows L2 Mach
/-- [list(row) for row in rows] -/
theorem lc_copy {K : PySem.W.Frag} {H : Hp} {t D : Addr} {ys : List Addr} {R : List (List Nat)} {i : Nat} {σ : L2.St} {Qd : Hp → Prop} (hi : i < σ.length) (hR : RowsAt H t ys R) (hl : R.length ≤ 4000) (nD : H D = none)
    (q : ∀ (H' : Hp) (ks : List Addr), Same H H' → (∀ y ∈ ks, H y = none ∧ y ≠ D) → ks.Nodup → RowsAt H' D ks R → Qd H') :
    ∃ W : Nat → Nat → Hp → Prop, (∃ m, W 0 m (upd H D (.lst []))) ∧ ∀ j m H, W j m H →
      ((Itl K t).stop j H ∧ Qd H) ∨ ((Itl K t).go j H ∧ ∃ Nx : Hp → Prop, (∀ H', Nx H' → ∃ m', m' < m ∧ W (j + 1) m' H') ∧ ∀ x H', (Itl K t).yld j H x H' → gName i x (wipe σ [i]) H' fun σ2 H2 => wipe σ2 [i] = wipe σ [i] ∧ tYes σ2 H2 fun b H3 =>
        if b = true then tCB (fun xs H Q => ∃ p ys, xs = [V.ref p] ∧ (SqL K H p ys ∨ SqT K H p ys) ∧ ∀ l, H l = none → Q (.ref l) (upd H l (.lst ys))) (tCons (tVar i) tNil) σ2 H3 fun y H4 => ∃ acc, H4 D = some (.lst acc) ∧ acc.length < sizeLine ∧ Nx (upd H4 D (.lst (acc ++ [y]))) else Nx H3) := by
  have hyl := hR.len
  refine lc_list (K := K) (a := t) (xs := ys.map V.ref) (fun i H7 => Same H H7 ∧ ∃ ks : List Addr, ks.length = i ∧ H7 D = some (.lst (ks.map V.ref)) ∧ (∀ y ∈ ks, H y = none ∧ y ≠ D) ∧ ks.Nodup ∧ ∀ (j : Nat) (y : Addr), ks[j]? = some y → H7 y = some (.lst (nVs (rowOf R j))))
    ⟨same_new nD, [], rfl, by rw [upd_same]; rfl, fun y hy => (nomatch hy), List.nodup_nil, fun j y hy => by simp at hy⟩ (fun i H7 _ ⟨s7, _⟩ => SqL.of (s7 _ _ hR.at_)) ?_ ?_
  · rintro j v H7 hj ⟨s7, ks, kl, hD1, kn, knd, hrow⟩
    rw [List.getElem?_map] at hj
    obtain ⟨x, hx, rfl⟩ := Option.map_eq_some_iff.mp hj
    have hx7 := s7 _ _ (hR.row j x hx)
    have hil := (List.getElem?_eq_some_iff.mp hx).1
    show _ ∧ _
    refine ⟨?_, ?_⟩
    · show ((σ.set i none).set i (some (V.ref x))).set i none = σ.set i none
      rw [List.set_set, List.set_set]
    refine ⟨.ref x, ?_, x, _, rfl, .inl (SqL.of hx7), fun y ny => ?_⟩
    · show ((σ.set i none).set i (some (V.ref x)))[i]? = some (some (V.ref x))
      rw [List.getElem?_set_self (by rw [List.length_set]; exact hi)]
    have nyD : y ≠ D := (ne_of_none hD1 ny).symm
    have nyk : y ∉ ks := fun hy => by
      obtain ⟨j, hj, e⟩ := List.mem_iff_getElem.mp hy
      have := hrow j y (by rw [List.getElem?_eq_getElem hj, e])
      rw [this] at ny
      cases ny
    refine ⟨_, by rw [upd_ne nyD.symm]; exact hD1, by rw [List.length_map]; exact szBig (by omega), ?_, ks ++ [y], by rw [List.length_append, List.length_singleton, kl], ?_, ?_, ?_, ?_⟩
    · intro b' o eb
      rw [upd_ne (ne_of_none eb nD), upd_ne (ne_of_none (s7 _ _ eb) ny)]
      exact s7 _ _ eb
    · rw [upd_same, List.map_append]
      rfl
    · intro y' hy'
      rcases List.mem_append.mp hy' with z | z
      · exact kn y' z
      · rw [List.mem_singleton] at z
        rw [z]
        exact ⟨s7.free ny, nyD⟩
    · rw [List.nodup_append]
      refine ⟨knd, by simp, fun a ha b hb e => ?_⟩
      rw [List.mem_singleton] at hb
      rw [hb] at e
      rw [e] at ha
      exact nyk ha
    · intro j y' hy'
      by_cases hj : j < ks.length
      · rw [List.getElem?_append_left hj] at hy'
        have h1 := hrow j y' hy'
        rw [upd_ne (kn y' (List.mem_of_getElem? hy')).2, upd_ne (ne_of_none h1 ny)]
        exact h1
      · have hj2 : j = ks.length := by
          have := (List.getElem?_eq_some_iff.mp hy').1
          rw [List.length_append, List.length_singleton] at this
          omega
        rw [hj2, List.getElem?_concat_length] at hy'
        cases hy'
        rw [upd_ne nyD, upd_same, hj2, kl]
  · rintro H7 ⟨s7, ks, kl, hD1, kn, knd, hrow⟩
    rw [List.length_map] at kl
    exact q H7 ks s7 kn knd ⟨hD1, by omega, hrow⟩
theorem cutV_one (xs : List V) : cutV xs (some 1) none = xs.drop 1 := by
  unfold cutV
  rw [HT.sIx_none, show (some (1 : Int)) = some ((1 : Nat) : Int) from rfl, HT.sIx_nat]
  cases xs with
  | nil => rfl
  | cons x xs =>
    rw [Nat.min_eq_left (by rw [List.length_cons]; omega)]
    apply List.take_of_length_le
    rw [List.length_drop]
    exact Nat.le_refl _
theorem cutV_nVs (ns : List Nat) (lo hi : Option Int) : ∃ zs : List Nat, cutV (nVs ns) lo hi = nVs zs ∧ (∀ z ∈ zs, z ∈ ns) ∧ zs.length ≤ ns.length := by
  unfold cutV nVs
  rw [← List.map_drop, ← List.map_take]
  refine ⟨_, rfl, fun z hz => ?_, ?_⟩
  · exact List.mem_of_mem_drop (List.mem_of_mem_take hz)
  · rw [List.length_take, List.length_drop]
    omega
/-- rows without the first -/
theorem rows_tail {H : Hp} {c : Addr} {x0 : Addr} {xs : List Addr} {R : List (List Nat)} (hc : H c = some (.lst (xs.map V.ref))) (hl : xs.length + 1 = R.length) (h : ∀ (j : Nat) (y : Addr), xs[j]? = some y → H y = some (.lst (nVs (rowOf R (j + 1))))) : RowsAt H c xs (R.drop 1) := by
  refine ⟨hc, by rw [List.length_drop]; omega, fun j y hy => ?_⟩
  have e : rowOf (R.drop 1) j = rowOf R (j + 1) := by
    unfold rowOf
    rw [List.getD_eq_getElem?_getD, List.getD_eq_getElem?_getD, List.getElem?_drop, Nat.add_comm]
  rw [e]
  exact h j y hy
theorem rows_head {H : Hp} {a : Addr} {xs : List Addr} {R : List (List Nat)} (h : RowsAt H a xs R) (h0 : 0 < R.length) : ∃ x0 xs', xs = x0 :: xs' := by
  cases xs with
  | nil =>
    have := h.len
    rw [← this] at h0
    cases h0
  | cons x0 xs' => exact ⟨x0, xs', rfl⟩
end Rg

/-! dicts with tuple keys made of pairs and put into one another; the keys of a dict just made, walked -/
namespace Rg
open PySem PySem.Spec PyProof.Rows L2 Mach
section
variable {X : Cx} {tg e : Expr} {td : TE}
/-- for k in e, e a dict that nobody changes from here on -/
theorem pi_keysNew (he : PE X e td) : PI X tg e (fun σ H R => td σ H fun x H1 => ∃ (d : Addr) (kvs : List (Key × V)), x = .ref d ∧ H1 d = some (.dK kvs) ∧ ∀ o, R (Itk d o kvs) (upd H1 d (.frz o (.dK kvs)))) := by
  refine ⟨?_⟩
  intro pins s σ H R I h
  refine thn (he.run pins s σ H _ I h) ?_
  rintro u s1 ⟨x, H1, I1, rx, d, kvs, ex, hd, q⟩
  subst ex
  obtain rfl : u = Value.ref d := rx
  obtain ⟨od, I2⟩ := I1.lock hd True.intro
  obtain ⟨hs, hgd, hx, es, ep, vs, hdt, hsz, kv, hm⟩ := I2.frzK (upd_same)
  refine iter_keys hs hgd hx hdt (pi_one (tk := s1.toks) I2 _ (turn_keys _ hdt) ⟨_, Heap.get?_push_size _ rfl, rfl, ?_⟩ (q od))
  rw [hsz]
  rfl
end
/-- a comprehension over such keys -/
theorem lc_keys {d : Addr} {o : Obj} {kvs : List (Key × V)} {g : TG} {tt : TT} {te : TE} {vs : List Nat} {σ : L2.St} {H1 : Hp} {D : Addr} {Qd : Hp → Prop} (Pv : Nat → Hp → Prop) (h0 : Pv 0 (upd H1 D (.lst [])))
    (hl : ∀ i H, i ≤ kvs.length → Pv i H → H d = some (.frz o (.dK kvs)))
    (hs : ∀ i k v H, kvs[i]? = some (k, v) → Pv i H → g (kV k) (wipe σ vs) H fun σ2 H2 => wipe σ2 vs = wipe σ vs ∧ tt σ2 H2 fun b H3 =>
      if b = true then te σ2 H3 fun y H4 => ∃ acc, H4 D = some (.lst acc) ∧ acc.length < sizeLine ∧ Pv (i + 1) (upd H4 D (.lst (acc ++ [y]))) else Pv (i + 1) H3) (hd : ∀ H, Pv kvs.length H → Qd H) :
    ∃ W : Nat → Nat → Hp → Prop, (∃ m, W 0 m (upd H1 D (.lst []))) ∧ ∀ i m H, W i m H →
      ((Itk d o kvs).stop i H ∧ Qd H) ∨ ((Itk d o kvs).go i H ∧ ∃ Nx : Hp → Prop, (∀ H', Nx H' → ∃ m', m' < m ∧ W (i + 1) m' H') ∧ ∀ x H', (Itk d o kvs).yld i H x H' → g x (wipe σ vs) H' fun σ2 H2 => wipe σ2 vs = wipe σ vs ∧ tt σ2 H2 fun b H3 =>
        if b = true then te σ2 H3 fun y H4 => ∃ acc, H4 D = some (.lst acc) ∧ acc.length < sizeLine ∧ Nx (upd H4 D (.lst (acc ++ [y]))) else Nx H3) := by
  refine ⟨fun i m H => m = kvs.length - i ∧ i ≤ kvs.length ∧ Pv i H, ⟨_, rfl, Nat.zero_le _, h0⟩, ?_⟩
  rintro i m H ⟨rfl, hi, p⟩
  have q := hl i H hi p
  by_cases hlt : i < kvs.length
  · right
    refine ⟨⟨q, hlt⟩, Pv (i + 1), fun H' z => ⟨kvs.length - (i + 1), by omega, rfl, by omega, z⟩, ?_⟩
    rintro x H' ⟨rfl, k, v, e, rfl⟩
    exact hs i k v _ e p
  · left
    have e : i = kvs.length := by omega
    subst e
    exact ⟨⟨q, Nat.le_refl _⟩, hd H p⟩

def mergeT (kvs more : List (List Key × V)) : List (List Key × V) := more.foldl (fun acc kv => putK acc kv.1 kv.2) kvs
theorem mergeT_len : ∀ (more kvs : List (List Key × V)), (mergeT kvs more).length ≤ kvs.length + more.length
  | [], kvs => Nat.le_refl _
  | p :: more, kvs => by
    have h1 := mergeT_len more (putK kvs p.1 p.2)
    have h2 := length_putK kvs p.1 p.2
    show (mergeT (putK kvs p.1 p.2) more).length ≤ kvs.length + (more.length + 1)
    omega
theorem KT.merge {H : Hp} : ∀ {more : List (List Key × V)} {ps : List (List Key × Addr × Value)} {kvs : List (List Key × V)} {xs : List (List Key × Addr × Value)}, KT H more ps → KT H kvs xs → KT H (mergeT kvs more) (storedAllH xs ps) := by
  intro more ps kvs xs r
  induction r generalizing kvs xs with
  | nil => exact fun z => z
  | @cons p q mo qs h t ih =>
    intro z
    obtain ⟨h1, h2, h3⟩ := h
    show KT H (mergeT (putK kvs p.1 p.2) mo) (storedAllH (storedH xs q.1 q.2.1 q.2.2) qs)
    refine ih ?_
    rw [← h1]
    exact KT.put z p.1 h2 h3
section
variable {X : Cx}
/-- the pairs of a list: at each address a tuple of the key's tuple and the value -/
abbrev PairsT (H : Hp) (ps : List Addr) (qs : List (List Key × Addr × V)) : Prop := Paired (fun (p : Addr) (q : List Key × Addr × V) => H p = some (.tup [.ref q.2.1, q.2.2]) ∧ H q.2.1 = some (.tup (q.1.map kV))) ps qs
theorem pairsT_of {pins : List (Addr × Obj)} {σ : L2.St} {H : Hp} {s : Shared} (I : Inv X pins σ H s) : ∀ {ps : List Addr} {qs : List (List Key × Addr × V)}, PairsT H ps qs →
    ∃ prs : List (List Key × Addr × Value), KT H (qs.map fun q => (q.1, q.2.2)) prs ∧ prs.length = ps.length ∧ ∀ (j : Nat) (p : Addr), ps[j]? = some p → ∃ q, prs[j]? = some q ∧ s.heap.IsTuple p #[.ref q.2.1, q.2.2]
  | _, _, .nil => ⟨[], .nil, rfl, fun j p e => by simp at e⟩
  | _, _, .cons (a := p) (b := q) h t => by
    obtain ⟨prs, r, hl, hp⟩ := pairsT_of I t
    obtain ⟨h1, h2⟩ := h
    obtain ⟨_, its, rv, o, a1, a2, n, a3⟩ := (show ObjOk X.prog X.w H s.heap p _ from I.hok p _ h1)
    cases rv with
    | cons x1 rv =>
      cases rv with
      | @cons _ u2 _ _ x2 rv =>
        cases rv
        obtain rfl := (show _ = Value.ref q.2.1 from x1)
        refine ⟨(q.1, q.2.1, u2) :: prs, .cons ⟨rfl, h2, x2⟩ r, by rw [List.length_cons, List.length_cons, hl], fun j p' e => ?_⟩
        cases j with
        | zero =>
          have e' : p = p' := Option.some.inj e
          subst e'
          exact ⟨_, rfl, ⟨o, a1, a2, n, a3⟩⟩
        | succ j =>
          obtain ⟨q', e1, e2⟩ := hp j p' (by simpa using e)
          exact ⟨q', by simpa using e1, e2⟩
/-- dict(xs) of a list of pairs whose keys are tuples -/
theorem call_dictT (hcalm : X.calm = true) (hu : X.A.units + 64 < cLine) : CallR X (.type "dict") (fun xs H Q => ∃ (a : Addr) (ps : List Addr) (qs : List (List Key × Addr × V)), xs = [.ref a] ∧ H a = some (.lst (ps.map V.ref)) ∧ PairsT H ps qs ∧
    ∀ p, H p = none → Q (.ref p) (upd H p (.dT (mergeT [] (qs.map fun q => (q.1, q.2.2)))))) := by
  intro pins s σ H xs us Q I r q
  obtain ⟨a, ps, qs, rfl, ha, hp, q⟩ := q
  obtain ⟨u, rfl, rx⟩ := vals1 r
  cases rx
  obtain ⟨hz, its, n, rv, hobj⟩ := (show ObjOk X.prog X.w H s.heap a _ from I.hok a _ ha)
  have ei := refs_at rv
  subst ei
  rw [List.length_map] at hz
  obtain ⟨prs, rel, hl, hpr⟩ := pairsT_of I hp
  have hitem : PairItems s.heap (ps.map Value.ref).toArray (fun j => ps.getD j 0) (prs.map fun q => (Value.ref q.2.1, q.2.2)) := by
    refine ⟨by simp [hl], fun j k v e => ?_⟩
    rw [List.getElem?_map] at e
    obtain ⟨q0, e0, e1⟩ := Option.map_eq_some_iff.mp e
    have hj : j < ps.length := by
      have := (List.getElem?_eq_some_iff.mp e0).1
      omega
    obtain ⟨q1, e2, e3⟩ := hpr j ps[j] (List.getElem?_eq_getElem hj)
    rw [e0] at e2
    have eq01 : q0 = q1 := Option.some.inj e2
    have hgd : ps.getD j 0 = ps[j] := by
      rw [List.getD_eq_getElem?_getD, List.getElem?_eq_getElem hj]
      rfl
    refine ⟨?_, ?_⟩
    · show (List.map Value.ref ps).toArray[j]? = some (Value.ref (ps.getD j 0))
      rw [hgd]
      simp [hj]
    · show PairAt s.heap (ps.getD j 0) k v
      rw [hgd]
      left
      rw [← eq01] at e3
      have h1 := (Prod.mk.inj e1).1
      have h2 := (Prod.mk.inj e1).2
      rw [← h1, ← h2]
      exact e3
  have hkeys : ∀ x ∈ prs, H x.2.1 = some (.tup (x.1.map kV)) := by
    have gen : ∀ {l : List (List Key × V)} {m : List (List Key × Addr × Value)}, KT H l m → ∀ x ∈ m, H x.2.1 = some (.tup (x.1.map kV)) := by
      intro l m z
      induction z with
      | nil => intro x hx; cases hx
      | @cons p q lo mo h t ih =>
        intro x hx
        rcases List.mem_cons.mp hx with e | hx
        · rw [e, ← h.1]
          exact h.2.1
        · exact ih x hx
    exact gen rel
  refine call_dict_pairsH (knd := tupleKind (mixKind X.prog X.w)) (ps := prs) (PairArg.list a _ (fun j => ps.getD j 0) (prs.map fun q => (Value.ref q.2.1, q.2.2))) (I.ok.hd hcalm) (by show X.A.units + 1 + 1 < cLine; omega)
    ⟨⟨_, n, hobj, rfl, rfl, rfl⟩, hitem⟩ ⟨by rw [List.length_map], fun i key v e => ?_⟩ (fun h' hk x hx => ?_) (by rw [List.length_map, hl]; exact hz) ?_
  · have e : (prs.map fun q => (Value.ref q.2.1, q.2.2))[i]? = some (key, v) := e
    rw [List.getElem?_map] at e
    obtain ⟨q0, e0, e1⟩ := Option.map_eq_some_iff.mp e
    have h1 := (Prod.mk.inj e1).1
    have h2 := (Prod.mk.inj e1).2
    exact ⟨q0.1, q0.2.1, by rw [e0, ← h2], h1.symm⟩
  · have hk1 := key_of I.hok (hkeys x hx)
    obtain ⟨o, items, m, ho, hc, hd, hi⟩ := hk1
    exact ⟨o, items, m, hk _ _ (Nat.ne_of_lt (Heap.lt_size ho)) (fun z => nomatch z) ho, hc, hd, hi⟩
  · intro h' tk hd' hk
    have hm : (s.heap.objs.size == sysModules) = false := beq_eq_false_iff_ne.mpr (Nat.ne_of_gt I.big)
    have nf := I.hok.fresh (Nat.le_refl _)
    refine ⟨.ref s.heap.objs.size, upd H s.heap.objs.size (.dT (mergeT [] (qs.map fun q => (q.1, q.2.2)))), I.laid (t' := tk) (fun b o e => hk b o (fun z => nomatch z) e) (Nat.le_refl _) ?_, rfl, q _ nf⟩
    obtain ⟨o, es, ep, g1, g2, g3, g4, _, g5⟩ := hd'
    refine ⟨?_, hm, _, (KT.merge rel .nil).keeps (fun b ys z => ?_), o, es, ep, g1, g2, g3, g4, g5⟩
    · refine Nat.le_trans (mergeT_len _ _) ?_
      rw [List.length_nil, Nat.zero_add, Paired.length rel, hl]
      exact hz
    · rw [upd_ne (ne_of_none z nf)]
      exact z
/-- d.update(e), both with tuple keys -/
theorem mt_updateT (hu : X.A.units + 64 < cLine) : MtR X "dict.update" (fun x xs H Q => ∃ (d o : Addr) (kvs more : List (List Key × V)), x = .ref d ∧ xs = [.ref o] ∧ H d = some (.dT kvs) ∧ H o = some (.dT more) ∧ d ≠ o ∧
    (kvs ≠ [] ∨ (more.map fun p => (tupleKind (mixKind X.prog X.w)).hash p.1).Nodup) ∧ kvs.length + more.length ≤ sizeLine ∧ Q .non (upd H d (.dT (mergeT kvs more)))) := by
  intro pins s σ H x xs v us Q I rx rs q
  obtain ⟨d, o, kvs, more, rfl, rfl, hd, ho, hne, hap, hz, q⟩ := q
  cases rx
  obtain ⟨u, rfl, ru⟩ := vals1 rs
  cases ru
  obtain ⟨z1, y1, xs1, rel1, dd1⟩ := dt_of I.hok hd
  obtain ⟨z2, y2, xs2, rel2, dd2⟩ := dt_of I.hok ho
  have l1 : kvs.length = xs1.length := Paired.length rel1
  have l2 : more.length = xs2.length := Paired.length rel2
  have ek : ∀ {l : List (List Key × V)} {m : List (List Key × Addr × Value)}, KT H l m → (l.map fun p => (tupleKind (mixKind X.prog X.w)).hash p.1) = (m.map fun p => (tupleKind (mixKind X.prog X.w)).hash p.1) := by
    intro l m z
    induction z with
    | nil => rfl
    | @cons p q lo mo h t ih =>
      rw [List.map_cons, List.map_cons, ih, h.1]
  have hty : ∀ x ∈ xs2, s.TypeIs (.ref x.2.1) "tuple" := by
    obtain ⟨_, _, _, _, _, _, _, his, _⟩ := id dd2
    exact fun x hx => tupleKind_stays.tuple (his x hx)
  refine call_update_dictH (knd := tupleKind (mixKind X.prog X.w)) (by show X.A.units + 1 < cLine; omega) hne y2 dd1 dd2 ?_ (by omega) ?_
  · rcases hap with z | z
    · left
      intro e
      apply z
      rw [e] at rel1
      cases rel1
      rfl
    · right
      rw [ek rel2] at z
      exact ⟨hty, z⟩
  · intro h' hd' ho' hs
    obtain ⟨ob, es, ep, g1, g2, g3, g4, _, g5⟩ := hd'
    refine ⟨.non, upd H d (.dT (mergeT kvs more)), d_write I (by rw [hd]; exact True.intro) hs ⟨ob, g1⟩ ⟨?_, y1, _, (KT.merge rel2 rel1).keeps (fun b ys z => ?_), ob, es, ep, g1, g2, g3, g4, g5⟩, rfl, q⟩
    · exact Nat.le_trans (mergeT_len _ _) hz
    · rw [upd_ne (ne_of z hd (fun y => by cases y))]
      exact z
end
end Rg

namespace Rg
open PySem PySem.Spec PyProof.Rows L2 Mach
def hs2 (p q : Nat) : Int := reduceHash (Builtin.Tuple.tupleHashOf [hashInt (p : Int), hashInt (q : Int)])
theorem hs2_eq (P : Program) (w : World) (p q : Nat) : (tupleKind (mixKind P w)).hash [kN p, kN q] = hs2 p q := rfl
def hsInj (n : Nat) : Bool := (List.range n).all fun p => (List.range n).all fun a => (List.range n).all fun b => decide (a = b) || !decide (hs2 p a = hs2 p b)
theorem hs_ok : hsInj 16 = true := by decide +kernel
theorem hs_inj {p a b : Nat} (hp : p < 16) (ha : a < 16) (hb : b < 16) (h : hs2 p a = hs2 p b) : a = b := by
  have h0 := hs_ok
  generalize hf : hs2 = f at h h0
  unfold hsInj at h0
  rw [hf] at h0
  have h1 := List.all_eq_true.mp (List.all_eq_true.mp (List.all_eq_true.mp h0 p (List.mem_range.mpr hp)) a (List.mem_range.mpr ha)) b (List.mem_range.mpr hb)
  rw [Bool.or_eq_true] at h1
  rcases h1 with z | z
  · exact of_decide_eq_true z
  · rw [decide_eq_true h] at z
    cases z
theorem hs_list (P : Program) (w : World) (p : Nat) : ∀ M : List Nat, (M.map fun q => (tupleKind (mixKind P w)).hash [kN p, kN q]) = M.map fun q => hs2 p q
  | [] => rfl
  | a :: M => by
    rw [List.map_cons, List.map_cons, hs_list P w p M, hs2_eq]
theorem hs_nodup {p : Nat} (hp : p < 16) : ∀ (M : List Nat), M.Nodup → (∀ q ∈ M, q < 16) → (M.map fun q => hs2 p q).Nodup
  | [], _, _ => List.nodup_nil
  | a :: M, hn, hM => by
    rw [List.nodup_cons] at hn
    rw [List.map_cons, List.nodup_cons]
    refine ⟨fun z => ?_, hs_nodup hp M hn.2 fun q hq => hM q (List.mem_cons_of_mem _ hq)⟩
    obtain ⟨b, hb, eb⟩ := List.mem_map.mp z
    have := hs_inj hp (hM b (List.mem_cons_of_mem _ hb)) (hM a List.mem_cons_self) eb
    exact hn.1 (by rw [← this]; exact hb)
end Rg

namespace Mach
/-! ### pushing by filtering -/
section
variable {α : Type} [DecidableEq α]
theorem pushAll_filter (L X : List α) : pushAll L X = L ++ (D X).filter (fun x => decide (x ∉ L)) := by
  rw [← pushAll_D]
  have gen : ∀ (Y L M : List α), Y.Nodup → (∀ y ∈ Y, y ∉ M) → pushAll (L ++ M) Y = L ++ M ++ Y.filter (fun x => decide (x ∉ L)) := by
    intro Y
    induction Y with
    | nil => intro L M _ _; simp [pushAll_nil]
    | cons y Y ih =>
      intro L M hn hM
      rw [List.nodup_cons] at hn
      rw [pushAll_cons]
      by_cases h : y ∈ L
      · rw [push_mem (List.mem_append_left _ h), ih L M hn.2 (fun z hz => hM z (List.mem_cons_of_mem _ hz)), List.filter_cons_of_neg (by simpa using h)]
      · have h' : y ∉ L ++ M := by
          intro z
          rcases List.mem_append.mp z with z | z
          · exact h z
          · exact hM y List.mem_cons_self z
        rw [push_new h', List.append_assoc, ih L (M ++ [y]) hn.2 ?_, List.filter_cons_of_pos (by simpa using h)]
        · simp
        · intro z hz hm
          rcases List.mem_append.mp hm with q | q
          · exact hM z (List.mem_cons_of_mem _ hz) q
          · rw [List.mem_singleton] at q
            rw [q] at hz
            exact hn.1 hz
  have := gen (D X) L [] (D_nodup X) (fun _ _ z => nomatch z)
  simpa using this
end
/-! ### pairs told apart, pass by pass -/
section
variable {n : Nat} {R : List (List Nat)} {E L : List Nat} {b : Nat}
structure Apart (n : Nat) (R : List (List Nat)) (E L : List Nat) (A : List (Nat × Nat)) : Prop where
  nd : A.Nodup
  mem : ∀ p ∈ A, p.1 ∈ L ∧ p.2 ∈ L
  no : ∀ p ∈ A, ¬ Alk n R E p.1 R E p.2
  ini : ∀ p ∈ L, ∀ q ∈ L, ¬ (p ∈ E ↔ q ∈ E) → (p, q) ∈ A
def prodL (L : List Nat) : List (Nat × Nat) := L.flatMap fun p => L.map fun q => (p, q)
theorem prodL_len (L : List Nat) : (prodL L).length = L.length * L.length := by
  have gen : ∀ (M : List Nat), (M.flatMap fun p => L.map fun q => (p, q)).length = M.length * L.length := by
    intro M
    induction M with
    | nil => simp
    | cons a M ih =>
      rw [List.flatMap_cons, List.length_append, ih, List.length_map, List.length_cons, Nat.add_mul, Nat.one_mul, Nat.add_comm]
  exact gen L
theorem Apart.len {A : List (Nat × Nat)} (h : Apart n R E L A) : A.length ≤ L.length * L.length := by
  rw [← prodL_len]
  refine length_le_of_sub h.nd fun p hp => ?_
  obtain ⟨h1, h2⟩ := h.mem p hp
  exact List.mem_flatMap.mpr ⟨p.1, h1, List.mem_map.mpr ⟨p.2, h2, rfl⟩⟩
def Cl (n : Nat) (R : List (List Nat)) (A : List (Nat × Nat)) (p q : Nat) : Prop := (p, q) ∉ A → ∀ k, k < n → (dl R p k, dl R q k) ∉ A
structure Pass (n : Nat) (R : List (List Nat)) (E L : List Nat) (A0 A : List (Nat × Nat)) (g : Bool) (don : Nat → Nat → Prop) : Prop where
  ap : Apart n R E L A
  f : g = false → A = A0 ∧ ∀ p q, don p q → Cl n R A p q
  t : g = true → A0.length < A.length
  le : A0.length ≤ A.length
theorem pass_start {A : List (Nat × Nat)} (h : Apart n R E L A) : Pass n R E L A A false (fun _ _ => False) :=
  ⟨h, fun _ => ⟨rfl, fun _ _ z => z.elim⟩, (fun z => nomatch z), Nat.le_refl _⟩
theorem pass_new (hM : Mok n R) (hB : Bfs n R b L) {A0 A : List (Nat × Nat)} {g : Bool} {don don' : Nat → Nat → Prop} (h : Pass n R E L A0 A g don) {p q k : Nat} (hp : p ∈ L) (hq : q ∈ L) (hk : k < n) (hn : (p, q) ∉ A) (hy : (dl R p k, dl R q k) ∈ A) :
    Pass n R E L A0 (A ++ [(p, q)]) true don' := by
  have hle := h.le
  refine ⟨⟨?_, ?_, ?_, ?_⟩, (fun z => nomatch z), fun _ => ?_, ?_⟩
  · have := push_nodup (s := (p, q)) h.ap.nd
    rwa [push_new hn] at this
  · intro x hx
    rcases List.mem_append.mp hx with z | z
    · exact h.ap.mem x z
    · rw [List.mem_singleton] at z
      rw [z]
      exact ⟨hp, hq⟩
  · intro x hx
    rcases List.mem_append.mp hx with z | z
    · exact h.ap.no x z
    · rw [List.mem_singleton] at z
      rw [z]
      exact apart_step hM hB hp hq hk (h.ap.no _ hy)
  · intro x hx y hy' hne
    exact List.mem_append_left _ (h.ap.ini x hx y hy' hne)
  · rw [List.length_append, List.length_singleton]
    omega
  · rw [List.length_append, List.length_singleton]
    omega
theorem pass_old {A0 A : List (Nat × Nat)} {g : Bool} {don don' : Nat → Nat → Prop} (h : Pass n R E L A0 A g don) (hd : ∀ p q, don' p q → don p q ∨ Cl n R A p q) : Pass n R E L A0 A g don' :=
  ⟨h.ap, fun z => ⟨(h.f z).1, fun p q e => (hd p q e).elim ((h.f z).2 p q) id⟩, h.t, h.le⟩
theorem pass_end (hM : Mok n R) (hB : Bfs n R b L) {A : List (Nat × Nat)} (h : Apart n R E L A) (hc : ∀ p ∈ L, ∀ q ∈ L, Cl n R A p q) : ∀ p ∈ L, ∀ q ∈ L, (p, q) ∉ A ↔ Alk n R E p R E q :=
  table_done (A := fun p q => (p, q) ∈ A) hM hB (fun p _ q _ z => h.no (p, q) z) h.ini (fun p hp q hq z => hc p hp q hq z)
end
/-! ### numbers by classes: the law's way -/
structure Num (A : Nat → Nat → Prop) (P F : List Nat) (num : Nat → Nat) : Prop where
  sub : ∀ s ∈ F, s ∈ P
  fn : F.map num = List.range F.length
  d : D (P.map num) = List.range F.length
  iff : ∀ s ∈ P, ∀ t ∈ P, num s = num t ↔ A s t
def put (num : Nat → Nat) (t v : Nat) : Nat → Nat := fun s => if s = t then v else num s
theorem put_same (num : Nat → Nat) (t v : Nat) : put num t v t = v := if_pos rfl
theorem put_ne {num : Nat → Nat} {t v s : Nat} (h : s ≠ t) : put num t v s = num s := if_neg h
section
variable {A : Nat → Nat → Prop} {P F : List Nat} {num : Nat → Nat} {t : Nat}
theorem Num.lt (h : Num A P F num) {s : Nat} (hs : s ∈ P) : num s < F.length := by
  have : num s ∈ D (P.map num) := mem_D.mpr (List.mem_map_of_mem hs)
  rw [h.d] at this
  exact List.mem_range.mp this
theorem Num.at (h : Num A P F num) {i : Nat} (hi : i < F.length) : num F[i] = i := by
  have := congrArg (fun l => l[i]?) h.fn
  simp only [List.getElem?_map] at this
  rw [List.getElem?_eq_getElem hi, List.getElem?_range hi] at this
  simpa using this
theorem map_put {num : Nat → Nat} {t v : Nat} : ∀ {P : List Nat}, t ∉ P → P.map (put num t v) = P.map num := by
  intro P h
  apply List.map_congr_left
  intro s hs
  exact put_ne fun e => h (by rw [← e]; exact hs)
theorem num_start (A : Nat → Nat → Prop) (num : Nat → Nat) : Num A [] [] num := ⟨(fun _ z => nomatch z), rfl, rfl, (fun _ z => nomatch z)⟩
theorem num_old (h : Num A P F num) (ht : t ∉ P) (rf : A t t) (sy : ∀ s ∈ P, A s t → A t s) (sy' : ∀ s ∈ P, A t s → A s t) (tr : ∀ s ∈ P, ∀ u ∈ P, A s u → A u t → A s t) (tr' : ∀ s ∈ P, ∀ u ∈ P, A s t → A t u → A s u) {k : Nat} (hk : k < F.length) (hA : A F[k] t) :
    Num A (P ++ [t]) F (put num t k) := by
  have hFk : F[k] ∈ P := h.sub _ (List.getElem_mem hk)
  have key : ∀ s ∈ P, num s = k ↔ A s t := by
    intro s hs
    constructor
    · intro e
      have : num s = num F[k] := by rw [h.at hk, e]
      exact tr s hs F[k] hFk ((h.iff s hs _ hFk).mp this) hA
    · intro e
      have := (h.iff s hs _ hFk).mpr (tr' s hs F[k] hFk e (sy _ hFk hA))
      rw [this, h.at hk]
  refine ⟨fun s hs => List.mem_append_left _ (h.sub s hs), ?_, ?_, ?_⟩
  · rw [map_put (fun z => ht (h.sub t z)), h.fn]
  · rw [List.map_append, map_put ht, D_append, h.d]
    show push (List.range F.length) (put num t k t) = _
    rw [put_same, push_mem (List.mem_range.mpr hk)]
  · intro s hs u hu
    rcases List.mem_append.mp hs with hs | hs
    · have hsn : s ≠ t := fun e => ht (by rw [← e]; exact hs)
      rcases List.mem_append.mp hu with hu | hu
      · have hun : u ≠ t := fun e => ht (by rw [← e]; exact hu)
        rw [put_ne hsn, put_ne hun]
        exact h.iff s hs u hu
      · rw [List.mem_singleton] at hu
        rw [hu, put_ne hsn, put_same]
        exact key s hs
    · rw [List.mem_singleton] at hs
      rw [hs]
      rcases List.mem_append.mp hu with hu | hu
      · have hun : u ≠ t := fun e => ht (by rw [← e]; exact hu)
        rw [put_ne hun, put_same]
        exact ⟨fun e => sy u hu ((key u hu).mp e.symm), fun e => ((key u hu).mpr (sy' u hu e)).symm⟩
      · rw [List.mem_singleton] at hu
        rw [hu]
        exact ⟨fun _ => rf, fun _ => rfl⟩
theorem num_new (h : Num A P F num) (ht : t ∉ P) (rf : A t t) (sy' : ∀ s ∈ P, A t s → A s t) (sP : ∀ s ∈ P, ∀ u ∈ P, A s u → A u s) (tr : ∀ s ∈ P, ∀ u ∈ P, A s u → A u t → A s t) (hno : ∀ k (hk : k < F.length), ¬ A F[k] t) :
    Num A (P ++ [t]) (F ++ [t]) (put num t F.length) := by
  have key : ∀ s ∈ P, ¬ A s t := by
    intro s hs e
    have hk := h.lt hs
    have hFk : F[num s] ∈ P := h.sub _ (List.getElem_mem hk)
    have e1 : A s F[num s] := (h.iff s hs _ hFk).mp (h.at hk).symm
    exact hno _ hk (tr _ hFk s hs (sP _ hs _ hFk e1) e)
  refine ⟨?_, ?_, ?_, ?_⟩
  · intro s hs
    rcases List.mem_append.mp hs with hs | hs
    · exact List.mem_append_left _ (h.sub s hs)
    · exact List.mem_append_right _ hs
  · rw [List.map_append, map_put (fun z => ht (h.sub t z)), h.fn, List.length_append, List.length_singleton, List.range_succ]
    show _ ++ [put num t F.length t] = _
    rw [put_same]
  · rw [List.map_append, map_put ht, D_append, h.d, List.length_append, List.length_singleton, List.range_succ]
    show push (List.range F.length) (put num t F.length t) = _
    rw [put_same, push_new (by simp)]
  · intro s hs u hu
    rcases List.mem_append.mp hs with hs | hs
    · have hsn : s ≠ t := fun e => ht (by rw [← e]; exact hs)
      rcases List.mem_append.mp hu with hu | hu
      · have hun : u ≠ t := fun e => ht (by rw [← e]; exact hu)
        rw [put_ne hsn, put_ne hun]
        exact h.iff s hs u hu
      · rw [List.mem_singleton] at hu
        rw [hu, put_ne hsn, put_same]
        constructor
        · intro e
          have := h.lt hs
          omega
        · exact fun e => absurd e (key s hs)
    · rw [List.mem_singleton] at hs
      rw [hs]
      rcases List.mem_append.mp hu with hu | hu
      · have hun : u ≠ t := fun e => ht (by rw [← e]; exact hu)
        rw [put_ne hun, put_same]
        constructor
        · intro e
          have := h.lt hu
          omega
        · exact fun e => absurd (sy' u hu e) (key u hu)
      · rw [List.mem_singleton] at hu
        rw [hu]
        exact ⟨fun _ => rf, fun _ => rfl⟩
end
end Mach
namespace Mach
/-- the pairs of p with those of the other kind -/
def prE (E L : List Nat) (p : Nat) : List (Nat × Nat) := (L.filter fun q => decide (decide (p ∈ E) ≠ decide (q ∈ E))).map fun q => (p, q)
theorem mem_prE {E L : List Nat} {p : Nat} {x : Nat × Nat} : x ∈ prE E L p ↔ x.1 = p ∧ x.2 ∈ L ∧ ¬ (p ∈ E ↔ x.2 ∈ E) := by
  unfold prE
  rw [List.mem_map]
  constructor
  · rintro ⟨q, hq, rfl⟩
    obtain ⟨h1, h2⟩ := List.mem_filter.mp hq
    refine ⟨rfl, h1, fun z => ?_⟩
    have h3 := of_decide_eq_true h2
    apply h3
    exact decide_eq_decide.mpr z
  · rintro ⟨h1, h2, h3⟩
    refine ⟨x.2, List.mem_filter.mpr ⟨h2, decide_eq_true fun z => h3 (decide_eq_decide.mp z)⟩, ?_⟩
    rw [← h1]
theorem prE_nodup {E L : List Nat} (h : L.Nodup) (p : Nat) : (prE E L p).Nodup := by
  have h1 : (L.filter fun q => decide (decide (p ∈ E) ≠ decide (q ∈ E))).Nodup := h.filter _
  unfold prE
  rw [List.Nodup, List.pairwise_map]
  exact h1.imp fun hab e => hab (Prod.mk.inj e).2
theorem apart_start {n : Nat} {R : List (List Nat)} {E L : List Nat} : Apart n R E L (D (L.flatMap (prE E L))) := by
  refine ⟨D_nodup _, fun x hx => ?_, fun x hx a => ?_, fun p hp q hq hne => ?_⟩
  · obtain ⟨p, hp, hx⟩ := List.mem_flatMap.mp (mem_D.mp hx)
    obtain ⟨h1, h2, _⟩ := mem_prE.mp hx
    rw [h1]
    exact ⟨hp, h2⟩
  · obtain ⟨p, hp, hx⟩ := List.mem_flatMap.mp (mem_D.mp hx)
    obtain ⟨h1, h2, h3⟩ := mem_prE.mp hx
    rw [h1] at a
    exact h3 a.nil
  · exact mem_D.mpr (List.mem_flatMap.mpr ⟨p, hp, mem_prE.mpr ⟨rfl, hq, hne⟩⟩)
end Mach

namespace Rg
open PySem PySem.Spec PyProof.Rows L2 Mach
/-! ### dicts whose keys are pairs of numbers, all with True -/
abbrev kP (x : Nat × Nat) : List Key := [kN x.1, kN x.2]
theorem kP_inj {x y : Nat × Nat} (h : kP x = kP y) : x = y := by
  obtain ⟨a, b⟩ := x
  obtain ⟨c, d⟩ := y
  obtain ⟨h1, h2⟩ := List.cons.inj h
  obtain ⟨h3, _⟩ := List.cons.inj h2
  have e1 := kN_inj h1
  have e2 := kN_inj h3
  simp only at e1 e2
  rw [e1, e2]
def tO (A : List (Nat × Nat)) : List (List Key × V) := A.map fun x => (kP x, .bl true)
theorem tO_len (A : List (Nat × Nat)) : (tO A).length = A.length := List.length_map _
theorem valV_tO {A : List (Nat × Nat)} {x : Nat × Nat} : valV (tO A) (kP x) = if x ∈ A then some (.bl true) else none := by
  induction A with
  | nil => rfl
  | cons a A ih =>
    show valV ((kP a, .bl true) :: tO A) (kP x) = _
    by_cases e : a = x
    · rw [valV_pos (by show kP a = kP x; rw [e]), if_pos (by rw [e]; exact List.mem_cons_self)]
    · rw [valV_neg (fun z => e (kP_inj z)), ih]
      by_cases h : x ∈ A
      · rw [if_pos h, if_pos (List.mem_cons_of_mem _ h)]
      · rw [if_neg h, if_neg]
        intro z
        rcases List.mem_cons.mp z with z | z
        · exact e z.symm
        · exact h z
theorem putK_tO {A : List (Nat × Nat)} {x : Nat × Nat} : putK (tO A) (kP x) (.bl true) = tO (push A x) := by
  by_cases h : x ∈ A
  · rw [push_mem h]
    unfold putK
    rw [if_pos (by rw [valV_any, valV_tO, if_pos h]; rfl)]
    unfold tO
    rw [List.map_map]
    apply List.map_congr_left
    intro y hy
    show (if kP y = kP x then (kP y, V.bl true) else (kP y, V.bl true)) = (kP y, V.bl true)
    split <;> rfl
  · rw [push_new h, putK_new _ (by rw [valV_tO, if_neg h])]
    unfold tO
    rw [List.map_append]
    rfl
theorem mergeT_tO (B A : List (Nat × Nat)) : mergeT (tO A) (tO B) = tO (pushAll A B) := by
  induction B generalizing A with
  | nil => rfl
  | cons x B ih =>
    show mergeT (putK (tO A) (kP x) (.bl true)) (tO B) = tO (pushAll (push A x) B)
    rw [putK_tO]
    exact ih _
theorem kP_tup (p q : Nat) : [nV p, nV q] = (kP (p, q)).map kV := rfl
theorem dgetT {H : Hp} {d b : Addr} {A : List (Nat × Nat)} {p q : Nat} (h : H d = some (.dT (tO A))) (hb : H b = some (.tup [nV p, nV q])) : ∃ r, DGet H d (.ref b) r ∧ r.isSome = decide ((p, q) ∈ A) := by
  refine ⟨_, DGet.t (k := kP (p, q)) h hb, ?_⟩
  rw [valV_tO]
  by_cases z : (p, q) ∈ A
  · rw [if_pos z, decide_eq_true z]
    rfl
  · rw [if_neg z, decide_eq_false z]
    rfl
theorem tO_map (h : List Key → Int) (p : Nat) : ∀ M : List Nat, ((tO (M.map fun q => (p, q))).map fun x => h x.1) = M.map fun q => h [kN p, kN q]
  | [] => rfl
  | a :: M => by
    have ih := tO_map h p M
    show h [kN p, kN a] :: ((tO (M.map fun q => (p, q))).map fun x => h x.1) = h [kN p, kN a] :: (M.map fun q => h [kN p, kN q])
    rw [ih]
theorem hs_tO {p : Nat} (hp : p < 16) {M : List Nat} (hn : M.Nodup) (hM : ∀ q ∈ M, q < 16) (P : Program) (w : World) :
    ((tO (M.map fun q => (p, q))).map fun x => (tupleKind (mixKind P w)).hash x.1).Nodup := by
  rw [tO_map, hs_list]
  exact hs_nodup hp M hn hM
/-! ### in, not in, of lists of numbers -/
theorem inV_nVs (s : Nat) (E : List Nat) : inV (nV s) (nVs E) = decide (s ∈ E) := by
  unfold inV
  by_cases h : s ∈ E
  · rw [decide_eq_true h]
    refine List.any_eq_true.mpr ⟨nV s, List.mem_map_of_mem h, ?_⟩
    show ((s : Int) == (s : Int)) = true
    simp
  · rw [decide_eq_false h]
    refine Bool.eq_false_iff.mpr fun z => ?_
    obtain ⟨y, hy, e⟩ := List.any_eq_true.mp z
    obtain ⟨n, hn, rfl⟩ := List.mem_map.mp hy
    have : ((n : Int) == (s : Int)) = true := e
    have e2 : (n : Int) = s := eq_of_beq this
    have e3 : n = s := by omega
    exact h (by rw [← e3]; exact hn)
theorem flat_nVs (E : List Nat) : (nVs E).all flatV = true := by
  refine List.all_eq_true.mpr fun v hv => ?_
  unfold nVs at hv
  obtain ⟨n, _, rfl⟩ := List.mem_map.mp hv
  rfl
end Rg
namespace Rg
open PySem PySem.Spec PyProof.Rows L2 Mach
theorem mergeK_dO (c : Nat → V) : ∀ (X L : List Nat), mergeK (dO L c) (X.map fun s => (kN s, c s)) = dO (pushAll L X) c
  | [], L => rfl
  | x :: X, L => by
    show mergeK (putK (dO L c) (kN x) (c x)) (X.map fun s => (kN s, c s)) = dO (pushAll (push L x) X) c
    rw [putK_dO]
    exact mergeK_dO c X _
theorem paired_map {α β γ : Type} {F : α → β → Prop} {G : α → γ → Prop} (f : β → γ) (h : ∀ a b, F a b → G a (f b)) : ∀ {xs : List α} {ys : List β}, Paired F xs ys → Paired G xs (ys.map f)
  | _, _, .nil => .nil
  | _, _, .cons x t => .cons (h _ _ x) (paired_map f h t)
theorem dO_at {L : List Nat} {c : Nat → V} {i : Nat} {k : Key} {v : V} (h : (dO L c)[i]? = some (k, v)) : ∃ s, L[i]? = some s ∧ k = kN s ∧ v = c s := by
  unfold dO at h
  rw [List.getElem?_map] at h
  obtain ⟨s, hs, e⟩ := Option.map_eq_some_iff.mp h
  exact ⟨s, hs, (Prod.mk.inj e).1.symm, (Prod.mk.inj e).2.symm⟩
theorem filter_snoc {α : Type} {p : α → Bool} {L : List α} {t : α} : (L ++ [t]).filter p = L.filter p ++ (if p t then [t] else []) := by
  rw [List.filter_append]
  by_cases h : p t = true
  · rw [List.filter_cons_of_pos h, List.filter_nil, if_pos h]
  · rw [List.filter_cons_of_neg h, List.filter_nil, if_neg h]
end Rg

namespace Rg
open PySem PySem.Spec PyProof.Rows L2 Mach
theorem nVs_put (ns : List Nat) (j v : Nat) : (nVs ns).set j (nV v) = nVs (ns.set j v) := by
  unfold nVs
  rw [List.map_set]
theorem ixN_of {n k : Nat} (h : k < n) : ixN n (k : Int) = some k := by
  unfold ixN
  rw [if_pos (by omega), if_pos (by omega)]
  rfl
theorem rowOf_set_same {R : List (List Nat)} {i : Nat} {r : List Nat} (h : i < R.length) : rowOf (R.set i r) i = r := by
  unfold rowOf
  rw [List.getD_eq_getElem?_getD, List.getElem?_set_self h]
  rfl
theorem rowOf_set_ne {R : List (List Nat)} {i j : Nat} {r : List Nat} (h : i ≠ j) : rowOf (R.set i r) j = rowOf R j := by
  unfold rowOf
  rw [List.getD_eq_getElem?_getD, List.getElem?_set_ne h, List.getD_eq_getElem?_getD]
/-- one row stored anew -/
theorem rows_put {H : Hp} {a : Addr} {xs : List Addr} {R : List (List Nat)} {i : Nat} {x : Addr} {r : List Nat} (h : RowsAt H a xs R) (nd : xs.Nodup) (hx : xs[i]? = some x) (ha : a ≠ x) : RowsAt (upd H x (.lst (nVs r))) a xs (R.set i r) := by
  have hi : i < R.length := by rw [← h.len]; exact (List.getElem?_eq_some_iff.mp hx).1
  refine ⟨by rw [upd_ne ha]; exact h.at_, by rw [List.length_set]; exact h.len, fun j y hy => ?_⟩
  by_cases e : i = j
  · subst e
    rw [hx] at hy
    cases hy
    rw [upd_same, rowOf_set_same hi]
  · have : y ≠ x := by
      intro z
      obtain ⟨h1, e1⟩ := List.getElem?_eq_some_iff.mp hx
      obtain ⟨h2, e2⟩ := List.getElem?_eq_some_iff.mp hy
      exact e ((List.getElem_inj nd).mp (by rw [e1, e2, z]))
    rw [upd_ne this, rowOf_set_ne e]
    exact h.row j y hy
/-- one row more -/
theorem rows_more {H : Hp} {a : Addr} {xs : List Addr} {R : List (List Nat)} {y : Addr} {r : List Nat} (h : RowsAt H a xs R) (hxa : ∀ x ∈ xs, x ≠ a) (hy : H y = some (.lst (nVs r))) (ya : y ≠ a) : RowsAt (upd H a (.lst (xs.map V.ref ++ [.ref y]))) a (xs ++ [y]) (R ++ [r]) := by
  refine ⟨by rw [upd_same, List.map_append]; rfl, by rw [List.length_append, List.length_append, h.len]; rfl, fun j z hz => ?_⟩
  by_cases hj : j < xs.length
  · rw [List.getElem?_append_left hj] at hz
    rw [upd_ne (hxa z (List.mem_of_getElem? hz))]
    have e : rowOf (R ++ [r]) j = rowOf R j := by
      unfold rowOf
      rw [List.getD_eq_getElem?_getD, List.getElem?_append_left (by rw [← h.len]; exact hj), List.getD_eq_getElem?_getD]
    rw [e]
    exact h.row j z hz
  · have hj2 : j = xs.length := by
      have := (List.getElem?_eq_some_iff.mp hz).1
      rw [List.length_append, List.length_singleton] at this
      omega
    subst hj2
    rw [List.getElem?_concat_length] at hz
    cases hz
    rw [upd_ne ya, hy]
    have e : rowOf (R ++ [r]) xs.length = r := by
      unfold rowOf
      rw [List.getD_eq_getElem?_getD, h.len, List.getElem?_concat_length]
      rfl
    rw [e]
theorem mok_put {n : Nat} {R : List (List Nat)} {i : Nat} {r : List Nat} (h : Mok n R) (hi : i < R.length) (hr : r.length = n) (hx : ∀ x ∈ r, x < R.length) : Mok n (R.set i r) := by
  refine ⟨fun q hq => ?_, fun q hq x hxx => ?_⟩
  · rw [List.length_set] at hq
    by_cases e : i = q
    · subst e
      rw [rowOf_set_same hi]
      exact hr
    · rw [rowOf_set_ne e]
      exact h.wide q hq
  · rw [List.length_set] at hq ⊢
    by_cases e : i = q
    · subst e
      rw [rowOf_set_same hi] at hxx
      exact hx x hxx
    · rw [rowOf_set_ne e] at hxx
      exact h.lt q hq x hxx
theorem mok_more {n : Nat} {R : List (List Nat)} {i : Nat} (h : Mok n R) (hi : i < R.length) : Mok n (R ++ [rowOf R i]) := by
  have key : ∀ q, q < R.length + 1 → ∃ q', q' < R.length ∧ rowOf (R ++ [rowOf R i]) q = rowOf R q' := fun q hq => by
    by_cases hl : q < R.length
    · refine ⟨q, hl, ?_⟩
      unfold rowOf
      rw [List.getD_eq_getElem?_getD, List.getElem?_append_left hl, List.getD_eq_getElem?_getD]
    · have e : q = R.length := by omega
      subst e
      refine ⟨i, hi, ?_⟩
      unfold rowOf
      rw [List.getD_eq_getElem?_getD, List.getElem?_concat_length]
      rfl
  refine ⟨fun q hq => ?_, fun q hq x hx => ?_⟩
  · rw [List.length_append, List.length_singleton] at hq
    obtain ⟨q', h1, e⟩ := key q hq
    rw [e]
    exact h.wide q' h1
  · rw [List.length_append, List.length_singleton] at hq ⊢
    obtain ⟨q', h1, e⟩ := key q hq
    rw [e] at hx
    have := h.lt q' h1 x hx
    omega
end Rg

/-! a great or a deep value as one of the three things -/
namespace K15
open PySem PySem.Spec PyProof.Rows L2 Rg Mach
abbrev sGreat : Stmt := topS 49
def nGreat : List Str := ["_law_bag_here", "_law_things", "_law_deep", "_law_at", "_law_k", "_law_rows", "_law_great_here", "_law_found"]
theorem scGreat : FnScope nGreat ["_law_bag_here", "_law_things"] (defScope sGreat) := ⟨rfl, rfl, rfl, by decide +kernel, rfl, by decide +kernel, by decide +kernel⟩
def rowsG : PyData := .list (List.replicate 3899 (.list (List.replicate 4 (.int 0))) ++ [.list (List.replicate 4 (.int 3900))])
def manyG : PyData := .list (List.replicate 19000 (.int 0))
def textG : Str := Txt.mul "a" (5000 : Nat)
def dictG : PyData := .dict ([((Sum.inr "a" : Key), deepD 18)].map fun p => (kyD p.1, p.2))
def greatMenu : List PyData := [deepD 18, manyG, rowsG, dictG, .str textG, .list [deepD 18, deepD 18], .tuple [deepD 18]]
theorem flat_one {α : Type} (n : Nat) (x : α) : (List.replicate n [x]).flatten = List.replicate n x := by
  induction n with
  | zero => rfl
  | succ n ih => rw [List.replicate_succ, List.flatten_cons, ih, List.replicate_succ]; rfl
theorem dqAll_rep {K : PySem.W.Frag} {H : Hp} {v : V} {d : PyData} (h : Dq K H v d) : ∀ n, DqAll K H (List.replicate n v) (List.replicate n d)
  | 0 => .nil
  | n + 1 => .cons h (dqAll_rep h n)
theorem mul_mem {P : Nat → Prop} {xs : Array Nat} (h : ∀ c ∈ xs.toList, P c) : ∀ (k : Nat) (acc : Array Nat), (∀ c ∈ acc.toList, P c) → ∀ c ∈ ((List.replicate k xs).foldl (· ++ ·) acc).toList, P c
  | 0, acc, ha => ha
  | k + 1, acc, ha => by
    rw [List.replicate_succ, List.foldl_cons]
    refine mul_mem h k (acc ++ xs) fun c hc => ?_
    rw [Array.toList_append] at hc
    rcases List.mem_append.mp hc with z | z
    · exact ha c z
    · exact h c z
@[irreducible] def repS (x : Array Nat) (n : Nat) : Str := ⟨(List.replicate n x).foldl (· ++ ·) #[]⟩
theorem repS_size (x : Array Nat) (n : Nat) : (repS x n).cps.size = n * x.size := by
  unfold repS
  show ((List.replicate n x).foldl (· ++ ·) #[]).size = n * x.size
  rw [PySem.size_reps]
  simp
theorem repS_mem {P : Nat → Prop} {x : Array Nat} (h : ∀ c ∈ x.toList, P c) (n : Nat) : ∀ c ∈ (repS x n).cps.toList, P c := by
  unfold repS
  exact mul_mem h n #[] (by simp)
theorem mul_repS {x : Str} {n : Nat} (h1 : 1 < n) (h2 : x.length ≠ 0) : Txt.mul x (n : Int) = repS x.cps n := by
  unfold Txt.mul repS
  rw [if_neg (by omega), if_neg (by simp; omega), Int.toNat_natCast]
theorem textG_eq : textG = repS ("a" : Str).cps 5000 := mul_repS (by decide) (by decide +kernel)
theorem textG_size : textG.cps.size = 5000 := by
  rw [textG_eq, repS_size]
  decide +kernel
theorem deep_gq : ∀ n : Nat, Gq (n + 1) n (deepD n)
  | 0 => ⟨rfl, by decide, rfl, Nat.le_refl _⟩
  | n + 1 => by
    have h := gqAll_cons (deep_gq n) gqAll_nil
    exact (gq_list h).le (Nat.le_refl _) (Nat.le_refl _)
theorem great_gq : ∀ d ∈ greatMenu, Gq 21 20000 d := by
  intro d hd
  have g0 : Gq 0 0 (.int 0) := gq_of (by decide +kernel)
  have g1 : Gq 0 0 (.int 3900) := gq_of (by decide +kernel)
  have r0 : Gq 1 4 (.list (List.replicate 4 (.int 0))) := gq_of (by decide +kernel)
  have r1 : Gq 1 4 (.list (List.replicate 4 (.int 3900))) := gq_of (by decide +kernel)
  have gd := deep_gq 18
  unfold greatMenu at hd
  simp only [List.mem_cons, List.not_mem_nil, or_false] at hd
  rcases hd with rfl | rfl | rfl | rfl | rfl | rfl | rfl
  · exact gd.le (by decide) (by decide)
  · have h := gqAll_const (ds := List.replicate 19000 (PyData.int 0)) (fun d hd => by rw [List.eq_of_mem_replicate hd]; exact g0)
    rw [List.length_replicate] at h
    exact (gq_list h).le (by decide) (by decide)
  · have h := gqAll_const (ds := List.replicate 3899 (PyData.list (List.replicate 4 (.int 0)))) (fun d hd => by rw [List.eq_of_mem_replicate hd]; exact r0)
    rw [List.length_replicate] at h
    exact (gq_list (gqAll_append h (gqAll_cons r1 gqAll_nil))).le (by decide) (by decide)
  · exact gq_of (by decide +kernel)
  · refine (gq_str fun c hc => ?_).le (by decide) (by rw [textG_size]; decide)
    rw [textG_eq] at hc
    exact repS_mem (P := fun c => c < 16 ^ 8) (by decide +kernel) 5000 c hc
  · exact (gq_list (gqAll_cons gd (gqAll_cons gd gqAll_nil))).le (by decide) (by decide)
  · exact (gq_tuple (gqAll_cons gd gqAll_nil)).le (by decide) (by decide)
/-- no machine of more than sixteen states among them -/
theorem great_low {d : PyData} (h : d ∈ greatMenu) {n : Nat} {R : List (List Nat)} (e : d = dRs R) (hM : Mok n R) : R.length ≤ 16 := by
  unfold greatMenu at h
  simp only [List.mem_cons, List.not_mem_nil, or_false] at h
  have hl : ∀ ds, d = .list ds → ds.length = R.length := fun ds h1 => by
    rw [h1] at e
    unfold dRs at e
    injection e with e
    rw [e, List.length_map]
  rcases h with rfl | rfl | rfl | rfl | rfl | rfl | rfl
  · have := hl [deepD 17] rfl
    simp at this
    omega
  · unfold manyG dRs at e
    injection e with e
    have e1 : (List.replicate 19000 (PyData.int 0))[0]? = (R.map dNs)[0]? := by rw [e]
    rw [List.getElem?_replicate, if_pos (by decide), List.getElem?_map] at e1
    cases h0 : R[0]? with
    | none => rw [h0] at e1; cases e1
    | some r => rw [h0] at e1; cases e1
  · unfold rowsG dRs at e
    injection e with e
    have hlen : R.length = 3900 := by
      have := congrArg List.length e
      simpa using this.symm
    have e1 : (List.replicate 3899 (PyData.list (List.replicate 4 (.int 0))) ++ [.list (List.replicate 4 (.int 3900))])[3899]? = (R.map dNs)[3899]? := by rw [e]
    rw [List.getElem?_append_right (by rw [List.length_replicate]; exact Nat.le_refl _), List.length_replicate, List.getElem?_map] at e1
    have hq : 3899 < R.length := by omega
    rw [List.getElem?_eq_getElem hq] at e1
    have e2 : PyData.list (List.replicate 4 (.int 3900)) = dNs R[3899] := by injection e1
    have hro : rowOf R 3899 = R[3899] := by
      unfold rowOf
      rw [List.getD_eq_getElem?_getD, List.getElem?_eq_getElem hq]
      rfl
    unfold dNs at e2
    injection e2 with e2
    cases hr : R[3899] with
    | nil => rw [hr] at e2; cases e2
    | cons a l =>
      rw [hr] at e2
      have e3 : PyData.int 3900 = .int (a : Int) := by
        have := congrArg (fun l => l[0]?) e2
        simpa using this
      have e4 : (3900 : Int) = (a : Int) := by injection e3
      have := hM.lt 3899 hq a (by rw [hro, hr]; exact List.mem_cons_self)
      omega
  · cases e
  · cases e
  · have := hl [deepD 18, deepD 18] rfl
    simp at this
    omega
  · cases e
/-- the three things with a great one among them -/
structure Gt3 (a b c : PyData) : Prop where
  ga : Gq 30 20000 a
  gb : Gq 30 20000 b
  gc : Gq 30 20000 c
  zok : ∀ z, a = .str z → z.cps.size ≤ 4 → PyData.strOk z = true
  low : ∀ n R, b = dRs R → Mok n R → R.length ≤ 16
theorem Sp3.gt {e k : Nat} {a b c : PyData} (h : Sp3 e k a b c) (he : e ≤ 30) (hk : k ≤ 20000) : Gt3 a b c := ⟨h.ga.le he hk, h.gb.le he hk, h.gc.le he hk, fun z e _ => h.zok z e, fun n R e _ => by
  have := h.rows (R.map dNs) e
  rw [List.length_map] at this
  omega⟩
def spGreat (K : PySem.W.Frag) : Sp := fun vs H Q _ => ∃ (g l p : Addr) (x y u : V) (a b c : PyData), vs = [.ref g, .ref p] ∧ Bag H g l ∧ At3 K g H p x y u a b c ∧ Gt3 a b c ∧
  ∀ (H' : Hp) (q : Addr) (x' y' u' : V) (a' b' c' : PyData), Bag H' g l → But g H H' → At3 K g H' q x' y' u' a' b' c' → Gt3 a' b' c' → Q (.ref q) H'
theorem great_str {z : Str} (h : .str z ∈ greatMenu) (h4 : z.cps.size ≤ 4) : PyData.strOk z = true := by
  unfold greatMenu at h
  simp only [List.mem_cons, List.not_mem_nil, or_false] at h
  rcases h with h | h | h | h | h | h | h
  · cases h
  · cases h
  · cases h
  · cases h
  · have e : z = textG := by injection h
    rw [e, textG_size] at h4
    omega
  · cases h
  · cases h
section
variable {P : Program} {w : World} {K : PySem.W.Frag} {mg : Str → Option Value} {base : Heap}
theorem ok_great {f fT : Addr} {fd fdT : FuncData} {k : Nat} (F : Fun K "_law_great" "_law_great" sGreat f fd)
    (FT : Fun K "_law_take" "_law_take" sTake fT fdT) (bT : Binds K fdT ["_law_bag_here", "_law_many"] []) (gT : mg "_law_take" = some (.ref fT)) (mi : mg "int" = none) (mr : mg "range" = none) (mli : mg "list" = none) (mtu : mg "tuple" = none) :
    FnOk P w K mg base CX0 (k + 2) f fd ["_law_bag_here", "_law_things"] (spGreat K) := by
  have GT : FnOk P w K mg base CX0 (k + 1) fT fdT ["_law_bag_here", "_law_many"] spTake := ok_take FT mi
  refine F.ok scGreat (fun vs H Q E h => ?_) (fun cdv A outer s H vs Q E hr h => ?_)
  · obtain ⟨g, l, p, x, y, u, a, b, c, rfl, _⟩ := h
    rfl
  · obtain ⟨g, l, p, x, y, u, a, b, c, rfl, hB, hT3, hS, q⟩ := h
    refine ⟨_, pss_cons (ps_par (i := 2) (j := 3) rfl scGreat.nd rfl rfl (by decide) rfl rfl (pa_cons (pe_lst pa_nil) (pa_cons (pe_call GT hr (by rfl) gT FT.kp bT .nil pass0 (pa_cons (pv 0) (pa_cons pe_int pa_nil))) pa_nil)) (by rfl))
      (pss_cons (ps_for PassesOwn.never rfl (pi_range1 rfl mr (pa_cons pe_int pa_nil)) (pg_name (i := 4) scGreat.nd rfl (.inl rfl)) (pss_one (ps_set (i := 2) scGreat.nd rfl (.inl rfl) (pe_lst (pa_cons (pv 2) pa_nil)))))
      (pss_cons (ps_set (i := 5) scGreat.nd rfl (.inl rfl) (pe_op op_cat (pe_op op_rep (pe_lst (pa_cons (pe_op op_rep (pe_lst (pa_cons pe_int pa_nil)) pe_int) pa_nil)) pe_int) (pe_lst (pa_cons (pe_op op_rep (pe_lst (pa_cons pe_int pa_nil)) pe_int) pa_nil))))
      (pss_cons (ps_set (i := 6) scGreat.nd rfl (.inl rfl) (pe_ix ix_list (pe_lst (pa_cons (pv 2) (pa_cons (pe_op op_rep (pe_lst (pa_cons pe_int pa_nil)) pe_int) (pa_cons (pv 5) (pa_cons (pe_disp (pps_cons pe_str (pv 2) pps_nil) (by rfl) (by rfl) (fun z => by cases z) (by decide)) (pa_cons (pe_op op_mulS pe_str pe_int) (pa_cons (pe_lst (pa_cons (pv 2) (pa_cons (pv 2) pa_nil))) (pa_cons (pe_tup (pa_cons (pv 2) pa_nil)) pa_nil)))))))) (pe_call GT hr (by rfl) gT FT.kp bT .nil pass0 (pa_cons (pv 0) (pa_cons pe_int pa_nil))) (fun _ _ => rfl)))
      (pss_cons (ps_set (i := 7) scGreat.nd rfl (.inl rfl) (pe_callTy call_list_of (by rfl) mli bList (pa_cons (pv 1) pa_nil)))
      (pss_cons (ps_asg (pv 6) (pg_sub (pv 7) (pv 3) set_list))
      (pss_one (ps_ret (pe_callTy call_tuple_of (by rfl) mtu bTuple (pa_cons (pv 7) pa_nil))))))))), ?_⟩
    refine ⟨by show 0 ≤ sizeLine; decide, fun p0 n0 => ?_⟩
    have hB0 := hB.new (o := .lst []) n0
    have g0 : p0 ≠ g := hB.ne n0
    refine ⟨_, rfl, g, l, 3, rfl, hB0, by decide, by decide, fun H1 at_ hat hB1 b1 => ?_⟩
    have b01 : But g H H1 := ((But.refl g H).new n0).trans b1
    have d0 : Dq K (mask g H1) (.ref p0) (deepD 0) := .lst (b1.mask _ _ (md_at g0)) .nil
    refine ⟨_, _, rfl, 18, rfl, by decide, by decide, ?_⟩
    refine for_range (n := 18) (fun i σ H2 => ∃ (v : V) (y2 : Option V), σ = [some (.ref g), some (.ref p), some v, some (nV at_), y2, none, none, none] ∧ Same H1 H2 ∧ Dq K (mask g H2) v (deepD i)) ⟨_, none, rfl, fun _ _ z => z, d0⟩ ?_ ?_
    · rintro i σ H2 hi ⟨v, y2, rfl, s2, hd⟩
      refine ⟨v, rfl, by show 1 ≤ sizeLine; decide, fun p1 n1 => ?_⟩
      have g1 : p1 ≠ g := (hB1.same s2).ne n1
      exact ⟨_, _, rfl, s2.trans (same_new n1), .lst (md_at g1) (.cons (hd.sm (md_new n1)) .nil)⟩
    rintro σ H2 ⟨v, y2, rfl, s2, hd⟩
    have hB2 := hB1.same s2
    clear d0 n0 g0 hB0
    -- rows
    refine ⟨by show 1 ≤ sizeLine; decide, fun a0 n_a0 => ?_⟩
    generalize hEq : upd H2 a0 _ = H3
    have s3 : Same H2 H3 := by
      rw [← hEq]
      exact same_new n_a0
    have h3 : H3 a0 = some (.lst [.int 0]) := by
      rw [← hEq]
      exact upd_same
    clear hEq
    have hB3 := hB2.same s3
    have g_a0 : a0 ≠ g := hB2.ne n_a0
    refine ⟨a0, 4, _, rfl, rfl, h3, by decide, by decide, szBigLe (by decide), fun a1 n_a1 => ?_⟩
    generalize hEq : upd H3 a1 _ = H4
    have s4 : Same H3 H4 := by
      rw [← hEq]
      exact same_new n_a1
    have h4 : H4 a1 = some (.lst (List.replicate (4 : Int).toNat [V.int 0]).flatten) := by
      rw [← hEq]
      exact upd_same
    clear hEq
    have hB4 := hB3.same s4
    have g_a1 : a1 ≠ g := hB3.ne n_a1
    rw [show (4 : Int).toNat = 4 from rfl, flat_one] at h4
    refine ⟨by show 1 ≤ sizeLine; decide, fun a2 n_a2 => ?_⟩
    generalize hEq : upd H4 a2 _ = H5
    have s5 : Same H4 H5 := by
      rw [← hEq]
      exact same_new n_a2
    have h5 : H5 a2 = some (.lst [.ref a1]) := by
      rw [← hEq]
      exact upd_same
    clear hEq
    have hB5 := hB4.same s5
    have g_a2 : a2 ≠ g := hB4.ne n_a2
    refine ⟨a2, 3899, _, rfl, rfl, h5, by decide, by decide, szBigLe (by show 1 * 3899 ≤ _; decide), fun a3 n_a3 => ?_⟩
    generalize hEq : upd H5 a3 _ = H6
    have s6 : Same H5 H6 := by
      rw [← hEq]
      exact same_new n_a3
    have h6 : H6 a3 = some (.lst (List.replicate (3899 : Int).toNat [V.ref a1]).flatten) := by
      rw [← hEq]
      exact upd_same
    clear hEq
    have hB6 := hB5.same s6
    have g_a3 : a3 ≠ g := hB5.ne n_a3
    rw [show (3899 : Int).toNat = 3899 from rfl, flat_one] at h6
    refine ⟨by show 1 ≤ sizeLine; decide, fun a4 n_a4 => ?_⟩
    generalize hEq : upd H6 a4 _ = H7
    have s7 : Same H6 H7 := by
      rw [← hEq]
      exact same_new n_a4
    have h7 : H7 a4 = some (.lst [.int 3900]) := by
      rw [← hEq]
      exact upd_same
    clear hEq
    have hB7 := hB6.same s7
    have g_a4 : a4 ≠ g := hB6.ne n_a4
    refine ⟨a4, 4, _, rfl, rfl, h7, by decide, by decide, szBigLe (by decide), fun a5 n_a5 => ?_⟩
    generalize hEq : upd H7 a5 _ = H8
    have s8 : Same H7 H8 := by
      rw [← hEq]
      exact same_new n_a5
    have h8 : H8 a5 = some (.lst (List.replicate (4 : Int).toNat [V.int 3900]).flatten) := by
      rw [← hEq]
      exact upd_same
    clear hEq
    have hB8 := hB7.same s8
    have g_a5 : a5 ≠ g := hB7.ne n_a5
    rw [show (4 : Int).toNat = 4 from rfl, flat_one] at h8
    refine ⟨by show 1 ≤ sizeLine; decide, fun a6 n_a6 => ?_⟩
    generalize hEq : upd H8 a6 _ = H9
    have s9 : Same H8 H9 := by
      rw [← hEq]
      exact same_new n_a6
    have h9 : H9 a6 = some (.lst [.ref a5]) := by
      rw [← hEq]
      exact upd_same
    clear hEq
    have hB9 := hB8.same s9
    have g_a6 : a6 ≠ g := hB8.ne n_a6
    refine ⟨a3, a6, _, _, rfl, rfl, ((s7.trans s8).trans s9) _ _ h6, h9, szBigLe (by rw [List.length_replicate]; show 3899 + 1 ≤ _; decide), fun a7 n_a7 => ?_⟩
    generalize hEq : upd H9 a7 _ = H10
    have s10 : Same H9 H10 := by
      rw [← hEq]
      exact same_new n_a7
    have h10 : H10 a7 = some (.lst (List.replicate 3899 (V.ref a1) ++ [.ref a5])) := by
      rw [← hEq]
      exact upd_same
    clear hEq
    have hB10 := hB9.same s10
    have g_a7 : a7 ≠ g := hB9.ne n_a7
    have m410 := ((((s5.trans s6).trans s7).trans s8).trans s9).trans s10
    have D1 : Dq K (mask g H10) (.ref a1) (.list (List.replicate 4 (.int 0))) := .lst (mask_at (m410 _ _ h4) g_a1) (dqAll_rep (.int 0) 4)
    have D5 : Dq K (mask g H10) (.ref a5) (.list (List.replicate 4 (.int 3900))) := .lst (mask_at ((s9.trans s10) _ _ h8) g_a5) (dqAll_rep (.int 3900) 4)
    have DR : Dq K (mask g H10) (.ref a7) rowsG := .lst (mask_at h10 g_a7) ((dqAll_rep D1 3899).append (.cons D5 .nil))
    have s210 := ((s3.trans s4).trans m410)
    have hd10 := hd.sm (mask_sm (g := g) s210)
    clear D1 D5 m410 h3 h4 h5 h6 h7 h8 h9 h10 s3 s4 s5 s6 s7 s8 s9 s10 hB3 hB4 hB5 hB6 hB7 hB8 hB9 n_a0 n_a1 n_a2 n_a3 n_a4 n_a5 n_a6 n_a7 hd
    -- the seven
    refine ⟨_, rfl, by show 1 ≤ sizeLine; decide, fun c0 n_c0 => ?_⟩
    generalize hEq : upd H10 c0 _ = H11
    have s11 : Same H10 H11 := by
      rw [← hEq]
      exact same_new n_c0
    have h11 : H11 c0 = some (.lst [.int 0]) := by
      rw [← hEq]
      exact upd_same
    clear hEq
    have hB11 := hB10.same s11
    have g_c0 : c0 ≠ g := hB10.ne n_c0
    refine ⟨c0, 19000, _, rfl, rfl, h11, by decide, by decide, szBigLe (by decide), fun c1 n_c1 => ?_⟩
    generalize hEq : upd H11 c1 _ = H12
    have s12 : Same H11 H12 := by
      rw [← hEq]
      exact same_new n_c1
    have h12 : H12 c1 = some (.lst (List.replicate (19000 : Int).toNat [V.int 0]).flatten) := by
      rw [← hEq]
      exact upd_same
    clear hEq
    have hB12 := hB11.same s12
    have g_c1 : c1 ≠ g := hB11.ne n_c1
    rw [show (19000 : Int).toNat = 19000 from rfl, flat_one] at h12
    have DM : Dq K (mask g H12) (.ref c1) manyG := .lst (mask_at h12 g_c1) (dqAll_rep (.int 0) 19000)
    refine ⟨_, rfl, fun c2 n_c2 => ⟨_, rfl, upd_same, [(.inr "a", v)], rfl, by show 1 ≤ 15; decide, ?_⟩⟩
    have ez : mergeK [] [((Sum.inr "a" : Key), v)] = [((Sum.inr "a" : Key), v)] := by simp [mergeK, putK]
    rw [ez]
    generalize hEq : upd (upd H12 c2 (.dK [])) c2 (.dK [((Sum.inr "a" : Key), v)]) = H13
    have s13 : Same H12 H13 := by
      rw [← hEq]
      intro b o e
      rw [upd_ne (ne_of_none e n_c2), upd_ne (ne_of_none e n_c2)]
      exact e
    have h13 : H13 c2 = some (.dK [((Sum.inr "a" : Key), v)]) := by
      rw [← hEq]
      exact upd_same
    clear hEq
    have hB13 := hB12.same s13
    have g_c2 : c2 ≠ g := hB12.ne n_c2
    have hd13 := hd10.sm (mask_sm (g := g) ((s11.trans s12).trans s13))
    have DD : Dq K (mask g H13) (.ref c2) dictG := .dct (mask_at h13 g_c2) (.cons hd13 .nil)
    refine ⟨"a", 5000, rfl, rfl, by decide, by decide +kernel, by decide +kernel, ?_⟩
    refine ⟨_, rfl, _, rfl, by show 2 ≤ sizeLine; decide, fun c3 n_c3 => ?_⟩
    generalize hEq : upd H13 c3 _ = H14
    have s14 : Same H13 H14 := by
      rw [← hEq]
      exact same_new n_c3
    have h14 : H14 c3 = some (.lst [v, v]) := by
      rw [← hEq]
      exact upd_same
    clear hEq
    have hB14 := hB13.same s14
    have g_c3 : c3 ≠ g := hB13.ne n_c3
    have DL : Dq K (mask g H14) (.ref c3) (.list [deepD 18, deepD 18]) := .lst (mask_at h14 g_c3) (.cons (hd13.sm (mask_sm s14)) (.cons (hd13.sm (mask_sm s14)) .nil))
    refine ⟨_, rfl, by show 1 ≤ sizeLine; decide, fun c4 n_c4 => ?_⟩
    generalize hEq : upd H14 c4 _ = H15
    have s15 : Same H14 H15 := by
      rw [← hEq]
      exact same_new n_c4
    have h15 : H15 c4 = some (.tup [v]) := by
      rw [← hEq]
      exact upd_same
    clear hEq
    have hB15 := hB14.same s15
    have g_c4 : c4 ≠ g := hB14.ne n_c4
    have DT : Dq K (mask g H15) (.ref c4) (.tuple [deepD 18]) := .tup (SqT.of (mask_at h15 g_c4)) (.cons (hd13.sm (mask_sm (s14.trans s15))) .nil)
    refine ⟨by show 7 ≤ sizeLine; decide, fun c5 n_c5 => ?_⟩
    generalize hEq : upd H15 c5 _ = H16
    have s16 : Same H15 H16 := by
      rw [← hEq]
      exact same_new n_c5
    have h16 : H16 c5 = some (.lst [v, .ref c1, .ref a7, .ref c2, .str textG, .ref c3, .ref c4]) := by
      rw [← hEq]
      exact upd_same
    clear hEq
    have hB16 := hB15.same s16
    have g_c5 : c5 ≠ g := hB15.ne n_c5
    have m1316 := mask_sm (g := g) ((s14.trans s15).trans s16)
    have m1016 := (mask_sm (g := g) ((s11.trans s12).trans s13)).trans m1316
    have hA : DqAll K (mask g H16) [v, .ref c1, .ref a7, .ref c2, .str textG, .ref c3, .ref c4] greatMenu :=
      .cons (hd13.sm m1316) (.cons (DM.sm ((mask_sm s13).trans m1316)) (.cons (DR.sm m1016) (.cons (DD.sm m1316) (.cons (.str _) (.cons (DL.sm (mask_sm (s15.trans s16))) (.cons (DT.sm (mask_sm s16)) .nil))))))
    refine ⟨_, rfl, g, l, 7, rfl, hB16, by decide, by decide, fun H17 r hr7 hB17 b17 => ?_⟩
    obtain ⟨vg, hvg⟩ : ∃ w, ([v, .ref c1, .ref a7, .ref c2, .str textG, .ref c3, .ref c4] : List V)[r]? = some w := ⟨_, List.getElem?_eq_getElem (by show r < 7; omega)⟩
    obtain ⟨dg, hdg, hgq⟩ := (hA.sm b17.mask).get hvg
    have hmem := List.mem_of_getElem? hdg
    refine ⟨c5, _, _, _, rfl, rfl, SqL.of (b17 _ _ g_c5 h16), atI_nat hvg, ?_⟩
    have b017 : But g H H17 := (b01.trans (.of_same (((s2.trans s210).trans ((s11.trans s12).trans s13)).trans ((s14.trans s15).trans s16)))).trans b17
    have hT17 := hT3.but b017
    clear hA hvg hdg DM DR DD DL DT m1316 m1016 h11 h12 h13 h14 h15 h16 s11 s12 s13 s14 s15 s16 hB10 hB11 hB12 hB13 hB14 hB15 hB16 hd13 hd10
    -- list(things)
    refine ⟨_, rfl, p, _, rfl, .inr (SqT.of (mask_same _ _ hT17.at_)), fun f0 n_f0 => ?_⟩
    generalize hEq : upd H17 f0 _ = H18
    have s18 : Same H17 H18 := by
      rw [← hEq]
      exact same_new n_f0
    have h18 : H18 f0 = some (.lst [x, y, u]) := by
      rw [← hEq]
      exact upd_same
    clear hEq
    have hB18 := hB17.same s18
    have g_f0 : f0 ≠ g := hB17.ne n_f0
    have gg := (great_gq dg hmem).le (show 21 ≤ 30 by decide) (Nat.le_refl _)
    refine ⟨_, rfl, _, rfl, _, rfl, f0, [x, y, u], (at_ : Int), at_, rfl, rfl, h18, ixN_of (by show at_ < 3; omega), ?_⟩
    generalize hEq : upd H18 f0 _ = H19
    have s19 : Same H17 H19 := by
      rw [← hEq]
      intro b o e
      rw [upd_ne (ne_of_none e n_f0)]
      exact s18 _ _ e
    have h19 : H19 f0 = some (.lst ([x, y, u].set at_ vg)) := by
      rw [← hEq]
      exact upd_same
    clear hEq
    refine ⟨_, rfl, f0, _, rfl, .inl ⟨SqL.of h19, fun q1 n_q1 => ?_⟩⟩
    have hB19 := hB17.same s19
    have g_q1 : q1 ≠ g := hB19.ne n_q1
    have sN : Same H19 (upd H19 q1 (.tup ([x, y, u].set at_ vg))) := same_new n_q1
    have s1N := s19.trans sN
    have hTN := hT17.but (.of_same s1N)
    have hgN := hgq.sm (mask_sm (g := g) s1N)
    have hgt : ∀ z, dg = .str z → z.cps.size ≤ 4 → PyData.strOk z = true := fun z e h4 => by subst e; exact great_str hmem h4
    have hat3 : at_ = 0 ∨ at_ = 1 ∨ at_ = 2 := by omega
    rcases hat3 with rfl | rfl | rfl
    · exact q _ q1 vg y u dg b c (hB19.same sN) (b017.trans (.of_same s1N)) ⟨md_at g_q1, hgN, hTN.y, hTN.u⟩ ⟨gg, hS.gb, hS.gc, hgt, hS.low⟩
    · exact q _ q1 x vg u a dg c (hB19.same sN) (b017.trans (.of_same s1N)) ⟨md_at g_q1, hTN.x, hgN, hTN.u⟩ ⟨hS.ga, gg, hS.gc, hS.zok, fun n R e hM => great_low hmem e hM⟩
    · exact q _ q1 x y vg a b dg (hB19.same sN) (b017.trans (.of_same s1N)) ⟨md_at g_q1, hTN.x, hTN.y, hgN⟩ ⟨hS.ga, hS.gb, gg, hS.zok, hS.low⟩
end
end K15

/-! a set in the place of one of the three things -/
namespace K15
open PySem PySem.Spec PyProof.Rows L2 Rg Mach
abbrev sOwnR : Stmt := topS 50
def nOwnR : List Str := ["_law_signs_here", "_law_rows", "_law_ends", "_law_own", "_law_due_here", "_law_things"]
theorem scOwnR : FnScope nOwnR ["_law_signs_here", "_law_rows", "_law_ends"] (defScope sOwnR) := ⟨rfl, rfl, rfl, by decide +kernel, rfl, by decide +kernel, by decide +kernel⟩
/-- the signs, the rows and the ends of a machine -/
structure Mc3 (K : PySem.W.Frag) (H : Hp) (z : Str) (y u : V) (R : List (List Nat)) (E : List Nat) : Prop where
  y : Dq K H y (dRs R)
  u : Dq K H u (dNs E)
  gm : GoodM (.dat (.str z)) (.dat (dRs R)) (.dat (dNs E)) z R E
  few : R.length ≤ 16
  fr : Tg.few (.dat (dRs R))
  fe : Tg.few (.dat (dNs E))
  ok : PyData.strOk z = true
theorem Mc3.sm {K : PySem.W.Frag} {H H' : Hp} {z : Str} {y u : V} {R : List (List Nat)} {E : List Nat} (h : Mc3 K H z y u R E) (s : Same H H') : Mc3 K H' z y u R E := { h with y := h.y.sm s, u := h.u.sm s }
def spOwnR (K : PySem.W.Frag) : Sp := fun vs H Q _ => ∃ (z : Str) (y u : V) (R : List (List Nat)) (E : List Nat), vs = [.str z, y, u] ∧ Mc3 K H z y u R E ∧ ∀ H', Same H H' → Q (.bl true) H'
theorem due_good {a b c : Tg} {z : Str} {R : List (List Nat)} {E : List Nat} (g : GoodM a b c z R E) : dueQ a b c = none := by
  obtain ⟨rfl, rfl, rfl, hs, hM, h0, hE⟩ := g
  have h1 : sgQ (.dat (.str z)) = true := by
    show sgB z = true
    unfold sgB
    rw [decide_eq_true hs.pos, decide_eq_true hs.few, decide_eq_true hs.low, decide_eq_true hs.up]
    rfl
  have num : ∀ (n : Nat) (l : List Nat), (∀ x ∈ l, x < n) → (l.map fun k : Nat => PyData.int (k : Int)).all (nmD n) = true := fun n l h => by
    rw [List.all_eq_true]
    intro d hd
    obtain ⟨k, hk, rfl⟩ := List.mem_map.mp hd
    show (decide ((0 : Int) ≤ (k : Int)) && decide ((k : Int) < (n : Int))) = true
    have := h k hk
    rw [decide_eq_true (by omega), decide_eq_true (by omega)]
    rfl
  have h2 : rowsQ z.cps.size (.dat (dRs R)) = true := by
    show (!(R.map dNs).isEmpty && (R.map dNs).all (rowQ z.cps.size (R.map dNs).length)) = true
    rw [List.isEmpty_map, List.length_map, Bool.and_eq_true]
    refine ⟨?_, ?_⟩
    · cases R with
      | nil => cases h0
      | cons => rfl
    · rw [List.all_eq_true]
      intro d hd
      obtain ⟨r, hr, rfl⟩ := List.mem_map.mp hd
      obtain ⟨i, hi, rfl⟩ := row_of_mem hr
      show (decide (((rowOf R i).map fun k : Nat => PyData.int (k : Int)).length = z.cps.size) && ((rowOf R i).map fun k : Nat => PyData.int (k : Int)).all (nmD R.length)) = true
      rw [List.length_map, hM.wide i hi, decide_eq_true rfl, num _ _ (hM.lt i hi)]
      rfl
  unfold dueQ
  rw [if_pos h1]
  show (if rowsQ z.cps.size (.dat (dRs R)) = true then _ else _) = none
  rw [if_pos h2]
  have h3 : endsQ (Tg.dat (dRs R)).many (.dat (dNs E)) = true := by
    show (E.map fun k : Nat => PyData.int (k : Int)).all (nmD (R.map dNs).length) = true
    rw [List.length_map]
    exact num _ _ hE
  rw [if_pos h3]
section
variable {P : Program} {w : World} {K : PySem.W.Frag} {mg : Str → Option Value} {base : Heap}
theorem ok_ownR {f C Wr fI fT : Addr} {fd fdI fdT : FuncData} {k : Nat} (F : Fun K "_law_own_right" "_law_own_right" sOwnR f fd) (O : OwnC K C) (M : Mk K C fI) (gC : mg "Texts" = some (.ref C))
    (GI : FnOk P w K mg base (L2.CX P w) (k + 3) fI fdI ["self", "signs", "rows", "ends"] (spInitQ K C Wr)) (bI : Binds K fdI ["self", "signs", "rows", "ends"] [])
    (GT : FnOk P w K mg base CX0 (k + 5) fT fdT ["_law_things"] (spToldQ K C)) (FT : Fun K "_law_told" "_law_told" sTold fT fdT) (bT : Binds K fdT ["_law_things"] []) (gT : mg "_law_told" = some (.ref fT)) :
    FnOk P w K mg base CX0 (k + 6) f fd ["_law_signs_here", "_law_rows", "_law_ends"] (spOwnR K) := by
  refine F.ok scOwnR (fun vs H Q E h => ?_) (fun cdv A outer s H vs Q E hr h => ?_)
  · obtain ⟨z, y, u, R, E', rfl, _⟩ := h
    rfl
  · obtain ⟨z, y, u, R, E1, rfl, hM, q⟩ := h
    refine ⟨_, pss_cons (ps_par (i := 3) (j := 4) rfl scOwnR.nd rfl rfl (by decide) rfl rfl (pa_cons (pe_make M GI (hr.mono (by omega)) (by rfl) gC bI .nil (passOut takes0) (pa_cons pe_str (pa_cons (pe_lst (pa_cons (pe_lst (pa_cons pe_int pa_nil)) pa_nil)) (pa_cons (pe_lst pa_nil) pa_nil)))) (pa_cons (pe_lst pa_nil) pa_nil)) (by rfl))
      (pss_cons (ps_for PassesOwn.never rfl (pi_tup (pe_tup (pa_cons (pe_tup (pa_cons (pv 3) (pa_cons (pv 1) (pa_cons (pv 2) pa_nil)))) (pa_cons (pe_tup (pa_cons (pv 0) (pa_cons (pv 3) (pa_cons (pv 2) pa_nil)))) (pa_cons (pe_tup (pa_cons (pv 0) (pa_cons (pv 1) (pa_cons (pv 3) pa_nil)))) (pa_cons (pe_tup (pa_cons (pv 3) (pa_cons (pv 3) (pa_cons (pv 3) pa_nil)))) pa_nil)))))) (pg_name (i := 5) scOwnR.nd rfl (.inl rfl))
        (pss_one (ps_expr (pe_bm PySem.F.plainAttrs_list PySem.F.slot_list_append PySem.F.type_list_append mt_append (pv 4) (pa_cons (pe_call GT hr (by rfl) gT FT.kp bT .nil pass0 (pa_cons (pv 5) pa_nil)) pa_nil)))))
      (pss_one (ps_ret (pe_cmpR (op_eqD hr.units) (pv 4) (pe_lst (pa_cons (pe_tup (pa_cons pe_str (pa_cons pe_int pa_nil))) (pa_cons (pe_tup (pa_cons pe_str (pa_cons pe_int pa_nil))) (pa_cons (pe_tup (pa_cons pe_str (pa_cons pe_int pa_nil))) (pa_cons (pe_tup (pa_cons pe_str (pa_cons pe_int pa_nil))) pa_nil))))) (nomark _))))), ?_⟩
    refine ⟨by show 1 ≤ sizeLine; decide, fun a0 n_a0 => ?_⟩
    have s1 : Same H (upd H a0 (.lst [.int 0])) := same_new n_a0
    have h1 : (upd H a0 (.lst [.int 0])) a0 = some (.lst [.int 0]) := upd_same
    generalize (upd H a0 (.lst [.int 0])) = H1 at s1 h1
    refine ⟨by show 1 ≤ sizeLine; decide, fun a1 n_a1 => ?_⟩
    have s2 : Same H1 (upd H1 a1 (.lst [.ref a0])) := same_new n_a1
    have h2 : (upd H1 a1 (.lst [.ref a0])) a1 = some (.lst [.ref a0]) := upd_same
    generalize (upd H1 a1 (.lst [.ref a0])) = H2 at s2 h2
    refine ⟨by show 0 ≤ sizeLine; decide, fun a2 n_a2 => ?_⟩
    have s3 : Same H2 (upd H2 a2 (.lst [])) := same_new n_a2
    have h3 : (upd H2 a2 (.lst [])) a2 = some (.lst []) := upd_same
    generalize (upd H2 a2 (.lst [])) = H3 at s3 h3
    intro o dx no ndx nex
    have s4 := upd_mkQ (C := C) no ndx nex
    have hob : (upd (upd H3 dx (.own o)) o (.ins C dx [])) o = some (.ins C dx []) := upd_same
    generalize (upd (upd H3 dx (.own o)) o (.ins C dx [])) = H4 at s4 hob
    have sm : Same H3 (mask o H4) := fun b' ob e => mask_at (s4 _ _ e) (ne_of_none e no)
    have gmA : GoodM (.dat (.str "a")) (.dat (dRs [[0]])) (.dat (dNs [])) "a" [[0]] [] := by
      refine ⟨rfl, rfl, rfl, sgOk_of (by decide +kernel), ⟨fun q hq => ?_, fun q hq x hx => ?_⟩, by decide, fun x hx => nomatch hx⟩
      · have : q = 0 := by simpa using hq
        subst this
        decide +kernel
      · have : q = 0 := by simpa using hq
        subst this
        have : x = 0 := by simpa [rowOf] using hx
        subst this
        decide
    refine ⟨o, dx, .str "a", .ref a1, .ref a2, .dat (.str "a"), .dat (dRs [[0]]), .dat (dNs []), rfl, hob, .dat (.str _), .dat (.lst (sm _ _ (s3 _ _ h2)) (.cons (.lst (sm _ _ (s3 _ _ (s2 _ _ h1))) (.cons (.int 0) .nil)) .nil)), .dat (.lst (sm _ _ h3) .nil),
      by show PyData.bulk (.str "a") ≤ _; decide +kernel, by show PyData.bulk (dRs [[0]]) ≤ _; decide +kernel, by show PyData.bulk (dNs []) ≤ _; decide +kernel, fun z' R' E' gm => ⟨?_, fun H5 t e' ys R2 E2 k5 hTx hL hA hll => ?_⟩, fun n hn => ?_⟩
    · have := gm.eb
      have e2 : dRs [[0]] = dRs R' := by injection this
      unfold dRs at e2
      injection e2 with e2
      have := congrArg List.length e2
      rw [List.length_map, List.length_map] at this
      rw [← this]
      decide
    · refine ⟨rfl, ?_⟩
      obtain ⟨dx5, ob5⟩ := hTx.ob
      have s05 : Same H H5 := fun b' ob e => k5 _ _ (s4 _ _ (s3 _ _ (s2 _ _ (s1 _ _ e)))) (ne_of_none (s3 _ _ (s2 _ _ (s1 _ _ e))) no)
      clear hA hll hL k5 sm s4 s3 s2 s1 h1 h2 h3 hob
      refine ⟨by show 0 ≤ sizeLine; decide, fun b0 n_b0 => ?_⟩
      have s6 : Same H5 (upd H5 b0 (.lst [])) := same_new n_b0
      have h6 : (upd H5 b0 (.lst [])) b0 = some (.lst []) := upd_same
      have o6 : Same H5 (mask b0 (upd H5 b0 (.lst []))) := fun b' ob e => mask_at (s6 _ _ e) (ne_of_none e n_b0)
      generalize (upd H5 b0 (.lst [])) = H6 at s6 h6 o6
      refine ⟨_, _, rfl, ?_⟩
      have ho6 := o6 _ _ ob5
      have hM6 := (hM.sm s05).sm o6
      refine ⟨_, rfl, _, rfl, _, rfl, by show 3 ≤ sizeLine; decide, fun p0 n_p0 => ?_⟩
      have t0 : (upd H6 p0 (.tup [.ref o, y, u])) p0 = some (.tup [.ref o, y, u]) := upd_same
      have s7 : Same H6 (upd H6 p0 (.tup [.ref o, y, u])) := same_new n_p0
      generalize (upd H6 p0 (.tup [.ref o, y, u])) = H7 at t0 s7
      refine ⟨_, rfl, _, rfl, _, rfl, by show 3 ≤ sizeLine; decide, fun p1 n_p1 => ?_⟩
      have t1 : (upd H7 p1 (.tup [.str z, .ref o, u])) p1 = some (.tup [.str z, .ref o, u]) := upd_same
      have s8 : Same H7 (upd H7 p1 (.tup [.str z, .ref o, u])) := same_new n_p1
      generalize (upd H7 p1 (.tup [.str z, .ref o, u])) = H8 at t1 s8
      refine ⟨_, rfl, _, rfl, _, rfl, by show 3 ≤ sizeLine; decide, fun p2 n_p2 => ?_⟩
      have t2 : (upd H8 p2 (.tup [.str z, y, .ref o])) p2 = some (.tup [.str z, y, .ref o]) := upd_same
      have s9 : Same H8 (upd H8 p2 (.tup [.str z, y, .ref o])) := same_new n_p2
      generalize (upd H8 p2 (.tup [.str z, y, .ref o])) = H9 at t2 s9
      refine ⟨_, rfl, _, rfl, _, rfl, by show 3 ≤ sizeLine; decide, fun p3 n_p3 => ?_⟩
      have t3 : (upd H9 p3 (.tup [.ref o, .ref o, .ref o])) p3 = some (.tup [.ref o, .ref o, .ref o]) := upd_same
      have s10 : Same H9 (upd H9 p3 (.tup [.ref o, .ref o, .ref o])) := same_new n_p3
      generalize (upd H9 p3 (.tup [.ref o, .ref o, .ref o])) = H10 at t3 s10
      refine ⟨by show 4 ≤ sizeLine; decide, fun p4 n_p4 => ?_⟩
      have t4 : (upd H10 p4 (.tup [.ref p0, .ref p1, .ref p2, .ref p3])) p4 = some (.tup [.ref p0, .ref p1, .ref p2, .ref p3]) := upd_same
      have s11 : Same H10 (upd H10 p4 (.tup [.ref p0, .ref p1, .ref p2, .ref p3])) := same_new n_p4
      generalize (upd H10 p4 (.tup [.ref p0, .ref p1, .ref p2, .ref p3])) = H11 at t4 s11
      have s611 := (((s7.trans s8).trans s9).trans s10).trans s11
      have hb11 := s611 _ _ h6
      have mm := mask_sm (g := b0) s611
      have tupb : ∀ {p : Addr} {xs : List V}, H11 p = some (.tup xs) → mask b0 H11 p = some (.tup xs) := fun h => mask_at h (ne_of h hb11 (fun z => by cases z))
      have ho := mm _ _ ho6
      have hM11 := hM6.sm mm
      have th0 : Th3 K C (mask b0 H11) p0 (.ref o) y u .own (.dat (dRs R)) (.dat (dNs E1)) := ⟨tupb ((((s8.trans s9).trans s10).trans s11) _ _ t0), .own ho, .dat hM11.y, .dat hM11.u⟩
      have th1 : Th3 K C (mask b0 H11) p1 (.str z) (.ref o) u (.dat (.str z)) .own (.dat (dNs E1)) := ⟨tupb (((s9.trans s10).trans s11) _ _ t1), .dat (.str _), .own ho, .dat hM11.u⟩
      have th2 : Th3 K C (mask b0 H11) p2 (.str z) y (.ref o) (.dat (.str z)) (.dat (dRs R)) .own := ⟨tupb ((s10.trans s11) _ _ t2), .dat (.str _), .dat hM11.y, .own ho⟩
      have th3 : Th3 K C (mask b0 H11) p3 (.ref o) (.ref o) (.ref o) .own .own .own := ⟨tupb (s11 _ _ t3), .own ho, .own ho, .own ho⟩
      have hz4 := hM.gm.sg.few
      have fz : Tg.few (.dat (.str z)) := by
        show PyData.bulk (.str z) ≤ _
        simp only [PyData.bulk]
        omega
      have lowN : ∀ {a c : Tg} z R E, GoodM a .own c z R E → R.length ≤ 16 := fun z R E g => by have := g.eb; cases this
      have lowA : ∀ {b c : Tg} z R E, GoodM .own b c z R E → R.length ≤ 16 := fun z R E g => by have := g.ea; cases this
      have lowC : ∀ {a b : Tg} z R E, GoodM a b .own z R E → R.length ≤ 16 := fun z R E g => by have := g.ec; cases this
      have f0 : Few3 .own (.dat (dRs R)) (.dat (dNs E1)) := ⟨trivial, hM.fr, hM.fe, fun z e => (by cases e), lowA⟩
      have f1 : Few3 (.dat (.str z)) .own (.dat (dNs E1)) := ⟨fz, trivial, hM.fe, fun z e _ => (by cases e; exact hM.ok), lowN⟩
      have f2 : Few3 (.dat (.str z)) (.dat (dRs R)) .own := ⟨fz, hM.fr, trivial, fun z e _ => (by cases e; exact hM.ok), lowC⟩
      have f3 : Few3 .own .own .own := ⟨trivial, trivial, trivial, fun z e => (by cases e), lowA⟩
      have gd := due_good hM.gm
      have hsg : sgQ (.dat (.str z)) = true := by
        cases e : sgQ (.dat (.str z)) with
        | true => rfl
        | false =>
          unfold dueQ at gd
          rw [if_neg (by rw [e]; exact Bool.false_ne_true)] at gd
          cases gd
      have hrq : rowsQ (Tg.dat (.str z)).wide (.dat (dRs R)) = true := by
        cases e : rowsQ (Tg.dat (.str z)).wide (.dat (dRs R)) with
        | true => rfl
        | false =>
          unfold dueQ at gd
          rw [if_pos hsg, if_neg (by rw [e]; exact Bool.false_ne_true)] at gd
          cases gd
      have due0 : ∀ b c, dueQ .own b c = some 0 := fun b c => rfl
      have due1 : ∀ c, dueQ (.dat (.str z)) .own c = some 1 := fun c => by
        unfold dueQ
        rw [if_pos hsg]
        rfl
      have due2 : dueQ (.dat (.str z)) (.dat (dRs R)) .own = some 2 := by
        unfold dueQ
        rw [if_pos hsg, if_pos hrq]
        rfl
      have s011 : Same H H11 := (s05.trans s6).trans s611
      have nb0 : H b0 = none := s05.free n_b0
      have bk : ∀ H', But b0 H11 H' → Same H H' := fun H' b b' ob e => b _ _ (ne_of_none e nb0) (s011 _ _ e)
      clear t0 t1 t2 t3 s7 s8 s9 s10 s11 mm tupb ho hM11 ho6 hM6 s611 n_p0 n_p1 n_p2 n_p3 n_p4
      refine ⟨p4, rfl, ⟨_, SqT.of t4⟩, ?_⟩
      have g4 : p4 ≠ b0 := ne_of t4 hb11 (fun z => by cases z)
      refine for_tup (K := K) (a := p4) (xs := [.ref p0, .ref p1, .ref p2, .ref p3]) (fun i σ H' => (∃ y5 : Option V, σ = [some (.str z), some y, some u, some (.ref o), some (.ref b0), y5]) ∧ But b0 H11 H' ∧ ∃ qs : List Addr, qs.length = i ∧ H' b0 = some (.lst (qs.map V.ref)) ∧ ∀ (j : Nat) (q : Addr), qs[j]? = some q → H' q = some (.tup [.str "wrong", nV ([0, 1, 2, 0].getD j 0)])) ⟨⟨none, rfl⟩, .refl _ _, [], rfl, hb11, fun j q h => by simp at h⟩ (fun i σ H' _ ⟨_, b, _⟩ => SqT.of (b _ _ g4 t4)) ?_ ?_
      · rintro i v σ H' hv ⟨⟨y5, rfl⟩, b, qs, hql, hb', hqs⟩
        refine ⟨_, rfl, .inl ⟨rfl, _, SqL.of hb'⟩, ?_⟩
        have ms : Same (mask b0 H11) H' := fun b' ob e => (b.mask.trans mask_same) _ _ e
        have step : ∀ (p : Addr) (x1 x2 x3 : V) (a1 a2 a3 : Tg) (n : Nat), v = .ref p → Th3 K C (mask b0 H11) p x1 x2 x3 a1 a2 a3 → Few3 a1 a2 a3 → dueQ a1 a2 a3 = some n → n = [0, 1, 2, 0].getD i 0 →
            spToldQ K C [v] H' (fun w' H'' => ∃ (l : Addr) (ls : List V) (e : V), V.ref b0 = .ref l ∧ [w'] = [e] ∧ H'' l = some (.lst ls) ∧ ls.length < sizeLine ∧ (∃ y5 : Option V, [some (.str z), some y, some u, some (V.ref o), some (.ref b0), some v] = [some (.str z), some y, some u, some (.ref o), some (.ref b0), y5]) ∧ But b0 H11 (upd H'' l (.lst (ls ++ [e]))) ∧ ∃ qs : List Addr, qs.length = i + 1 ∧ (upd H'' l (.lst (ls ++ [e]))) b0 = some (.lst (qs.map V.ref)) ∧ ∀ (j : Nat) (q : Addr), qs[j]? = some q → (upd H'' l (.lst (ls ++ [e]))) q = some (.tup [.str "wrong", nV ([0, 1, 2, 0].getD j 0)])) E0 := by
          rintro p x1 x2 x3 a1 a2 a3 n rfl hth hf hd hn
          refine ⟨p, x1, x2, x3, a1, a2, a3, rfl, hth.sm ms, hf, fun z' R' E' g => (by rw [due_good g] at hd; cases hd), fun n' hn' H'' q sq hq => ?_⟩
          rw [hd] at hn'
          cases hn'
          have hb2 := sq _ _ hb'
          have hqb : q ≠ b0 := ne_of hq hb2 (fun z => by cases z)
          refine ⟨b0, _, _, rfl, rfl, hb2, by rw [List.length_map, hql]; have : i < 4 := (List.getElem?_eq_some_iff.mp hv).1; exact szBig (by omega), ⟨_, rfl⟩, (b.trans (.of_same sq)).self, qs ++ [q], by rw [List.length_append, hql]; rfl, by rw [upd_same, List.map_append]; rfl, fun j q' hj => ?_⟩
          by_cases hjl : j < qs.length
          · rw [List.getElem?_append_left hjl] at hj
            have h1 := sq _ _ (hqs j q' hj)
            rw [upd_ne (ne_of h1 hb2 (fun z => by cases z))]
            exact h1
          · have hj2 : j = qs.length := by
              have := (List.getElem?_eq_some_iff.mp hj).1
              rw [List.length_append, List.length_singleton] at this
              omega
            rw [hj2, List.getElem?_concat_length] at hj
            cases hj
            rw [upd_ne hqb, hq, hn, hj2, hql]
        have hi4 : i = 0 ∨ i = 1 ∨ i = 2 ∨ i = 3 := by
          have : i < 4 := (List.getElem?_eq_some_iff.mp hv).1
          omega
        rcases hi4 with rfl | rfl | rfl | rfl
        · exact ⟨_, rfl, step p0 _ _ _ _ _ _ 0 (by cases hv; rfl) th0 f0 (due0 _ _) rfl⟩
        · exact ⟨_, rfl, step p1 _ _ _ _ _ _ 1 (by cases hv; rfl) th1 f1 (due1 _) rfl⟩
        · exact ⟨_, rfl, step p2 _ _ _ _ _ _ 2 (by cases hv; rfl) th2 f2 due2 rfl⟩
        · exact ⟨_, rfl, step p3 _ _ _ _ _ _ 0 (by cases hv; rfl) th3 f3 (due0 _ _) rfl⟩
      · rintro σ H' ⟨⟨y5, rfl⟩, b, qs, hql, hb', hqs⟩
        have e4 : qs.length = 4 := hql
        obtain ⟨q0, q1, q2, q3, rfl⟩ : ∃ q0 q1 q2 q3, qs = [q0, q1, q2, q3] := by
          match qs, e4 with
          | [q0, q1, q2, q3], _ => exact ⟨_, _, _, _, rfl⟩
        have k0 := hqs 0 q0 rfl
        have k1 := hqs 1 q1 rfl
        have k2 := hqs 2 q2 rfl
        have k3 := hqs 3 q3 rfl
        refine ⟨_, rfl, ?_⟩
        refine ⟨by show 2 ≤ sizeLine; decide, fun r0 m0 => ?_⟩
        have u0 : (upd H' r0 (.tup [.str "wrong", .int 0])) r0 = some (.tup [.str "wrong", .int 0]) := upd_same
        have v0 : Same H' (upd H' r0 (.tup [.str "wrong", .int 0])) := same_new m0
        generalize (upd H' r0 (.tup [.str "wrong", .int 0])) = J0 at u0 v0
        refine ⟨by show 2 ≤ sizeLine; decide, fun r1 m1 => ?_⟩
        have u1 : (upd J0 r1 (.tup [.str "wrong", .int 1])) r1 = some (.tup [.str "wrong", .int 1]) := upd_same
        have v1 : Same J0 (upd J0 r1 (.tup [.str "wrong", .int 1])) := same_new m1
        generalize (upd J0 r1 (.tup [.str "wrong", .int 1])) = J1 at u1 v1
        refine ⟨by show 2 ≤ sizeLine; decide, fun r2 m2 => ?_⟩
        have u2 : (upd J1 r2 (.tup [.str "wrong", .int 2])) r2 = some (.tup [.str "wrong", .int 2]) := upd_same
        have v2 : Same J1 (upd J1 r2 (.tup [.str "wrong", .int 2])) := same_new m2
        generalize (upd J1 r2 (.tup [.str "wrong", .int 2])) = J2 at u2 v2
        refine ⟨by show 2 ≤ sizeLine; decide, fun r3 m3 => ?_⟩
        have u3 : (upd J2 r3 (.tup [.str "wrong", .int 0])) r3 = some (.tup [.str "wrong", .int 0]) := upd_same
        have v3 : Same J2 (upd J2 r3 (.tup [.str "wrong", .int 0])) := same_new m3
        generalize (upd J2 r3 (.tup [.str "wrong", .int 0])) = J3 at u3 v3
        refine ⟨by show 4 ≤ sizeLine; decide, fun r4 m4 => ?_⟩
        have u4 : (upd J3 r4 (.lst [.ref r0, .ref r1, .ref r2, .ref r3])) r4 = some (.lst [.ref r0, .ref r1, .ref r2, .ref r3]) := upd_same
        have v4 : Same J3 (upd J3 r4 (.lst [.ref r0, .ref r1, .ref r2, .ref r3])) := same_new m4
        generalize (upd J3 r4 (.lst [.ref r0, .ref r1, .ref r2, .ref r3])) = J4 at u4 v4
        have v04 := (((v0.trans v1).trans v2).trans v3).trans v4
        have wr : ∀ {p : Addr} {n : Nat}, J4 p = some (.tup [.str "wrong", nV n]) → Dp K J4 (.ref p) (dWrong n) := fun h => .tup (SqT.of h) (.cons (.str _) (.cons (.int _) .nil))
        have dA : Dp K J4 (.ref b0) (.list [dWrong 0, dWrong 1, dWrong 2, dWrong 0]) := .lst (SqL.of (v04 _ _ hb')) (.cons (wr (n := 0) (v04 _ _ k0)) (.cons (wr (n := 1) (v04 _ _ k1)) (.cons (wr (n := 2) (v04 _ _ k2)) (.cons (wr (n := 0) (v04 _ _ k3)) .nil))))
        have dB : Dp K J4 (.ref r4) (.list [dWrong 0, dWrong 1, dWrong 2, dWrong 0]) := .lst (SqL.of u4) (.cons (wr (n := 0) ((((v1.trans v2).trans v3).trans v4) _ _ u0)) (.cons (wr (n := 1) (((v2.trans v3).trans v4) _ _ u1)) (.cons (wr (n := 2) ((v3.trans v4) _ _ u2)) (.cons (wr (n := 0) (v4 _ _ u3)) .nil))))
        refine ⟨_, _, dA, dB, by decide +kernel, by decide +kernel, ?_⟩
        rw [show PyData.eqv (.list [dWrong 0, dWrong 1, dWrong 2, dWrong 0]) (.list [dWrong 0, dWrong 1, dWrong 2, dWrong 0]) = true from by decide +kernel]
        exact q J4 ((bk H' b).trans v04)
    · rw [due_good gmA] at hn
      cases hn
end
end K15

namespace Rg
open PySem PySem.Spec PyProof.Rows L2 Mach
def sgDrawn : List Str := ["ab", "abc", "xz", "a", "mno", "akyz"]
theorem drawn_menu {z : Str} (h : z ∈ sgDrawn) : z ∈ sgMenu := by
  have key : ∀ z ∈ sgDrawn, z ∈ sgMenu := by decide +kernel
  exact key z h
def spSgM : Sp := fun vs H Q _ => ∃ (g c : Addr), vs = [.ref g] ∧ Bag H g c ∧ ∀ (H' : Hp) (z : Str), z ∈ sgDrawn → Bag H' g c → But g H H' → Q (.str z) H'
end Rg
namespace K15
open PySem PySem.Spec PyProof.Rows L2 Rg Mach
section
variable {P : Program} {w : World} {K : PySem.W.Frag} {mg : Str → Option Value} {base : Heap}
theorem ok_signsM {f fT : Addr} {fd fdT : FuncData} {k : Nat} (F : Fun K "_law_signs" "_law_signs" sSigns f fd)
    (FT : Fun K "_law_take" "_law_take" sTake fT fdT) (bT : Binds K fdT ["_law_bag_here", "_law_many"] []) (gT : mg "_law_take" = some (.ref fT)) (mi : mg "int" = none) :
    FnOk P w K mg base CX0 (k + 2) f fd ["_law_bag_here"] spSgM := by
  have GT : FnOk P w K mg base CX0 (k + 1) fT fdT ["_law_bag_here", "_law_many"] spTake := ok_take FT mi
  refine F.ok scSigns (fun vs H Q E h => ?_) (fun cdv A outer s H vs Q E hr h => ?_)
  · obtain ⟨g, c, rfl, _⟩ := h
    rfl
  · obtain ⟨g, c, rfl, hB, q⟩ := h
    refine ⟨_, pss_one (ps_ret (pe_ix ix_list (pe_lst (pa_cons pe_str (pa_cons pe_str (pa_cons pe_str (pa_cons pe_str (pa_cons pe_str (pa_cons pe_str (pa_cons pe_str pa_nil)))))))) (pe_call GT hr (by rfl) gT FT.kp bT .nil pass0 (pa_cons (pv 0) (pa_cons pe_int pa_nil))) (fun _ _ => rfl))), ?_⟩
    refine ⟨by show 7 ≤ sizeLine; decide, fun p np => ?_⟩
    refine ⟨_, rfl, g, c, 7, rfl, hB.new np, by decide, by decide, fun H' r hr' hB' B' => ?_⟩
    have hp := B' p _ (hB.ne np) upd_same
    have hall : ∀ r : Nat, r < 7 → ∃ z : Str, ([.str "ab", .str "ab", .str "abc", .str "xz", .str "a", .str "mno", .str "akyz"] : List V)[r]? = some (.str z) ∧ z ∈ sgDrawn := by
      intro r hr7
      match r, hr7 with
      | 0, _ => exact ⟨_, rfl, by decide +kernel⟩
      | 1, _ => exact ⟨_, rfl, by decide +kernel⟩
      | 2, _ => exact ⟨_, rfl, by decide +kernel⟩
      | 3, _ => exact ⟨_, rfl, by decide +kernel⟩
      | 4, _ => exact ⟨_, rfl, by decide +kernel⟩
      | 5, _ => exact ⟨_, rfl, by decide +kernel⟩
      | 6, _ => exact ⟨_, rfl, by decide +kernel⟩
    obtain ⟨z, ez, hz⟩ := hall r (by omega)
    exact ⟨p, _, _, _, rfl, rfl, SqL.of hp, atI_nat ez, q H' z hz hB' (((But.refl g H).new np).trans B')⟩
end
end K15

namespace Rg
open PySem PySem.Spec PyProof.Rows L2 Mach
/-- the least machine, as the law makes it -/
def spLeast : Sp := fun vs H Q _ => ∃ (a e : Addr) (xs : List Addr) (R : List (List Nat)) (n : Nat) (E : List Nat), vs = [.ref a, .ref e] ∧ RowsAt H a xs R ∧ Mok n R ∧ 0 < R.length ∧ R.length ≤ 16 ∧ n ≤ 100 ∧
  H e = some (.lst (nVs E)) ∧ E.length ≤ 100000 ∧
  ∀ (H' : Hp) (t p e' : Addr) (ys : List Addr) (R' : List (List Nat)) (E' : List Nat), Same H H' → H t = none → H p = none → H e' = none → (∀ y ∈ ys, H y = none) → H' t = some (.tup [.ref p, .ref e']) → RowsAt H' p ys R' → H' e' = some (.lst (nVs E')) →
    Least n R' E' → Alk n R' E' 0 R E 0 → R'.length ≤ R.length → Q (.ref t) H'
end Rg
namespace K15
open PySem PySem.Spec PyProof.Rows L2 Rg Mach
abbrev sLs : Stmt := topS 44
def nLs : List Str := ["_law_rows", "_law_ends", "_law_met", "_law_at", "_law_apart", "_law_grown", "_law_p", "_law_q", "_law_led", "_law_firsts", "_law_number", "_law_state", "_law_same", "_law_there", "_law_one", "_law_k"]
theorem scLs : FnScope nLs ["_law_rows", "_law_ends"] (defScope sLs) := ⟨rfl, rfl, rfl, by decide +kernel, rfl, by decide +kernel, by decide +kernel⟩
def scLsOut : Scope := match (defBody sLs).getD 7 (.Pass ⟨0, 0, 0, 0⟩) with
  | .Return (some (.Tuple ((.ListComp _ _ sc _) :: _) _ _)) _ => sc
  | _ => defScope sLs
section
variable {P : Program} {w : World} {K : PySem.W.Frag} {mg : Str → Option Value} {base : Heap}
theorem ok_least {f : Addr} {fd : FuncData} {k : Nat} (F : Fun K "_law_least" "_law_least" sLs f fd) (ml : mg "len" = none) (md : mg "dict" = none) (mr : mg "range" = none) :
    FnOk P w K mg base CX0 (k + 1) f fd ["_law_rows", "_law_ends"] spLeast := by
  refine F.ok scLs (fun vs H Q E h => ?_) (fun cdv A outer s H vs Q E hr h => ?_)
  · obtain ⟨a, e, xs, R, n, E', rfl, _⟩ := h
    rfl
  · obtain ⟨a, e, xs, R, n, E, rfl, hR, hM, hR0, hsz, hn, he, hel, q⟩ := h
    have hu := hu_of hr
    refine ⟨_, pss_cons (ps_asg (pe_tup (pa_cons (pe_lst (pa_cons pe_int pa_nil)) (pa_cons pe_int pa_nil))) (pg_tup rfl (pgs_cons (pg_name (i := 2) scLs.nd rfl (.inr rfl)) (pgs_cons (pg_name (i := 3) scLs.nd rfl (.inl rfl)) pgs_nil))))
      (pss_cons (ps_while PassesOwn.never (pt_cmpR op_lt (pv 3) (pe_callB call_len_seq (by rfl) ml bLen (pa_cons (pv 2) pa_nil)) (nomark _))
        (pss_cons (ps_set (i := 2) scLs.nd rfl (.inr rfl) (pe_op op_cat (pv 2) (pe_lc (own := [("_law_there", 13)]) (g := gName 13) (tt := tTest (tOp (rIn K true) (tVar 13) (tVar 2))) rfl scLs.nd
            (pi_keysNew (pe_callTy (call_dictP rfl) (by rfl) md bDict (pa_cons (pe_lc (own := [("_law_one", 14)]) (g := gName 14) (tt := tYes) rfl scLs.nd (pi_list (pe_ix ix_list (pv 0) (pe_ix ix_list (pv 2) (pv 3) (fun _ _ => rfl)) (fun _ _ => rfl))) (blkOk_by (own := [("_law_one", 14)]) (N := nLs) (sc := defScope sLs) (by decide +kernel))
                (fun _ _ _ _ _ => pg_name (i := 14) scLs.nd rfl (Or.inl rfl)) (fun _ _ _ _ _ => pts_nil) (fun _ _ _ _ _ => pe_tup (pa_cons (pv 14) (pa_cons pe_bl pa_nil)))) pa_nil)))
            (blkOk_by (own := [("_law_there", 13)]) (N := nLs) (sc := defScope sLs) (by decide +kernel)) (fun _ _ _ _ _ => pg_name (i := 13) scLs.nd rfl (Or.inl rfl)) (fun _ _ _ _ _ => pts_one (pt_cmpR op_notIn_seq (pv 13) (pv 2) rfl)) (fun _ _ _ _ _ => pv 13))))
        (pss_one (ps_aug (i := 3) scLs.nd rfl (.inl rfl) pe_int ip_add))))
      (pss_cons (ps_asg (pe_tup (pa_cons pe_dnewT (pa_cons pe_bl pa_nil))) (pg_tup rfl (pgs_cons (pg_name (i := 4) scLs.nd rfl (.inr rfl)) (pgs_cons (pg_name (i := 5) scLs.nd rfl (.inl rfl)) pgs_nil))))
      (pss_cons (ps_for PassesOwn.never rfl (pi_list (pv 2)) (pg_name (i := 6) scLs.nd rfl (.inr rfl)) (pss_one (ps_expr (pe_bm PySem.F.plainAttrs_dict PySem.F.slot_dict_update PySem.F.type_dict_update (mt_updateT hr.units) (pv 4) (pa_cons
          (pe_callTy (call_dictT rfl hr.units) (by rfl) md bDict (pa_cons (pe_lc (own := [("_law_q", 7)]) (g := gName 7) (tt := tTest (tOp rNe (tOp (rIn K false) (tVar 6) (tVar 1)) (tOp (rIn K false) (tVar 7) (tVar 1)))) rfl scLs.nd (pi_list (pv 2)) (blkOk_by (own := [("_law_q", 7)]) (N := nLs) (sc := defScope sLs) (by decide +kernel))
            (fun _ _ _ _ _ => pg_name (i := 7) scLs.nd rfl (Or.inl rfl)) (fun _ _ _ _ _ => pts_one (pt_cmpR op_ne (pe_cmpR op_in_seq (pv 6) (pv 1) rfl) (pe_cmpR op_in_seq (pv 7) (pv 1) rfl) (nomark _)))
            (fun _ _ _ _ _ => pe_tup (pa_cons (pe_tup (pa_cons (pv 6) (pa_cons (pv 7) pa_nil))) (pa_cons pe_bl pa_nil)))) pa_nil)) pa_nil)))))
      (pss_cons (ps_while PassesOwn.never (pt_val (pv 5)) (pss_cons (ps_set (i := 5) scLs.nd rfl (.inl rfl) pe_bl)
        (pss_one (ps_for PassesOwn.never rfl (pi_list (pv 2)) (pg_name (i := 6) scLs.nd rfl (.inr rfl)) (pss_one (ps_for PassesOwn.never rfl (pi_list (pv 2)) (pg_name (i := 7) scLs.nd rfl (.inr rfl))
          (pss_cons (ps_setLc (i := 8) (own := [("_law_k", 15)]) (g := gName 15) (tt := tB (tDIn (tTup (tCons (tOp (rIxL K) (tOp (rIxL K) (tVar 0) (tVar 6)) (tVar 15)) (tCons (tOp (rIxL K) (tOp (rIxL K) (tVar 0) (tVar 7)) (tVar 15)) tNil))) (tVar 4))) rfl scLs.nd rfl rfl (sw_true rfl rfl rfl (by decide +kernel))
              (pi_range1 (by rfl) mr (pa_cons (pe_callB call_len_seq (by rfl) ml bLen (pa_cons (pe_ix ix_list (pv 0) (pv 6) (fun _ _ => rfl)) pa_nil)) pa_nil)) (blkOk_by (own := [("_law_k", 15)]) (N := nLs) (sc := defScope sLs) (by decide +kernel))
              (fun _ _ _ _ _ => pg_name (i := 15) scLs.nd rfl (Or.inl rfl))
              (fun _ _ _ _ _ => pts_one (pt_cmp (pc_din hu (pe_tup (pa_cons (pe_ix ix_list (pe_ix ix_list (pv 0) (pv 6) (fun _ _ => rfl)) (pv 15) (fun _ _ => rfl)) (pa_cons (pe_ix ix_list (pe_ix ix_list (pv 0) (pv 7) (fun _ _ => rfl)) (pv 15) (fun _ _ => rfl)) pa_nil))) (pv 4)))) (fun _ _ _ _ _ => pv 15))
          (pss_one (ps_if (pw_and (pt_cmp (pc_dnotin hu (pe_tup (pa_cons (pv 6) (pa_cons (pv 7) pa_nil))) (pv 4))) (pw_and1 (pt_cmpR (op_neD hr.units) (pv 8) (pe_lst pa_nil) (nomark _)))).pt
            (pss_one (ps_asg (pe_tup (pa_cons pe_bl (pa_cons pe_bl pa_nil))) (pg_tup rfl (pgs_cons (pg_sub (pv 4) (pe_tup (pa_cons (pv 6) (pa_cons (pv 7) pa_nil))) (set_dict hu)) (pgs_cons (pg_name (i := 5) scLs.nd rfl (.inl rfl)) pgs_nil))))) pss_nil)))))))))
      (pss_cons (ps_asg (pe_tup (pa_cons (pe_lst pa_nil) (pa_cons pe_dnewK pa_nil))) (pg_tup rfl (pgs_cons (pg_name (i := 9) scLs.nd rfl (.inr rfl)) (pgs_cons (pg_name (i := 10) scLs.nd rfl (.inr rfl)) pgs_nil))))
      (pss_cons (ps_for PassesOwn.never rfl (pi_list (pv 2)) (pg_name (i := 11) scLs.nd rfl (.inr rfl))
        (pss_cons (ps_setLc (i := 12) (own := [("_law_k", 15)]) (g := gName 15) (tt := tB (tDNotIn (tTup (tCons (tOp (rIxL K) (tVar 9) (tVar 15)) (tCons (tVar 11) tNil))) (tVar 4))) rfl scLs.nd rfl rfl (sw_true rfl rfl rfl (by decide +kernel))
              (pi_range1 (by rfl) mr (pa_cons (pe_callB call_len_seq (by rfl) ml bLen (pa_cons (pv 9) pa_nil)) pa_nil)) (blkOk_by (own := [("_law_k", 15)]) (N := nLs) (sc := defScope sLs) (by decide +kernel))
              (fun _ _ _ _ _ => pg_name (i := 15) scLs.nd rfl (Or.inl rfl))
              (fun _ _ _ _ _ => pts_one (pt_cmp (pc_dnotin hu (pe_tup (pa_cons (pe_ix ix_list (pv 9) (pv 15) (fun _ _ => rfl)) (pa_cons (pv 11) pa_nil))) (pv 4)))) (fun _ _ _ _ _ => pv 15))
        (pss_cons (ps_dput hu (pv 10) (pv 11) (pe_ifExp (pt_cmpR (op_neD hr.units) (pv 12) (pe_lst pa_nil) (nomark _)) (pe_ix ix_list (pv 12) pe_int (fun _ _ => rfl)) (pe_callB call_len_seq (by rfl) ml bLen (pa_cons (pv 9) pa_nil))) rfl)
        (pss_one (ps_if (pt_cmpR (op_eqD hr.units) (pv 12) (pe_lst pa_nil) (nomark _)) (pss_one (ps_expr (pe_bm PySem.F.plainAttrs_list PySem.F.slot_list_append PySem.F.type_list_append mt_append (pv 9) (pa_cons (pv 11) pa_nil)))) pss_nil)))))
      (pss_one (ps_ret (pe_tup (pa_cons (pe_lc (own := [("_law_one", 14)]) (g := gName 14) (tt := tYes) (te := tLc (iList K (tOp (rIxL K) (tVar 0) (tVar 14))) (gName 13) tYes (tDGet (tVar 10) (tVar 13)) [13]) rfl scLs.nd (pi_list (pv 9)) (blkOk_by (own := [("_law_one", 14)]) (N := nLs) (sc := defScope sLs) (by decide +kernel))
            (fun _ _ _ _ _ => pg_name (i := 14) scLs.nd rfl (Or.inl rfl)) (fun _ _ _ _ _ => pts_nil)
            (fun _ _ _ _ _ => pe_lc (own := [("_law_there", 13)]) (g := gName 13) (tt := tYes) rfl scLs.nd (pi_list (pe_ix ix_list (pv 0) (pv 14) (fun _ _ => rfl))) (blkOk_by (own := [("_law_there", 13)]) (N := nLs) (sc := relS scLsOut (defScope sLs)) (by decide +kernel))
              (fun _ _ _ _ _ => pg_name (i := 13) scLs.nd rfl (Or.inl rfl)) (fun _ _ _ _ _ => pts_nil) (fun _ _ _ _ _ => pe_dget hu (pv 10) (pv 13) (fun _ _ => rfl))))
          (pa_cons (pe_lc (own := [("_law_one", 14)]) (g := gName 14) (tt := tTest (tOp (rIn K false) (tVar 14) (tVar 1))) rfl scLs.nd (pi_list (pv 9)) (blkOk_by (own := [("_law_one", 14)]) (N := nLs) (sc := defScope sLs) (by decide +kernel))
            (fun _ _ _ _ _ => pg_name (i := 14) scLs.nd rfl (Or.inl rfl)) (fun _ _ _ _ _ => pts_one (pt_cmpR op_in_seq (pv 14) (pv 1) rfl)) (fun _ _ _ _ _ => pe_dget hu (pv 10) (pv 14) (fun _ _ => rfl))) pa_nil))))))))))), ?_⟩
    -- met, at = [0], 0
    refine ⟨by show 1 ≤ sizeLine; decide, fun pm nm => ?_⟩
    refine ⟨by show 2 ≤ sizeLine; decide, fun t0 n0 => ?_⟩
    refine ⟨t0, _, rfl, SqT.of upd_same, rfl, _, _, rfl, _, _, rfl, rfl, ?_⟩
    have s2 : Same H (upd (upd H pm (.lst [.int 0])) t0 (.tup [.ref pm, .int 0])) := (same_new nm).trans (same_new n0)
    have hm2 : (upd (upd H pm (.lst [.int 0])) t0 (.tup [.ref pm, .int 0])) pm = some (.lst (nVs [0])) := same_new n0 _ _ upd_same
    generalize (upd (upd H pm (.lst [.int 0])) t0 (.tup [.ref pm, .int 0])) = H2 at s2 hm2
    refine ⟨fun m σ H1 => ∃ (pm : Addr) (M : List Nat) (i : Nat), m = R.length - i ∧ σ = [some (.ref a), some (.ref e), some (.ref pm), some (nV i), none, none, none, none, none, none, none, none, none, none, none, none] ∧ Same H H1 ∧ H1 pm = some (.lst (nVs M)) ∧ BfsAt n R 0 M i,
      ⟨_, pm, [0], 0, rfl, rfl, s2, hm2, bfs_start hR0⟩, ?_⟩
    rintro m σ H1 ⟨pm, M, i, rfl, rfl, s1, hm, hW⟩
    have hlen := hW.len
    refine ⟨_, rfl, _, rfl, pm, _, rfl, .inl (SqL.of hm), _, _, rfl, rfl, _, rfl, ite2 (fun ei => ?_) (fun ei => ?_)⟩
    · have hi : i < M.length := by
        have := of_decide_eq_true ei
        rw [nVs_len] at this
        omega
      have hs : M[i]? = some M[i] := List.getElem?_eq_getElem hi
      have hsl : M[i] < R.length := hW.lt _ (List.getElem_mem hi)
      obtain ⟨x, hx1, hx2⟩ := (hR.same s1).get hsl
      have hwide := hM.wide _ hsl
      refine ⟨fun σ' H' => ∃ (pm' : Addr), σ' = [some (.ref a), some (.ref e), some (.ref pm'), some (nV (i + 1)), none, none, none, none, none, none, none, none, none, none, none, none] ∧ Same H H' ∧ H' pm' = some (.lst (nVs (pushAll M (rowOf R M[i])))), ?_, ?_⟩
      · rintro σ' H' ⟨pm', rfl, s1', hm'⟩
        exact ⟨R.length - (i + 1), by omega, pm', _, i + 1, rfl, rfl, s1', hm', bfs_step hM hW hs⟩
      · refine ⟨_, rfl, ?_⟩
        refine ⟨_, rfl, _, rfl, _, rfl, pm, _, _, _, rfl, rfl, SqL.of hm, atI_nat (nVs_get hs), a, _, _, _, rfl, rfl, SqL.of (s1 _ _ hR.at_), atI_nat hx1, x, rfl, ⟨_, SqL.of hx2⟩, fun D1 nD1 => ?_⟩
        refine lc_list (K := K) (a := x) (xs := nVs (rowOf R M[i])) (fun j H3 => Same H1 H3 ∧ ∃ ts : List Addr, H3 D1 = some (.lst (ts.map V.ref)) ∧ ts.length = j ∧ (∀ t ∈ ts, t ≠ D1) ∧ Paired (fun (t : Addr) (s : Nat) => H3 t = some (.tup [nV s, .bl true])) ts ((rowOf R M[i]).take j))
          ⟨same_new nD1, [], by rw [upd_same]; rfl, rfl, (fun t z => nomatch z), .nil⟩ (fun j H3 _ ⟨s3, _⟩ => SqL.of (s3 _ _ hx2)) ?_ ?_
        · rintro j v H3 hj ⟨s3, ts, hD1, tl, tn, tp⟩
          obtain ⟨u, rfl, hu'⟩ := nVs_at hj
          have hj' := (List.getElem?_eq_some_iff.mp hu').1
          refine ⟨rfl, ?_⟩
          refine ⟨_, rfl, by show 2 ≤ sizeLine; decide, fun t nt => ?_⟩
          have ntD : t ≠ D1 := fun z => by
            rw [z, hD1] at nt
            cases nt
          refine ⟨_, by rw [upd_ne ntD.symm]; exact hD1, by rw [List.length_map]; exact szBig (by omega), ?_, ts ++ [t], ?_, by rw [List.length_append, List.length_singleton, tl], ?_, ?_⟩
          · intro b o eb
            rw [upd_ne (ne_of_none eb nD1), upd_ne (ne_of_none (s3 _ _ eb) nt)]
            exact s3 _ _ eb
          · rw [upd_same, List.map_append]
            rfl
          · intro y hy
            rcases List.mem_append.mp hy with z | z
            · exact tn y z
            · rw [List.mem_singleton] at z
              rw [z]
              exact ntD
          · rw [take_snoc hu']
            refine paired_snoc (paired_keep tp fun y hy r hyr => ?_) ?_
            · rw [upd_ne (tn y hy), upd_ne (ne_of_none hyr nt)]
              exact hyr
            · rw [upd_ne ntD, upd_same]
        · rintro H3 ⟨s3, ts, hD1, tl, tn, tp⟩
          rw [nVs_len, List.take_length] at tp
          refine ⟨D1, ts, (rowOf R M[i]).map fun s => (kN s, V.bl true), rfl, SqL.of hD1, paired_map (fun s => (kN s, V.bl true)) (fun _ _ z => SqT.of z) tp, fun d nd => ?_⟩
          have em : mergeK [] ((rowOf R M[i]).map fun s => (kN s, V.bl true)) = dO (D (rowOf R M[i])) (fun _ => .bl true) := mergeK_dO (fun _ => .bl true) (rowOf R M[i]) []
          rw [em]
          refine ⟨d, _, rfl, upd_same, fun o => ?_⟩
          rw [upd_upd]
          have s4 : Same H3 (upd H3 d (.frz o (.dK (dO (D (rowOf R M[i])) fun _ => .bl true)))) := same_new nd
          have hd4 : (upd H3 d (.frz o (.dK (dO (D (rowOf R M[i])) fun _ => .bl true)))) d = some (.frz o (.dK (dO (D (rowOf R M[i])) fun _ => .bl true))) := upd_same
          generalize (upd H3 d (.frz o (.dK (dO (D (rowOf R M[i])) fun _ => .bl true)))) = H4 at s4 hd4
          have s14 := s3.trans s4
          intro D2 nD2
          refine lc_keys (d := d) (o := o) (kvs := dO (D (rowOf R M[i])) fun _ => .bl true) (fun j H5 => Same H4 H5 ∧ H5 D2 = some (.lst (nVs (((D (rowOf R M[i])).take j).filter fun y => decide (y ∉ M))))) ⟨same_new nD2, by rw [upd_same]; rfl⟩ (fun j H5 _ ⟨s5, _⟩ => s5 _ _ hd4) ?_ ?_
          · rintro j k v H5 hj ⟨s5, hD2⟩
            obtain ⟨u, hu', rfl, rfl⟩ := dO_at hj
            refine ⟨rfl, ?_⟩
            refine ⟨_, rfl, _, rfl, pm, _, rfl, .inl (SqL.of (s5 _ _ (s14 _ _ hm))), rfl, flat_nVs _, _, rfl, ?_⟩
            rw [take_snoc hu', filter_snoc]
            have hDl : (((D (rowOf R M[i])).take j).filter fun y => decide (y ∉ M)).length ≤ 5000 := by
              have h1' := List.length_filter_le (fun y => decide (y ∉ M)) ((D (rowOf R M[i])).take j)
              have h2' := length_le_of_sub (D_nodup (rowOf R M[i])) (fun y hy => mem_D.mp hy)
              rw [List.length_take] at h1'
              omega
            have ein : (if true = true then !inV (kV (kN u)) (nVs M) else inV (kV (kN u)) (nVs M)) = decide (u ∉ M) := by
              rw [if_pos rfl, show kV (kN u) = nV u from rfl, inV_nVs]
              simp
            rw [ein]
            by_cases hu2 : u ∈ M
            · rw [decide_eq_false (by simpa using hu2)]
              refine ⟨s5, ?_⟩
              simpa using hD2
            · rw [decide_eq_true hu2]
              refine ⟨_, rfl, _, hD2, by rw [nVs_len]; exact szBig (by omega), ?_, ?_⟩
              · intro b o' eb
                rw [upd_ne (ne_of_none eb nD2)]
                exact s5 _ _ eb
              · rw [upd_same, if_pos rfl, nVs_snoc]
                rfl
          · rintro H5 ⟨s5, hD2⟩
            rw [dO_len, List.take_length] at hD2
            have hlen2 : (pushAll M (rowOf R M[i])).length ≤ R.length := by
              have := (bfs_step hM hW hs).len
              exact this
            rw [pushAll_filter, List.length_append] at hlen2
            refine ⟨pm, D2, _, _, rfl, rfl, s5 _ _ (s14 _ _ hm), hD2, by rw [nVs_len, nVs_len]; exact szBigLe (by omega), fun p np => ?_⟩
            refine ⟨_, rfl, _, _, rfl, rfl, p, rfl, (((s1.trans s14).trans s5).trans (same_new np)), ?_⟩
            rw [upd_same, pushAll_filter]
            unfold nVs
            rw [List.map_append]
    · have hi : M.length ≤ i := by
        have := of_decide_eq_false (Bool.eq_false_iff.mpr ei)
        rw [nVs_len] at this
        omega
      have hB := bfs_end hW hi
      clear hW ei hi
      -- apart, grown = {}, True
      intro pa na
      refine ⟨by show 2 ≤ sizeLine; decide, fun t1 n1 => ?_⟩
      refine ⟨t1, _, rfl, SqT.of upd_same, rfl, _, _, rfl, _, _, rfl, rfl, ?_⟩
      have s3 : Same H1 (upd (upd H1 pa (.dT [])) t1 (.tup [.ref pa, .bl true])) := (same_new na).trans (same_new n1)
      have ha3 : (upd (upd H1 pa (.dT [])) t1 (.tup [.ref pa, .bl true])) pa = some (.dT (tO [])) := same_new n1 _ _ upd_same
      generalize (upd (upd H1 pa (.dT [])) t1 (.tup [.ref pa, .bl true])) = H3 at s3 ha3
      have he1 := s1 _ _ he
      have lenM := hB.len
      have Mlt : ∀ y ∈ M, y < 16 := fun y hy => Nat.lt_of_lt_of_le (hB.lt y hy) hsz
      refine ⟨_, rfl, pm, rfl, ⟨_, SqL.of (s3 _ _ hm)⟩, ?_⟩
      refine for_list (K := K) (a := pm) (xs := nVs M) (fun j σ H4 => ∃ (y : Option V), σ = [some (.ref a), some (.ref e), some (.ref pm), some (nV i), some (.ref pa), some (.bl true), y, none, none, none, none, none, none, none, none, none] ∧ Same H1 H4 ∧
        H4 pa = some (.dT (tO (D ((M.take j).flatMap (prE E M)))))) ⟨none, rfl, s3, ha3⟩ (fun j σ H4 _ ⟨_, _, s4, _⟩ => SqL.of (s4 _ _ hm)) ?_ ?_
      · rintro j v σ H4 hj ⟨y, rfl, s4, ha4⟩
        obtain ⟨p, rfl, hp⟩ := nVs_at hj
        have hpM : p ∈ M := List.mem_of_getElem? hp
        refine ⟨_, rfl, .inr (.inr (.inl ⟨rfl, .inr ⟨_, ha4⟩⟩)), ?_⟩
        refine ⟨_, rfl, pm, rfl, ⟨_, SqL.of (s4 _ _ hm)⟩, fun D1 nD1 => ?_⟩
        refine lc_list (K := K) (a := pm) (xs := nVs M) (fun l H5 => Same H4 H5 ∧ ∃ (ts : List Addr) (qs : List (List Key × Addr × V)), H5 D1 = some (.lst (ts.map V.ref)) ∧ ts.length ≤ l ∧ PairsT H5 ts qs ∧ (qs.map fun q => (q.1, q.2.2)) = tO (prE E (M.take l) p))
          ⟨same_new nD1, [], [], by rw [upd_same]; rfl, Nat.le_refl _, .nil, rfl⟩ (fun l H5 _ ⟨s5, _⟩ => SqL.of (s5 _ _ (s4 _ _ hm))) ?_ ?_
        · rintro l v H5 hl ⟨s5, ts, qs, hD1, tl, tp, tq⟩
          obtain ⟨u, rfl, hu'⟩ := nVs_at hl
          have hl' := (List.getElem?_eq_some_iff.mp hu').1
          have he5 := s5 _ _ (s4 _ _ he1)
          refine ⟨rfl, ?_⟩
          refine ⟨_, rfl, _, rfl, e, _, rfl, .inl (SqL.of he5), rfl, flat_nVs _, _, rfl, _, rfl, e, _, rfl, .inl (SqL.of he5), rfl, flat_nVs _, rfl, _, rfl, ?_⟩
          have eT : (!decide (V.bl (if false = true then !inV (nV p) (nVs E) else inV (nV p) (nVs E)) = V.bl (if false = true then !inV (nV u) (nVs E) else inV (nV u) (nVs E)))) = decide (decide (p ∈ E) ≠ decide (u ∈ E)) := by
            rw [if_neg Bool.false_ne_true, if_neg Bool.false_ne_true, inV_nVs, inV_nVs]
            by_cases h1 : decide (p ∈ E) = decide (u ∈ E)
            · rw [h1]
              simp
            · have h2 : ¬ V.bl (decide (p ∈ E)) = V.bl (decide (u ∈ E)) := fun z => h1 (V.bl.inj z)
              rw [decide_eq_false h2, decide_eq_true h1]
              rfl
          rw [eT]
          have epr : prE E (M.take (l + 1)) p = prE E (M.take l) p ++ (if decide (decide (p ∈ E) ≠ decide (u ∈ E)) = true then [(p, u)] else []) := by
            unfold prE
            rw [take_snoc hu', filter_snoc, List.map_append]
            congr 1
            split <;> rfl
          rw [epr]
          by_cases hne : decide (p ∈ E) ≠ decide (u ∈ E)
          · rw [decide_eq_true hne]
            refine ⟨_, rfl, _, rfl, by show 2 ≤ sizeLine; decide, fun kt nkt => ?_⟩
            refine ⟨by show 2 ≤ sizeLine; decide, fun t nt => ?_⟩
            have s6 : Same H5 (upd (upd H5 kt (.tup [nV p, nV u])) t (.tup [.ref kt, .bl true])) := (same_new nkt).trans (same_new nt)
            have hk6 : (upd (upd H5 kt (.tup [nV p, nV u])) t (.tup [.ref kt, .bl true])) kt = some (.tup [nV p, nV u]) := same_new nt _ _ upd_same
            have ht6 : (upd (upd H5 kt (.tup [nV p, nV u])) t (.tup [.ref kt, .bl true])) t = some (.tup [.ref kt, .bl true]) := upd_same
            generalize (upd (upd H5 kt (.tup [nV p, nV u])) t (.tup [.ref kt, .bl true])) = H6 at s6 hk6 ht6
            have hD6 := s6 _ _ hD1
            have ntup : ∀ b ys, H6 b = some (.tup ys) → (upd H6 D1 (.lst (ts.map V.ref ++ [.ref t]))) b = some (.tup ys) := fun b ys z => by
              rw [upd_ne (ne_of z hD6 (fun w => by cases w))]
              exact z
            refine ⟨_, hD6, by rw [List.length_map]; exact szBig (by omega), ?_, ts ++ [t], qs ++ [(kP (p, u), kt, .bl true)], ?_, by rw [List.length_append, List.length_singleton]; omega, ?_, ?_⟩
            · intro b o eb
              rw [upd_ne (ne_of_none eb nD1)]
              exact s6 _ _ (s5 _ _ eb)
            · rw [upd_same, List.map_append]
              rfl
            · refine paired_snoc (paired_keep tp fun b _ q hb => ⟨ntup _ _ (s6 _ _ hb.1), ntup _ _ (s6 _ _ hb.2)⟩) ⟨ntup _ _ ht6, ntup _ _ hk6⟩
            · rw [List.map_append, tq, if_pos rfl]
              unfold tO
              rw [List.map_append]
              rfl
          · rw [decide_eq_false hne, if_neg Bool.false_ne_true, List.append_nil]
            exact ⟨s5, ts, qs, hD1, by omega, tp, tq⟩
        · rintro H5 ⟨s5, ts, qs, hD1, tl, tp, tq⟩
          rw [nVs_len, List.take_length] at tq
          refine ⟨D1, ts, qs, rfl, hD1, tp, fun d nd => ?_⟩
          rw [tq, show mergeT [] (tO (prE E M p)) = tO (prE E M p) from by
            rw [show ([] : List (List Key × V)) = tO [] from rfl, mergeT_tO]
            exact congrArg tO (D_of_nodup (prE_nodup hB.nodup p))]
          have s6 : Same H5 (upd H5 d (.dT (tO (prE E M p)))) := same_new nd
          have hd6 : (upd H5 d (.dT (tO (prE E M p)))) d = some (.dT (tO (prE E M p))) := upd_same
          generalize (upd H5 d (.dT (tO (prE E M p)))) = H6 at s6 hd6
          have ha6 := s6 _ _ (s5 _ _ ha4)
          have hne : pa ≠ d := fun z => by
            rw [← z, s5 _ _ ha4] at nd
            cases nd
          have hsz1 : (prE E M p).length ≤ 16 := by
            unfold prE
            rw [List.length_map]
            have := List.length_filter_le (fun q => decide (decide (p ∈ E) ≠ decide (q ∈ E))) M
            omega
          have hsz2 : (D ((M.take j).flatMap (prE E M))).length ≤ 256 := by
            have h1 : ∀ x ∈ D ((M.take j).flatMap (prE E M)), x ∈ D (M.flatMap (prE E M)) := by
              intro x hx
              obtain ⟨p', hp', hx'⟩ := List.mem_flatMap.mp (mem_D.mp hx)
              exact mem_D.mpr (List.mem_flatMap.mpr ⟨p', List.mem_of_mem_take hp', hx'⟩)
            have h2 := length_le_of_sub (D_nodup _) h1
            have h3 := (apart_start (n := n) (R := R) (E := E) (L := M)).len
            have h4 : M.length * M.length ≤ 16 * 16 := Nat.mul_le_mul (by omega) (by omega)
            omega
          refine ⟨pa, d, _, _, rfl, rfl, ha6, hd6, hne, .inr ?_, by rw [tO_len, tO_len]; exact szBigLe (by omega), ?_⟩
          · exact hs_tO (Mlt p hpM) (hB.nodup.filter _) (fun q hq => Mlt q (List.mem_filter.mp hq).1) _ _
          · refine ⟨_, rfl, ?_, ?_⟩
            · intro b o eb
              rw [upd_ne (ne_of_none eb na)]
              exact s6 _ _ (s5 _ _ (s4 _ _ eb))
            · rw [upd_same, mergeT_tO, take_snoc hp, List.flatMap_append, D_append]
              simp
      · rintro σ H4 ⟨y, rfl, s4, ha4⟩
        rw [nVs_len, List.take_length] at ha4
        have hA0 := apart_start (n := n) (R := R) (E := E) (L := M)
        generalize D (M.flatMap (prE E M)) = A0 at ha4 hA0
        clear ha3 s3
        have hAm : ∀ A : List (Nat × Nat), Apart n R E M A → A.length ≤ 256 := fun A hA => by
          have h1 := hA.len
          have h2 : M.length * M.length ≤ 16 * 16 := Nat.mul_le_mul (by omega) (by omega)
          omega
        refine ⟨fun m σ H5 => ∃ (A : List (Nat × Nat)) (g : Bool) (y6 y7 y8 : Option V), m = 2 * (256 - A.length) + (if g = true then 1 else 0) ∧ σ = [some (.ref a), some (.ref e), some (.ref pm), some (nV i), some (.ref pa), some (.bl g), y6, y7, y8, none, none, none, none, none, none, none] ∧ Same H1 H5 ∧ H5 pa = some (.dT (tO A)) ∧ Apart n R E M A ∧ (g = false → ∀ p ∈ M, ∀ q ∈ M, Cl n R A p q),
          ⟨_, A0, true, y, none, none, rfl, rfl, s4, ha4, hA0, (fun z => nomatch z)⟩, ?_⟩
        clear hA0 ha4 s4
        rintro m σ H5 ⟨A, g, y6, y7, y8, rfl, rfl, s5, ha5, hA, hg⟩
        have hAl := hAm A hA
        refine ⟨_, rfl, g, rfl, ?_⟩
        cases g with
        | true =>
          rw [if_pos rfl]
          refine ⟨fun σ' H' => ∃ (A' : List (Nat × Nat)) (g' : Bool) (y6 y7 y8 : Option V), σ' = [some (.ref a), some (.ref e), some (.ref pm), some (nV i), some (.ref pa), some (.bl g'), y6, y7, y8, none, none, none, none, none, none, none] ∧ Same H1 H' ∧ H' pa = some (.dT (tO A')) ∧ Pass n R E M A A' g' (fun p q => p ∈ M ∧ q ∈ M), ?_, ?_⟩
          · rintro σ' H' ⟨A', g', z6, z7, z8, rfl, s', ha', hP⟩
            refine ⟨_, ?_, A', g', z6, z7, z8, rfl, rfl, s', ha', hP.ap, fun z p hp q hq => (hP.f z).2 p q ⟨hp, hq⟩⟩
            have hl' := hAm A' hP.ap
            have hle := hP.le
            cases g' with
            | true =>
              have := hP.t rfl
              simp only [if_pos]
              omega
            | false =>
              simp
              omega
          · refine ⟨_, rfl, pm, rfl, ⟨_, SqL.of (s5 _ _ hm)⟩, ?_⟩
            refine for_list (K := K) (a := pm) (xs := nVs M) (fun j σ H6 => ∃ (A' : List (Nat × Nat)) (g' : Bool) (y6 y7 y8 : Option V), σ = [some (.ref a), some (.ref e), some (.ref pm), some (nV i), some (.ref pa), some (.bl g'), y6, y7, y8, none, none, none, none, none, none, none] ∧ Same H1 H6 ∧ H6 pa = some (.dT (tO A')) ∧ Pass n R E M A A' g' (fun p q => p ∈ M.take j ∧ q ∈ M))
              ⟨A, false, y6, y7, y8, rfl, s5, ha5, pass_old (pass_start hA) (fun p q z => nomatch z.1)⟩ (fun j σ H6 _ ⟨_, _, _, _, _, _, s6, _⟩ => SqL.of (s6 _ _ hm)) ?_ ?_
            · rintro j v σ H6 hj ⟨A', g', y6, y7, y8, rfl, s6, ha6, hP⟩
              obtain ⟨p, rfl, hp⟩ := nVs_at hj
              have hpM : p ∈ M := List.mem_of_getElem? hp
              refine ⟨_, rfl, pm, rfl, ⟨_, SqL.of (s6 _ _ hm)⟩, ?_⟩
              refine for_list (K := K) (a := pm) (xs := nVs M) (fun l σ H6 => ∃ (A' : List (Nat × Nat)) (g' : Bool) (y7 y8 : Option V), σ = [some (.ref a), some (.ref e), some (.ref pm), some (nV i), some (.ref pa), some (.bl g'), some (nV p), y7, y8, none, none, none, none, none, none, none] ∧ Same H1 H6 ∧ H6 pa = some (.dT (tO A')) ∧ Pass n R E M A A' g' (fun p' q' => (p' ∈ M.take j ∧ q' ∈ M) ∨ (p' = p ∧ q' ∈ M.take l)))
                ⟨A', g', y7, y8, rfl, s6, ha6, pass_old hP (fun p' q' z => .inl (z.elim id (fun y => nomatch y.2)))⟩ (fun j σ H6 _ ⟨_, _, _, _, _, s6, _⟩ => SqL.of (s6 _ _ hm)) ?_ ?_
              · clear hP ha6 s6 A' g' y6 y7 y8 H6
                rintro l v σ H6 hl ⟨A', g', y7, y8, rfl, s6, ha6, hP⟩
                obtain ⟨u, rfl, hu'⟩ := nVs_at hl
                have huM : u ∈ M := List.mem_of_getElem? hu'
                obtain ⟨x, hx1, hx2⟩ := ((hR.same s1).same s6).get (hB.lt p hpM)
                obtain ⟨z, hz1, hz2⟩ := ((hR.same s1).same s6).get (hB.lt u huM)
                have ha6' := ((hR.same s1).same s6).at_
                have wp := hM.wide p (hB.lt p hpM)
                have wu := hM.wide u (hB.lt u huM)
                refine ⟨_, rfl, _, rfl, a, _, _, _, rfl, rfl, SqL.of ha6', atI_nat hx1, x, _, rfl, .inl (SqL.of hx2), _, rfl, ?_, ?_, fun D1 nD1 => ?_⟩
                · rw [nVs_len]
                  omega
                · rw [nVs_len]
                  omega
                refine lc_range (n := ((nVs (rowOf R p)).length : Int).toNat) (fun l H7 => Same H6 H7 ∧ H7 D1 = some (.lst (nVs ((List.range l).filter fun k => decide ((Mach.dl R p k, Mach.dl R u k) ∈ A'))))) ⟨same_new nD1, by rw [upd_same]; rfl⟩ ?_ ?_
                · rintro k H7 hk ⟨s7, hD1⟩
                  have hk' : k < n := by
                    rw [nVs_len, wp] at hk
                    omega
                  have ek1 : (nVs (rowOf R p))[k]? = some (nV (Mach.dl R p k)) := nVs_get (by
                    unfold Mach.dl
                    rw [List.getD_eq_getElem?_getD, List.getElem?_eq_getElem (by omega)]
                    rfl)
                  have ek2 : (nVs (rowOf R u))[k]? = some (nV (Mach.dl R u k)) := nVs_get (by
                    unfold Mach.dl
                    rw [List.getD_eq_getElem?_getD, List.getElem?_eq_getElem (by omega)]
                    rfl)
                  refine ⟨rfl, ?_⟩
                  refine ⟨_, rfl, _, rfl, a, _, _, _, rfl, rfl, SqL.of (s7 _ _ ha6'), atI_nat hx1, _, rfl, x, _, _, _, rfl, rfl, SqL.of (s7 _ _ hx2), atI_zero_add ek1, _, rfl, _, rfl, a, _, _, _, rfl, rfl, SqL.of (s7 _ _ ha6'), atI_nat hz1, _, rfl, z, _, _, _, rfl, rfl, SqL.of (s7 _ _ hz2), atI_zero_add ek2, by show 2 ≤ sizeLine; decide, fun kt nkt => ?_⟩
                  obtain ⟨r, hg1, hr1⟩ := dgetT (p := Mach.dl R p k) (q := Mach.dl R u k) (same_new nkt _ _ (s7 _ _ ha6)) (upd_same (H := H7) (a := kt) (o := .tup [nV (Mach.dl R p k), nV (Mach.dl R u k)]))
                  refine ⟨_, rfl, pa, r, rfl, hg1, _, rfl, ?_⟩
                  rw [List.range_succ, filter_snoc, hr1]
                  have hfl := List.length_filter_le (fun k => decide ((Mach.dl R p k, Mach.dl R u k) ∈ A')) (List.range k)
                  rw [List.length_range] at hfl
                  by_cases hin : (Mach.dl R p k, Mach.dl R u k) ∈ A'
                  · rw [decide_eq_true hin]
                    refine ⟨_, rfl, _, same_new nkt _ _ hD1, by rw [nVs_len]; exact szBig (by omega), ?_, ?_⟩
                    · intro b o eb
                      rw [upd_ne (ne_of_none eb nD1)]
                      exact same_new nkt _ _ (s7 _ _ eb)
                    · rw [upd_same, if_pos rfl, nVs_snoc, Int.zero_add]
                      rfl
                  · rw [decide_eq_false hin]
                    refine ⟨s7.trans (same_new nkt), ?_⟩
                    rw [if_neg Bool.false_ne_true, List.append_nil]
                    exact same_new nkt _ _ hD1
                · rintro H7 ⟨s7, hD1⟩
                  rw [nVs_len, wp, Int.toNat_natCast] at hD1
                  -- if (p, q) not in apart and led != []
                  have ha7 := s7 _ _ ha6
                  have hrest : ∀ Hx, Same H7 Hx → ((p, u) ∈ A' ∨ ((List.range n).filter fun k => decide ((Mach.dl R p k, Mach.dl R u k) ∈ A')) = []) → ∃ (A2 : List (Nat × Nat)) (g2 : Bool) (z7 z8 : Option V), ([some (V.ref a), some (.ref e), some (.ref pm), some (nV i), some (.ref pa), some (.bl g'), some (nV p), some (nV u), some (.ref D1), none, none, none, none, none, none, none] : L2.St) = [some (.ref a), some (.ref e), some (.ref pm), some (nV i), some (.ref pa), some (.bl g2), some (nV p), z7, z8, none, none, none, none, none, none, none] ∧ Same H1 Hx ∧ Hx pa = some (.dT (tO A2)) ∧ Pass n R E M A A2 g2 (fun p' q' => (p' ∈ M.take j ∧ q' ∈ M) ∨ (p' = p ∧ q' ∈ M.take (l + 1))) := by
                    intro Hx sx hc
                    refine ⟨A', g', _, _, rfl, (s6.trans s7).trans sx, sx _ _ ha7, pass_old hP fun p' q' z => ?_⟩
                    rcases z with z | ⟨z1, z2⟩
                    · exact .inl (.inl z)
                    · rw [take_snoc hu'] at z2
                      rcases List.mem_append.mp z2 with z2 | z2
                      · exact .inl (.inr ⟨z1, z2⟩)
                      · rw [List.mem_singleton] at z2
                        rw [z1, z2]
                        refine .inr fun h1 k hk h2 => ?_
                        rcases hc with hc | hc
                        · exact h1 hc
                        · have : k ∈ ((List.range n).filter fun k => decide ((Mach.dl R p k, Mach.dl R u k) ∈ A')) := List.mem_filter.mpr ⟨List.mem_range.mpr hk, decide_eq_true h2⟩
                          rw [hc] at this
                          cases this
                  refine ⟨_, rfl, _, rfl, by show 2 ≤ sizeLine; decide, fun kt nkt => ?_⟩
                  have s8 : Same H7 (upd H7 kt (.tup [nV p, nV u])) := same_new nkt
                  obtain ⟨r, hg1, hr1⟩ := dgetT (p := p) (q := u) (s8 _ _ ha7) (upd_same (H := H7) (a := kt) (o := .tup [nV p, nV u]))
                  refine ⟨_, rfl, pa, r, rfl, hg1, _, rfl, ?_⟩
                  rw [hr1]
                  clear hg1 hr1
                  generalize (upd H7 kt (.tup [nV p, nV u])) = H8 at s8
                  by_cases hin : (p, u) ∈ A'
                  · rw [decide_eq_true hin]
                    exact hrest _ s8 (.inl hin)
                  · rw [decide_eq_false hin]
                    refine ⟨_, rfl, by show 0 ≤ sizeLine; decide, fun e0 ne0 => ?_⟩
                    have s9 : Same H8 (upd H8 e0 (.lst [])) := same_new ne0
                    have he9 : (upd H8 e0 (.lst [])) e0 = some (.lst []) := upd_same
                    generalize (upd H8 e0 (.lst [])) = H9 at s9 he9
                    have s79 := s8.trans s9
                    have hlt : ∀ k ∈ ((List.range n).filter fun k => decide ((Mach.dl R p k, Mach.dl R u k) ∈ A')), k < n ∧ (Mach.dl R p k, Mach.dl R u k) ∈ A' := fun k hk => by
                      obtain ⟨h1, h2⟩ := List.mem_filter.mp hk
                      exact ⟨List.mem_range.mp h1, of_decide_eq_true h2⟩
                    generalize ((List.range n).filter fun k => decide ((Mach.dl R p k, Mach.dl R u k) ∈ A')) = S at hD1 hrest hlt
                    refine ⟨dNs S, .list [], dp_nVs (s79 _ _ hD1), .lst (SqL.of he9) .nil, shp_dNs S, shp_nil, _, rfl, ?_⟩
                    rw [eqv_dNs_nil]
                    cases S with
                    | nil => exact hrest _ s79 (.inr rfl)
                    | cons k0 S' =>
                      obtain ⟨hk0, hk1⟩ := hlt k0 List.mem_cons_self
                      refine ⟨by show 2 ≤ sizeLine; decide, fun t0 nt0 => ?_⟩
                      refine ⟨t0, _, rfl, SqT.of upd_same, rfl, _, _, rfl, _, rfl, _, rfl, _, rfl, by show 2 ≤ sizeLine; decide, fun k2 nk2 => ?_⟩
                      have s10 : Same H9 (upd (upd H9 t0 (.tup [.bl true, .bl true])) k2 (.tup [nV p, nV u])) := (same_new nt0).trans (same_new nk2)
                      have hk10 : (upd (upd H9 t0 (.tup [.bl true, .bl true])) k2 (.tup [nV p, nV u])) k2 = some (.tup [nV p, nV u]) := upd_same
                      generalize (upd (upd H9 t0 (.tup [.bl true, .bl true])) k2 (.tup [nV p, nV u])) = H10 at s10 hk10
                      have ha10 := s10 _ _ (s79 _ _ ha7)
                      refine ⟨pa, _, rfl, DPut.t (k := kP (p, u)) ha10 hk10 (by rw [tO_len]; exact szBig (by have := hAm A' hP.ap; omega)), _, _, rfl, rfl, ?_⟩
                      refine ⟨A' ++ [(p, u)], true, _, _, rfl, ?_, ?_, pass_new hM hB hP hpM huM hk0 hin hk1⟩
                      · intro b o eb
                        rw [upd_ne (ne_of_none eb na)]
                        exact s10 _ _ (s79 _ _ (s7 _ _ (s6 _ _ eb)))
                      · rw [upd_same, putK_tO, push_new hin]
              · rintro σ H6 ⟨A', g', y7, y8, rfl, s6, ha6, hP⟩
                rw [nVs_len, List.take_length] at hP
                refine ⟨A', g', _, y7, y8, rfl, s6, ha6, pass_old hP fun p' q' z => .inl ?_⟩
                rw [take_snoc hp] at z
                rcases List.mem_append.mp z.1 with z' | z'
                · exact .inl ⟨z', z.2⟩
                · exact .inr ⟨List.mem_singleton.mp z', z.2⟩
            · rintro σ H6 ⟨A', g', y6, y7, y8, rfl, s6, ha6, hP⟩
              rw [nVs_len, List.take_length] at hP
              exact ⟨A', g', y6, y7, y8, rfl, s6, ha6, hP⟩
        | false =>
          rw [if_neg Bool.false_ne_true]
          have hcl := pass_end hM hB hA (hg rfl)
          have hAs : ∀ p ∈ M, ∀ q ∈ M, (p, q) ∉ A → (q, p) ∉ A := fun p hp q hq z => (hcl q hq p hp).mpr (((hcl p hp q hq).mp z).symm)
          have hAt : ∀ p ∈ M, ∀ q ∈ M, ∀ r ∈ M, (p, q) ∉ A → (q, r) ∉ A → (p, r) ∉ A := fun p hp q hq r hr z z' => (hcl p hp r hr).mpr (((hcl p hp q hq).mp z).trans ((hcl q hq r hr).mp z'))
          have hAr : ∀ p ∈ M, (p, p) ∉ A := fun p hp => (hcl p hp p hp).mpr (Alk.refl _ _ _ _)
          -- firsts, number = [], {}
          refine ⟨by show 0 ≤ sizeLine; decide, fun pf nf => ?_⟩
          intro pn nn
          refine ⟨by show 2 ≤ sizeLine; decide, fun t2 n2 => ?_⟩
          refine ⟨t2, _, rfl, SqT.of upd_same, rfl, _, _, rfl, _, _, rfl, rfl, ?_⟩
          have s6 : Same H5 (upd (upd (upd H5 pf (.lst [])) pn (.dK [])) t2 (.tup [.ref pf, .ref pn])) := ((same_new nf).trans (same_new nn)).trans (same_new n2)
          have hf6 : (upd (upd (upd H5 pf (.lst [])) pn (.dK [])) t2 (.tup [.ref pf, .ref pn])) pf = some (.lst (nVs [])) := same_new n2 _ _ (same_new nn _ _ upd_same)
          have hn6 : (upd (upd (upd H5 pf (.lst [])) pn (.dK [])) t2 (.tup [.ref pf, .ref pn])) pn = some (.dK (dO (M.take 0) fun _ => nV 0)) := same_new n2 _ _ upd_same
          generalize (upd (upd (upd H5 pf (.lst [])) pn (.dK [])) t2 (.tup [.ref pf, .ref pn])) = H6 at s6 hf6 hn6
          have nn5 : H5 pn = none := (same_new nf).free nn
          have nfn : pf ≠ pn := fun z => by
            rw [z, hn6] at hf6
            cases hf6
          refine ⟨_, rfl, pm, rfl, ⟨_, SqL.of (s6 _ _ (s5 _ _ hm))⟩, ?_⟩
          refine for_list (K := K) (a := pm) (xs := nVs M) (fun j σ H7 => ∃ (F : List Nat) (num : Nat → Nat) (y11 y12 : Option V), σ = [some (.ref a), some (.ref e), some (.ref pm), some (nV i), some (.ref pa), some (.bl false), y6, y7, y8, some (.ref pf), some (.ref pn), y11, y12, none, none, none] ∧ Same H5 H7 ∧ H7 pf = some (.lst (nVs F)) ∧ H7 pn = some (.dK (dO (M.take j) fun s => nV (num s))) ∧ Num (fun s t => (s, t) ∉ A) (M.take j) F num)
            ⟨[], fun _ => 0, none, none, rfl, s6, hf6, hn6, num_start _ _⟩ (fun j σ H7 _ ⟨_, _, _, _, _, s7, _⟩ => SqL.of (s7 _ _ (s5 _ _ hm))) ?_ ?_
          · clear s6 hf6 hn6
            rintro j v σ H7 hj ⟨F, num, y11, y12, rfl, s7, hf7, hn7, hN⟩
            obtain ⟨t, rfl, ht⟩ := nVs_at hj
            have htM : t ∈ M := List.mem_of_getElem? ht
            have hnt := nodup_not_take hB.nodup ht
            have hsub : ∀ s ∈ M.take j, s ∈ M := fun s hs => List.mem_of_mem_take hs
            have hFl : F.length ≤ 16 := by
              have h1 := congrArg List.length hN.d
              rw [List.length_range] at h1
              have h2 := length_le_of_sub (D_nodup ((M.take j).map num)) (fun x hx => mem_D.mp hx)
              rw [List.length_map, List.length_take] at h2
              omega
            refine ⟨_, rfl, pf, _, rfl, .inl (SqL.of hf7), _, rfl, ?_, ?_, fun D1 nD1 => ?_⟩
            · rw [nVs_len]
              omega
            · rw [nVs_len]
              omega
            refine lc_range (n := ((nVs F).length : Int).toNat) (fun l H8 => Same H7 H8 ∧ H8 D1 = some (.lst (nVs ((List.range l).filter fun k => decide ((F.getD k 0, t) ∉ A))))) ⟨same_new nD1, by rw [upd_same]; rfl⟩ ?_ ?_
            · rintro k H8 hk ⟨s8, hD1⟩
              have hk' : k < F.length := by
                rw [nVs_len] at hk
                omega
              have ek : (nVs F)[k]? = some (nV (F.getD k 0)) := nVs_get (by
                rw [List.getD_eq_getElem?_getD, List.getElem?_eq_getElem hk']
                rfl)
              refine ⟨rfl, ?_⟩
              refine ⟨_, rfl, _, rfl, pf, _, _, _, rfl, rfl, SqL.of (s8 _ _ hf7), atI_zero_add ek, _, rfl, by show 2 ≤ sizeLine; decide, fun kt nkt => ?_⟩
              obtain ⟨r, hg1, hr1⟩ := dgetT (p := F.getD k 0) (q := t) (same_new nkt _ _ (s8 _ _ (s7 _ _ ha5))) (upd_same (H := H8) (a := kt) (o := .tup [nV (F.getD k 0), nV t]))
              refine ⟨_, rfl, pa, r, rfl, hg1, _, rfl, ?_⟩
              rw [List.range_succ, filter_snoc, hr1]
              have hfl := List.length_filter_le (fun k => decide ((F.getD k 0, t) ∉ A)) (List.range k)
              rw [List.length_range] at hfl
              by_cases hin : (F.getD k 0, t) ∈ A
              · rw [decide_eq_true hin, decide_eq_false (fun z => z hin)]
                refine ⟨s8.trans (same_new nkt), ?_⟩
                rw [if_neg Bool.false_ne_true, List.append_nil]
                exact same_new nkt _ _ hD1
              · rw [decide_eq_false hin, decide_eq_true hin]
                refine ⟨_, rfl, _, same_new nkt _ _ hD1, by rw [nVs_len]; exact szBig (by omega), ?_, ?_⟩
                · intro b o eb
                  rw [upd_ne (ne_of_none eb nD1)]
                  exact same_new nkt _ _ (s8 _ _ eb)
                · rw [upd_same, if_pos rfl, nVs_snoc, Int.zero_add]
                  rfl
            · rintro H8 ⟨s8, hD1⟩
              rw [nVs_len, Int.toNat_natCast] at hD1
              have hS : ∀ k, k ∈ ((List.range F.length).filter fun k => decide ((F.getD k 0, t) ∉ A)) ↔ k < F.length ∧ (F.getD k 0, t) ∉ A := fun k => by
                rw [List.mem_filter, List.mem_range, decide_eq_true_eq]
              generalize ((List.range F.length).filter fun k => decide ((F.getD k 0, t) ∉ A)) = S at hD1 hS
              refine ⟨_, rfl, by show 0 ≤ sizeLine; decide, fun e0 ne0 => ?_⟩
              have s9 : Same H8 (upd H8 e0 (.lst [])) := same_new ne0
              have he9 : (upd H8 e0 (.lst [])) e0 = some (.lst []) := upd_same
              generalize (upd H8 e0 (.lst [])) = H9 at s9 he9
              have s79 := s8.trans s9
              have hn9 := s79 _ _ hn7
              have hf9 := s79 _ _ hf7
              refine ⟨dNs S, .list [], dp_nVs (s9 _ _ hD1), .lst (SqL.of he9) .nil, shp_dNs S, shp_nil, _, rfl, ?_⟩
              rw [eqv_dNs_nil]
              cases S with
              | nil =>
                refine ⟨_, rfl, pf, _, rfl, .inl (SqL.of hf9), _, rfl, _, rfl, pn, _, rfl, DPut.k (k := kN t) hn9 (by rw [dO_len, List.length_take]; exact szBig (by omega)), ?_⟩
                have hput : putK (dO (M.take j) fun s => nV (num s)) (kN t) (.int ((nVs F).length : Int)) = dO (M.take j ++ [t]) (fun s => nV (put num t F.length s)) := by
                  have h1 := putK_dO_new (L := M.take j) (c := fun s => nV (num s)) (d := fun s => nV (put num t F.length s)) (s := t) hnt (fun s hs => by
                    show nV (put num t F.length s) = nV (num s)
                    rw [put_ne (fun z => hnt (by rw [← z]; exact hs))])
                  rw [← h1, put_same, nVs_len]
                  rfl
                rw [hput]
                have hf10 : (upd H9 pn (.dK (dO (M.take j ++ [t]) fun s => nV (put num t F.length s)))) pf = some (.lst (nVs F)) := by
                  rw [upd_ne nfn]
                  exact hf9
                have hn10 : (upd H9 pn (.dK (dO (M.take j ++ [t]) fun s => nV (put num t F.length s)))) pn = some (.dK (dO (M.take j ++ [t]) fun s => nV (put num t F.length s))) := upd_same
                have s10 : Same H5 (upd H9 pn (.dK (dO (M.take j ++ [t]) fun s => nV (put num t F.length s)))) := fun b o eb => by
                  rw [upd_ne (ne_of_none eb nn5)]
                  exact s79 _ _ (s7 _ _ eb)
                have hD10 : (upd H9 pn (.dK (dO (M.take j ++ [t]) fun s => nV (put num t F.length s)))) D1 = some (.lst (nVs [])) := by
                  rw [upd_ne (ne_of (s9 _ _ hD1) hn9 (fun w => by cases w))]
                  exact s9 _ _ hD1
                generalize (upd H9 pn (.dK (dO (M.take j ++ [t]) fun s => nV (put num t F.length s)))) = H10 at hf10 hn10 s10 hD10
                refine ⟨_, rfl, by show 0 ≤ sizeLine; decide, fun e1 ne1 => ?_⟩
                have s11 : Same H10 (upd H10 e1 (.lst [])) := same_new ne1
                have he11 : (upd H10 e1 (.lst [])) e1 = some (.lst []) := upd_same
                generalize (upd H10 e1 (.lst [])) = H11 at s11 he11
                refine ⟨dNs [], .list [], dp_nVs (s11 _ _ hD10), .lst (SqL.of he11) .nil, shp_nil, shp_nil, _, rfl, ?_⟩
                rw [eqv_dNs_nil]
                have hf11 := s11 _ _ hf10
                refine ⟨_, rfl, .inl ⟨rfl, _, SqL.of hf11⟩, _, rfl, pf, _, _, rfl, rfl, hf11, by rw [nVs_len]; exact szBig (by omega), ?_⟩
                refine ⟨F ++ [t], put num t F.length, _, _, rfl, ?_, ?_, ?_, ?_⟩
                · intro b o eb
                  rw [upd_ne (ne_of_none eb nf)]
                  exact s11 _ _ (s10 _ _ eb)
                · rw [upd_same, nVs_snoc]
                · rw [upd_ne nfn.symm, take_snoc ht]
                  exact s11 _ _ hn10
                · rw [take_snoc ht]
                  refine num_new hN hnt (hAr t htM) (fun s hs z => hAs t htM s (hsub s hs) z) (fun s hs u hu z => hAs s (hsub s hs) u (hsub u hu) z) (fun s hs u hu z z' => hAt s (hsub s hs) u (hsub u hu) t htM z z') (fun k hk z => ?_)
                  have := (hS k).mpr ⟨hk, by rw [List.getD_eq_getElem?_getD, List.getElem?_eq_getElem hk]; exact z⟩
                  cases this
              | cons k0 S' =>
                obtain ⟨hk0, hk1⟩ := (hS k0).mp List.mem_cons_self
                have hk1' : (F[k0], t) ∉ A := by
                  rw [List.getD_eq_getElem?_getD, List.getElem?_eq_getElem hk0] at hk1
                  exact hk1
                refine ⟨_, rfl, D1, _, _, _, rfl, rfl, SqL.of (s9 _ _ hD1), atI_nat (j := 0) (nVs_get (ns := k0 :: S') (i := 0) (n := k0) rfl), _, rfl, _, rfl, pn, _, rfl, DPut.k (k := kN t) hn9 (by rw [dO_len, List.length_take]; exact szBig (by omega)), ?_⟩
                have hput : putK (dO (M.take j) fun s => nV (num s)) (kN t) (nV k0) = dO (M.take j ++ [t]) (fun s => nV (put num t k0 s)) := by
                  have h1 := putK_dO_new (L := M.take j) (c := fun s => nV (num s)) (d := fun s => nV (put num t k0 s)) (s := t) hnt (fun s hs => by
                    show nV (put num t k0 s) = nV (num s)
                    rw [put_ne (fun z => hnt (by rw [← z]; exact hs))])
                  rw [← h1, put_same]
                rw [hput]
                have hf10 : (upd H9 pn (.dK (dO (M.take j ++ [t]) fun s => nV (put num t k0 s)))) pf = some (.lst (nVs F)) := by
                  rw [upd_ne nfn]
                  exact hf9
                have hn10 : (upd H9 pn (.dK (dO (M.take j ++ [t]) fun s => nV (put num t k0 s)))) pn = some (.dK (dO (M.take j ++ [t]) fun s => nV (put num t k0 s))) := upd_same
                have s10 : Same H5 (upd H9 pn (.dK (dO (M.take j ++ [t]) fun s => nV (put num t k0 s)))) := fun b o eb => by
                  rw [upd_ne (ne_of_none eb nn5)]
                  exact s79 _ _ (s7 _ _ eb)
                have hD10 : (upd H9 pn (.dK (dO (M.take j ++ [t]) fun s => nV (put num t k0 s)))) D1 = some (.lst (nVs (k0 :: S'))) := by
                  rw [upd_ne (ne_of (s9 _ _ hD1) hn9 (fun w => by cases w))]
                  exact s9 _ _ hD1
                generalize (upd H9 pn (.dK (dO (M.take j ++ [t]) fun s => nV (put num t k0 s)))) = H10 at hf10 hn10 s10 hD10
                refine ⟨_, rfl, by show 0 ≤ sizeLine; decide, fun e1 ne1 => ?_⟩
                have s11 : Same H10 (upd H10 e1 (.lst [])) := same_new ne1
                have he11 : (upd H10 e1 (.lst [])) e1 = some (.lst []) := upd_same
                generalize (upd H10 e1 (.lst [])) = H11 at s11 he11
                refine ⟨dNs (k0 :: S'), .list [], dp_nVs (s11 _ _ hD10), .lst (SqL.of he11) .nil, shp_dNs _, shp_nil, _, rfl, ?_⟩
                rw [eqv_dNs_nil]
                refine ⟨F, put num t k0, _, _, rfl, s10.trans s11, s11 _ _ hf10, ?_, ?_⟩
                · rw [take_snoc ht]
                  exact s11 _ _ hn10
                · rw [take_snoc ht]
                  exact num_old hN hnt (hAr t htM) (fun s hs z => hAs s (hsub s hs) t htM z) (fun s hs z => hAs t htM s (hsub s hs) z) (fun s hs u hu z z' => hAt s (hsub s hs) u (hsub u hu) t htM z z') (fun s hs u hu z z' => hAt s (hsub s hs) t htM u (hsub u hu) z z') hk0 hk1'
          · rintro σ H7 ⟨F, num, y11, y12, rfl, s7, hf7, hn7, hN⟩
            rw [nVs_len, List.take_length] at hn7 hN
            have hq := quot_least hM hB (fun s hs t ht => (hN.iff s hs t ht).trans (hcl s hs t ht)) hN.sub hN.fn hN.d
            have hFl : F.length ≤ M.length := by
              have h1 := congrArg List.length hN.d
              rw [List.length_range] at h1
              have h2 := length_le_of_sub (D_nodup (M.map num)) (fun x hx => mem_D.mp hx)
              rw [List.length_map] at h2
              omega
            -- return
            have hs07 : Same H H7 := (s1.trans s5).trans s7
            refine ⟨_, rfl, pf, rfl, ⟨_, SqL.of hf7⟩, fun D1 nD1 => ?_⟩
            refine lc_list (K := K) (a := pf) (xs := nVs F) (fun i H8 => Same H7 H8 ∧ ∃ ys : List Addr, ys.length = i ∧ (∀ y ∈ ys, H7 y = none) ∧ H8 D1 = some (.lst (ys.map V.ref)) ∧ (∀ y ∈ ys, y ≠ D1) ∧
              ∀ (j : Nat) (y : Addr) (s : Nat), ys[j]? = some y → F[j]? = some s → H8 y = some (.lst (nVs ((rowOf R s).map num))))
              ⟨same_new nD1, [], rfl, fun y hy => (nomatch hy), by rw [upd_same]; rfl, fun y hy => (nomatch hy), fun j y s hy => by simp at hy⟩ (fun i H8 _ ⟨s8, _⟩ => SqL.of (s8 _ _ hf7)) ?_ ?_
            · rintro i v H8 hi ⟨s8, ys, yl, ynew, hD1, yne, hrow⟩
              obtain ⟨st, rfl, hst⟩ := nVs_at hi
              have hi' : i < F.length := (List.getElem?_eq_some_iff.mp hst).1
              have hsM : st ∈ M := hN.sub _ (List.mem_of_getElem? hst)
              obtain ⟨x, hx1, hx2⟩ := (hR.same (hs07.trans s8)).get (hB.lt st hsM)
              refine ⟨rfl, ?_⟩
              refine ⟨_, rfl, _, rfl, a, _, _, _, rfl, rfl, SqL.of ((hs07.trans s8) _ _ hR.at_), atI_nat hx1, x, rfl, ⟨_, SqL.of hx2⟩, fun D2 nD2 => ?_⟩
              refine lc_list (K := K) (a := x) (xs := nVs (rowOf R st)) (fun j H9 => Same H8 H9 ∧ H9 D2 = some (.lst (nVs (((rowOf R st).take j).map num)))) ⟨same_new nD2, by rw [upd_same]; rfl⟩ (fun j H9 _ ⟨s9, _⟩ => SqL.of (s9 _ _ hx2)) ?_ ?_
              · rintro j v H9 hj ⟨s9, hD2⟩
                obtain ⟨u, rfl, hu'⟩ := nVs_at hj
                have huM : u ∈ M := hB.closed hsM (List.mem_of_getElem? hu')
                have hj' := (List.getElem?_eq_some_iff.mp hu').1
                have hw := hM.wide st (hB.lt st hsM)
                refine ⟨rfl, ?_⟩
                refine ⟨_, rfl, _, rfl, pn, _, rfl, dget_dO (s9 _ _ (s8 _ _ hn7)) huM, _, hD2, ?_, ?_, ?_⟩
                · rw [nVs_len, List.length_map, List.length_take]
                  exact szBig (by omega)
                · intro b o eb
                  rw [upd_ne (ne_of_none eb nD2)]
                  exact s9 _ _ eb
                · rw [upd_same, take_snoc hu', List.map_append]
                  exact congrArg (fun z => some (HO.lst z)) (nVs_snoc _ _).symm
              · rintro H9 ⟨s9, hD2⟩
                rw [nVs_len, List.take_length] at hD2
                have hD1' := s9 _ _ hD1
                have n12 : D2 ≠ D1 := fun z => by
                  rw [z, hD1] at nD2
                  cases nD2
                refine ⟨_, hD1', by rw [List.length_map]; exact szBig (by omega), ?_, ys ++ [D2], by rw [List.length_append, List.length_singleton, yl], ?_, ?_, ?_, ?_⟩
                · intro b o eb
                  rw [upd_ne (ne_of_none eb nD1)]
                  exact (s8.trans s9) _ _ eb
                · intro y hy
                  rcases List.mem_append.mp hy with z | z
                  · exact ynew y z
                  · rw [List.mem_singleton] at z
                    rw [z]
                    exact s8.free nD2
                · rw [upd_same, List.map_append]
                  rfl
                · intro y hy
                  rcases List.mem_append.mp hy with z | z
                  · exact yne y z
                  · rw [List.mem_singleton] at z
                    rw [z]
                    exact n12
                · intro j y s' hy hs'
                  by_cases hj : j < ys.length
                  · rw [List.getElem?_append_left hj] at hy
                    rw [upd_ne (yne y (List.mem_of_getElem? hy))]
                    exact s9 _ _ (hrow j y s' hy hs')
                  · have hj2 : j = ys.length := by
                      have := (List.getElem?_eq_some_iff.mp hy).1
                      rw [List.length_append, List.length_singleton] at this
                      omega
                    rw [hj2, yl, hst] at hs'
                    rw [hj2, List.getElem?_concat_length] at hy
                    cases hs'
                    cases hy
                    rw [upd_ne n12]
                    exact hD2
            · rintro H8 ⟨s8, ys, yl, ynew, hD1, yne, hrow⟩
              refine ⟨_, rfl, pf, rfl, ⟨_, SqL.of (s8 _ _ hf7)⟩, fun D3 nD3 => ?_⟩
              refine lc_list (K := K) (a := pf) (xs := nVs F) (fun i H9 => Same H8 H9 ∧ H9 D3 = some (.lst (nVs (((F.take i).filter fun s => decide (s ∈ E)).map num)))) ⟨same_new nD3, by rw [upd_same]; rfl⟩ (fun i H9 _ ⟨s9, _⟩ => SqL.of (s9 _ _ (s8 _ _ hf7))) ?_ ?_
              · rintro i v H9 hi ⟨s9, hD3⟩
                obtain ⟨st, rfl, hst⟩ := nVs_at hi
                have hi' : i < F.length := (List.getElem?_eq_some_iff.mp hst).1
                have hsM : st ∈ M := hN.sub _ (List.mem_of_getElem? hst)
                refine ⟨rfl, ?_⟩
                refine ⟨_, rfl, _, rfl, e, _, rfl, .inl (SqL.of (s9 _ _ (s8 _ _ (hs07 _ _ he)))), rfl, flat_nVs _, _, rfl, ?_⟩
                rw [take_snoc hst, filter_snoc, if_neg Bool.false_ne_true, inV_nVs]
                have hfl := List.length_filter_le (fun s => decide (s ∈ E)) (F.take i)
                rw [List.length_take] at hfl
                by_cases hE : st ∈ E
                · rw [decide_eq_true hE]
                  refine ⟨_, rfl, _, rfl, pn, _, rfl, dget_dO (s9 _ _ (s8 _ _ hn7)) hsM, _, hD3, ?_, ?_, ?_⟩
                  · rw [nVs_len, List.length_map]
                    exact szBig (by omega)
                  · intro b o eb
                    rw [upd_ne (ne_of_none eb nD3)]
                    exact s9 _ _ eb
                  · rw [upd_same, if_pos rfl, List.map_append]
                    exact congrArg (fun z => some (HO.lst z)) (nVs_snoc _ _).symm
                · rw [decide_eq_false hE]
                  refine ⟨s9, ?_⟩
                  rw [if_neg Bool.false_ne_true, List.append_nil]
                  exact hD3
              · rintro H9 ⟨s9, hD3⟩
                rw [nVs_len, List.take_length] at hD3
                refine ⟨by show 2 ≤ sizeLine; decide, fun pt nt => ?_⟩
                have s08 := (hs07.trans s8).trans s9
                have s10 : Same H9 (upd H9 pt (.tup [.ref D1, .ref D3])) := same_new nt
                refine q _ pt D1 D3 ys _ _ (s08.trans s10) (s08.free nt) (hs07.free nD1) ((hs07.trans s8).free nD3) (fun y hy => hs07.free (ynew y hy)) upd_same ?_ (s10 _ _ hD3) hq.1 hq.2 ?_
                · rw [nVs_len] at yl
                  refine ⟨s10 _ _ (s9 _ _ hD1), by rw [yl, List.length_map], fun j y hy => ?_⟩
                  have hj : j < F.length := by
                    have := (List.getElem?_eq_some_iff.mp hy).1
                    omega
                  rw [s10 _ _ (s9 _ _ (hrow j y F[j] hy (List.getElem?_eq_getElem hj)))]
                  have er : rowOf (F.map fun s => (rowOf R s).map num) j = (rowOf R F[j]).map num := by
                    rw [show rowOf (F.map fun s => (rowOf R s).map num) j = (F.map fun s => (rowOf R s).map num).getD j [] from rfl, List.getD_eq_getElem?_getD, List.getElem?_map, List.getElem?_eq_getElem hj]
                    rfl
                  rw [er]
                · rw [List.length_map]
                  omega
end
end K15

namespace K15
open PySem PySem.Spec PyProof.Rows L2 Rg Mach
theorem lm_binds {K : PySem.W.Frag} {f : Addr} {fd : FuncData} (F : FunD K "least_machine" "least_machine" (defArgs sLm) (defBody sLm) (defScope sLm) [] [("begin", .int 0)] f fd) : ∃ ds, Vals [.int 0] ds ∧ Binds K fd ["rows", "ends", "begin"] ds :=
  F.binds0 (ps := ["rows", "ends", "begin"]) 2 (by simp) rfl fun D doc pm an cdv ct us ks h1 h2 => match us, h1, ks, h2 with
    | [_, _], _, [_], _ => ⟨_, _, _, _, _, _, rfl, rfl, rfl⟩
abbrev sWrong : Stmt := inClass (topS 3) 0
theorem scW : SuScope ["self", "place"] ["self", "place"] (defScope sWrong) := ⟨rfl, rfl, rfl, by decide +kernel, rfl, by decide +kernel, by decide +kernel, by decide +kernel, by decide +kernel, by decide +kernel⟩
abbrev sLaw : Stmt := topS 51
def nLaw : List Str := ["_law_script", "_law_bag_here", "_law_turn", "_law_signs_here", "_law_rows", "_law_ends", "_law_things", "_law_k", "_law_before", "_law_due_here", "_law_found", "_law_least_here", "_law_again", "_law_told_here"]
theorem scLaw : FnScope nLaw ["_law_script"] (defScope sLaw) := ⟨rfl, rfl, rfl, by decide +kernel, rfl, by decide +kernel, by decide +kernel⟩
def spLaw (K : PySem.W.Frag) : Sp := fun vs H Q _ => ∃ (a : Addr) (ns : List Int), vs = [.ref a] ∧ SqL K H a (ns.map V.int) ∧ ns.length ≤ 63 ∧ ∀ H' : Hp, Q (.bl true) H'
theorem dqAll_nVs {K : PySem.W.Frag} {H : Hp} : ∀ ns : List Nat, DqAll K H (nVs ns) (ns.map fun n : Nat => .int (n : Int))
  | [] => .nil
  | n :: ns => .cons (.int _) (dqAll_nVs ns)
theorem dq_nVs {K : PySem.W.Frag} {H : Hp} {p : Addr} {ns : List Nat} (h : H p = some (.lst (nVs ns))) : Dq K H (.ref p) (dNs ns) := .lst h (dqAll_nVs ns)
theorem dqAll_rows {K : PySem.W.Frag} {H : Hp} : ∀ {xs : List Addr} {R : List (List Nat)}, xs.length = R.length → (∀ (i : Nat) (x : Addr), xs[i]? = some x → H x = some (.lst (nVs (rowOf R i)))) → DqAll K H (xs.map V.ref) (R.map dNs)
  | [], [], _, _ => .nil
  | [], _ :: _, h, _ => by cases h
  | _ :: _, [], h, _ => by cases h
  | x :: xs, r :: R, h, k => .cons (dq_nVs (k 0 x rfl)) (dqAll_rows (by simpa using h) fun i y e => k (i + 1) y e)
theorem dq_rows {K : PySem.W.Frag} {H : Hp} {a : Addr} {xs : List Addr} {R : List (List Nat)} (h : RowsAt H a xs R) : Dq K H (.ref a) (dRs R) := .lst h.at_ (dqAll_rows h.len h.row)
theorem rows_mask {g : Addr} {H : Hp} {a : Addr} {xs : List Addr} {R : List (List Nat)} (h : RowsAt H a xs R) (ha : a ≠ g) (hx : ∀ x ∈ xs, x ≠ g) : RowsAt (mask g H) a xs R :=
  ⟨mask_at h.at_ ha, h.len, fun i x e => mask_at (h.row i x e) (hx x (List.mem_of_getElem? e))⟩
theorem kit_noR {K : PySem.W.Frag} {C D : Addr} (hs : PySem.W.subIn K (.ref D) (.ref D) = some true) (ic : PySem.W.isClsIn K C = true) (tC : PySem.W.typeIn K (.ref C) = some (.type "type")) (q : PySem.W.subIn K (.ref D) (.ref C) = some false) : PySem.W.kitOne K (.ref D) (.ref C) = some false := by
  unfold PySem.W.kitOne
  have hne : ¬ (Value.ref D == Value.ref C) = true := fun e => by
    have e' := beq_iff_eq.mp e
    injection e' with e'
    subst e'
    rw [hs] at q
    cases q
  rw [if_neg hne]
  unfold PySem.W.kitCls
  show (if ((PySem.W.clsIn K C).isSome && PySem.W.typeIn K (.ref C) == some (.type "type")) = true then PySem.W.subIn K (.ref D) (.ref C) else none) = _
  rw [if_pos, q]
  rw [Bool.and_eq_true]
  exact ⟨ic, by rw [tC]; simp⟩
theorem kit_any2 {K : PySem.W.Frag} {C1 C2 D : Addr} (hs : PySem.W.subIn K (.ref D) (.ref D) = some true) (i1 : PySem.W.isClsIn K C1 = true) (t1 : PySem.W.typeIn K (.ref C1) = some (.type "type")) (q1 : PySem.W.subIn K (.ref D) (.ref C1) = some false)
    (i2 : PySem.W.isClsIn K C2 = true) (t2 : PySem.W.typeIn K (.ref C2) = some (.type "type")) (q2 : PySem.W.subIn K (.ref D) (.ref C2) = some false) : PySem.W.kitAny K (.ref D) [.ref C1, .ref C2] = some false := by
  unfold PySem.W.kitAny
  rw [kit_noR hs i1 t1 q1]
  show PySem.W.kitAny K (.ref D) [.ref C2] = some false
  unfold PySem.W.kitAny
  rw [kit_noR hs i2 t2 q2]
  rfl
mutual
theorem Dp.sm {K : PySem.W.Frag} {H H' : Hp} (s : Same H H') : ∀ {v : V} {d : PyData}, Dp K H v d → Dp K H' v d
  | _, _, .non => .non
  | _, _, .bl b => .bl b
  | _, _, .int i => .int i
  | _, _, .str x => .str x
  | _, _, .lst h a => .lst (SqL.sm s h) (DpAll.sm s a)
  | _, _, .tup h a => .tup (SqT.sm s h) (DpAll.sm s a)
theorem DpAll.sm {K : PySem.W.Frag} {H H' : Hp} (s : Same H H') : ∀ {vs : List V} {ds : List PyData}, DpAll K H vs ds → DpAll K H' vs ds
  | _, _, .nil => .nil
  | _, _, .cons h a => .cons (Dp.sm s h) (DpAll.sm s a)
end
theorem dNs_inj {E E' : List Nat} (h : dNs E = dNs E') : E = E' := by
  have := eqv_dNs E E'
  rw [h, eqv_same (by have := shp_dNs E'; unfold SeqAt.shaped at this; exact (Bool.and_eq_true_iff.mp this).1)] at this
  exact of_decide_eq_true this.symm
theorem dRs_inj {R R' : List (List Nat)} (h : dRs R = dRs R') : R = R' := by
  have := eqv_dRs R R'
  rw [h, eqv_same (by have := shp_dRs R'; unfold SeqAt.shaped at this; exact (Bool.and_eq_true_iff.mp this).1)] at this
  exact of_decide_eq_true this.symm
/-- what is due, told as data -/
def DueD (a b c : PyData) (d : PyData) : Prop := (∃ n, n ≤ 2 ∧ dueQ (.dat a) (.dat b) (.dat c) = some n ∧ d = dWrong n) ∨
  ∃ z R E R' E', GoodM (.dat a) (.dat b) (.dat c) z R E ∧ Least z.cps.size R' E' ∧ Alk z.cps.size R' E' 0 R E 0 ∧ R'.length ≤ 16 ∧ d = dMade z R' E'
theorem due_le {a b c : Tg} {n : Nat} (h : dueQ a b c = some n) : n ≤ 2 := by
  unfold dueQ at h
  split at h
  · split at h
    · split at h
      · cases h
      · cases h; decide
    · cases h; decide
  · cases h; decide
theorem gd_wrong {n : Nat} (h : n ≤ 2) : Gd 2 100 (dWrong n) := by
  have key : ∀ m : Fin 3, ((dWrong m.val).canLay0 && (dWrong m.val).showable && (dWrong m.val).intsShort 13 && decide ((dWrong m.val).depth ≤ 2) && decide ((dWrong m.val).weight ≤ 100)) = true := by decide +kernel
  have hk := key ⟨n, by omega⟩
  simp only [Bool.and_eq_true, decide_eq_true_eq] at hk
  exact ⟨hk.1.1.1.1, hk.1.1.1.2, hk.1.1.2, hk.1.2, hk.2⟩
theorem gd_made {z : Str} {R : List (List Nat)} {E : List Nat} (hz : PyData.strOk z = true) (h4 : z.cps.size ≤ 4) (fw : Few z.cps.size R E) : Gd 3 2000 (dMade z R E) :=
  (gd_tuple (e := 2) (gdAll_cons ((gd_str (x := "made") (by decide +kernel) (k := 4) (by decide +kernel)).le (by decide) (Nat.le_refl _)) (gdAll_cons ((gd_str hz (k := 4) h4).le (by decide) (Nat.le_refl _)) (gdAll_cons fw.gR (gdAll_cons (fw.gE.le (by decide) (Nat.le_refl _)) gdAll_nil))))).le (by decide) (by decide)
theorem Gt3.gq {a b c : PyData} (h : Gt3 a b c) : Gq 31 60003 (.tuple [a, b, c]) := by
  have := gq_tuple (gqAll_cons h.ga (gqAll_cons h.gb (gqAll_cons h.gc gqAll_nil)))
  exact this.le (by decide) (by decide)
theorem Gt3.few {a b c : PyData} (h : Gt3 a b c) : Few3 (.dat a) (.dat b) (.dat c) := by
  have h1 := h.ga.bk
  have h2 := h.gb.bk
  have h3 := h.gc.bk
  refine ⟨show a.bulk ≤ 100000 by omega, show b.bulk ≤ 100000 by omega, show c.bulk ≤ 100000 by omega, fun z e h4 => h.zok z (by injection e) h4, fun z R E g => ?_⟩
  have e : b = dRs R := by have := g.eb; injection this
  exact h.low _ R e g.mok
theorem At3.th {K : PySem.W.Frag} {C g : Addr} {H : Hp} {p : Addr} {x y u : V} {a b c : PyData} (h : At3 K g H p x y u a b c) : Th3 K C H p x y u (.dat a) (.dat b) (.dat c) := ⟨mask_same _ _ h.at_, .dat (h.x.sm mask_same), .dat (h.y.sm mask_same), .dat (h.u.sm mask_same)⟩
theorem Th3.dq {K : PySem.W.Frag} {C : Addr} {H : Hp} {p : Addr} {x y u : V} {a b c : PyData} (h : Th3 K C H p x y u (.dat a) (.dat b) (.dat c)) : Dq K H (.ref p) (.tuple [a, b, c]) := by
  obtain ⟨h0, h1, h2, h3⟩ := h
  cases h1 with
  | dat h1 => cases h2 with
    | dat h2 => cases h3 with
      | dat h3 => exact .tup (SqT.of h0) (.cons h1 (.cons h2 (.cons h3 .nil)))
structure Txt (K : PySem.W.Frag) (mg : Str → Option Value) (f10 f11 f13 f15 f16 f17 f18 f19 f28 f39 f40 f41 f42 f43 f44 f45 f46 f47 f48 f49 f50 C fI fT fE fS pp : Addr) (fd10 fd11 fd13 fd15 fd16 fd17 fd18 fd19 fd28 fd39 fd40 fd41 fd42 fd43 fd44 fd45 fd46 fd47 fd48 fd49 fd50 fdI fdT fdE fdS : FuncData) : Prop where
  F10 : Fun K "is_integer" "is_integer" sIsInt f10 fd10
  b10 : Binds K fd10 ["thing"] []
  g10 : mg "is_integer" = some (.ref f10)
  F11 : Fun K "is_signs" "is_signs" sIsSg f11 fd11
  b11 : Binds K fd11 ["thing"] []
  g11 : mg "is_signs" = some (.ref f11)
  F13 : Fun K "is_number" "is_number" sIsNum f13 fd13
  b13 : Binds K fd13 ["many", "thing"] []
  g13 : mg "is_number" = some (.ref f13)
  F15 : Fun K "reached_from" "reached_from" sReach f15 fd15
  b15 : Binds K fd15 ["rows", "begin"] []
  g15 : mg "reached_from" = some (.ref f15)
  F16 : Fun K "parted_once" "parted_once" sPart f16 fd16
  b16 : Binds K fd16 ["rows", "classes", "states"] []
  g16 : mg "parted_once" = some (.ref f16)
  F17 : Fun K "how_many" "how_many" sHow f17 fd17
  b17 : Binds K fd17 ["classes"] []
  g17 : mg "how_many" = some (.ref f17)
  F18 : Fun K "classes_of" "classes_of" sCls f18 fd18
  b18 : Binds K fd18 ["rows", "ends", "states"] []
  g18 : mg "classes_of" = some (.ref f18)
  F19 : FunD K "least_machine" "least_machine" (defArgs sLm) (defBody sLm) (defScope sLm) [] [("begin", .int 0)] f19 fd19
  b19 : ∃ ds, Vals [.int 0] ds ∧ Binds K fd19 ["rows", "ends", "begin"] ds
  g19 : mg "least_machine" = some (.ref f19)
  F28 : Fun K "are_rows" "are_rows" sAreR f28 fd28
  b28 : Binds K fd28 ["wide", "thing"] []
  g28 : mg "are_rows" = some (.ref f28)
  F39 : Fun K "_law_bag" "_law_bag" sBag f39 fd39
  b39 : Binds K fd39 ["_law_script"] []
  g39 : mg "_law_bag" = some (.ref f39)
  F40 : Fun K "_law_take" "_law_take" sTake f40 fd40
  b40 : Binds K fd40 ["_law_bag_here", "_law_many"] []
  g40 : mg "_law_take" = some (.ref f40)
  F41 : Fun K "_law_odd" "_law_odd" sOdd f41 fd41
  b41 : Binds K fd41 ["_law_bag_here"] []
  g41 : mg "_law_odd" = some (.ref f41)
  F42 : Fun K "_law_signs" "_law_signs" sSigns f42 fd42
  b42 : Binds K fd42 ["_law_bag_here"] []
  g42 : mg "_law_signs" = some (.ref f42)
  F43 : Fun K "_law_machine" "_law_machine" sMach f43 fd43
  b43 : Binds K fd43 ["_law_bag_here", "_law_signs_here", "_law_states"] []
  g43 : mg "_law_machine" = some (.ref f43)
  F44 : Fun K "_law_least" "_law_least" sLs f44 fd44
  b44 : Binds K fd44 ["_law_rows", "_law_ends"] []
  g44 : mg "_law_least" = some (.ref f44)
  F45 : Fun K "_law_is_state" "_law_is_state" sIsSt f45 fd45
  b45 : Binds K fd45 ["_law_many", "_law_thing"] []
  g45 : mg "_law_is_state" = some (.ref f45)
  F46 : Fun K "_law_due" "_law_due" sDue f46 fd46
  b46 : Binds K fd46 ["_law_things"] []
  g46 : mg "_law_due" = some (.ref f46)
  F47 : Fun K "_law_told" "_law_told" sTold f47 fd47
  b47 : Binds K fd47 ["_law_things"] []
  g47 : mg "_law_told" = some (.ref f47)
  F48 : Fun K "_law_spoilt" "_law_spoilt" sSpoilt f48 fd48
  b48 : Binds K fd48 ["_law_bag_here", "_law_things"] []
  g48 : mg "_law_spoilt" = some (.ref f48)
  F49 : Fun K "_law_great" "_law_great" sGreat f49 fd49
  b49 : Binds K fd49 ["_law_bag_here", "_law_things"] []
  g49 : mg "_law_great" = some (.ref f49)
  F50 : Fun K "_law_own_right" "_law_own_right" sOwnR f50 fd50
  b50 : Binds K fd50 ["_law_signs_here", "_law_rows", "_law_ends"] []
  g50 : mg "_law_own_right" = some (.ref f50)
  T : TxC K C
  gC : mg "Texts" = some (.ref C)
  M : Mk K C fI
  FI : Fun K "__init__" "Texts.__init__" sInit fI fdI
  bI : Binds K fdI ["self", "signs", "rows", "ends"] []
  mI : Meth K C "__init__" fI
  FT : Fun K "table" "Texts.table" sTab fT fdT
  bT : Binds K fdT ["self"] []
  mT : Meth K C "table" fT
  FE : Fun K "ends" "Texts.ends" sEnd fE fdE
  bE : Binds K fdE ["self"] []
  mE : Meth K C "ends" fE
  FS : Fun K "signs" "Texts.signs" sSg fS fdS
  bS : Binds K fdS ["self"] []
  pr : PropOf K C "signs" pp fS
  ha : PySem.W.findIn K (.ref C) "__class__" = some (some (.builtin "object.__class__"))
  hn : PySem.W.specialIn K (.builtin "object.__class__") "__get__" = some (some (.builtin "getset_descriptor.__get__"))
  ht : PySem.W.takesIn K (.builtin "object.__class__") = some true
  hm : PySem.W.mroIn K C (.type "object") = some true
  kC : PySem.W.kitOne K (.ref C) (.ref C) = some true
  nC : PySem.W.notFirst K C (.ref C) = true
  oc : OwnC K C
  c_LETTERS : ∃ u, mg "LETTERS" = some u ∧ RelV (.str letters) u
  c_MOST_SIGNS : ∃ u, mg "MOST_SIGNS" = some u ∧ RelV (.int 4) u
  z_len : mg "len" = none
  z_dict : mg "dict" = none
  z_range : mg "range" = none
  z_list : mg "list" = none
  z_set : mg "set" = none
  z_tuple : mg "tuple" = none
  z_int : mg "int" = none
  z_abs : mg "abs" = none
  z_repr : mg "repr" = none
  z_isinstance : mg "isinstance" = none
  z_str : mg "str" = none
  z_bool : mg "bool" = none
  z_all : mg "all" = none
  z_zip : mg "zip" = none
  z_sorted : mg "sorted" = none
section
variable {P : Program} {w : World} {K : PySem.W.Frag} {mg : Str → Option Value} {base : Heap}
theorem ok_law {f : Addr} {fd : FuncData} {f10 f11 f13 f15 f16 f17 f18 f19 f28 f39 f40 f41 f42 f43 f44 f45 f46 f47 f48 f49 f50 C fI fT fE fS pp : Addr} {fd10 fd11 fd13 fd15 fd16 fd17 fd18 fd19 fd28 fd39 fd40 fd41 fd42 fd43 fd44 fd45 fd46 fd47 fd48 fd49 fd50 fdI fdT fdE fdS : FuncData} (F : Fun K "law" "law" sLaw f fd)
    (T : Txt K mg f10 f11 f13 f15 f16 f17 f18 f19 f28 f39 f40 f41 f42 f43 f44 f45 f46 f47 f48 f49 f50 C fI fT fE fS pp fd10 fd11 fd13 fd15 fd16 fd17 fd18 fd19 fd28 fd39 fd40 fd41 fd42 fd43 fd44 fd45 fd46 fd47 fd48 fd49 fd50 fdI fdT fdE fdS) (WW : ∃ (Wr TE NI NT fW : Addr) (fdW : FuncData), WrX K mg Wr TE NI NT ∧ WrC P w K mg base Wr fW fdW) :
    GFn P w K mg base CX0 10 f fd ["_law_script"] (spLaw K) := by
  obtain ⟨ds5, vd5, bd5⟩ := T.b19
  obtain ⟨uL, gL, rL⟩ := T.c_LETTERS
  obtain ⟨uM, gM, rM⟩ := T.c_MOST_SIGNS
  obtain ⟨Wr, TE, NI, NT, fW, fdW, WX, WR⟩ := WW
  have GM : FnOk P w K mg base CX0 3 f19 fd19 ["rows", "ends", "begin"] spLm := ok_lm T.F19 T.F15 T.b15 T.g15 T.F18 T.b18 T.g18 T.F16 T.b16 T.g16 T.F17 T.b17 T.g17 T.z_len T.z_tuple T.z_set T.z_list T.z_int T.z_range
  have GSg : FnOk P w K mg base CX0 3 f11 fd11 ["thing"] (spIsSgQ K C) := ok_isSgQ T.F11 T.oc gL rL gM rM T.z_isinstance T.z_str T.z_len T.z_all T.z_zip
  have GRw : FnOk P w K mg base CX0 3 f28 fd28 ["wide", "thing"] (spAreRQ K C) := ok_areRQ T.F28 T.oc T.F13 T.b13 T.g13 T.F10 T.b10 T.g10 T.z_isinstance T.z_int T.z_bool T.z_list T.z_len T.z_all
  have GNm : FnOk P w K mg base CX0 3 f13 fd13 ["many", "thing"] (spIsNumQ K C) := ok_isNumQ T.F13 T.oc T.F10 T.b10 T.g10 T.z_isinstance T.z_int T.z_bool
  have GI : FnOk P w K mg base (L2.CX P w) 4 fI fdI ["self", "signs", "rows", "ends"] (spInitQ K C Wr) := ok_initQ (k := 1) T.FI T.T T.oc WR GSg T.F11 T.b11 T.g11 GRw T.F28 T.b28 T.g28 GNm T.F13 T.b13 T.g13 GM T.F19.kp T.g19 vd5 bd5 T.z_isinstance T.z_list T.z_len T.z_all
  have GTo6 : FnOk P w K mg base CX0 6 f47 fd47 ["_law_things"] (spToldQ K C) := ok_toldQ (k := 1) T.F47 T.T T.M T.gC WX T.z_isinstance GI T.bI (ok_sg T.FS T.T) T.bS T.pr (ok_tab T.FT T.T T.z_list) T.bT T.mT (ok_end T.FE T.T T.z_list) T.bE T.mE
  have GTo : FnOk P w K mg base CX0 9 f47 fd47 ["_law_things"] (spToldQ K C) := GTo6.mono (by decide)
  have GOr : FnOk P w K mg base CX0 9 f50 fd50 ["_law_signs_here", "_law_rows", "_law_ends"] (spOwnR K) := (ok_ownR (k := 1) T.F50 T.oc T.M T.gC GI T.bI GTo6 T.F47 T.b47 T.g47).mono (by decide)
  have GB : FnOk P w K mg base CX0 9 f39 fd39 ["_law_script"] (spBag K) := ok_bag T.F39 T.z_abs
  have GT : FnOk P w K mg base CX0 9 f40 fd40 ["_law_bag_here", "_law_many"] spTake := ok_take T.F40 T.z_int
  have GS : FnOk P w K mg base CX0 9 f42 fd42 ["_law_bag_here"] spSgM := ok_signsM T.F42 T.F40 T.b40 T.g40 T.z_int
  have GC : FnOk P w K mg base CX0 9 f43 fd43 ["_law_bag_here", "_law_signs_here", "_law_states"] spMach := ok_mach T.F43 T.F40 T.b40 T.g40 T.z_int T.z_len T.z_range
  have GSp : FnOk P w K mg base CX0 9 f48 fd48 ["_law_bag_here", "_law_things"] (spSpoilt K) := ok_spoilt T.F48 T.oc T.F40 T.b40 T.g40 T.F41 T.b41 T.g41 T.z_int T.z_range T.z_isinstance T.z_list T.z_len T.z_tuple
  have GGr : FnOk P w K mg base CX0 9 f49 fd49 ["_law_bag_here", "_law_things"] (spGreat K) := ok_great T.F49 T.F40 T.b40 T.g40 T.z_int T.z_range T.z_list T.z_tuple
  have GDu : FnOk P w K mg base CX0 9 f46 fd46 ["_law_things"] (spDueQ K C) := ok_dueQ T.F46 T.oc T.F45 T.b45 T.g45 T.z_isinstance T.z_int T.z_bool T.z_str T.z_len T.z_list T.z_sorted T.z_set
  have GLs : FnOk P w K mg base CX0 9 f44 fd44 ["_law_rows", "_law_ends"] spLeast := ok_least T.F44 T.z_len T.z_dict T.z_range
  refine fun_okG F scLaw (fun vs H Q E h => ?_) (fun cdv A outer s H vs Q E hr hg h => ?_)
  · obtain ⟨a, ns, rfl, _⟩ := h
    rfl
  · obtain ⟨a, ns, rfl, hS, hns, q⟩ := h
    refine ⟨_, (pss_cons (ps_set (i := 1) scLaw.nd rfl (.inl rfl) (pe_call GB hr (by rfl) T.g39 T.F39.kp T.b39 .nil pass0 (pa_cons (pv 0) pa_nil)))
      (pss_cons (ps_for PassesOwn.never rfl (pi_range1 (by rfl) T.z_range (pa_cons pe_int pa_nil)) (pg_name (i := 2) scLaw.nd rfl (.inl rfl))
        (pss_cons (ps_set (i := 3) scLaw.nd rfl (.inl rfl) (pe_call GS hr (by rfl) T.g42 T.F42.kp T.b42 .nil pass0 (pa_cons (pv 1) pa_nil)))
      (pss_cons (ps_asg (pe_call GC hr (by rfl) T.g43 T.F43.kp T.b43 .nil pass0 (pa_cons (pv 1) (pa_cons (pv 3) (pa_cons pe_int pa_nil)))) (pg_tup rfl (pgs_cons (pg_name (i := 4) scLaw.nd rfl (.inl rfl)) (pgs_cons (pg_name (i := 5) scLaw.nd rfl (.inl rfl)) pgs_nil))))
      (pss_cons (ps_set (i := 6) scLaw.nd rfl (.inl rfl) (pe_tup (pa_cons (pv 3) (pa_cons (pv 4) (pa_cons (pv 5) pa_nil)))))
      (pss_cons (ps_if (pt_not (pt_val (pe_call GOr hr (by rfl) T.g50 T.F50.kp T.b50 .nil pass0 (pa_cons (pv 3) (pa_cons (pv 4) (pa_cons (pv 5) pa_nil)))))) (pss_one (ps_ret pe_bl)) pss_nil)
      (pss_cons (ps_for PassesOwn.never rfl (pi_range1 (by rfl) T.z_range (pa_cons (pe_call GT hr (by rfl) T.g40 T.F40.kp T.b40 .nil pass0 (pa_cons (pv 1) (pa_cons pe_int pa_nil))) pa_nil)) (pg_name (i := 7) scLaw.nd rfl (.inl rfl))
        (pss_one (ps_set (i := 6) scLaw.nd rfl (.inl rfl) (pe_call GSp hr (by rfl) T.g48 T.F48.kp T.b48 .nil pass0 (pa_cons (pv 1) (pa_cons (pv 6) pa_nil))))))
      (C8.pss_cut (ps_if (pt_cmpR op_eq (pv 2) pe_int (nomark _)) (pss_one (ps_set (i := 6) scLaw.nd rfl (.inl rfl) (pe_call GGr hr (by rfl) T.g49 T.F49.kp T.b49 .nil pass0 (pa_cons (pv 1) (pa_cons (pv 6) pa_nil))))) pss_nil)
      (pss_cons (ps_par rfl scLaw.nd (i := 8) (j := 9) rfl rfl (by decide) rfl rfl (pa_cons (pe_callB (call_repr_dq hg hr.units) (by rfl) T.z_repr bRepr (pa_cons (pv 6) pa_nil)) (pa_cons (pe_call GDu hr (by rfl) T.g46 T.F46.kp T.b46 .nil pass0 (pa_cons (pv 6) pa_nil)) pa_nil)) (by rfl))
      (pss_cons (ps_set (i := 10) scLaw.nd rfl (.inl rfl) (pe_tup (pa_cons pe_str (pa_cons (pv 9) pa_nil))))
      (C8.pss_cut (ps_if (pt_cmpR op_isN (pv 9) pe_non (nomark _)) (pss_cons (ps_set (i := 11) scLaw.nd rfl (.inl rfl) (pe_call GLs hr (by rfl) T.g44 T.F44.kp T.b44 .nil pass0 (pa_cons (pe_ix ix_tup (pv 6) pe_int (fun _ _ => rfl)) (pa_cons (pe_ix ix_tup (pv 6) pe_int (fun _ _ => rfl)) pa_nil))))
      (pss_one (ps_set (i := 10) scLaw.nd rfl (.inl rfl) (pe_tup (pa_cons pe_str (pa_cons (pe_ix ix_tup (pv 6) pe_int (fun _ _ => rfl)) (pa_cons (pe_ix ix_tup (pv 11) pe_int (fun _ _ => rfl)) (pa_cons (pe_ix ix_tup (pv 11) pe_int (fun _ _ => rfl)) pa_nil)))))))) pss_nil)
      (pss_one (ps_for PassesOwn.never rfl (pi_range1 (by rfl) T.z_range (pa_cons pe_int pa_nil)) (pg_name (i := 12) scLaw.nd rfl (.inl rfl))
        (pss_cons (ps_set (i := 13) scLaw.nd rfl (.inl rfl) (pe_call GTo hr (by rfl) T.g47 T.F47.kp T.b47 .nil pass0 (pa_cons (pv 6) pa_nil)))
      (pss_one (ps_if (pw_or (pt_cmpR (op_neD hr.units) (pv 13) (pv 10) (nomark _)) (pw_or (pt_cmpR op_ne (pe_callB (call_repr_data hg hr.units) (by rfl) T.z_repr bRepr (pa_cons (pv 13) pa_nil)) (pe_callB (call_repr_data hg hr.units) (by rfl) T.z_repr bRepr (pa_cons (pv 10) pa_nil)) (nomark _)) (pw_or1 (pt_cmpR op_ne (pe_callB (call_repr_dq hg hr.units) (by rfl) T.z_repr bRepr (pa_cons (pv 6) pa_nil)) (pv 8) (nomark _))))).pt (pss_one (ps_ret pe_bl)) pss_nil)))))))))))))))
      (pss_one (ps_ret pe_bl)))), ?_⟩
    -- bag
    refine ⟨_, rfl, a, ns, rfl, hS, hns, fun H0 g c s0 ng nc hB0 => ?_⟩
    refine ⟨15, rfl, by decide, by decide, ?_⟩
    refine for_range (n := 15) (fun i σ H => (∃ (y2 y3 y4 y5 y6 y7 y8 y9 y10 y11 y12 y13 : Option V), σ = [some (.ref a), some (.ref g), y2, y3, y4, y5, y6, y7, y8, y9, y10, y11, y12, y13]) ∧ Bag H g c) ⟨⟨none, none, none, none, none, none, none, none, none, none, none, none, rfl⟩, hB0⟩ ?_ ?_
    · clear hB0 s0 ng nc H0 hS hns ns q
      rintro i σ H0 hi ⟨⟨y2, y3, y4, y5, y6, y7, y8, y9, y10, y11, y12, y13, rfl⟩, hB0⟩
      -- signs
      refine ⟨_, rfl, g, c, rfl, hB0, fun H1 z hzd hB1 b1 => ?_⟩
      have hz := drawn_menu hzd
      have hk := menu_ok hz
      have hk1 := hk.pos
      have hk4 := hk.few
      have hzok := sg_low hk
      clear b1 hB0 H0
      -- machine
      refine ⟨_, rfl, _, rfl, g, c, z, 6, rfl, hB1, hk1, hk4, by omega, by omega, fun H2 m pr pe xs R E0 hB2 b2 nn hm hR he hM h0 hl hE0 hE0l => ?_⟩
      have prg : pr ≠ g := hB1.ne (nn pr (by simp))
      have peg : pe ≠ g := hB1.ne (nn pe (by simp))
      have xsg : ∀ x ∈ xs, x ≠ g := fun x hx => hB1.ne (nn x (by simp [hx]))
      clear nn b2 hB1 H1
      refine ⟨m, _, rfl, SqT.of hm, rfl, _, _, rfl, _, _, rfl, rfl, ?_⟩
      refine ⟨_, rfl, _, rfl, _, rfl, by show 3 ≤ sizeLine; decide, fun p0 n_p0 => ?_⟩
      have s3 : Same H2 (upd H2 p0 (.tup [.str z, .ref pr, .ref pe])) := same_new n_p0
      have g0 : p0 ≠ g := hB2.ne n_p0
      have hy : Dq K (mask g (upd H2 p0 (.tup [.str z, .ref pr, .ref pe]))) (.ref pr) (dRs R) := dq_rows (rows_mask (hR.same s3) prg xsg)
      have hu : Dq K (mask g (upd H2 p0 (.tup [.str z, .ref pr, .ref pe]))) (.ref pe) (dNs E0) := dq_nVs (mask_at (s3 _ _ he) peg)
      have hA : At3 K g (upd H2 p0 (.tup [.str z, .ref pr, .ref pe])) p0 (.str z) (.ref pr) (.ref pe) (.str z) (dRs R) (dNs E0) := ⟨md_at g0, .str z, hy, hu⟩
      have hB3 := hB2.same s3
      generalize (upd H2 p0 (.tup [.str z, .ref pr, .ref pe])) = H3 at s3 hy hu hA hB3
      have hRw : ∀ r ∈ R, r.length ≤ 4 ∧ ∀ n ∈ r, n < 32 := fun r hr => by
        obtain ⟨i, hi, rfl⟩ := row_of_mem hr
        exact ⟨by rw [hM.wide i hi]; exact hk4, fun x hx => by have := hM.lt i hi x hx; omega⟩
      have gR : Gq 2 45 (dRs R) := (gq_dRs hRw).le (Nat.le_refl _) (by omega)
      have gE : Gq 1 100 (dNs E0) := (gq_dNs fun x hx => by have := hE0 x hx; omega).le (Nat.le_refl _) hE0l
      have gZ : Gq 0 4 (.str z) := (gq_str fun c hc => by have := lett_low (hk.low c hc); omega).le (Nat.le_refl _) hk4
      -- own
      have hmc : Mc3 K H3 z (.ref pr) (.ref pe) R E0 := ⟨hy.sm mask_same, hu.sm mask_same, ⟨rfl, rfl, rfl, hk, hM, h0, hE0⟩, by omega, (by have := gR.bk; show PyData.bulk (dRs R) ≤ 100000; omega), (by have := gE.bk; show PyData.bulk (dNs E0) ≤ 100000; omega), hzok⟩
      refine ⟨_, rfl, _, rfl, _, rfl, z, .ref pr, .ref pe, R, E0, rfl, hmc, fun H4 s4 => ⟨true, rfl, ?_⟩⟩
      have hA4 := hA.but (.of_same s4)
      have hB4 := hB3.same s4
      have hS0 : Sp3 2 110 (.str z) (dRs R) (dNs E0) := ⟨gZ.le (by decide) (by decide), gR.le (by decide) (by decide), gE.le (by decide) (by decide), fun ds e => by
        unfold dRs at e
        injection e with e
        rw [← e, List.length_map]
        omega, fun z' e => by injection e with e; rw [← e]; exact hzok⟩
      clear hmc hA hB3 hy hu s3 s4 he hR hm hB2 n_p0 g0 prg peg xsg hRw gR gE gZ hM h0 hl hE0 hE0l hk1
      -- spoilt
      refine ⟨_, rfl, g, c, 3, rfl, hB4, by decide, by decide, fun H5 t ht hB5 b5 => ?_⟩
      have hA5 := hA4.but b5
      refine ⟨(t : Int), rfl, by omega, by omega, ?_⟩
      refine for_range (n := t) (fun j σ H => ∃ (p : Addr) (x y u : V) (da db dc : PyData) (y7 : Option V), σ = [some (.ref a), some (.ref g), some (.int (0 + (i : Int))), some (.str z), some (.ref pr), some (.ref pe), some (.ref p), y7, y8, y9, y10, y11, y12, y13] ∧ Bag H g c ∧ At3 K g H p x y u da db dc ∧ Sp3 (2 + 9 * j) (110 * 4 ^ j) da db dc) ⟨p0, _, _, _, _, _, _, _, rfl, hB5, hA5, hS0⟩ ?_ ?_
      · clear hA5 hS0 hA4 hB4 hB5 b5
        rintro j σ H6 hj ⟨p, x, y, u, da, db, dc, y7, rfl, hB6, hA6, hS6⟩
        have hj2 : j < 2 := by omega
        have hk60 : 110 * 4 ^ j ≤ 440 := by
          have : j = 0 ∨ j = 1 := by omega
          rcases this with rfl | rfl <;> decide
        have hk61 : 110 ≤ 110 * 4 ^ j := Nat.le_mul_of_pos_right _ (Nat.pos_of_ne_zero (by simp))
        refine ⟨_, rfl, _, rfl, g, c, p, x, y, u, da, db, dc, _, _, rfl, hB6, hA6, hS6, by omega, by omega, by omega, fun H7 q x' y' u' a' b' c' hB7 b7 hA7 hS7 => ?_⟩
        refine ⟨q, x', y', u', a', b', c', _, rfl, hB7, hA7, ?_⟩
        have e1 : 2 + 9 * (j + 1) = 2 + 9 * j + 9 := by omega
        have e2 : 110 * 4 ^ (j + 1) = 4 * (110 * 4 ^ j) := by rw [Nat.pow_succ]; omega
        rw [e1, e2]
        exact hS7
      clear hA5 hS0 hA4 hB4 hB5 b5
      rintro σ H6 ⟨p, x, y, u, da, db, dc, y7, rfl, hB6, hA6, hS6⟩
      have hG6 : Gt3 da db dc := hS6.gt (by omega) (by
        have : t = 0 ∨ t = 1 ∨ t = 2 := by omega
        rcases this with rfl | rfl | rfl <;> decide)
      clear hS6
      -- great
      refine ⟨fun σ H => ∃ (p : Addr) (x y u : V) (da db dc : PyData), σ = [some (.ref a), some (.ref g), some (.int (0 + (i : Int))), some (.str z), some (.ref pr), some (.ref pe), some (.ref p), y7, y8, y9, y10, y11, y12, y13] ∧ Bag H g c ∧ At3 K g H p x y u da db dc ∧ Gt3 da db dc, ?_, ?_⟩
      · refine ⟨_, rfl, rfl, _, rfl, ite2 (fun _ => ?_) (fun _ => ⟨p, x, y, u, da, db, dc, rfl, hB6, hA6, hG6⟩)⟩
        refine ⟨_, rfl, _, rfl, g, c, p, x, y, u, da, db, dc, rfl, hB6, hA6, hG6, fun H7 q x' y' u' a' b' c' hB7 b7 hA7 hG7 => ?_⟩
        exact ⟨q, x', y', u', a', b', c', rfl, hB7, hA7, hG7⟩
      clear hA6 hG6 hB6 H6 p x y u da db dc
      rintro σ H6 ⟨p, x, y, u, da, db, dc, rfl, hB6, hA6, hG6⟩
      have hT6 : Th3 K C H6 p x y u (.dat da) (.dat db) (.dat dc) := hA6.th
      have hF := hG6.few
      have hq := hG6.gq
      have rep : ∀ H', Same H6 H' → Dq K H' (.ref p) (.tuple [da, db, dc]) := fun H' s => (hT6.sm s).dq
      clear hA6 H5
      -- before, due
      refine ⟨_, rfl, p, _, [da, db, dc], rfl, rep H6 (fun _ _ z => z), .inl rfl, hq.shw, Nat.le_trans hq.dep (by decide), hq.short (by decide), ?_⟩
      refine ⟨_, rfl, p, x, y, u, _, _, _, rfl, hT6, hF, fun H7 s7 => ?_⟩
      refine ⟨_, _, rfl, ?_⟩
      refine ⟨_, rfl, by show 2 ≤ sizeLine; decide, fun f0 n_f0 => ?_⟩
      have s8 : Same H7 (upd H7 f0 (.tup [.str "wrong", oN (dueQ (.dat da) (.dat db) (.dat dc))])) := same_new n_f0
      have h8 : (upd H7 f0 (.tup [.str "wrong", oN (dueQ (.dat da) (.dat db) (.dat dc))])) f0 = some (.tup [.str "wrong", oN (dueQ (.dat da) (.dat db) (.dat dc))]) := upd_same
      generalize (upd H7 f0 (.tup [.str "wrong", oN (dueQ (.dat da) (.dat db) (.dat dc))])) = H8 at s8 h8
      have s68 := s7.trans s8
      -- found
      refine ⟨fun σ H => ∃ (f : Addr) (d : PyData) (y11 : Option V), σ = [some (.ref a), some (.ref g), some (.int (0 + (i : Int))), some (.str z), some (.ref pr), some (.ref pe), some (.ref p), y7, some (.str (PyData.shown (.tuple [da, db, dc]))), some (oN (dueQ (.dat da) (.dat db) (.dat dc))), some (.ref f), y11, y12, y13] ∧ Same H6 H ∧ Dp K H (.ref f) d ∧ DueD da db dc d, ?_, ?_⟩
      · refine ⟨_, rfl, rfl, _, rfl, ?_⟩
        cases hd : dueQ (.dat da) (.dat db) (.dat dc) with
        | some n =>
          refine ite2 (fun e => ?_) (fun _ => ?_)
          · have e' := of_decide_eq_true e
            cases e'
          · rw [hd] at h8
            exact ⟨f0, dWrong n, _, rfl, s68, .tup (SqT.of h8) (.cons (.str _) (.cons (.int _) .nil)), .inl ⟨n, due_le hd, hd, rfl⟩⟩
        | none =>
          refine ite2 (fun _ => ?_) (fun e => absurd rfl (fun h => e (decide_eq_true h)))
          obtain ⟨zz, R1, E1, gm⟩ := due_none hd
          have hT8 := hT6.sm s68
          have hlow := hF.low _ _ _ gm
          obtain ⟨t0, tx, ty, tu⟩ := hT8
          rw [gm.ea] at tx
          rw [gm.eb] at ty
          rw [gm.ec] at tu
          obtain ⟨ar, xr, rfl, hr1⟩ : ∃ a xs, y = .ref a ∧ RowsAt H8 a xs R1 := by
            cases ty with
            | dat h => exact dRs_dq h
          obtain ⟨ae, rfl, he1⟩ : ∃ a, u = .ref a ∧ H8 a = some (.lst (nVs E1)) := by
            cases tu with
            | dat h => exact dNs_dq h
          cases tx.str
          have hz4 := gm.sg.few
          have hEl : E1.length ≤ 100000 := by
            have h1 := hG6.gc.bk
            have e2 : dc = dNs E1 := by have := gm.ec; injection this
            rw [e2] at h1
            unfold dNs at h1
            simp only [PyData.bulk] at h1
            have := bulkAll_len (E1.map fun n : Nat => PyData.int (n : Int))
            rw [List.length_map] at this
            omega
          refine ⟨_, rfl, p, _, _, _, rfl, rfl, SqT.of t0, (rfl : atI [V.str zz, V.ref ar, V.ref ae] 1 = some (.ref ar)), _, rfl, p, _, _, _, rfl, rfl, SqT.of t0, (rfl : atI [V.str zz, V.ref ar, V.ref ae] 2 = some (.ref ae)), ar, ae, xr, R1, zz.cps.size, E1, rfl, hr1, gm.mok, gm.pos, hlow, by omega, he1, hEl, fun H9 tt tp te ys R2 E2 s9 ntt ntp nte nys htt hR2 hE2 hL2 hA2 hl2 => ?_⟩
          refine ⟨_, rfl, p, _, _, _, rfl, rfl, SqT.of (s9 _ _ t0), (rfl : atI [V.str zz, V.ref ar, V.ref ae] 0 = some (.str zz)), _, rfl, tt, _, _, _, rfl, rfl, SqT.of htt, (rfl : atI [V.ref tp, V.ref te] 0 = some (.ref tp)), _, rfl, tt, _, _, _, rfl, rfl, SqT.of htt, (rfl : atI [V.ref tp, V.ref te] 1 = some (.ref te)), by show 4 ≤ sizeLine; decide, fun f1 n_f1 => ?_⟩
          have s10 : Same H9 (upd H9 f1 (.tup [.str "made", .str zz, .ref tp, .ref te])) := same_new n_f1
          exact ⟨f1, dMade zz R2 E2, _, rfl, (s68.trans s9).trans s10, .tup (SqT.of upd_same) (.cons (.str _) (.cons (.str _) (.cons (dp_rows (hR2.same s10)) (.cons (dp_nVs (s10 _ _ hE2)) .nil)))), .inr ⟨zz, R1, E1, R2, E2, gm, hL2, hA2, by omega, rfl⟩⟩
      clear s68 s8 h8 s7 n_f0 H8 H7 f0
      rintro σ H9 ⟨f, d, y11, rfl, s9, hfd, hD⟩
      -- twice
      have hgd : Gd 3 2000 d := by
        rcases hD with ⟨n, hn, _, rfl⟩ | ⟨zz, R1, E1, R2, E2, gm, hL2, hA2, hl2, rfl⟩
        · exact (gd_wrong hn).le (by decide) (by decide)
        · have ea : da = .str zz := by have := gm.ea; injection this
          exact gd_made (hG6.zok zz ea gm.sg.few) gm.sg.few ⟨hL2, gm.sg.few, hl2⟩
      have hbag : ∀ H', Same H6 H' → Bag H' g c := fun H' s => hB6.same s
      refine ⟨2, rfl, by decide, by decide, ?_⟩
      refine for_range (n := 2) (fun j σ H => (∃ y12 y13 : Option V, σ = [some (.ref a), some (.ref g), some (.int (0 + (i : Int))), some (.str z), some (.ref pr), some (.ref pe), some (.ref p), y7, some (.str (PyData.shown (.tuple [da, db, dc]))), some (oN (dueQ (.dat da) (.dat db) (.dat dc))), some (.ref f), y11, y12, y13]) ∧ Same H9 H) ⟨⟨_, _, rfl⟩, fun _ _ z => z⟩ ?_ ?_
      · rintro j σ H10 hj ⟨⟨y12, y13, rfl⟩, s10⟩
        have s610 := s9.trans s10
        refine ⟨_, rfl, p, x, y, u, _, _, _, rfl, hT6.sm s610, hF, fun zz R1 E1 gm H' qq R2 E2 sq hqd0 hL hA hl => ?_, fun n hn H' qq sq hq0 => ?_⟩
        · have hqd : Dp K H' (.ref qq) d := by
            rcases hD with ⟨n, _, hn, _⟩ | ⟨z', R', E', R3, E3, gm', hL3, hA3, hl3, rfl⟩
            · rw [due_good gm] at hn
              cases hn
            · have e1 : z' = zz := by have h1 := gm'.ea; have h2 := gm.ea; rw [h2] at h1; injection h1 with h1; injection h1 with h1; exact h1.symm
              subst e1
              have e2 : R' = R1 := by have h1 := gm'.eb; have h2 := gm.eb; rw [h2] at h1; injection h1 with h1; exact (dRs_inj h1).symm
              have e3 : E' = E1 := by have h1 := gm'.ec; have h2 := gm.ec; rw [h2] at h1; injection h1 with h1; exact (dNs_inj h1).symm
              subst e2 e3
              obtain ⟨u1, u2⟩ := least_unique hL hL3 (hA.trans hA3.symm)
              rw [← u1, ← u2]
              exact hqd0
          have hf' := Dp.sm (s10.trans sq) hfd
          refine ⟨_, rfl, _, rfl, d, d, hqd, hf', hgd.shp (by decide), hgd.shp (by decide), _, rfl, ?_⟩
          rw [eqv_same hgd.lay]
          refine ⟨_, rfl, qq, d, rfl, hqd, hgd.shw, hgd.nod, Nat.le_trans hgd.dep (by decide), hgd.short (by decide) (by decide), _, rfl, f, d, rfl, hf', hgd.shw, hgd.nod, Nat.le_trans hgd.dep (by decide), hgd.short (by decide) (by decide), rfl, _, rfl, ?_⟩
          rw [decide_eq_true rfl]
          refine ⟨_, rfl, p, _, [da, db, dc], rfl, rep _ ((s9.trans s10).trans sq), .inl rfl, hq.shw, Nat.le_trans hq.dep (by decide), hq.short (by decide), _, rfl, rfl, _, rfl, ?_⟩
          rw [decide_eq_true rfl]
          exact ⟨⟨_, _, rfl⟩, s10.trans sq⟩
        · have hqd : Dp K H' (.ref qq) d := by
            rcases hD with ⟨n', _, hn', rfl⟩ | ⟨z', R', E', R3, E3, gm', hL3, hA3, hl3, rfl⟩
            · rw [hn] at hn'
              cases hn'
              exact .tup (SqT.of hq0) (.cons (.str _) (.cons (.int _) .nil))
            · rw [due_good gm'] at hn
              cases hn
          have hf' := Dp.sm (s10.trans sq) hfd
          refine ⟨_, rfl, _, rfl, d, d, hqd, hf', hgd.shp (by decide), hgd.shp (by decide), _, rfl, ?_⟩
          rw [eqv_same hgd.lay]
          refine ⟨_, rfl, qq, d, rfl, hqd, hgd.shw, hgd.nod, Nat.le_trans hgd.dep (by decide), hgd.short (by decide) (by decide), _, rfl, f, d, rfl, hf', hgd.shw, hgd.nod, Nat.le_trans hgd.dep (by decide), hgd.short (by decide) (by decide), rfl, _, rfl, ?_⟩
          rw [decide_eq_true rfl]
          refine ⟨_, rfl, p, _, [da, db, dc], rfl, rep _ ((s9.trans s10).trans sq), .inl rfl, hq.shw, Nat.le_trans hq.dep (by decide), hq.short (by decide), _, rfl, rfl, _, rfl, ?_⟩
          rw [decide_eq_true rfl]
          exact ⟨⟨_, _, rfl⟩, s10.trans sq⟩
      · rintro σ H10 ⟨⟨y12, y13, rfl⟩, s10⟩
        exact ⟨⟨_, _, _, _, _, _, _, _, _, _, _, _, rfl⟩, hbag _ (s9.trans s10)⟩
    · rintro σ H0 ⟨⟨y2, y3, y4, y5, y6, y7, y8, y9, y10, y11, y12, y13, rfl⟩, hB0⟩
      exact q H0
end
end K15

namespace K15
open PySem PySem.Spec PyProof.Rows L2 Rg Mach
theorem all_mk {l : PySem.W.OpenLaw} {w : World} {K : PySem.W.Frag} {h : Heap} {mg : Str → Option Value} {fa D5 f10 f11 f13 f15 f16 f17 f18 f19 f28 f39 f40 f41 f42 f43 f44 f45 f46 f47 f48 f49 f50 f51 fI fT fE fS C pp : Addr} (X : K.In h) (G : h.Ns mainGlobals mg) (hfa : mg "law" = some (.ref fa))
    {od10 od11 od13 od15 od16 od17 od18 od19 od28 od39 od40 od41 od42 od43 od44 od45 od46 od47 od48 od49 od50 od51 odI odT odE odS an10 an11 an13 an15 an16 an17 an18 an19 an28 an39 an40 an41 an42 an43 an44 an45 an46 an47 an48 an49 an50 an51 anI anT anE anS : Option Addr} {sl10 sl11 sl13 sl15 sl16 sl17 sl18 sl19 sl28 sl39 sl40 sl41 sl42 sl43 sl44 sl45 sl46 sl47 sl48 sl49 sl50 sl51 slI slT slE slS : Array (Option Value)} {u5 oc10 oc11 oc13 oc15 oc16 oc17 oc18 oc19 oc28 oc39 oc40 oc41 oc42 oc43 oc44 oc45 oc46 oc47 oc48 oc49 oc50 oc51 ocI ocT ocE ocS u_LETTERS u_MOST_SIGNS kV10 kV11 kV13 kV15 kV16 kV17 kV18 kV28 kV39 kV40 kV41 kV42 kV43 kV44 kV45 kV46 kV47 kV48 kV49 kV50 kV51 kVI kVT kVE kVS dc10 dc11 dc13 dc15 dc16 dc17 dc18 dc19 dc28 dc39 dc40 dc41 dc42 dc43 dc44 dc45 dc46 dc47 dc48 dc49 dc50 dc51 dcI dcT dcE dcS pm10 pm11 pm13 pm15 pm16 pm17 pm18 pm19 pm28 pm39 pm40 pm41 pm42 pm43 pm44 pm45 pm46 pm47 pm48 pm49 pm50 pm51 pmI pmT pmE pmS cd10 cd11 cd13 cd15 cd16 cd17 cd18 cd19 cd28 cd39 cd40 cd41 cd42 cd43 cd44 cd45 cd46 cd47 cd48 cd49 cd50 cd51 cdI cdT cdE cdS ct10 ct11 ct13 ct15 ct16 ct17 ct18 ct19 ct28 ct39 ct40 ct41 ct42 ct43 ct44 ct45 ct46 ct47 ct48 ct49 ct50 ct51 ctI ctT ctE ctS : Value} {rest : List Value} {Wr TE NI NT fW cdaW ccW NW : Addr} {nmW qW fileW : Str} {bsW bmW subW : List Value} {snW : List Str} {abW : Bool} {colW : Option Bool} {ddW odW anW clW1 cdW1 : Option Addr} {k0W k1W k2W k3W k5W : Option Value} {ocW kVW dcW pmW ctW clW cdW : Value} {slW csW cdsW : Array (Option Value)} {vsW : Array Value} {tfW : Tok} {cdDW : ClassData}
    (a10 : PySem.W.nsIn K mainGlobals "is_integer" = some (some (.ref f10)))
    (l10 : K.lookup f10 = some ⟨oc10, od10, .func (PySem.W.fnOf "is_integer" "is_integer" (defArgs sIsInt) (defBody sIsInt) (defScope sIsInt) .none kV10 dc10 pm10 an10 cd10 ct10), sl10⟩)
    (c10 : PySem.W.codeIn K cd10 "is_integer" = true)
    (k10 : PySem.W.keepIn K (.ref f10) = true)
    (a11 : PySem.W.nsIn K mainGlobals "is_signs" = some (some (.ref f11)))
    (l11 : K.lookup f11 = some ⟨oc11, od11, .func (PySem.W.fnOf "is_signs" "is_signs" (defArgs sIsSg) (defBody sIsSg) (defScope sIsSg) .none kV11 dc11 pm11 an11 cd11 ct11), sl11⟩)
    (c11 : PySem.W.codeIn K cd11 "is_signs" = true)
    (k11 : PySem.W.keepIn K (.ref f11) = true)
    (a13 : PySem.W.nsIn K mainGlobals "is_number" = some (some (.ref f13)))
    (l13 : K.lookup f13 = some ⟨oc13, od13, .func (PySem.W.fnOf "is_number" "is_number" (defArgs sIsNum) (defBody sIsNum) (defScope sIsNum) .none kV13 dc13 pm13 an13 cd13 ct13), sl13⟩)
    (c13 : PySem.W.codeIn K cd13 "is_number" = true)
    (k13 : PySem.W.keepIn K (.ref f13) = true)
    (a15 : PySem.W.nsIn K mainGlobals "reached_from" = some (some (.ref f15)))
    (l15 : K.lookup f15 = some ⟨oc15, od15, .func (PySem.W.fnOf "reached_from" "reached_from" (defArgs sReach) (defBody sReach) (defScope sReach) .none kV15 dc15 pm15 an15 cd15 ct15), sl15⟩)
    (c15 : PySem.W.codeIn K cd15 "reached_from" = true)
    (k15 : PySem.W.keepIn K (.ref f15) = true)
    (a16 : PySem.W.nsIn K mainGlobals "parted_once" = some (some (.ref f16)))
    (l16 : K.lookup f16 = some ⟨oc16, od16, .func (PySem.W.fnOf "parted_once" "parted_once" (defArgs sPart) (defBody sPart) (defScope sPart) .none kV16 dc16 pm16 an16 cd16 ct16), sl16⟩)
    (c16 : PySem.W.codeIn K cd16 "parted_once" = true)
    (k16 : PySem.W.keepIn K (.ref f16) = true)
    (a17 : PySem.W.nsIn K mainGlobals "how_many" = some (some (.ref f17)))
    (l17 : K.lookup f17 = some ⟨oc17, od17, .func (PySem.W.fnOf "how_many" "how_many" (defArgs sHow) (defBody sHow) (defScope sHow) .none kV17 dc17 pm17 an17 cd17 ct17), sl17⟩)
    (c17 : PySem.W.codeIn K cd17 "how_many" = true)
    (k17 : PySem.W.keepIn K (.ref f17) = true)
    (a18 : PySem.W.nsIn K mainGlobals "classes_of" = some (some (.ref f18)))
    (l18 : K.lookup f18 = some ⟨oc18, od18, .func (PySem.W.fnOf "classes_of" "classes_of" (defArgs sCls) (defBody sCls) (defScope sCls) .none kV18 dc18 pm18 an18 cd18 ct18), sl18⟩)
    (c18 : PySem.W.codeIn K cd18 "classes_of" = true)
    (k18 : PySem.W.keepIn K (.ref f18) = true)
    (a19 : PySem.W.nsIn K mainGlobals "least_machine" = some (some (.ref f19)))
    (l19 : K.lookup f19 = some ⟨oc19, od19, .func (PySem.W.fnOf "least_machine" "least_machine" (defArgs sLm) (defBody sLm) (defScope sLm) .none (.ref D5) dc19 pm19 an19 cd19 ct19), sl19⟩)
    (c19 : PySem.W.codeIn K cd19 "least_machine" = true)
    (k19 : PySem.W.keepIn K (.ref f19) = true)
    (a28 : PySem.W.nsIn K mainGlobals "are_rows" = some (some (.ref f28)))
    (l28 : K.lookup f28 = some ⟨oc28, od28, .func (PySem.W.fnOf "are_rows" "are_rows" (defArgs sAreR) (defBody sAreR) (defScope sAreR) .none kV28 dc28 pm28 an28 cd28 ct28), sl28⟩)
    (c28 : PySem.W.codeIn K cd28 "are_rows" = true)
    (k28 : PySem.W.keepIn K (.ref f28) = true)
    (a39 : PySem.W.nsIn K mainGlobals "_law_bag" = some (some (.ref f39)))
    (l39 : K.lookup f39 = some ⟨oc39, od39, .func (PySem.W.fnOf "_law_bag" "_law_bag" (defArgs sBag) (defBody sBag) (defScope sBag) .none kV39 dc39 pm39 an39 cd39 ct39), sl39⟩)
    (c39 : PySem.W.codeIn K cd39 "_law_bag" = true)
    (k39 : PySem.W.keepIn K (.ref f39) = true)
    (a40 : PySem.W.nsIn K mainGlobals "_law_take" = some (some (.ref f40)))
    (l40 : K.lookup f40 = some ⟨oc40, od40, .func (PySem.W.fnOf "_law_take" "_law_take" (defArgs sTake) (defBody sTake) (defScope sTake) .none kV40 dc40 pm40 an40 cd40 ct40), sl40⟩)
    (c40 : PySem.W.codeIn K cd40 "_law_take" = true)
    (k40 : PySem.W.keepIn K (.ref f40) = true)
    (a41 : PySem.W.nsIn K mainGlobals "_law_odd" = some (some (.ref f41)))
    (l41 : K.lookup f41 = some ⟨oc41, od41, .func (PySem.W.fnOf "_law_odd" "_law_odd" (defArgs sOdd) (defBody sOdd) (defScope sOdd) .none kV41 dc41 pm41 an41 cd41 ct41), sl41⟩)
    (c41 : PySem.W.codeIn K cd41 "_law_odd" = true)
    (k41 : PySem.W.keepIn K (.ref f41) = true)
    (a42 : PySem.W.nsIn K mainGlobals "_law_signs" = some (some (.ref f42)))
    (l42 : K.lookup f42 = some ⟨oc42, od42, .func (PySem.W.fnOf "_law_signs" "_law_signs" (defArgs sSigns) (defBody sSigns) (defScope sSigns) .none kV42 dc42 pm42 an42 cd42 ct42), sl42⟩)
    (c42 : PySem.W.codeIn K cd42 "_law_signs" = true)
    (k42 : PySem.W.keepIn K (.ref f42) = true)
    (a43 : PySem.W.nsIn K mainGlobals "_law_machine" = some (some (.ref f43)))
    (l43 : K.lookup f43 = some ⟨oc43, od43, .func (PySem.W.fnOf "_law_machine" "_law_machine" (defArgs sMach) (defBody sMach) (defScope sMach) .none kV43 dc43 pm43 an43 cd43 ct43), sl43⟩)
    (c43 : PySem.W.codeIn K cd43 "_law_machine" = true)
    (k43 : PySem.W.keepIn K (.ref f43) = true)
    (a44 : PySem.W.nsIn K mainGlobals "_law_least" = some (some (.ref f44)))
    (l44 : K.lookup f44 = some ⟨oc44, od44, .func (PySem.W.fnOf "_law_least" "_law_least" (defArgs sLs) (defBody sLs) (defScope sLs) .none kV44 dc44 pm44 an44 cd44 ct44), sl44⟩)
    (c44 : PySem.W.codeIn K cd44 "_law_least" = true)
    (k44 : PySem.W.keepIn K (.ref f44) = true)
    (a45 : PySem.W.nsIn K mainGlobals "_law_is_state" = some (some (.ref f45)))
    (l45 : K.lookup f45 = some ⟨oc45, od45, .func (PySem.W.fnOf "_law_is_state" "_law_is_state" (defArgs sIsSt) (defBody sIsSt) (defScope sIsSt) .none kV45 dc45 pm45 an45 cd45 ct45), sl45⟩)
    (c45 : PySem.W.codeIn K cd45 "_law_is_state" = true)
    (k45 : PySem.W.keepIn K (.ref f45) = true)
    (a46 : PySem.W.nsIn K mainGlobals "_law_due" = some (some (.ref f46)))
    (l46 : K.lookup f46 = some ⟨oc46, od46, .func (PySem.W.fnOf "_law_due" "_law_due" (defArgs sDue) (defBody sDue) (defScope sDue) .none kV46 dc46 pm46 an46 cd46 ct46), sl46⟩)
    (c46 : PySem.W.codeIn K cd46 "_law_due" = true)
    (k46 : PySem.W.keepIn K (.ref f46) = true)
    (a47 : PySem.W.nsIn K mainGlobals "_law_told" = some (some (.ref f47)))
    (l47 : K.lookup f47 = some ⟨oc47, od47, .func (PySem.W.fnOf "_law_told" "_law_told" (defArgs sTold) (defBody sTold) (defScope sTold) .none kV47 dc47 pm47 an47 cd47 ct47), sl47⟩)
    (c47 : PySem.W.codeIn K cd47 "_law_told" = true)
    (k47 : PySem.W.keepIn K (.ref f47) = true)
    (a48 : PySem.W.nsIn K mainGlobals "_law_spoilt" = some (some (.ref f48)))
    (l48 : K.lookup f48 = some ⟨oc48, od48, .func (PySem.W.fnOf "_law_spoilt" "_law_spoilt" (defArgs sSpoilt) (defBody sSpoilt) (defScope sSpoilt) .none kV48 dc48 pm48 an48 cd48 ct48), sl48⟩)
    (c48 : PySem.W.codeIn K cd48 "_law_spoilt" = true)
    (k48 : PySem.W.keepIn K (.ref f48) = true)
    (a49 : PySem.W.nsIn K mainGlobals "_law_great" = some (some (.ref f49)))
    (l49 : K.lookup f49 = some ⟨oc49, od49, .func (PySem.W.fnOf "_law_great" "_law_great" (defArgs sGreat) (defBody sGreat) (defScope sGreat) .none kV49 dc49 pm49 an49 cd49 ct49), sl49⟩)
    (c49 : PySem.W.codeIn K cd49 "_law_great" = true)
    (k49 : PySem.W.keepIn K (.ref f49) = true)
    (a50 : PySem.W.nsIn K mainGlobals "_law_own_right" = some (some (.ref f50)))
    (l50 : K.lookup f50 = some ⟨oc50, od50, .func (PySem.W.fnOf "_law_own_right" "_law_own_right" (defArgs sOwnR) (defBody sOwnR) (defScope sOwnR) .none kV50 dc50 pm50 an50 cd50 ct50), sl50⟩)
    (c50 : PySem.W.codeIn K cd50 "_law_own_right" = true)
    (k50 : PySem.W.keepIn K (.ref f50) = true)
    (a51 : PySem.W.nsIn K mainGlobals "law" = some (some (.ref f51)))
    (l51 : K.lookup f51 = some ⟨oc51, od51, .func (PySem.W.fnOf "law" "law" (defArgs sLaw) (defBody sLaw) (defScope sLaw) .none kV51 dc51 pm51 an51 cd51 ct51), sl51⟩)
    (c51 : PySem.W.codeIn K cd51 "law" = true)
    (k51 : PySem.W.keepIn K (.ref f51) = true)
    (kw : PySem.W.nsIn K D5 "begin" = some (some u5))
    (ru : RelV (.int 0) u5)
    (aC : PySem.W.nsIn K mainGlobals "Texts" = some (some (.ref C)))
    (ap : PySem.W.findIn K (.ref C) "signs" = some (some (.ref pp)))
    (gp : PySem.W.specialIn K (.ref pp) "__get__" = some (some (.builtin "property.__get__")))
    (tp : PySem.W.takesIn K (.ref pp) = some true)
    (rp : PySem.W.recIn K pp "property" = some (.ref fS :: rest))
    (aI : PySem.W.findIn K (.ref C) "__init__" = some (some (.ref fI)))
    (iI : PySem.W.isFn K (.ref fI) = true)
    (lI : K.lookup fI = some ⟨ocI, odI, .func (PySem.W.fnOf "__init__" "Texts.__init__" (defArgs sInit) (defBody sInit) (defScope sInit) .none kVI dcI pmI anI cdI ctI), slI⟩)
    (cI : PySem.W.codeIn K cdI "Texts.__init__" = true)
    (kI : PySem.W.keepIn K (.ref fI) = true)
    (aT : PySem.W.findIn K (.ref C) "table" = some (some (.ref fT)))
    (iT : PySem.W.isFn K (.ref fT) = true)
    (lT : K.lookup fT = some ⟨ocT, odT, .func (PySem.W.fnOf "table" "Texts.table" (defArgs sTab) (defBody sTab) (defScope sTab) .none kVT dcT pmT anT cdT ctT), slT⟩)
    (cT : PySem.W.codeIn K cdT "Texts.table" = true)
    (kT : PySem.W.keepIn K (.ref fT) = true)
    (aE : PySem.W.findIn K (.ref C) "ends" = some (some (.ref fE)))
    (iE : PySem.W.isFn K (.ref fE) = true)
    (lE : K.lookup fE = some ⟨ocE, odE, .func (PySem.W.fnOf "ends" "Texts.ends" (defArgs sEnd) (defBody sEnd) (defScope sEnd) .none kVE dcE pmE anE cdE ctE), slE⟩)
    (cE : PySem.W.codeIn K cdE "Texts.ends" = true)
    (kE : PySem.W.keepIn K (.ref fE) = true)
    (iS : PySem.W.isFn K (.ref fS) = true)
    (lS : K.lookup fS = some ⟨ocS, odS, .func (PySem.W.fnOf "signs" "Texts.signs" (defArgs sSg) (defBody sSg) (defScope sSg) .none kVS dcS pmS anS cdS ctS), slS⟩)
    (cS : PySem.W.codeIn K cdS "Texts.signs" = true)
    (kS : PySem.W.keepIn K (.ref fS) = true)
    (pg : PySem.W.plainGet K C Str.empty = true)
    (hd : PySem.W.hasDictIn K C = true)
    (po : PySem.W.plainOver K C = true)
    (sa : PySem.W.findIn K (.ref C) "__setattr__" = some (some (.builtin "object.__setattr__")))
    (mk : PySem.W.makesIn K C = true)
    (kc : PySem.W.keepIn K (.ref C) = true)
    (n_its_signs : PySem.W.findIn K (.ref C) "its_signs" = some none)
    (n_its_table : PySem.W.findIn K (.ref C) "its_table" = some none)
    (n_its_ends : PySem.W.findIn K (.ref C) "its_ends" = some none)
    (ha : PySem.W.findIn K (.ref C) "__class__" = some (some (.builtin "object.__class__")))
    (hn : PySem.W.specialIn K (.builtin "object.__class__") "__get__" = some (some (.builtin "getset_descriptor.__get__")))
    (ht : PySem.W.takesIn K (.builtin "object.__class__") = some true)
    (hm : PySem.W.mroIn K C (.type "object") = some true)
    (nC : PySem.W.notFirst K C (.ref C) = true)
    (ic : PySem.W.isClsIn K C = true)
    (tC : PySem.W.typeIn K (.ref C) = some (.type "type"))
    (s_int : PySem.W.subIn K (.ref C) (.type "int") = some false)
    (s_bool : PySem.W.subIn K (.ref C) (.type "bool") = some false)
    (s_str : PySem.W.subIn K (.ref C) (.type "str") = some false)
    (s_list : PySem.W.subIn K (.ref C) (.type "list") = some false)
    (w1 : PySem.W.nsIn K mainGlobals "Wrong" = some (some (.ref Wr)))
    (w2 : K.lookup Wr = some (excClassObj nmW qW Wr NW bsW bmW true snW subW abW colW ddW k0W k1W k2W k3W k5W "ValueError.__new__"))
    (w3 : HandSPX.refsVE bmW = true)
    (w4 : PySem.W.findIn K (.ref Wr) "__setattr__" = some (some (.builtin "object.__setattr__")))
    (w5 : PySem.W.subIn K (.ref Wr) (.type "BaseException") = some true)
    (w6 : PySem.W.typeIn K (.ref Wr) = some (.type "type"))
    (w7 : PySem.W.keepIn K (.ref Wr) = true)
    (w8 : PySem.W.findIn K (.ref Wr) "place" = some none)
    (w9 : PySem.W.findIn K (.ref Wr) "__init__" = some (some (.ref fW)))
    (w10 : PySem.W.typeIn K (.ref fW) = some (.type "function"))
    (w11 : K.lookup fW = some ⟨ocW, odW, .func (PySem.W.ksFn "__init__" "Wrong.__init__" (defArgs sWrong) (defBody sWrong) (defScope sWrong) .none kVW dcW pmW anW (.ref cdaW) ctW ccW), slW⟩)
    (w12 : PySem.W.codeIn K (.ref cdaW) "Wrong.__init__" = true)
    (w13 : K.lookup cdaW = some ⟨cdW, cdW1, .fields vsW, cdsW⟩)
    (w14 : vsW[2]? = some (.str fileW tfW))
    (w15 : ((l.prog.main.file : Str) == fileW) = true)
    (w16 : K.lookup ccW = some ⟨clW, clW1, .cell (some (.ref Wr)), csW⟩)
    (w17 : PySem.W.clsIn K Wr = some cdDW)
    (w18 : PySem.W.mroIn K Wr (.ref Wr) = some true)
    (w19 : PySem.W.ks_superIn K Wr Wr "__init__" = some (some (.builtin "ValueError.__init__")))
    (w20 : PySem.W.subIn K (.ref Wr) (.type "ValueError") = some true)
    (w21 : PySem.W.nsIn K cStatics "thirdparty.any" = some none)
    (w22 : PySem.W.nsIn K mainGlobals "super" = some none)
    (w23 : (l.prog.main.scope.names.lookup ("super" : Str)).isSome = false)
    (w24 : PySem.W.findIn K (.ref Wr) "__getattribute__" = some (some (.builtin "BaseException.__getattribute__")))
    (w25 : PySem.W.findIn K (.ref Wr) "__getattr__" = some none)
    (w26 : PySem.W.hasDictIn K Wr = true)
    (w27 : PySem.W.nsIn K mainGlobals "TextError" = some (some (.ref TE)))
    (w28 : PySem.W.nsIn K mainGlobals "NoItem" = some (some (.ref NI)))
    (w29 : PySem.W.nsIn K mainGlobals "NoText" = some (some (.ref NT)))
    (w30 : PySem.W.subIn K (.ref TE) (.type "BaseException") = some true)
    (w31 : PySem.W.hasDictIn K TE = true)
    (w32 : PySem.W.typeIn K (.ref TE) = some (.type "type"))
    (w33 : PySem.W.subIn K (.ref Wr) (.ref TE) = some true)
    (w34 : PySem.W.findIn K (.ref Wr) "__class__" = some (some (.builtin "object.__class__")))
    (w35 : PySem.W.mroIn K Wr (.type "object") = some true)
    (w36 : PySem.W.subIn K (.ref Wr) (.ref NI) = some false)
    (w37 : PySem.W.subIn K (.ref Wr) (.ref NT) = some false)
    (w38 : PySem.W.subIn K (.ref Wr) (.ref Wr) = some true)
    (w39 : PySem.W.isClsIn K NI = true)
    (w40 : PySem.W.isClsIn K NT = true)
    (w41 : PySem.W.typeIn K (.ref NI) = some (.type "type"))
    (w42 : PySem.W.typeIn K (.ref NT) = some (.type "type"))
    (c_LETTERS : PySem.W.nsIn K mainGlobals "LETTERS" = some (some u_LETTERS))
    (r_LETTERS : RelV (.str letters) u_LETTERS)
    (c_MOST_SIGNS : PySem.W.nsIn K mainGlobals "MOST_SIGNS" = some (some u_MOST_SIGNS))
    (r_MOST_SIGNS : RelV (.int 4) u_MOST_SIGNS)
    (z_len : PySem.W.nsIn K mainGlobals "len" = some none)
    (z_dict : PySem.W.nsIn K mainGlobals "dict" = some none)
    (z_range : PySem.W.nsIn K mainGlobals "range" = some none)
    (z_list : PySem.W.nsIn K mainGlobals "list" = some none)
    (z_set : PySem.W.nsIn K mainGlobals "set" = some none)
    (z_tuple : PySem.W.nsIn K mainGlobals "tuple" = some none)
    (z_int : PySem.W.nsIn K mainGlobals "int" = some none)
    (z_abs : PySem.W.nsIn K mainGlobals "abs" = some none)
    (z_repr : PySem.W.nsIn K mainGlobals "repr" = some none)
    (z_isinstance : PySem.W.nsIn K mainGlobals "isinstance" = some none)
    (z_str : PySem.W.nsIn K mainGlobals "str" = some none)
    (z_bool : PySem.W.nsIn K mainGlobals "bool" = some none)
    (z_all : PySem.W.nsIn K mainGlobals "all" = some none)
    (z_zip : PySem.W.nsIn K mainGlobals "zip" = some none)
    (z_sorted : PySem.W.nsIn K mainGlobals "sorted" = some none) :
    ∃ fd : FuncData, (∀ (s : Shared) (v : Value), BindsTo s fd ⟨[v], []⟩ [("_law_script", v)]) ∧ ∀ base : Heap, K.In base → base.Ns mainGlobals mg → GFn l.prog w K mg base CX0 10 fa fd ["_law_script"] (spLaw K) := by
  have e := hfa.symm.trans (PySem.W.mg_of X G a51)
  cases e
  have F10 := fun_mk (st := sIsInt) l10 c10 k10
  have b10 := F10.binds (ps := ["thing"]) fun _ _ _ _ _ _ us hl => match us, hl with | [_], _ => rfl
  have F11 := fun_mk (st := sIsSg) l11 c11 k11
  have b11 := F11.binds (ps := ["thing"]) fun _ _ _ _ _ _ us hl => match us, hl with | [_], _ => rfl
  have F13 := fun_mk (st := sIsNum) l13 c13 k13
  have b13 := F13.binds (ps := ["many", "thing"]) fun _ _ _ _ _ _ us hl => match us, hl with | [_, _], _ => rfl
  have F15 := fun_mk (st := sReach) l15 c15 k15
  have b15 := F15.binds (ps := ["rows", "begin"]) fun _ _ _ _ _ _ us hl => match us, hl with | [_, _], _ => rfl
  have F16 := fun_mk (st := sPart) l16 c16 k16
  have b16 := F16.binds (ps := ["rows", "classes", "states"]) fun _ _ _ _ _ _ us hl => match us, hl with | [_, _, _], _ => rfl
  have F17 := fun_mk (st := sHow) l17 c17 k17
  have b17 := F17.binds (ps := ["classes"]) fun _ _ _ _ _ _ us hl => match us, hl with | [_], _ => rfl
  have F18 := fun_mk (st := sCls) l18 c18 k18
  have b18 := F18.binds (ps := ["rows", "ends", "states"]) fun _ _ _ _ _ _ us hl => match us, hl with | [_, _, _], _ => rfl
  have F19 : FunD K "least_machine" "least_machine" (defArgs sLm) (defBody sLm) (defScope sLm) [] [("begin", .int 0)] f19 _ := ⟨⟨oc19, od19, .none, .ref D5, dc19, pm19, an19, cd19, ct19, sl19, rfl, l19, c19, .inl ⟨rfl, rfl⟩, .inr ⟨D5, rfl, fun q hq => by
    rw [List.mem_singleton] at hq
    rw [hq]
    exact ⟨u5, kw, ru⟩⟩⟩, k19⟩
  have b19 := lm_binds F19
  have F28 := fun_mk (st := sAreR) l28 c28 k28
  have b28 := F28.binds (ps := ["wide", "thing"]) fun _ _ _ _ _ _ us hl => match us, hl with | [_, _], _ => rfl
  have F39 := fun_mk (st := sBag) l39 c39 k39
  have b39 := F39.binds (ps := ["_law_script"]) fun _ _ _ _ _ _ us hl => match us, hl with | [_], _ => rfl
  have F40 := fun_mk (st := sTake) l40 c40 k40
  have b40 := F40.binds (ps := ["_law_bag_here", "_law_many"]) fun _ _ _ _ _ _ us hl => match us, hl with | [_, _], _ => rfl
  have F41 := fun_mk (st := sOdd) l41 c41 k41
  have b41 := F41.binds (ps := ["_law_bag_here"]) fun _ _ _ _ _ _ us hl => match us, hl with | [_], _ => rfl
  have F42 := fun_mk (st := sSigns) l42 c42 k42
  have b42 := F42.binds (ps := ["_law_bag_here"]) fun _ _ _ _ _ _ us hl => match us, hl with | [_], _ => rfl
  have F43 := fun_mk (st := sMach) l43 c43 k43
  have b43 := F43.binds (ps := ["_law_bag_here", "_law_signs_here", "_law_states"]) fun _ _ _ _ _ _ us hl => match us, hl with | [_, _, _], _ => rfl
  have F44 := fun_mk (st := sLs) l44 c44 k44
  have b44 := F44.binds (ps := ["_law_rows", "_law_ends"]) fun _ _ _ _ _ _ us hl => match us, hl with | [_, _], _ => rfl
  have F45 := fun_mk (st := sIsSt) l45 c45 k45
  have b45 := F45.binds (ps := ["_law_many", "_law_thing"]) fun _ _ _ _ _ _ us hl => match us, hl with | [_, _], _ => rfl
  have F46 := fun_mk (st := sDue) l46 c46 k46
  have b46 := F46.binds (ps := ["_law_things"]) fun _ _ _ _ _ _ us hl => match us, hl with | [_], _ => rfl
  have F47 := fun_mk (st := sTold) l47 c47 k47
  have b47 := F47.binds (ps := ["_law_things"]) fun _ _ _ _ _ _ us hl => match us, hl with | [_], _ => rfl
  have F48 := fun_mk (st := sSpoilt) l48 c48 k48
  have b48 := F48.binds (ps := ["_law_bag_here", "_law_things"]) fun _ _ _ _ _ _ us hl => match us, hl with | [_, _], _ => rfl
  have F49 := fun_mk (st := sGreat) l49 c49 k49
  have b49 := F49.binds (ps := ["_law_bag_here", "_law_things"]) fun _ _ _ _ _ _ us hl => match us, hl with | [_, _], _ => rfl
  have F50 := fun_mk (st := sOwnR) l50 c50 k50
  have b50 := F50.binds (ps := ["_law_signs_here", "_law_rows", "_law_ends"]) fun _ _ _ _ _ _ us hl => match us, hl with | [_, _, _], _ => rfl
  have F51 := fun_mk (st := sLaw) l51 c51 k51
  have FI := fun_mk (st := sInit) lI cI kI
  have bI := FI.binds (ps := ["self", "signs", "rows", "ends"]) fun _ _ _ _ _ _ us hl => match us, hl with | [_, _, _, _], _ => rfl
  have FT := fun_mk (st := sTab) lT cT kT
  have bT := FT.binds (ps := ["self"]) fun _ _ _ _ _ _ us hl => match us, hl with | [_], _ => rfl
  have FE := fun_mk (st := sEnd) lE cE kE
  have bE := FE.binds (ps := ["self"]) fun _ _ _ _ _ _ us hl => match us, hl with | [_], _ => rfl
  have FS := fun_mk (st := sSg) lS cS kS
  have bS := FS.binds (ps := ["self"]) fun _ _ _ _ _ _ us hl => match us, hl with | [_], _ => rfl
  have TWr : OexC K Wr := ⟨⟨nmW, qW, NW, bsW, bmW, snW, subW, abW, colW, ddW, k0W, k1W, k2W, k3W, k5W, w2, w3⟩, w4, w5, w6, w7⟩
  have SF : SuFn l.prog K mg "Wrong.__init__" sWrong fW Wr _ := ⟨⟨_, _, _, _, _, _, _, _, _, _, _, rfl, w11, w12, ⟨_, _, _, w11⟩, ⟨_, rfl, rfl⟩, ⟨_, _, _, _, _, _, w13, w14, w15⟩, ⟨_, _, _, w16⟩, ⟨_, w17⟩, w18, w19, w20, w21, PySem.W.mg_none_of X G w22, w23⟩⟩
  have bW_ : Binds K (PySem.W.ksFn "__init__" "Wrong.__init__" (defArgs sWrong) (defBody sWrong) (defScope sWrong) .none kVW dcW pmW anW (.ref cdaW) ctW ccW) ["self", "place"] [] := .all fun us hl => match us, hl with | [_, _], _ => rfl
  refine ⟨PySem.W.fnOf "law" "law" (defArgs sLaw) (defBody sLaw) (defScope sLaw) .none kV51 dc51 pm51 an51 cd51 ct51, fun s v => .of_eq rfl, fun base _ _ => ?_⟩
  exact ok_law F51 ⟨F10, b10, PySem.W.mg_of X G a10, F11, b11, PySem.W.mg_of X G a11, F13, b13, PySem.W.mg_of X G a13, F15, b15, PySem.W.mg_of X G a15, F16, b16, PySem.W.mg_of X G a16, F17, b17, PySem.W.mg_of X G a17, F18, b18, PySem.W.mg_of X G a18, F19, b19, PySem.W.mg_of X G a19, F28, b28, PySem.W.mg_of X G a28, F39, b39, PySem.W.mg_of X G a39, F40, b40, PySem.W.mg_of X G a40, F41, b41, PySem.W.mg_of X G a41, F42, b42, PySem.W.mg_of X G a42, F43, b43, PySem.W.mg_of X G a43, F44, b44, PySem.W.mg_of X G a44, F45, b45, PySem.W.mg_of X G a45, F46, b46, PySem.W.mg_of X G a46, F47, b47, PySem.W.mg_of X G a47, F48, b48, PySem.W.mg_of X G a48, F49, b49, PySem.W.mg_of X G a49, F50, b50, PySem.W.mg_of X G a50, ⟨⟨pg, hd, po, sa⟩, n_its_signs, n_its_table, n_its_ends⟩, PySem.W.mg_of X G aC, ⟨mk, aI, iI, kc⟩, FI, bI, ⟨aI, iI, kI⟩, FT, bT, ⟨aT, iT, kT⟩, FE, bE, ⟨aE, iE, kE⟩, FS, bS, ⟨ap, gp, tp, _, rp⟩, ha, hn, ht, hm, kit_self, nC, ⟨⟨pg, hd, po, sa⟩, ha, hn, ht, hm, s_int, s_bool, s_str, s_list⟩, ⟨_, PySem.W.mg_of X G c_LETTERS, r_LETTERS⟩, ⟨_, PySem.W.mg_of X G c_MOST_SIGNS, r_MOST_SIGNS⟩, PySem.W.mg_none_of X G z_len, PySem.W.mg_none_of X G z_dict, PySem.W.mg_none_of X G z_range, PySem.W.mg_none_of X G z_list, PySem.W.mg_none_of X G z_set, PySem.W.mg_none_of X G z_tuple, PySem.W.mg_none_of X G z_int, PySem.W.mg_none_of X G z_abs, PySem.W.mg_none_of X G z_repr, PySem.W.mg_none_of X G z_isinstance, PySem.W.mg_none_of X G z_str, PySem.W.mg_none_of X G z_bool, PySem.W.mg_none_of X G z_all, PySem.W.mg_none_of X G z_zip, PySem.W.mg_none_of X G z_sorted⟩ ⟨Wr, TE, NI, NT, fW, _, ⟨PySem.W.mg_of X G w27, PySem.W.mg_of X G w1, PySem.W.mg_of X G w28, PySem.W.mg_of X G w29, PySem.W.exm_ref w30 w31 w32 w33, ⟨w24, w25, w5, w26, w34, hn, ht, w35⟩, ⟨w24, w25, w5, w26⟩, w8, kit_any2 w38 w39 w41 w36 w40 w42 w37⟩, ⟨TWr, w9, w10, ok_er1 SF scW TWr w8 rfl rfl, bW_, PySem.W.mg_of X G w1⟩⟩
theorem walk {l : PySem.W.OpenLaw} {q : Program} {loose : List Str} {XP : (Str → Option Value) → Heap → Prop} {YP : World → Heap → Prop} {d : DefRec} {K : Params → PySem.W.Frag} (hn : l.most = some 63) (hdf : d.params.defaults = [])
    (hY : ∀ (w : World) (h : Heap), YP w h → (K w.params).In h)
    (F : ∀ (w : World) (mg : Str → Option Value) (fa : Addr) (h : Heap), (K w.params).In h → h.Ns mainGlobals mg → mg d.name = some (.ref fa) →
      ∃ fd : FuncData, (∀ (s : Shared) (u : Value), BindsTo s fd ⟨[u], []⟩ [("_law_script", u)]) ∧ ∀ base : Heap, (K w.params).In base → base.Ns mainGlobals mg → GFn l.prog w (K w.params) mg base CX0 10 fa fd ["_law_script"] (spLaw (K w.params))) :
    PySem.W.WalkO q loose XP YP l.row.toRowW d [] (fun f vs => PySem.call f vs) :=
  Rg.walk_ofG (n := 63) (k := 10) (x := "_law_script") (CX := fun _ => CX0) (sp := fun w => spLaw (K w.params)) hn (by decide) hdf ⟨rfl, by decide, by decide⟩ hY F (fun _ _ a ns hl _ hS => ⟨a, ns, rfl, hS, hl, fun _ => rfl⟩) fun _ _ _ _ _ z => z
end K15
open PySem PySem.W PyProof.Rows in
theorem PySem.Challenge.cw_builttexts_k15_texts_refused_holds : PySem.Challenge.rw_builttexts_k15_texts_refused.Holds := by
  w_on; o_law; k_head; (case hw => w_witness2)
  k_fill
  refine K15.walk (l := PySem.Challenge.rw_builttexts_k15_texts_refused) rfl rfl (fun w h Y => PySem.W.kIn_of Y) ?F
  case F =>
    intro w mg fa h KX G hmg
    refine' K15.all_mk KX G hmg ?a10 ?l10 ?c10 ?k10 ?a11 ?l11 ?c11 ?k11 ?a13 ?l13 ?c13 ?k13 ?a15 ?l15 ?c15 ?k15 ?a16 ?l16 ?c16 ?k16 ?a17 ?l17 ?c17 ?k17 ?a18 ?l18 ?c18 ?k18 ?a19 ?l19 ?c19 ?k19 ?a28 ?l28 ?c28 ?k28 ?a39 ?l39 ?c39 ?k39 ?a40 ?l40 ?c40 ?k40 ?a41 ?l41 ?c41 ?k41 ?a42 ?l42 ?c42 ?k42 ?a43 ?l43 ?c43 ?k43 ?a44 ?l44 ?c44 ?k44 ?a45 ?l45 ?c45 ?k45 ?a46 ?l46 ?c46 ?k46 ?a47 ?l47 ?c47 ?k47 ?a48 ?l48 ?c48 ?k48 ?a49 ?l49 ?c49 ?k49 ?a50 ?l50 ?c50 ?k50 ?a51 ?l51 ?c51 ?k51 ?kw ?ru ?aC ?ap ?gp ?tp ?rp ?aI ?iI ?lI ?cI ?kI ?aT ?iT ?lT ?cT ?kT ?aE ?iE ?lE ?cE ?kE ?iS ?lS ?cS ?kS ?pg ?hd ?po ?sa ?mk ?kc ?n_its_signs ?n_its_table ?n_its_ends ?ha ?hn ?ht ?hm ?nC ?ic ?tC ?s_int ?s_bool ?s_str ?s_list ?w1 ?w2 ?w3 ?w4 ?w5 ?w6 ?w7 ?w8 ?w9 ?w10 ?w11 ?w12 ?w13 ?w14 ?w15 ?w16 ?w17 ?w18 ?w19 ?w20 ?w21 ?w22 ?w23 ?w24 ?w25 ?w26 ?w27 ?w28 ?w29 ?w30 ?w31 ?w32 ?w33 ?w34 ?w35 ?w36 ?w37 ?w38 ?w39 ?w40 ?w41 ?w42 ?c_LETTERS ?r_LETTERS ?c_MOST_SIGNS ?r_MOST_SIGNS ?z_len ?z_dict ?z_range ?z_list ?z_set ?z_tuple ?z_int ?z_abs ?z_repr ?z_isinstance ?z_str ?z_bool ?z_all ?z_zip ?z_sorted
    (case a10 => k_is)
    (case l10 => k_is)
    (case c10 => k_is)
    (case k10 => k_is)
    (case a11 => k_is)
    (case l11 => k_is)
    (case c11 => k_is)
    (case k11 => k_is)
    (case a13 => k_is)
    (case l13 => k_is)
    (case c13 => k_is)
    (case k13 => k_is)
    (case a15 => k_is)
    (case l15 => k_is)
    (case c15 => k_is)
    (case k15 => k_is)
    (case a16 => k_is)
    (case l16 => k_is)
    (case c16 => k_is)
    (case k16 => k_is)
    (case a17 => k_is)
    (case l17 => k_is)
    (case c17 => k_is)
    (case k17 => k_is)
    (case a18 => k_is)
    (case l18 => k_is)
    (case c18 => k_is)
    (case k18 => k_is)
    (case a19 => k_is)
    (case l19 => k_is)
    (case c19 => k_is)
    (case k19 => k_is)
    (case a28 => k_is)
    (case l28 => k_is)
    (case c28 => k_is)
    (case k28 => k_is)
    (case a39 => k_is)
    (case l39 => k_is)
    (case c39 => k_is)
    (case k39 => k_is)
    (case a40 => k_is)
    (case l40 => k_is)
    (case c40 => k_is)
    (case k40 => k_is)
    (case a41 => k_is)
    (case l41 => k_is)
    (case c41 => k_is)
    (case k41 => k_is)
    (case a42 => k_is)
    (case l42 => k_is)
    (case c42 => k_is)
    (case k42 => k_is)
    (case a43 => k_is)
    (case l43 => k_is)
    (case c43 => k_is)
    (case k43 => k_is)
    (case a44 => k_is)
    (case l44 => k_is)
    (case c44 => k_is)
    (case k44 => k_is)
    (case a45 => k_is)
    (case l45 => k_is)
    (case c45 => k_is)
    (case k45 => k_is)
    (case a46 => k_is)
    (case l46 => k_is)
    (case c46 => k_is)
    (case k46 => k_is)
    (case a47 => k_is)
    (case l47 => k_is)
    (case c47 => k_is)
    (case k47 => k_is)
    (case a48 => k_is)
    (case l48 => k_is)
    (case c48 => k_is)
    (case k48 => k_is)
    (case a49 => k_is)
    (case l49 => k_is)
    (case c49 => k_is)
    (case k49 => k_is)
    (case a50 => k_is)
    (case l50 => k_is)
    (case c50 => k_is)
    (case k50 => k_is)
    (case a51 => k_is)
    (case l51 => k_is)
    (case c51 => k_is)
    (case k51 => k_is)
    (case kw => k_is)
    (case ru => exact ⟨_, rfl⟩)
    (case aC => k_is)
    (case ap => k_is)
    (case gp => k_is)
    (case tp => k_is)
    (case rp => k_is)
    (case aI => k_is)
    (case iI => k_is)
    (case lI => k_is)
    (case cI => k_is)
    (case kI => k_is)
    (case aT => k_is)
    (case iT => k_is)
    (case lT => k_is)
    (case cT => k_is)
    (case kT => k_is)
    (case aE => k_is)
    (case iE => k_is)
    (case lE => k_is)
    (case cE => k_is)
    (case kE => k_is)
    (case iS => k_is)
    (case lS => k_is)
    (case cS => k_is)
    (case kS => k_is)
    (case pg => k_is)
    (case hd => k_is)
    (case po => k_is)
    (case sa => k_is)
    (case mk => k_is)
    (case kc => k_is)
    (case n_its_signs => k_is)
    (case n_its_table => k_is)
    (case n_its_ends => k_is)
    (case ha => k_is)
    (case hn => k_is)
    (case ht => k_is)
    (case hm => k_is)
    (case nC => k_is)
    (case ic => k_is)
    (case tC => k_is)
    (case s_int => k_is)
    (case s_bool => k_is)
    (case s_str => k_is)
    (case s_list => k_is)
    (case w1 => k_is)
    (case w2 => k_is)
    (case w3 => rfl)
    (case w4 => k_is)
    (case w5 => k_is)
    (case w6 => k_is)
    (case w7 => k_is)
    (case w8 => k_is)
    (case w9 => k_is)
    (case w10 => k_is)
    (case w11 => k_is)
    (case w12 => k_is)
    (case w13 => k_is)
    (case w14 => rfl)
    (case w15 => first | rfl | decide +kernel)
    (case w16 => k_is)
    (case w17 => k_is)
    (case w18 => k_is)
    (case w19 => ks_is)
    (case w20 => k_is)
    (case w21 => k_is)
    (case w22 => k_is)
    (case w23 => first | rfl | decide +kernel)
    (case w24 => k_is)
    (case w25 => k_is)
    (case w26 => k_is)
    (case w27 => k_is)
    (case w28 => k_is)
    (case w29 => k_is)
    (case w30 => k_is)
    (case w31 => k_is)
    (case w32 => k_is)
    (case w33 => k_is)
    (case w34 => k_is)
    (case w35 => k_is)
    (case w36 => k_is)
    (case w37 => k_is)
    (case w38 => k_is)
    (case w39 => k_is)
    (case w40 => k_is)
    (case w41 => k_is)
    (case w42 => k_is)
    (case c_LETTERS => k_is)
    (case r_LETTERS => exact ⟨_, rfl⟩)
    (case c_MOST_SIGNS => k_is)
    (case r_MOST_SIGNS => exact ⟨_, rfl⟩)
    (case z_len => k_is)
    (case z_dict => k_is)
    (case z_range => k_is)
    (case z_list => k_is)
    (case z_set => k_is)
    (case z_tuple => k_is)
    (case z_int => k_is)
    (case z_abs => k_is)
    (case z_repr => k_is)
    (case z_isinstance => k_is)
    (case z_str => k_is)
    (case z_bool => k_is)
    (case z_all => k_is)
    (case z_zip => k_is)
    (case z_sorted => k_is)
