import PyProof.Rows.All
import Wide.All
import OpenK.AllK
import Wide.FinOn
import HandS.ForMost
import PyProof.ReprReads
import PyProof.ReprRoads
import HandS.Codes
import HandS.DictComp
import HandS.Conv
import HandS.TupLen
import HandS.More
import HandS.Flow
import HandS.Defaults
import HandS.Zip
import KE.KDictKeyed
import KE.KDictList
import HandS.ListItems
import PyProof.Rows.RegFStrParts
import HandS.SetFor
import HandS.Strs
import HandS.Deep
import KE.KDictDisplayH
import HandS.SortInts
import PySem.Challenge.RW_builttexts_k13_machines_of_paths
import HandS.Small
import HandS.Style
set_option Elab.async false
set_option linter.all false
set_option maxRecDepth 100000
set_option maxHeartbeats 8000000
/-! repr of data, and defs that are called where no repr runs (guards told as empty) -/
namespace Rg
open PySem PySem.Spec PyProof.Rows L2

/-- a promise of a def for callers around whom no repr is under way -/
structure GFn (P : Program) (w : World) (K : PySem.W.Frag) (mg : Str → Option Value) (base : Heap)
    (CX : CXT) (k : Nat) (f : Addr) (fd : FuncData) (ps : List Str) (sp : Sp) : Prop where
  len : ∀ vs H Q E, sp vs H Q E → vs.length = ps.length
  run : ∀ (A : Around) (outer : List Env) (s : Shared) (H : Hp) (args : Args) (us : List Value) (vs : List V)
    (Q : VK) (E : XK), Room k A → A.guards = some [] → Env0 P w K mg base A outer s H →
    BindsTo s fd args (ps.zip us) → Vals vs us → sp vs H Q E →
    codeAny (model P w) A (.call (.ref f) args) (CR CX outer P w H s Q E) s

section
variable {P : Program} {w : World} {K : PySem.W.Frag} {mg : Str → Option Value} {base : Heap} {CX : CXT}
  {k : Nat} {f : Addr} {fd : FuncData} {ps : List Str} {sp : Sp}

theorem gfn_of_fnOk (F : FnOk P w K mg base CX k f fd ps sp) : GFn P w K mg base CX k f fd ps sp :=
  ⟨F.len, fun A outer s H args us vs Q E hr _ e0 hb r q => F.run A outer s H args us vs Q E hr e0 hb r q⟩

theorem deeper_guards {A : Around} (env : Env) (h : A.guards = some []) : (A.deeper env).guards = some [] := h

theorem gfn_of {name qual : Str} {params : Arguments} {body : List Stmt} {scope : Scope}
    {dV kV doc pm cdv ct oc : Value} {an od : Option Addr} {osl : Array (Option Value)} {N : List Str}
    (lk : K.lookup f = some ⟨oc, od, .func (PySem.W.fnOf name qual params body scope dV kV doc pm an cdv ct), osl⟩)
    (hcd : PySem.W.codeIn K cdv qual = true) (S : FnScope N ps scope)
    (len : ∀ vs H Q E, sp vs H Q E → vs.length = ps.length)
    (hbody : ∀ (A : Around) (outer : List Env) (s : Shared) (H : Hp) (vs : List V) (Q : VK) (E : XK),
      Room k (A.deeper (envOfC qual scope s.heap.objs.size f cdv)) →
      (A.deeper (envOfC qual scope s.heap.objs.size f cdv)).guards = some [] → sp vs H Q E →
      ∃ t, PSs (cxOf CX P w K mg base N qual scope f cdv A outer s H E) body t ∧
        t { nx := fun _ H' => Q .non H', rt := Q } (start N vs) H) :
    GFn P w K mg base CX (k + 1) f (PySem.W.fnOf name qual params body scope dV kV doc pm an cdv ct) ps sp := by
  refine ⟨len, ?_⟩
  intro A outer s H args us vs Q E hr hg e0 hb r hsp
  have hlen := len _ _ _ _ hsp
  have kin : K.In s.heap := e0.mod.kin.keeps (fun b o e => (e0.bs b o e).1)
  have nolim : s.heap.NoLimit := e0.mod.nolimit.keeps (fun b o e => (e0.bs b o e).1)
  have kinds : ∀ y ∈ ps.zip us, scope.names.lookup y.1 = some .local ∨
      (scope.names.lookup y.1 = some .cell ∧
        ((cellsFrom (s.heap.objs.size + 1) scope.names []).lookup y.1).isSome = true) := by
    rintro ⟨n, v⟩ hy
    rcases S.par n (List.of_mem_zip hy).1 with z | z
    · exact .inl z
    · exact .inr ⟨z, PySem.W.cellsFrom_some _ _ _ (.inl z)⟩
  refine codeAny_call_function hr.depth (kin _ _ lk) rfl S.co S.gen rfl
    (PySem.W.codeRec_of kin hcd) (hb _ _ _ _ ?_)
  refine wpAny_newFunctionEnv_cells S.kind kinds ?_
  intro env he s1 x
  subst he
  refine ⟨nolim.keeps x.toInCall.keep, codeAny_func ?_⟩
  obtain ⟨t, ht, hq⟩ := hbody A outer s H vs Q E (hr.deeper _) (deeper_guards _ hg) hsp
  have I0 : Inv (cxOf CX P w K mg base N qual scope f cdv A outer s H E) [] (start N vs) H s1 :=
    inv_start S hr.hd e0 hlen r x
  refine wpAny_mono (ht.run [] s1 (start N vs) H _ I0 hq) ?_ (fun _ _ z => z)
  intro fl s' hs
  cases fl with
  | ret u =>
    obtain ⟨v, σ', H', J, rv, q⟩ := hs
    exact ⟨v, H', J.os, J.bare, J.base, J.hok, rv, q⟩
  | next =>
    obtain ⟨σ', H', J, q⟩ := hs
    exact ⟨V.non, H', J.os, J.bare, J.base, J.hok, rfl, q⟩
  | brk =>
    obtain ⟨_, _, _, q⟩ := hs
    exact q.elim
  | cont =>
    obtain ⟨_, _, _, q⟩ := hs
    exact q.elim

/-- the body's walk of a def of the text, nothing raised -/
theorem fun_okG {x qual : Str} {st : Stmt} {N : List Str} (F : Fun K x qual st f fd)
    (S : FnScope N ps (defScope st)) (len : ∀ vs H Q E, sp vs H Q E → vs.length = ps.length)
    (hbody : ∀ (cdv : Value) (A : Around) (outer : List Env) (s : Shared) (H : Hp) (vs : List V) (Q : VK) (E : XK),
      Room k (A.deeper (envOfC qual (defScope st) s.heap.objs.size f cdv)) →
      (A.deeper (envOfC qual (defScope st) s.heap.objs.size f cdv)).guards = some [] → sp vs H Q E →
      ∃ t, PSs (cxOf CX0 P w K mg base N qual (defScope st) f cdv A outer s H E).nox (defBody st) t ∧
        t { nx := fun _ H' => Q .non H', rt := Q } (start N vs) H) :
    GFn P w K mg base CX0 (k + 1) f fd ps sp := by
  obtain ⟨oc, od, kV, doc, pm, an, cdv, ct, osl, rfl, lk, hcd⟩ := F.ex
  refine gfn_of lk hcd S len ?_
  intro A outer s H vs Q E hr hg hsp
  obtain ⟨t, h, q⟩ := hbody cdv A outer s H vs Q E hr hg hsp
  exact ⟨t, h.nox, q⟩
end

section
variable {X : Cx} {CX : CXT} {k : Nat} {f : Addr} {fd : FuncData} {ps : List Str} {sp : Sp} {dvs : List V}
  {ds : List Value} {E : XK} {x : Str} {p pos : Pos} {e : Expr} {es : List Expr} {t : TA}

theorem run_gfn {pins : List (Addr × Obj)} {σ : L2.St} {H : Hp} {s : Shared} {Q : VK} {us : List Value} {vs : List V}
    (F : GFn X.prog X.w X.K X.mg X.base CX k f fd ps sp) (hr : Room k X.A) (hg : X.A.guards = some [])
    (hb : Binds X.K fd ps ds) (hd : Vals dvs ds) (hx : Passes CX X E)
    (I : Inv X pins σ H s) (r : Vals vs us) (h : sp (vs ++ dvs) H Q E) :
    wpAny (model X.prog X.w) X.A (call (.ref f) us) (EP X pins σ Q) X.xe s := by
  have rr : Vals (vs ++ dvs) (us ++ ds) := r.append hd
  have hl : (us ++ ds).length = ps.length := by
    rw [← rr.length]
    exact F.len _ _ _ _ h
  refine wpAny_call (codeAny_mono (F.run X.A X.stack s H ⟨us, []⟩ (us ++ ds) (vs ++ dvs) Q E hr hg I.env0
    (hb s us I.kIn hl) rr h) ?_)
  intro r s' hq
  cases r with
  | error z => exact hx pins σ H s z s' I hq
  | ok fl =>
    cases fl with
    | ret u => exact I.after hq
    | next => exact hq.elim
    | brk => exact hq.elim
    | cont => exact hq.elim

theorem pe_callG (F : GFn X.prog X.w X.K X.mg X.base CX k f fd ps sp) (hr : Room k X.A)
    (hgu : X.A.guards = some []) (hg : Gl X x) (hm : X.mg x = some (.ref f))
    (hk : PySem.W.keepIn X.K (.ref f) = true) (hb : Binds X.K fd ps ds) (hd : Vals dvs ds) (hx : Passes CX X E)
    (ha : PA X (e :: es) t) (hdb : (x == ("__debug__" : Str)) = false := by decide)
    (he : starEach (e :: es) X.env = (false, eval e X.env) :: starEach es X.env := by rfl)
    (hpl : (backTo pos (starEach es X.env)).any (·.1) = false := by rfl) :
    PE X (.Call (.Name x p) (e :: es) [] pos) (tCall sp dvs E t) := by
  refine ⟨?_⟩
  intro pins s σ H Q I h
  refine wpAny_Call_Name_kw (ld_glob I hg hm ?_ hdb)
  refine PySem.W.callWith_K (h₀ := X.base) I.ok.mod.kin hk (thn (ha.run pos pins s σ H _ I h) ?_) he hpl
  rintro us s1 ⟨vs, H1, I1, r, q⟩
  exact ⟨I1.kIn, run_gfn F hr hgu hb hd hx I1 r q⟩
end

/-! ### the law's end with guards -/
theorem law_callG {P : Program} {w : World} {K : PySem.W.Frag} {mg mb : Str → Option Value} {CX : CXT} {k : Nat}
    {fa a : Addr} {fd : FuncData} {x : Str} {sp : Sp} {s1 : Shared} {vs : List Value} {ns : List Int}
    (KX : K.In s1.heap) (hns : s1.heap.Ns mainGlobals mg) (hb : s1.heap.Ns builtinsNs mb)
    (hbb : ∀ x : Str, x ≠ "__name__" → mb x = bootBuiltins x) (hlim : s1.heap.NoLimit) (hg : s1.gens = #[])
    (ha : s1.heap.get? a = some { cls := .type "list", data := .seq vs.toArray }) (hi : IntsAre vs ns)
    (hl : ns.length ≤ sizeLine) (hr : Room k callerA)
    (F : ∀ base : Heap, K.In base → base.Ns mainGlobals mg → GFn P w K mg base CX k fa fd [x] sp)
    (hbind : ∀ (s : Shared) (u : Value), BindsTo s fd ⟨[u], []⟩ [(x, u)])
    (hsp : ∀ H : Hp, Only H → SqL K H a (ns.map V.int) → sp [.ref a] H (fun v _ => v = .bl true) fun _ _ _ => False)
    (hCX : ∀ H e s', CX [] H s1 (fun _ _ _ => False) e s' → False) :
    codeAny (model P w) callerA (.call (.ref fa) ⟨[.ref a], []⟩)
      (fun r s' => r = .ok (.ret (.bool true)) ∧ OldK s1.heap s'.heap ∧ s'.os = s1.os ∧ AllBare s'.gens) s1 := by
  have rv := vals_ints hi
  have lenV := hi.length
  have core : ∀ H : Hp, Only H → SqL K H a (ns.map V.int) → HOk P w H s1.heap → (∀ b, H b ≠ none → b = a) →
      (H a ≠ none → K.lookup a = none) →
      codeAny (model P w) callerA (.call (.ref fa) ⟨[.ref a], []⟩)
        (fun r s' => r = .ok (.ret (.bool true)) ∧ OldK s1.heap s'.heap ∧ s'.os = s1.os ∧ AllBare s'.gens) s1 := by
    intro H hO hS hok hA hK
    have noA : ∀ {b : Addr} {o : Obj} {es : Array DictEntry} {ep : Nat}, s1.heap.get? b = some o →
        o.data = .dict es ep → H b = none := by
      intro b o es ep e d
      cases q : H b with
      | none => rfl
      | some u =>
        have e' : b = a := hA b (by rw [q]; simp)
        subst e'
        rw [ha] at e
        cases e
        exact absurd d (by simp)
    have nsK : ∀ {b : Addr} {m : Str → Option Value}, s1.heap.Ns b m → (hidT s1.heap H).Ns b m := by
      rintro b m ⟨o, es, ep, e, d, r⟩
      exact ⟨o, es, ep, hidT_get e (noA e d), d, r⟩
    have hKb : K.In (hidT s1.heap H) := by
      intro b o e
      refine hidT_get (KX b o e) ?_
      cases q : H b with
      | none => rfl
      | some u =>
        have e' : b = a := hA b (by rw [q]; simp)
        subst e'
        rw [hK (by rw [q]; simp)] at e
        cases e
    have hM : Mod K mg (hidT s1.heap H) := by
      obtain ⟨mc, h1, h2⟩ := hlim
      exact ⟨hKb, nsK hns, ⟨mb, nsK hb, hbb⟩, ⟨mc, nsK h1, h2⟩⟩
    have e0 : Env0 P w K mg (hidT s1.heap H) callerA [] s1 H := by
      refine ⟨rfl, hM, fun b o e => of_hidT e, Nat.le_of_eq (hidT_size _ _), trivial, ?_, hok, .of_eq hg⟩
      intro b hb'
      have hb2 : b ∈ ([] : List Addr) := hb'
      cases hb2
    refine codeAny_mono ((F _ hKb (nsK hns)).run callerA [] s1 H ⟨[.ref a], []⟩ [.ref a] [.ref a] _ _ hr rfl e0
      (hbind s1 (.ref a)) (.cons rfl .nil) (hsp H hO hS)) ?_
    intro r s' h
    cases r with
    | error e => exact (hCX H e s' h).elim
    | ok fl =>
      cases fl with
      | next => exact h.elim
      | brk => exact h.elim
      | cont => exact h.elim
      | ret u =>
        obtain ⟨v, H', os, bare, un, hok', r', q⟩ := h
        have q' : v = .bl true := q
        subst q'
        obtain rfl : u = Value.bool true := r'
        refine ⟨rfl, OldK.of_keep ?_, os, bare⟩
        intro b o e
        cases q : H b with
        | none =>
          refine un.keep b o e q ?_ (by simp)
          intro z
          have z2 : b ∈ ([] : List Addr) := z
          cases z2
        | some u =>
          rcases hO b with z | ⟨ob, xs, z⟩
          · rw [q] at z
            cases z
          · have e1 := (hok b _ z).1
            have e2 := (hok' b _ (un.frzs b ob _ z)).1
            rw [e] at e1
            cases e1
            exact e2
  cases hk : K.lookup a with
  | some o =>
    have e := KX a o hk
    rw [ha] at e
    cases e
    refine core (fun _ => none) (fun _ => .inl rfl) (.inr ⟨_, vs.toArray, _, hk, rfl, rfl, rfl, ?_, by simpa using rv⟩)
      ?_ (fun b z => absurd rfl z) (fun z => absurd rfl z)
    · rw [List.size_toArray, lenV]
      exact hl
    · intro b u z
      have z' : (none : Option HO) = some u := z
      cases z'
  | none =>
    refine core (fun b => if b = a then some (.frz { cls := .type "list", data := .seq vs.toArray } (.lst (ns.map V.int))) else none)
      ?_ (.inl (.inr ⟨{ cls := .type "list", data := .seq vs.toArray }, if_pos rfl⟩)) ?_ ?_ (fun _ => hk)
    · intro b
      by_cases hba : b = a
      · exact .inr ⟨_, _, if_pos hba⟩
      · exact .inl (if_neg hba)
    · intro b u z
      by_cases hba : b = a
      · have z' := (if_pos hba).symm.trans z
        cases z'
        subst hba
        refine ⟨ha, ?_, vs, _, rv, ha⟩
        rw [List.length_map]
        exact hl
      · have z' := (if_neg hba).symm.trans z
        cases z'
    · intro b z
      by_cases hba : b = a
      · exact hba
      · exact absurd (if_neg hba) z

theorem walk_ofG {l : PySem.W.OpenLaw} {n k : Nat} {q : Program} {loose : List Str}
    {XP : (Str → Option Value) → Heap → Prop} {YP : World → Heap → Prop} {d : DefRec} {K : Params → PySem.W.Frag}
    {CX : World → CXT} {sp : World → Sp} {x : Str}
    (hn : l.most = some n) (hn2 : n ≤ sizeLine) (hdf : d.params.defaults = []) (hr : Room k callerA)
    (hY : ∀ (w : World) (h : Heap), YP w h → (K w.params).In h)
    (F : ∀ (w : World) (mg : Str → Option Value) (fa : Addr) (h : Heap), (K w.params).In h →
      h.Ns mainGlobals mg → mg d.name = some (.ref fa) →
      ∃ fd : FuncData, (∀ (s : Shared) (u : Value), BindsTo s fd ⟨[u], []⟩ [(x, u)]) ∧
        ∀ base : Heap, (K w.params).In base → base.Ns mainGlobals mg →
          GFn l.prog w (K w.params) mg base (CX w) k fa fd [x] (sp w))
    (hsp : ∀ (w : World) (H : Hp) (a : Addr) (ns : List Int), ns.length ≤ n → Only H →
      SqL (K w.params) H a (ns.map V.int) → sp w [.ref a] H (fun v _ => v = .bl true) fun _ _ _ => False)
    (hCX : ∀ (w : World) (H : Hp) (s : Shared) (e : Value) (s' : Shared), CX w [] H s (fun _ _ _ => False) e s' → False) :
    PySem.W.WalkO q loose XP YP l.row.toRowW d [] (fun f vs => PySem.call f vs) := by
  refine Att.attach_call hn hdf ?_
  intro w s0 s1 mg mb fa o pm cd doc a vs ns G Y ho hd hcd hmg hobj hints hlen hg
  have KX := hY w _ Y
  obtain ⟨fd, hb, hF⟩ := F w mg fa _ KX G.T.g hmg
  exact law_callG KX G.T.g G.T.b G.T.builtins G.T.nolimit hg hobj hints (Nat.le_trans hlen hn2) hr hF hb
    (fun H hO hS => hsp w H a ns hlen hO hS) (fun H e s' => hCX w H s1 e s')

/-! ### repr -/
section
variable {X : Cx}
theorem call_repr_str : CallR X (.builtin "repr")
    (fun xs H Q => ∃ z, xs = [.str z] ∧ (reprText z).length ≤ sizeLine ∧ Q (.str (reprText z)) H) := by
  intro pins s σ H xs us Q I r h
  obtain ⟨z, rfl, hz, q⟩ := h
  obtain ⟨u, rfl, t, rfl⟩ := vals1 r
  exact PySem.P.repr_of_str ⟨.str _, H, I.tok _, ⟨_, rfl⟩, q⟩ hz

/-- repr of a list or a tuple of data without dicts -/
theorem call_repr_data (hg : X.A.guards = some []) (hu : X.A.units + 64 < cLine) : CallR X (.builtin "repr")
    (fun xs H Q => ∃ (a : Addr) (d : PyData), xs = [.ref a] ∧ Dp X.K H (.ref a) d ∧ d.showable = true ∧
      d.hasDict = false ∧ d.depth ≤ 60 ∧ d.shown.length ≤ sizeLine ∧ Q (.str d.shown) H) := by
  intro pins s σ H xs us Q I r h
  obtain ⟨a, d, rfl, hd, hs, hnd, hdp, hz, q⟩ := h
  obtain ⟨u, rfl, ru⟩ := vals1 r
  obtain rfl : u = Value.ref a := ru
  obtain ⟨as, rd⟩ := Dp.reads I d _ _ hd rfl
  refine repr_of_reads' rd hs (fun z => ?_) hg ?_ (fun _ _ e => e) (fun h' u tk hk => ?_) hz
  · rw [hnd] at z
    cases z
  · omega
  · exact ⟨.str _, H, I.kept hk, ⟨_, rfl⟩, q⟩
end
end Rg

/-! further rules of the layer; heaps with one changing list (the bag) -/
namespace Rg
open PySem PySem.Spec PyProof.Rows L2

section
variable {X : Cx}
theorem get_listN : PGet X (fun o i H Q => ∃ (p : Addr) (xs : List V) (k : Nat) (v : V), o = .ref p ∧ i = .int (k : Int) ∧
    SqL X.K H p xs ∧ xs[k]? = some v ∧ Q v H) := by
  intro pins s σ H o i ov iv Q I ro ri h
  obtain ⟨p, xs, k, z, rfl, rfl, hq, he, q⟩ := h
  cases ro
  obtain ⟨t, rfl⟩ := ri
  obtain ⟨its, r, pl, hz⟩ := I.list hq
  obtain ⟨u, eu, ru⟩ := r.get he
  have hl := r.length
  have hk : k < xs.length := (List.getElem?_eq_some_iff.mp he).1
  have hn := line63
  refine wpAny_getItem_list pl.isList (by omega) (by omega) (by simpa using eu) ⟨z, H, I, ru, q⟩
end

/-! ### heaps -/
theorem same_new {H : Hp} {p : Addr} {o : HO} (h : H p = none) : Same H (upd H p o) := by
  intro b x e
  rw [upd_ne (ne_of_none e h)]
  exact e
/-- all that was tracked is as it was, but g -/
def But (g : Addr) (H H' : Hp) : Prop := ∀ b o, b ≠ g → H b = some o → H' b = some o
theorem But.refl (g : Addr) (H : Hp) : But g H H := fun _ _ _ h => h
theorem But.trans {g : Addr} {H H1 H2 : Hp} (a : But g H H1) (b : But g H1 H2) : But g H H2 := fun c o n h => b c o n (a c o n h)
theorem But.of_same {g : Addr} {H H1 : Hp} (a : Same H H1) : But g H H1 := fun b o _ h => a b o h
theorem But.new {g p : Addr} {H H1 : Hp} {o : HO} (a : But g H H1) (h : H1 p = none) : But g H (upd H1 p o) := a.trans (.of_same (same_new h))
theorem But.self {g : Addr} {H H1 : Hp} {o : HO} (a : But g H H1) : But g H (upd H1 g o) := fun b x n h => by
  rw [upd_ne n]
  exact a b x n h
theorem But.upd_new {g p : Addr} {H H1 : Hp} {o : HO} (a : But g H H1) (h : H p = none) (hp : p ≠ g) : But g H (upd H1 p o) := fun b x n e => by
  rw [upd_ne (ne_of_none e h)]
  exact a b x n e
theorem But.free {g p : Addr} {H H1 : Hp} {o : HO} (a : But g H H1) (hg : H1 g = some o) (h : H1 p = none) : H p = none := by
  cases e : H p with
  | none => rfl
  | some x =>
    by_cases n : p = g
    · rw [n, hg] at h
      cases h
    · rw [a p x n e] at h
      cases h

/-! ### the bag -/
def BagL (x0 x1 x2 : Int) (l : Addr) : HO := .lst [.int x0, .int x1, .int x2, .ref l]
def Bag (H : Hp) (g l : Addr) : Prop := ∃ (x0 x1 x2 : Int) (cs : List Int), H g = some (BagL x0 x1 x2 l) ∧
  H l = some (.lst (cs.map V.int)) ∧ 0 ≤ x0 ∧ 0 ≤ x1 ∧ 0 ≤ x2 ∧ (∀ c ∈ cs, 0 ≤ c) ∧ cs.length ≤ 63
theorem bag_ne {x0 x1 x2 : Int} {l : Addr} {cs : List Int} : HO.lst (cs.map V.int) ≠ BagL x0 x1 x2 l := by
  intro e
  have e1 : cs.map V.int = [.int x0, .int x1, .int x2, .ref l] := HO.lst.inj e
  have : V.ref l ∈ cs.map V.int := by rw [e1]; simp
  obtain ⟨c, _, z⟩ := List.mem_map.mp this
  cases z
theorem Bag.new {H : Hp} {g l p : Addr} {o : HO} (b : Bag H g l) (h : H p = none) : Bag (upd H p o) g l := by
  obtain ⟨x0, x1, x2, cs, h1, h2, r⟩ := b
  exact ⟨x0, x1, x2, cs, by rw [upd_ne (ne_of_none h1 h)]; exact h1, by rw [upd_ne (ne_of_none h2 h)]; exact h2, r⟩
theorem Bag.same {H H' : Hp} {g l : Addr} (b : Bag H g l) (s : Same H H') : Bag H' g l := by
  obtain ⟨x0, x1, x2, cs, h1, h2, r⟩ := b
  exact ⟨x0, x1, x2, cs, s _ _ h1, s _ _ h2, r⟩
theorem Bag.at {H : Hp} {g l : Addr} (b : Bag H g l) : ∃ o, H g = some o := by
  obtain ⟨x0, x1, x2, cs, h1, _⟩ := b
  exact ⟨_, h1⟩
theorem Bag.at2 {H : Hp} {g l : Addr} (b : Bag H g l) : ∃ o, H l = some o := by
  obtain ⟨x0, x1, x2, cs, _, h2, _⟩ := b
  exact ⟨_, h2⟩
/-- what is new is not the bag -/
theorem Bag.ne {H : Hp} {g l b : Addr} (h : Bag H g l) (hb : H b = none) : b ≠ g := by
  obtain ⟨o, e⟩ := h.at
  exact (ne_of_none e hb).symm
theorem Bag.ne2 {H : Hp} {g l b : Addr} (h : Bag H g l) (hb : H b = none) : b ≠ l := by
  obtain ⟨o, e⟩ := h.at2
  exact (ne_of_none e hb).symm
theorem Bag.upd_other {H : Hp} {g l p : Addr} {o : HO} (b : Bag H g l) (hp : p ≠ g) (hl : p ≠ l) : Bag (upd H p o) g l := by
  obtain ⟨x0, x1, x2, cs, h1, h2, r⟩ := b
  exact ⟨x0, x1, x2, cs, by rw [upd_ne hp.symm]; exact h1, by rw [upd_ne hl.symm]; exact h2, r⟩

theorem cut_ints (cs : List Int) (lo hi : Option Int) : ∃ zs : List Int, cutV (cs.map V.int) lo hi = zs.map V.int ∧ (∀ z ∈ zs, z ∈ cs) ∧ zs.length ≤ cs.length := by
  unfold cutV
  rw [← List.map_drop, ← List.map_take]
  refine ⟨_, rfl, fun z hz => ?_, ?_⟩
  · exact List.mem_of_mem_drop (List.mem_of_mem_take hz)
  · rw [List.length_take, List.length_drop]
    omega

/-! ### numbers as states -/
def nV (n : Nat) : V := .int (n : Int)
def spTake : Sp := fun vs H Q _ => ∃ (g l : Addr) (m : Int), vs = [.ref g, .int m] ∧ Bag H g l ∧ 0 < m ∧ m < 1073741824 ∧
  ∀ (H' : Hp) (r : Nat), (r : Int) < m → Bag H' g l → But g H H' → Q (nV r) H'

/-! ### what the built-in names hold -/
theorem bInt : bootBuiltins "int" = some (.type "int") := by decide +kernel
theorem bList : bootBuiltins "list" = some (.type "list") := by decide +kernel
theorem bDict : bootBuiltins "dict" = some (.type "dict") := by decide +kernel
theorem bTuple : bootBuiltins "tuple" = some (.type "tuple") := by decide +kernel
theorem bSet : bootBuiltins "set" = some (.type "set") := by decide +kernel
theorem bLen : bootBuiltins "len" = some (.builtin "len") := by decide +kernel
theorem bAbs : bootBuiltins "abs" = some (.builtin "abs") := by decide +kernel
theorem bRepr : bootBuiltins "repr" = some (.builtin "repr") := by decide +kernel
end Rg

/-! Plain mathematics of machines: ordered lists without doubles, languages, least machines. -/
namespace Mach

/-! ### lists in which each thing stands once, in the order of its first coming -/
section
variable {α β : Type} [DecidableEq α] [DecidableEq β]

def push (L : List α) (s : α) : List α := if s ∈ L then L else L ++ [s]
def pushAll (L X : List α) : List α := X.foldl push L
def D (X : List α) : List α := pushAll [] X

theorem push_mem {L : List α} {s : α} (h : s ∈ L) : push L s = L := if_pos h
theorem push_new {L : List α} {s : α} (h : s ∉ L) : push L s = L ++ [s] := if_neg h
theorem mem_push {L : List α} {s x : α} : x ∈ push L s ↔ x ∈ L ∨ x = s := by
  unfold push
  split
  · constructor
    · exact Or.inl
    · rintro (h | h)
      · exact h
      · rw [h]; assumption
  · simp
theorem pushAll_nil (L : List α) : pushAll L [] = L := rfl
theorem pushAll_cons (L : List α) (x : α) (X : List α) : pushAll L (x :: X) = pushAll (push L x) X := rfl
theorem pushAll_append (L X Y : List α) : pushAll L (X ++ Y) = pushAll (pushAll L X) Y := List.foldl_append
theorem mem_pushAll {L X : List α} {x : α} : x ∈ pushAll L X ↔ x ∈ L ∨ x ∈ X := by
  induction X generalizing L with
  | nil => simp [pushAll_nil]
  | cons y X ih =>
    rw [pushAll_cons, ih, mem_push, List.mem_cons]
    constructor
    · rintro ((h | h) | h)
      · exact .inl h
      · exact .inr (.inl h)
      · exact .inr (.inr h)
    · rintro (h | h | h)
      · exact .inl (.inl h)
      · exact .inl (.inr h)
      · exact .inr h
theorem mem_D {X : List α} {x : α} : x ∈ D X ↔ x ∈ X := by
  unfold D
  rw [mem_pushAll]
  simp
theorem pushAll_of_sub {L X : List α} (h : ∀ x ∈ X, x ∈ L) : pushAll L X = L := by
  induction X generalizing L with
  | nil => rfl
  | cons y X ih =>
    rw [pushAll_cons, push_mem (h y List.mem_cons_self)]
    exact ih fun x hx => h x (List.mem_cons_of_mem _ hx)
theorem push_pre (L : List α) (s : α) : ∃ Z, push L s = L ++ Z := by
  unfold push
  split
  · exact ⟨[], by simp⟩
  · exact ⟨[s], rfl⟩
theorem pushAll_pre (L X : List α) : ∃ Z, pushAll L X = L ++ Z := by
  induction X generalizing L with
  | nil => exact ⟨[], by simp [pushAll_nil]⟩
  | cons y X ih =>
    obtain ⟨Z1, h1⟩ := push_pre L y
    obtain ⟨Z2, h2⟩ := ih (push L y)
    exact ⟨Z1 ++ Z2, by rw [pushAll_cons, h2, h1, List.append_assoc]⟩
theorem push_nodup {L : List α} {s : α} (h : L.Nodup) : (push L s).Nodup := by
  unfold push
  split
  · exact h
  · rename_i hs
    rw [List.nodup_append]
    refine ⟨h, by simp, ?_⟩
    intro a ha b hb
    rw [List.mem_singleton] at hb
    intro e
    exact hs (by rw [← hb, ← e]; exact ha)
theorem pushAll_nodup {L X : List α} (h : L.Nodup) : (pushAll L X).Nodup := by
  induction X generalizing L with
  | nil => exact h
  | cons y X ih => exact ih (push_nodup h)
theorem D_nodup (X : List α) : (D X).Nodup := pushAll_nodup List.nodup_nil
theorem D_cons (x : α) (X : List α) : D (x :: X) = pushAll [x] X := rfl
theorem D_append (X Y : List α) : D (X ++ Y) = pushAll (D X) Y := pushAll_append _ _ _
theorem D_of_nodup {X : List α} (h : X.Nodup) : D X = X := by
  have gen : ∀ (X L : List α), (L ++ X).Nodup → pushAll L X = L ++ X := by
    intro X
    induction X with
    | nil => intro L _; simp [pushAll_nil]
    | cons y X ih =>
      intro L hn
      have hy : y ∉ L := by
        intro hy
        rw [List.nodup_append] at hn
        exact hn.2.2 y hy y List.mem_cons_self rfl
      rw [pushAll_cons, push_new hy, ih (L ++ [y]) (by rw [List.append_assoc]; exact hn), List.append_assoc]
      rfl
  have := gen X [] (by simpa using h)
  simpa [D] using this
theorem pushAll_sup {L M X : List α} : pushAll (pushAll L M) X = pushAll L (M ++ X) := (pushAll_append L M X).symm
/-- pushing what D left -/
theorem pushAll_D (L X : List α) : pushAll L (D X) = pushAll L X := by
  have gen : ∀ (X Y : List α), pushAll L (pushAll Y X) = pushAll (pushAll L Y) X := by
    intro X
    induction X with
    | nil => intro Y; rfl
    | cons x X ih =>
      intro Y
      rw [pushAll_cons, ih, pushAll_cons]
      congr 1
      by_cases hx : x ∈ Y
      · rw [push_mem hx, push_mem (mem_pushAll.mpr (.inr hx))]
      · rw [push_new hx, pushAll_append]
        rfl
  have := gen X []
  simpa [D, pushAll_nil] using this
theorem D_D (X : List α) : D (D X) = D X := D_of_nodup (D_nodup X)
/-- maps -/
theorem push_map_D (f : α → β) (L : List α) (s : α) (B : List β) : pushAll B ((push L s).map f) = pushAll B (L.map f ++ [f s]) := by
  by_cases h : s ∈ L
  · rw [push_mem h, pushAll_append, pushAll_of_sub (X := [f s])]
    intro x hx
    rw [List.mem_singleton] at hx
    rw [hx]
    exact mem_pushAll.mpr (.inr (List.mem_map_of_mem h))
  · rw [push_new h, List.map_append]
    rfl
theorem pushAll_map (f : α → β) (B : List β) (X L : List α) : pushAll B ((pushAll L X).map f) = pushAll B (L.map f ++ X.map f) := by
  induction X generalizing L with
  | nil => simp [pushAll_nil]
  | cons x X ih =>
    rw [pushAll_cons, ih, pushAll_append, push_map_D, ← pushAll_append, List.append_assoc]
    rfl
theorem D_map_D (f : α → β) (X : List α) : D ((D X).map f) = D (X.map f) := by
  have := pushAll_map f [] X []
  simpa [D] using this
theorem map_push_inj {f : α → β} {L : List α} {s : α} (h : ∀ x ∈ L, f x = f s → x = s) : (push L s).map f = push (L.map f) (f s) := by
  by_cases hs : s ∈ L
  · rw [push_mem hs, push_mem (List.mem_map_of_mem hs)]
  · rw [push_new hs, push_new, List.map_append]
    · rfl
    · intro hm
      obtain ⟨x, hx, e⟩ := List.mem_map.mp hm
      exact hs (by rw [← h x hx e]; exact hx)
theorem map_pushAll_inj {f : α → β} (X : List α) : ∀ L : List α, (∀ x ∈ L ++ X, ∀ y ∈ L ++ X, f x = f y → x = y) → (pushAll L X).map f = pushAll (L.map f) (X.map f) := by
  induction X with
  | nil => intro L _; rfl
  | cons s X ih =>
    intro L h
    rw [pushAll_cons, ih (push L s), List.map_cons, pushAll_cons, map_push_inj]
    · intro x hx e
      exact h x (by simp [hx]) s (by simp) e
    · intro x hx y hy e
      refine h x ?_ y ?_ e
      · rcases List.mem_append.mp hx with hx | hx
        · rcases mem_push.mp hx with hx | hx
          · simp [hx]
          · simp [hx]
        · simp [hx]
      · rcases List.mem_append.mp hy with hx | hx
        · rcases mem_push.mp hx with hx | hx
          · simp [hx]
          · simp [hx]
        · simp [hx]
theorem D_map_inj {f : α → β} {X : List α} (h : ∀ x ∈ X, ∀ y ∈ X, f x = f y → x = y) : (D X).map f = D (X.map f) := by
  have := map_pushAll_inj (f := f) X [] (by simpa using h)
  simpa [D] using this
/-- what stands twice in the source of a flatMap adds nothing -/
theorem pushAll_flatMap_D (r : β → List α) (Y : List β) : ∀ (L : List α) (Z : List β), pushAll L ((pushAll Z Y).flatMap r) = pushAll (pushAll L (Z.flatMap r)) (Y.flatMap r) := by
  induction Y with
  | nil => intro L Z; rfl
  | cons y Y ih =>
    intro L Z
    rw [pushAll_cons, ih, List.flatMap_cons, pushAll_append]
    congr 1
    by_cases hy : y ∈ Z
    · rw [push_mem hy]
      refine (pushAll_of_sub ?_).symm
      intro x hx
      exact mem_pushAll.mpr (.inr (List.mem_flatMap.mpr ⟨y, hy, hx⟩))
    · rw [push_new hy, List.flatMap_append, pushAll_append]
      simp
theorem D_flatMap_D (x : α) (r : β → List α) (Y : List β) : D (x :: (D Y).flatMap r) = D (x :: Y.flatMap r) := by
  rw [D_cons, D_cons]
  have := pushAll_flatMap_D r Y [x] []
  simpa [D, pushAll_nil] using this

/-! ### counting -/
theorem length_le_of_sub {L M : List α} (hn : L.Nodup) (h : ∀ x ∈ L, x ∈ M) : L.length ≤ M.length := by
  induction L generalizing M with
  | nil => exact Nat.zero_le _
  | cons a L ih =>
    have ha : a ∈ M := h a List.mem_cons_self
    have h1 := ih (M := M.erase a) (List.nodup_cons.mp hn).2 (by
      intro x hx
      have hne : x ≠ a := by
        intro e
        rw [e] at hx
        exact (List.nodup_cons.mp hn).1 hx
      exact (List.mem_erase_of_ne hne).mpr (h x (List.mem_cons_of_mem _ hx)))
    rw [List.length_erase_of_mem ha] at h1
    have : 0 < M.length := List.length_pos_of_mem ha
    rw [List.length_cons]
    omega
end

theorem nodup_lt_length {L : List Nat} {n : Nat} (hn : L.Nodup) (h : ∀ x ∈ L, x < n) : L.length ≤ n := by
  have := length_le_of_sub (M := List.range n) hn (fun x hx => List.mem_range.mpr (h x hx))
  rwa [List.length_range] at this

/-! ### machines -/
def rowOf (R : List (List Nat)) (q : Nat) : List Nat := R.getD q []
def dl (R : List (List Nat)) (q k : Nat) : Nat := (rowOf R q).getD k 0
def runM (R : List (List Nat)) (q : Nat) (w : List Nat) : Nat := w.foldl (dl R) q
def Wd (n : Nat) (w : List Nat) : Prop := ∀ k ∈ w, k < n
structure Mok (n : Nat) (R : List (List Nat)) : Prop where
  wide : ∀ q, q < R.length → (rowOf R q).length = n
  lt : ∀ q, q < R.length → ∀ x ∈ rowOf R q, x < R.length
def Alk (n : Nat) (R : List (List Nat)) (E : List Nat) (q : Nat) (R' : List (List Nat)) (E' : List Nat) (q' : Nat) : Prop :=
  ∀ w, Wd n w → (runM R q w ∈ E ↔ runM R' q' w ∈ E')

section
variable {n : Nat} {R R' R1 : List (List Nat)} {E E' E1 : List Nat} {q q' q1 : Nat}
theorem Alk.refl (n : Nat) (R : List (List Nat)) (E : List Nat) (q : Nat) : Alk n R E q R E q := fun _ _ => Iff.rfl
theorem Alk.symm (h : Alk n R E q R' E' q') : Alk n R' E' q' R E q := fun w hw => (h w hw).symm
theorem Alk.trans (h : Alk n R E q R' E' q') (h' : Alk n R' E' q' R1 E1 q1) : Alk n R E q R1 E1 q1 := fun w hw => (h w hw).trans (h' w hw)
theorem Alk.step (h : Alk n R E q R' E' q') {k : Nat} (hk : k < n) : Alk n R E (dl R q k) R' E' (dl R' q' k) := fun w hw =>
  h (k :: w) (fun j hj => by
    rcases List.mem_cons.mp hj with e | hj
    · rw [e]; exact hk
    · exact hw j hj)
theorem Alk.nil (h : Alk n R E q R' E' q') : q ∈ E ↔ q' ∈ E' := h [] (fun _ z => by cases z)
theorem dl_mem (hM : Mok n R) (hq : q < R.length) {k : Nat} (hk : k < n) : dl R q k ∈ rowOf R q := by
  have hl : k < (rowOf R q).length := by rw [hM.wide q hq]; exact hk
  unfold dl
  rw [List.getD_eq_getElem?_getD, List.getElem?_eq_getElem hl]
  exact List.getElem_mem hl
theorem dl_lt (hM : Mok n R) (hq : q < R.length) {k : Nat} (hk : k < n) : dl R q k < R.length := hM.lt q hq _ (dl_mem hM hq hk)
theorem runM_nil (R : List (List Nat)) (q : Nat) : runM R q [] = q := rfl
theorem runM_cons (R : List (List Nat)) (q k : Nat) (w : List Nat) : runM R q (k :: w) = runM R (dl R q k) w := rfl
theorem runM_append (R : List (List Nat)) (q : Nat) (v w : List Nat) : runM R q (v ++ w) = runM R (runM R q v) w := List.foldl_append
theorem runM_lt (hM : Mok n R) {w : List Nat} : ∀ {q : Nat}, q < R.length → Wd n w → runM R q w < R.length := by
  induction w with
  | nil => intro q hq _; exact hq
  | cons k w ih =>
    intro q hq hw
    exact ih (dl_lt hM hq (hw k List.mem_cons_self)) (fun j hj => hw j (List.mem_cons_of_mem _ hj))
theorem Alk.run (h : Alk n R E q R' E' q') {w : List Nat} (hw : Wd n w) : Alk n R E (runM R q w) R' E' (runM R' q' w) := by
  intro v hv
  have := h (w ++ v) (fun k hk => by
    rcases List.mem_append.mp hk with z | z
    · exact hw k z
    · exact hv k z)
  rwa [runM_append, runM_append] at this
end

/-- the least machine of its texts -/
structure Least (n : Nat) (R : List (List Nat)) (E : List Nat) : Prop where
  ok : Mok n R
  ne : 0 < R.length
  grow : D (0 :: R.flatten) = List.range R.length
  acc : ∀ q, q < R.length → ∃ w, Wd n w ∧ runM R 0 w = q
  red : ∀ p q, p < R.length → q < R.length → Alk n R E p R E q → p = q
  ends : E = (List.range R.length).filter (fun q => decide (q ∈ E))

theorem flatMap_range_rows (R : List (List Nat)) : (List.range R.length).flatMap (rowOf R) = R.flatten := by
  rw [List.flatMap_def]
  congr 1
  apply List.ext_getElem?
  intro i
  rw [List.getElem?_map]
  by_cases h : i < R.length
  · rw [List.getElem?_range h, List.getElem?_eq_getElem h]
    simp [rowOf, List.getD_eq_getElem?_getD, h]
  · have h' : R.length ≤ i := by omega
    rw [List.getElem?_eq_none_iff.mpr (by simpa using h'), List.getElem?_eq_none_iff.mpr h']
    rfl

theorem flatMap_congr {α β : Type} {f g : α → List β} : ∀ (L : List α), (∀ x ∈ L, f x = g x) → L.flatMap f = L.flatMap g
  | [], _ => rfl
  | a :: L, h => by
    rw [List.flatMap_cons, List.flatMap_cons, h a List.mem_cons_self, flatMap_congr L fun x hx => h x (List.mem_cons_of_mem _ hx)]

theorem range_pre {m n : Nat} {Z : List Nat} {L : List Nat} (h : List.range n = L ++ Z) (hl : L.length = m) : L = List.range m := by
  have h1 : L = (List.range n).take m := by
    rw [h, ← hl]
    simp
  have h2 : m ≤ n := by
    have := congrArg List.length h
    rw [List.length_range, List.length_append] at this
    omega
  rw [h1, List.take_range, Nat.min_eq_left h2]

/-- both least, of the same texts: the one is not longer, state by state the same -/
theorem least_half {n : Nat} {R R' : List (List Nat)} {E E' : List Nat} (h : Least n R E) (h' : Least n R' E') (al : Alk n R E 0 R' E' 0) :
    R.length ≤ R'.length ∧ ∀ q, q < R.length → Alk n R E q R' E' q := by
  have hex : ∀ q, ∃ c, q < R.length → c < R'.length ∧ Alk n R E q R' E' c := by
    intro q
    by_cases hq : q < R.length
    · obtain ⟨w, hw, e⟩ := h.acc q hq
      refine ⟨runM R' 0 w, fun _ => ⟨runM_lt h'.ok h'.ne hw, ?_⟩⟩
      have := al.run hw
      rwa [e] at this
    · exact ⟨0, fun z => absurd z hq⟩
  let c : Nat → Nat := fun q => Classical.choose (hex q)
  have hc : ∀ q, q < R.length → c q < R'.length ∧ Alk n R E q R' E' (c q) := fun q => Classical.choose_spec (hex q)
  have uniq : ∀ p p', p < R'.length → p' < R'.length → ∀ q, Alk n R E q R' E' p → Alk n R E q R' E' p' → p = p' := fun p p' hp hp' q a b => h'.red p p' hp hp' (a.symm.trans b)
  have c0 : c 0 = 0 := uniq _ _ (hc 0 h.ne).1 h'.ne 0 (hc 0 h.ne).2 al
  have cinj : ∀ p q, p < R.length → q < R.length → c p = c q → p = q := by
    intro p q hp hq e
    have a := (hc p hp).2
    rw [e] at a
    exact h.red p q hp hq (a.trans (hc q hq).2.symm)
  have crow : ∀ q, q < R.length → rowOf R' (c q) = (rowOf R q).map c := by
    intro q hq
    have hl := h.ok.wide q hq
    have hl' := h'.ok.wide (c q) (hc q hq).1
    apply List.ext_getElem
    · rw [hl', List.length_map, hl]
    · intro k h1 h2
      have hk : k < n := by rw [← hl']; exact h1
      have hk2 : k < (rowOf R q).length := by rw [hl]; exact hk
      have e1 : (rowOf R' (c q))[k] = dl R' (c q) k := by
        unfold dl
        rw [List.getD_eq_getElem?_getD, List.getElem?_eq_getElem h1]
        rfl
      have e2 : (rowOf R q)[k] = dl R q k := by
        unfold dl
        rw [List.getD_eq_getElem?_getD, List.getElem?_eq_getElem hk2]
        rfl
      rw [List.getElem_map, e1, e2]
      have hd := dl_lt h.ok hq hk
      exact uniq _ _ (dl_lt h'.ok (hc q hq).1 hk) (hc _ hd).1 (dl R q k) ((hc q hq).2.step hk) (hc _ hd).2
  have main : ∀ j, j ≤ R.length → ∀ i, i < j → c i = i := by
    intro j
    induction j with
    | zero => intro _ i hi; omega
    | succ j ih =>
      intro hj i hi
      by_cases hij : i < j
      · exact ih (by omega) i hij
      · have ei : i = j := by omega
        subst ei
        have fix := ih (by omega)
        by_cases hi0 : i = 0
        · rw [hi0]; exact c0
        · -- the stream of the rows ahead of i
          have hsub : ∀ x ∈ 0 :: (List.range i).flatMap (rowOf R), x < R.length := by
            intro x hx
            rcases List.mem_cons.mp hx with e | hx
            · rw [e]; exact h.ne
            · obtain ⟨q, hq, hx⟩ := List.mem_flatMap.mp hx
              exact h.ok.lt q (by have := List.mem_range.mp hq; omega) x hx
          have eS : (0 :: (List.range i).flatMap (rowOf R)).map c = 0 :: (List.range i).flatMap (rowOf R') := by
            rw [List.map_cons, c0, List.map_flatMap]
            congr 1
            apply flatMap_congr
            intro q hq
            have hq' := List.mem_range.mp hq
            rw [← crow q (by omega), fix q hq']
          have pre : ∀ (S : List (List Nat)), i ≤ S.length → D (0 :: S.flatten) = List.range S.length → ∃ m, D (0 :: (List.range i).flatMap (rowOf S)) = List.range m := by
            intro S hS hg
            have e1 : List.range S.length = List.range i ++ (List.range (S.length - i)).map (i + ·) := by
              rw [← List.range_add]
              congr 1
              omega
            rw [← flatMap_range_rows S, e1, List.flatMap_append, ← List.cons_append, D_append] at hg
            obtain ⟨Z, hZ⟩ := pushAll_pre (D (0 :: (List.range i).flatMap (rowOf S))) (((List.range (S.length - i)).map (i + ·)).flatMap (rowOf S))
            rw [hZ, ← e1] at hg
            exact ⟨_, range_pre hg.symm rfl⟩
          have hiR' : i ≤ R'.length := by
            have : ∀ x ∈ List.range i, x ∈ List.range R'.length := by
              intro x hx
              have hx' := List.mem_range.mp hx
              have := (hc x (by omega)).1
              rw [fix x hx'] at this
              exact List.mem_range.mpr this
            have := length_le_of_sub (List.nodup_range) this
            rwa [List.length_range, List.length_range] at this
          obtain ⟨m, hm⟩ := pre R (by omega) h.grow
          obtain ⟨m', hm'⟩ := pre R' hiR' h'.grow
          -- i is among the states that the rows ahead lead to
          have him : i < m := by
            refine Nat.lt_of_not_le fun hmi => ?_
            have closed : ∀ w, Wd n w → runM R 0 w < i := by
              have gen : ∀ w : List Nat, Wd n w → ∀ q, q < i → runM R q w < i := by
                intro w
                induction w with
                | nil => intro _ q hq; exact hq
                | cons k w ihw =>
                  intro hw q hq
                  refine ihw (fun j hj => hw j (List.mem_cons_of_mem _ hj)) _ ?_
                  have hmem : dl R q k ∈ D (0 :: (List.range i).flatMap (rowOf R)) := mem_D.mpr (List.mem_cons_of_mem _ (List.mem_flatMap.mpr ⟨q, List.mem_range.mpr hq, dl_mem h.ok (by omega) (hw k List.mem_cons_self)⟩))
                  rw [hm] at hmem
                  have := List.mem_range.mp hmem
                  omega
              intro w hw
              exact gen w hw 0 (by omega)
            obtain ⟨w, hw, e⟩ := h.acc i (by omega)
            have := closed w hw
            omega
          have emap : (List.range m).map c = List.range m' := by
            rw [← hm, ← hm', D_map_inj, eS]
            intro x hx y hy e
            exact cinj x y (hsub x hx) (hsub y hy) e
          have hl : m = m' := by
            have := congrArg List.length emap
            simpa using this
          have := congrArg (fun L => L[i]?) emap
          simp only [List.getElem?_map] at this
          rw [List.getElem?_range him, List.getElem?_range (by omega)] at this
          simpa using this
  have fixed : ∀ q, q < R.length → c q = q := fun q hq => main R.length (Nat.le_refl _) q hq
  refine ⟨?_, fun q hq => ?_⟩
  · have : ∀ x ∈ List.range R.length, x ∈ List.range R'.length := by
      intro x hx
      have hx' := List.mem_range.mp hx
      have := (hc x hx').1
      rw [fixed x hx'] at this
      exact List.mem_range.mpr this
    have := length_le_of_sub (List.nodup_range) this
    rwa [List.length_range, List.length_range] at this
  · have := (hc q hq).2
    rwa [fixed q hq] at this

theorem least_unique {n : Nat} {R R' : List (List Nat)} {E E' : List Nat} (h : Least n R E) (h' : Least n R' E') (al : Alk n R E 0 R' E' 0) : R = R' ∧ E = E' := by
  obtain ⟨l1, a1⟩ := least_half h h' al
  obtain ⟨l2, a2⟩ := least_half h' h al.symm
  have hl : R.length = R'.length := Nat.le_antisymm l1 l2
  constructor
  · apply List.ext_getElem hl
    intro q h1 h2
    have r1 : R[q] = rowOf R q := by
      unfold rowOf
      rw [List.getD_eq_getElem?_getD, List.getElem?_eq_getElem h1]
      rfl
    have r2 : R'[q] = rowOf R' q := by
      unfold rowOf
      rw [List.getD_eq_getElem?_getD, List.getElem?_eq_getElem h2]
      rfl
    rw [r1, r2]
    have w1 := h.ok.wide q h1
    have w2 := h'.ok.wide q h2
    apply List.ext_getElem (w1.trans w2.symm)
    intro k k1 k2
    have hk : k < n := by rw [← w1]; exact k1
    have e1 : (rowOf R q)[k] = dl R q k := by
      unfold dl
      rw [List.getD_eq_getElem?_getD, List.getElem?_eq_getElem k1]
      rfl
    have e2 : (rowOf R' q)[k] = dl R' q k := by
      unfold dl
      rw [List.getD_eq_getElem?_getD, List.getElem?_eq_getElem k2]
      rfl
    rw [e1, e2]
    have b1 := dl_lt h.ok h1 hk
    have b2 := dl_lt h'.ok h2 hk
    have s1 := (a1 q h1).step hk
    have s2 := a1 (dl R q k) b1
    exact h'.red _ _ (by omega) b2 (s2.symm.trans s1)
  · rw [h.ends, h'.ends, hl]
    apply List.filter_congr
    intro q hq
    have hq' := List.mem_range.mp hq
    have := (a1 q (by omega)).nil
    simp [this]
end Mach

namespace Mach

/-! ### states in the order in which texts first lead to them -/
structure BfsAt (n : Nat) (R : List (List Nat)) (b : Nat) (L : List Nat) (i : Nat) : Prop where
  eq : L = D (b :: (L.take i).flatMap (rowOf R))
  lt : ∀ s ∈ L, s < R.length
  reach : ∀ s ∈ L, ∃ w, Wd n w ∧ runM R b w = s
  le : i ≤ L.length
structure Bfs (n : Nat) (R : List (List Nat)) (b : Nat) (L : List Nat) : Prop where
  eq : L = D (b :: L.flatMap (rowOf R))
  lt : ∀ s ∈ L, s < R.length
  reach : ∀ s ∈ L, ∃ w, Wd n w ∧ runM R b w = s

section
variable {n : Nat} {R : List (List Nat)} {b : Nat} {L : List Nat} {i : Nat}
theorem bfs_start (hb : b < R.length) : BfsAt n R b [b] 0 := by
  refine ⟨rfl, fun s hs => ?_, fun s hs => ?_, Nat.zero_le _⟩
  · rw [List.mem_singleton.mp hs]; exact hb
  · rw [List.mem_singleton.mp hs]; exact ⟨[], (fun _ z => nomatch z), rfl⟩
theorem BfsAt.nodup (h : BfsAt n R b L i) : L.Nodup := by
  rw [h.eq]
  exact D_nodup _
theorem BfsAt.len (h : BfsAt n R b L i) : L.length ≤ R.length := nodup_lt_length h.nodup h.lt
theorem mem_row_dl {q x : Nat} (hM : Mok n R) (hq : q < R.length) (hx : x ∈ rowOf R q) : ∃ k, k < n ∧ dl R q k = x := by
  obtain ⟨k, hk, e⟩ := List.mem_iff_getElem.mp hx
  refine ⟨k, by rw [← hM.wide q hq]; exact hk, ?_⟩
  unfold dl
  rw [List.getD_eq_getElem?_getD, List.getElem?_eq_getElem hk, ← e]
  rfl
theorem bfs_step (hM : Mok n R) (h : BfsAt n R b L i) {s : Nat} (hs : L[i]? = some s) : BfsAt n R b (pushAll L (rowOf R s)) (i + 1) := by
  have hi : i < L.length := (List.getElem?_eq_some_iff.mp hs).1
  have hsm : s ∈ L := List.mem_of_getElem? hs
  obtain ⟨Z, hZ⟩ := pushAll_pre L (rowOf R s)
  refine ⟨?_, ?_, ?_, ?_⟩
  · have ht : (pushAll L (rowOf R s)).take (i + 1) = L.take i ++ [s] := by
      rw [hZ, List.take_append_of_le_length (by omega), List.take_add_one, hs]
      rfl
    rw [ht, List.flatMap_append, ← List.cons_append, D_append, ← h.eq]
    simp
  · intro x hx
    rcases mem_pushAll.mp hx with z | z
    · exact h.lt x z
    · exact hM.lt s (h.lt s hsm) x z
  · intro x hx
    rcases mem_pushAll.mp hx with z | z
    · exact h.reach x z
    · obtain ⟨w, hw, e⟩ := h.reach s hsm
      obtain ⟨k, hk, ek⟩ := mem_row_dl hM (h.lt s hsm) z
      refine ⟨w ++ [k], fun j hj => ?_, ?_⟩
      · rcases List.mem_append.mp hj with q | q
        · exact hw j q
        · rw [List.mem_singleton.mp q]; exact hk
      · rw [runM_append, e]
        exact ek
  · rw [hZ, List.length_append]
    omega
theorem bfs_end (h : BfsAt n R b L i) (hi : L.length ≤ i) : Bfs n R b L := by
  refine ⟨?_, h.lt, h.reach⟩
  have := h.eq
  rwa [List.take_of_length_le hi] at this
theorem Bfs.nodup (h : Bfs n R b L) : L.Nodup := by
  rw [h.eq]
  exact D_nodup _
theorem Bfs.len (h : Bfs n R b L) : L.length ≤ R.length := nodup_lt_length h.nodup h.lt
theorem Bfs.begin_mem (h : Bfs n R b L) : b ∈ L := by
  rw [h.eq]
  exact mem_D.mpr List.mem_cons_self
theorem Bfs.closed (h : Bfs n R b L) {s x : Nat} (hs : s ∈ L) (hx : x ∈ rowOf R s) : x ∈ L := by
  rw [h.eq]
  exact mem_D.mpr (List.mem_cons_of_mem _ (List.mem_flatMap.mpr ⟨s, hs, hx⟩))
theorem Bfs.step (hM : Mok n R) (h : Bfs n R b L) {s k : Nat} (hs : s ∈ L) (hk : k < n) : dl R s k ∈ L := h.closed hs (dl_mem hM (h.lt s hs) hk)
theorem Bfs.run (hM : Mok n R) (h : Bfs n R b L) : ∀ {w : List Nat} {s : Nat}, s ∈ L → Wd n w → runM R s w ∈ L := by
  intro w
  induction w with
  | nil => intro s hs _; exact hs
  | cons k w ih =>
    intro s hs hw
    exact ih (h.step hM hs (hw k List.mem_cons_self)) (fun j hj => hw j (List.mem_cons_of_mem _ hj))
theorem Bfs.head (h : Bfs n R b L) : ∃ Z, L = b :: Z := by
  obtain ⟨Z, hZ⟩ := pushAll_pre [b] (L.flatMap (rowOf R))
  refine ⟨Z, ?_⟩
  have := h.eq
  rw [D_cons, hZ] at this
  exact this
end

/-! ### the machine of the classes -/
theorem range_head {m : Nat} {x : Nat} {Z : List Nat} (h : List.range m = x :: Z) : x = 0 ∧ 0 < m := by
  cases m with
  | zero => simp at h
  | succ m =>
    rw [List.range_succ_eq_map] at h
    exact ⟨(List.cons.inj h).1.symm, Nat.succ_pos _⟩

theorem quot_least {n : Nat} {R : List (List Nat)} {E : List Nat} {b : Nat} {L F : List Nat} {num : Nat → Nat} (hM : Mok n R) (hB : Bfs n R b L)
    (hal : ∀ s ∈ L, ∀ t ∈ L, num s = num t ↔ Alk n R E s R E t) (hF : ∀ s ∈ F, s ∈ L) (hFn : F.map num = List.range F.length)
    (hD : D (L.map num) = List.range F.length) :
    Least n (F.map fun s => (rowOf R s).map num) ((F.filter (fun s => decide (s ∈ E))).map num) ∧
    Alk n (F.map fun s => (rowOf R s).map num) ((F.filter (fun s => decide (s ∈ E))).map num) 0 R E b := by
  have hlen : (F.map fun s => (rowOf R s).map num).length = F.length := List.length_map _
  have numF : ∀ i (hi : i < F.length), num F[i] = i := by
    intro i hi
    have := congrArg (fun l => l[i]?) hFn
    simp only [List.getElem?_map] at this
    rw [List.getElem?_eq_getElem hi, List.getElem?_range hi] at this
    simpa using this
  have numlt : ∀ s ∈ L, num s < F.length := by
    intro s hs
    have : num s ∈ D (L.map num) := mem_D.mpr (List.mem_map_of_mem hs)
    rw [hD] at this
    exact List.mem_range.mp this
  obtain ⟨Zb, hZb⟩ := hB.head
  have hb0 : num b = 0 ∧ 0 < F.length := by
    obtain ⟨Z, hZ⟩ := pushAll_pre [num b] (Zb.map num)
    have h1 : D (L.map num) = num b :: Z := by
      rw [hZb, List.map_cons, D_cons, hZ]
      rfl
    rw [hD] at h1
    exact range_head h1
  have rowF : ∀ i (hi : i < F.length), rowOf (F.map fun s => (rowOf R s).map num) i = (rowOf R F[i]).map num := by
    intro i hi
    unfold rowOf
    rw [List.getD_eq_getElem?_getD, List.getElem?_map, List.getElem?_eq_getElem hi]
    rfl
  have FL : ∀ i (hi : i < F.length), F[i] ∈ L := fun i hi => hF _ (List.getElem_mem hi)
  have alF : ∀ s (hs : s ∈ L), Alk n R E s R E (F[num s]'(numlt s hs)) := by
    intro s hs
    exact (hal s hs _ (FL _ (numlt s hs))).mp (numF _ (numlt s hs)).symm
  have rowS : ∀ s ∈ L, rowOf (F.map fun s => (rowOf R s).map num) (num s) = (rowOf R s).map num := by
    intro s hs
    rw [rowF _ (numlt s hs)]
    have w1 := hM.wide s (hB.lt s hs)
    have w2 := hM.wide _ (hB.lt _ (FL _ (numlt s hs)))
    apply List.ext_getElem
    · rw [List.length_map, List.length_map, w1, w2]
    · intro k h1 h2
      rw [List.length_map] at h1 h2
      have hk : k < n := by omega
      rw [List.getElem_map, List.getElem_map]
      have e1 : (rowOf R s)[k] = dl R s k := by
        unfold dl
        rw [List.getD_eq_getElem?_getD, List.getElem?_eq_getElem h2]
        rfl
      have e2 : (rowOf R (F[num s]'(numlt s hs)))[k] = dl R (F[num s]'(numlt s hs)) k := by
        unfold dl
        rw [List.getD_eq_getElem?_getD, List.getElem?_eq_getElem h1]
        rfl
      rw [e1, e2]
      exact (hal _ (hB.step hM (FL _ (numlt s hs)) hk) _ (hB.step hM hs hk)).mpr ((alF s hs).step hk).symm
  have dlS : ∀ s ∈ L, ∀ k, k < n → dl (F.map fun s => (rowOf R s).map num) (num s) k = num (dl R s k) := by
    intro s hs k hk
    have hl : k < (rowOf R s).length := by rw [hM.wide s (hB.lt s hs)]; exact hk
    unfold dl
    rw [rowS s hs, List.getD_eq_getElem?_getD, List.getD_eq_getElem?_getD, List.getElem?_map, List.getElem?_eq_getElem hl]
    rfl
  have runS : ∀ w, Wd n w → ∀ s ∈ L, runM (F.map fun s => (rowOf R s).map num) (num s) w = num (runM R s w) := by
    intro w
    induction w with
    | nil => intro _ s _; rfl
    | cons k w ih =>
      intro hw s hs
      have hk := hw k List.mem_cons_self
      rw [runM_cons, runM_cons, dlS s hs k hk]
      exact ih (fun j hj => hw j (List.mem_cons_of_mem _ hj)) _ (hB.step hM hs hk)
  have endS : ∀ s ∈ L, num s ∈ (F.filter (fun s => decide (s ∈ E))).map num ↔ s ∈ E := by
    intro s hs
    constructor
    · intro h
      obtain ⟨t, ht, e⟩ := List.mem_map.mp h
      obtain ⟨h1, h2⟩ := List.mem_filter.mp ht
      exact ((hal t (hF t h1) s hs).mp e).nil.mp (of_decide_eq_true h2)
    · intro h
      refine List.mem_map.mpr ⟨F[num s]'(numlt s hs), List.mem_filter.mpr ⟨List.getElem_mem _, decide_eq_true ((alF s hs).nil.mp h)⟩, numF _ _⟩
  have alS : ∀ s ∈ L, Alk n (F.map fun s => (rowOf R s).map num) ((F.filter (fun s => decide (s ∈ E))).map num) (num s) R E s := by
    intro s hs w hw
    rw [runS w hw s hs]
    exact endS _ (hB.run hM hs hw)
  have al0 := alS b hB.begin_mem
  rw [hb0.1] at al0
  refine ⟨⟨⟨?_, ?_⟩, ?_, ?_, ?_, ?_, ?_⟩, al0⟩
  · intro q hq
    rw [hlen] at hq
    rw [rowF q hq, List.length_map]
    exact hM.wide _ (hB.lt _ (FL q hq))
  · intro q hq x hx
    rw [hlen] at hq ⊢
    rw [rowF q hq] at hx
    obtain ⟨y, hy, e⟩ := List.mem_map.mp hx
    rw [← e]
    exact numlt y (hB.closed (FL q hq) hy)
  · rw [hlen]; exact hb0.2
  · rw [← flatMap_range_rows, hlen, ← hD, D_flatMap_D, List.flatMap_map]
    have e1 : L.flatMap (fun s => rowOf (F.map fun s => (rowOf R s).map num) (num s)) = (L.flatMap (rowOf R)).map num := by
      rw [List.map_flatMap]
      exact flatMap_congr L fun s hs => rowS s hs
    rw [e1]
    have e2 : 0 :: (L.flatMap (rowOf R)).map num = (b :: L.flatMap (rowOf R)).map num := by
      rw [List.map_cons, hb0.1]
    rw [e2, ← D_map_D, ← hB.eq]
  · intro q hq
    rw [hlen] at hq
    obtain ⟨w, hw, e⟩ := hB.reach _ (FL q hq)
    refine ⟨w, hw, ?_⟩
    have := runS w hw b hB.begin_mem
    rw [hb0.1, e, numF q hq] at this
    exact this
  · intro p q hp hq a
    rw [hlen] at hp hq
    have a1 := alS _ (FL p hp)
    have a2 := alS _ (FL q hq)
    rw [numF p hp] at a1
    rw [numF q hq] at a2
    have := (hal _ (FL p hp) _ (FL q hq)).mpr (a1.symm.trans (a.trans a2))
    rwa [numF p hp, numF q hq] at this
  · rw [hlen, ← hFn, List.filter_map]
    congr 1
    apply List.filter_congr
    intro s hs
    have := endS s (hF s hs)
    simp only [Function.comp]
    rw [decide_eq_decide]
    exact this.symm

/-! ### classes: Moore's way -/
section
variable {α : Type} [BEq α] [LawfulBEq α]
theorem idxOf_inj {X : List α} {x y : α} (hx : x ∈ X) (h : X.idxOf x = X.idxOf y) : x = y := by
  have h1 : X.idxOf x < X.length := List.idxOf_lt_length_iff.mpr hx
  have h2 : X.idxOf y < X.length := by rw [← h]; exact h1
  have e1 : X[X.idxOf x] = x := List.getElem_idxOf h1
  have e2 : X[X.idxOf y] = y := List.getElem_idxOf h2
  have : X[X.idxOf x] = X[X.idxOf y] := by
    congr 1
  rw [e1, e2] at this
  exact this
theorem map_idxOf_self {X : List α} (h : X.Nodup) : X.map (fun x => X.idxOf x) = List.range X.length := by
  apply List.ext_getElem
  · simp
  · intro i h1 h2
    rw [List.getElem_map, List.getElem_range]
    rw [List.length_map] at h1
    exact List.Nodup.idxOf_getElem h i h1
end
def hm (L : List Nat) (c : Nat → Nat) : Nat := (D (L.map c)).length
theorem hm_le (L : List Nat) (c : Nat → Nat) : hm L c ≤ L.length := by
  unfold hm
  have := length_le_of_sub (D_nodup (L.map c)) (fun x hx => mem_D.mp hx)
  rwa [List.length_map] at this
theorem same_part {L : List Nat} {f g : Nat → Nat} (h : ∀ s ∈ L, ∀ t ∈ L, g s = g t → f s = f t) (hc : hm L g ≤ hm L f) : ∀ s ∈ L, ∀ t ∈ L, f s = f t → g s = g t := by
  intro s hs t ht e
  refine Classical.byContradiction fun hne => ?_
  let pre : Nat → Nat := fun v => (L.find? (fun u => decide (g u = v))).getD 0
  have hpre : ∀ u ∈ L, pre (g u) ∈ L ∧ g (pre (g u)) = g u := by
    intro u hu
    cases hf : L.find? (fun x => decide (g x = g u)) with
    | none =>
      have := List.find?_eq_none.mp hf u hu
      simp at this
    | some v =>
      have h1 := List.mem_of_find?_eq_some hf
      have h2 := List.find?_some hf
      have ev : pre (g u) = v := by
        show (L.find? (fun x => decide (g x = g u))).getD 0 = v
        rw [hf]
        rfl
      rw [ev]
      exact ⟨h1, of_decide_eq_true h2⟩
  have hsub : ∀ x ∈ D (L.map f), x ∈ ((D (L.map g)).erase (g t)).map (fun v => f (pre v)) := by
    intro x hx
    obtain ⟨u, hu, ex⟩ := List.mem_map.mp (mem_D.mp hx)
    have key : ∀ u ∈ L, g u ≠ g t → f u ∈ ((D (L.map g)).erase (g t)).map (fun v => f (pre v)) := by
      intro u hu hn
      refine List.mem_map.mpr ⟨g u, (List.mem_erase_of_ne hn).mpr (mem_D.mpr (List.mem_map_of_mem hu)), ?_⟩
      exact h _ (hpre u hu).1 u hu (hpre u hu).2
    by_cases hn : g u = g t
    · rw [← ex, h u hu t ht hn, ← e]
      exact key s hs hne
    · rw [← ex]
      exact key u hu hn
  have hlen := length_le_of_sub (D_nodup (L.map f)) hsub
  have hgt : g t ∈ D (L.map g) := mem_D.mpr (List.mem_map_of_mem ht)
  rw [List.length_map, List.length_erase_of_mem hgt] at hlen
  have : 0 < (D (L.map g)).length := List.length_pos_of_mem hgt
  unfold hm at hc
  omega

def sgn (R : List (List Nat)) (c : Nat → Nat) (s : Nat) : Nat × List Nat := (c s, (rowOf R s).map c)
def parted (R : List (List Nat)) (L : List Nat) (c : Nat → Nat) (s : Nat) : Nat := (D (L.map (sgn R c))).idxOf (sgn R c s)
theorem parted_iff {R : List (List Nat)} {L : List Nat} {c : Nat → Nat} {s t : Nat} (hs : s ∈ L) : parted R L c s = parted R L c t ↔ sgn R c s = sgn R c t := by
  constructor
  · intro e
    exact idxOf_inj (X := D (L.map (sgn R c))) (mem_D.mpr (List.mem_map_of_mem hs)) e
  · intro e
    unfold parted
    rw [e]
structure MooreAt (n : Nat) (R : List (List Nat)) (E L : List Nat) (c : Nat → Nat) : Prop where
  weak : ∀ s ∈ L, ∀ t ∈ L, Alk n R E s R E t → c s = c t
  ends : ∀ s ∈ L, ∀ t ∈ L, c s = c t → (s ∈ E ↔ t ∈ E)
theorem moore_start {n : Nat} {R : List (List Nat)} {E L : List Nat} : MooreAt n R E L (fun s => if s ∈ E then 1 else 0) := by
  constructor
  · intro s _ t _ a
    have := a.nil
    by_cases h : s ∈ E
    · simp [h, this.mp h]
    · have h' : t ∉ E := fun z => h (this.mpr z)
      simp [h, h']
  · intro s _ t _ e
    by_cases h : s ∈ E
    · by_cases h' : t ∈ E
      · simp [h, h']
      · simp [h, h'] at e
    · by_cases h' : t ∈ E
      · simp [h, h'] at e
      · simp [h, h']
section
variable {n : Nat} {R : List (List Nat)} {E L : List Nat} {b : Nat} {c : Nat → Nat}
theorem sgn_alk (hM : Mok n R) (hB : Bfs n R b L) (h : MooreAt n R E L c) {s t : Nat} (hs : s ∈ L) (ht : t ∈ L) (a : Alk n R E s R E t) : sgn R c s = sgn R c t := by
  unfold sgn
  rw [h.weak s hs t ht a]
  congr 1
  have w1 := hM.wide s (hB.lt s hs)
  have w2 := hM.wide t (hB.lt t ht)
  apply List.ext_getElem
  · rw [List.length_map, List.length_map, w1, w2]
  · intro k h1 h2
    rw [List.length_map] at h1 h2
    have hk : k < n := by omega
    have e1 : (rowOf R s)[k] = dl R s k := by
      unfold dl
      rw [List.getD_eq_getElem?_getD, List.getElem?_eq_getElem h1]
      rfl
    have e2 : (rowOf R t)[k] = dl R t k := by
      unfold dl
      rw [List.getD_eq_getElem?_getD, List.getElem?_eq_getElem h2]
      rfl
    rw [List.getElem_map, List.getElem_map, e1, e2]
    exact h.weak _ (hB.step hM hs hk) _ (hB.step hM ht hk) (a.step hk)
theorem moore_step (hM : Mok n R) (hB : Bfs n R b L) (h : MooreAt n R E L c) : MooreAt n R E L (parted R L c) := by
  constructor
  · intro s hs t ht a
    exact (parted_iff hs).mpr (sgn_alk hM hB h hs ht a)
  · intro s hs t ht e
    exact h.ends s hs t ht (congrArg Prod.fst ((parted_iff hs).mp e))
theorem moore_end (hM : Mok n R) (hB : Bfs n R b L) (h : MooreAt n R E L c) (hc : hm L (parted R L c) ≤ hm L c) : ∀ s ∈ L, ∀ t ∈ L, parted R L c s = parted R L c t ↔ Alk n R E s R E t := by
  have sp := same_part (f := c) (g := parted R L c) (fun s hs t ht e => congrArg Prod.fst ((parted_iff hs).mp e)) hc
  have stable : ∀ s ∈ L, ∀ t ∈ L, c s = c t → ∀ k, k < n → c (dl R s k) = c (dl R t k) := by
    intro s hs t ht e k hk
    have e1 := congrArg Prod.snd ((parted_iff hs).mp (sp s hs t ht e))
    have e2 := congrArg (fun l => l[k]?) e1
    simp only [sgn, List.getElem?_map] at e2
    have l1 : k < (rowOf R s).length := by rw [hM.wide s (hB.lt s hs)]; exact hk
    have l2 : k < (rowOf R t).length := by rw [hM.wide t (hB.lt t ht)]; exact hk
    rw [List.getElem?_eq_getElem l1, List.getElem?_eq_getElem l2] at e2
    have d1 : dl R s k = (rowOf R s)[k] := by
      unfold dl
      rw [List.getD_eq_getElem?_getD, List.getElem?_eq_getElem l1]
      rfl
    have d2 : dl R t k = (rowOf R t)[k] := by
      unfold dl
      rw [List.getD_eq_getElem?_getD, List.getElem?_eq_getElem l2]
      rfl
    rw [d1, d2]
    simpa using e2
  intro s hs t ht
  constructor
  · intro e
    have e0 : c s = c t := congrArg Prod.fst ((parted_iff hs).mp e)
    have gen : ∀ w, Wd n w → ∀ s ∈ L, ∀ t ∈ L, c s = c t → (runM R s w ∈ E ↔ runM R t w ∈ E) := by
      intro w
      induction w with
      | nil => intro _ s hs t ht e; exact h.ends s hs t ht e
      | cons k w ih =>
        intro hw s hs t ht e
        have hk := hw k List.mem_cons_self
        exact ih (fun j hj => hw j (List.mem_cons_of_mem _ hj)) _ (hB.step hM hs hk) _ (hB.step hM ht hk) (stable s hs t ht e k hk)
    exact fun w hw => gen w hw s hs t ht e0
  · intro a
    exact (parted_iff hs).mpr (sgn_alk hM hB h hs ht a)
/-! ### classes: pairs that are told apart -/
theorem table_done (hM : Mok n R) (hB : Bfs n R b L) {A : Nat → Nat → Prop} (h1 : ∀ p ∈ L, ∀ q ∈ L, A p q → ¬ Alk n R E p R E q)
    (h2 : ∀ p ∈ L, ∀ q ∈ L, ¬ (p ∈ E ↔ q ∈ E) → A p q) (h3 : ∀ p ∈ L, ∀ q ∈ L, ¬ A p q → ∀ k, k < n → ¬ A (dl R p k) (dl R q k)) :
    ∀ p ∈ L, ∀ q ∈ L, ¬ A p q ↔ Alk n R E p R E q := by
  intro p hp q hq
  constructor
  · intro na
    have gen : ∀ w, Wd n w → ∀ p ∈ L, ∀ q ∈ L, ¬ A p q → (runM R p w ∈ E ↔ runM R q w ∈ E) := by
      intro w
      induction w with
      | nil =>
        intro _ p hp q hq na
        exact Classical.byContradiction fun z => na (h2 p hp q hq z)
      | cons k w ih =>
        intro hw p hp q hq na
        have hk := hw k List.mem_cons_self
        exact ih (fun j hj => hw j (List.mem_cons_of_mem _ hj)) _ (hB.step hM hp hk) _ (hB.step hM hq hk) (h3 p hp q hq na k hk)
    exact fun w hw => gen w hw p hp q hq na
  · intro a na
    exact h1 p hp q hq na a
theorem apart_step (hM : Mok n R) (hB : Bfs n R b L) {p q k : Nat} (hp : p ∈ L) (hq : q ∈ L) (hk : k < n) (h : ¬ Alk n R E (dl R p k) R E (dl R q k)) : ¬ Alk n R E p R E q := fun a => h (a.step hk)
end

/-! ### numbers by classes: the program's way -/
def fsts (c : Nat → Nat) (L : List Nat) : List (Nat × Nat) := L.foldl (fun a s => if c s ∈ a.map Prod.fst then a else a ++ [(c s, s)]) []
theorem fsts_snoc (c : Nat → Nat) (L : List Nat) (s : Nat) : fsts c (L ++ [s]) = if c s ∈ (fsts c L).map Prod.fst then fsts c L else fsts c L ++ [(c s, s)] := by
  unfold fsts
  rw [List.foldl_append]
  rfl
theorem fsts_fst (c : Nat → Nat) (L : List Nat) : (fsts c L).map Prod.fst = D (L.map c) := by
  have gen : ∀ (k : Nat), (fsts c (L.take k)).map Prod.fst = D ((L.take k).map c) := by
    intro k
    induction k with
    | zero => rfl
    | succ k ih =>
      cases h : L[k]? with
      | none =>
        rw [List.take_add_one, h]
        simpa using ih
      | some s =>
        rw [List.take_add_one, h]
        show (fsts c (L.take k ++ [s])).map Prod.fst = D ((L.take k ++ [s]).map c)
        rw [fsts_snoc, List.map_append, D_append, ← ih]
        show _ = push ((fsts c (L.take k)).map Prod.fst) (c s)
        unfold push
        split
        · rfl
        · rw [List.map_append]
          rfl
  have := gen L.length
  rwa [List.take_length] at this
theorem fsts_mem (c : Nat → Nat) (L : List Nat) : ∀ p ∈ fsts c L, p.2 ∈ L ∧ c p.2 = p.1 := by
  have gen : ∀ (k : Nat), ∀ p ∈ fsts c (L.take k), p.2 ∈ L ∧ c p.2 = p.1 := by
    intro k
    induction k with
    | zero => intro p hp; simp [fsts] at hp
    | succ k ih =>
      cases h : L[k]? with
      | none =>
        rw [List.take_add_one, h]
        simpa using ih
      | some s =>
        rw [List.take_add_one, h]
        show ∀ p ∈ fsts c (L.take k ++ [s]), _
        rw [fsts_snoc]
        intro p hp
        split at hp
        · exact ih p hp
        · rcases List.mem_append.mp hp with z | z
          · exact ih p z
          · rw [List.mem_singleton.mp z]
            exact ⟨List.mem_of_getElem? h, rfl⟩
  have := gen L.length
  rwa [List.take_length] at this
/-- what the program makes of classes -/
def made (R : List (List Nat)) (E L : List Nat) (c : Nat → Nat) : List (List Nat) × List Nat :=
  (((fsts c L).map Prod.snd).map fun s => (rowOf R s).map fun t => (D (L.map c)).idxOf (c t),
   (((fsts c L).map Prod.snd).filter fun s => decide (s ∈ E)).map fun t => (D (L.map c)).idxOf (c t))
theorem made_least {n : Nat} {R : List (List Nat)} {E : List Nat} {b : Nat} {L : List Nat} {c : Nat → Nat} (hM : Mok n R) (hB : Bfs n R b L)
    (hal : ∀ s ∈ L, ∀ t ∈ L, c s = c t ↔ Alk n R E s R E t) : Least n (made R E L c).1 (made R E L c).2 ∧ Alk n (made R E L c).1 (made R E L c).2 0 R E b := by
  have hmapc : ((fsts c L).map Prod.snd).map c = D (L.map c) := by
    rw [← fsts_fst, List.map_map]
    apply List.map_congr_left
    intro p hp
    exact (fsts_mem c L p hp).2
  have hlen : ((fsts c L).map Prod.snd).length = (D (L.map c)).length := by
    rw [← hmapc, List.length_map (f := c)]
  refine quot_least (num := fun t => (D (L.map c)).idxOf (c t)) hM hB ?_ ?_ ?_ ?_
  · intro s hs t ht
    rw [← hal s hs t ht]
    constructor
    · exact idxOf_inj (mem_D.mpr (List.mem_map_of_mem hs))
    · intro e
      show (D (L.map c)).idxOf (c s) = (D (L.map c)).idxOf (c t)
      rw [e]
  · intro s hs
    obtain ⟨p, hp, e⟩ := List.mem_map.mp hs
    rw [← e]
    exact (fsts_mem c L p hp).1
  · rw [hlen, ← map_idxOf_self (D_nodup (L.map c))]
    have : ((fsts c L).map Prod.snd).map (fun t => (D (L.map c)).idxOf (c t)) = (((fsts c L).map Prod.snd).map c).map (fun x => (D (L.map c)).idxOf x) := by
      simp only [List.map_map]
      rfl
    rw [this, hmapc]
  · rw [hlen]
    have : L.map (fun t => (D (L.map c)).idxOf (c t)) = (L.map c).map (fun x => (D (L.map c)).idxOf x) := by
      rw [List.map_map]
      rfl
    rw [this, ← D_map_D, map_idxOf_self (D_nodup (L.map c)), D_of_nodup List.nodup_range]
end Mach

namespace Mach
/-! ### pushing by filtering -/
section
variable {α : Type} [DecidableEq α]
theorem pushAll_filter (L X : List α) : pushAll L X = L ++ (D X).filter (fun x => decide (x ∉ L)) := by
  rw [← pushAll_D]
  have gen : ∀ (Y L M : List α), Y.Nodup → (∀ y ∈ Y, y ∉ M) → pushAll (L ++ M) Y = L ++ M ++ Y.filter (fun x => decide (x ∉ L)) := by
    intro Y
    induction Y with
    | nil => intro L M _ _; simp [pushAll_nil]
    | cons y Y ih =>
      intro L M hn hM
      rw [List.nodup_cons] at hn
      rw [pushAll_cons]
      by_cases h : y ∈ L
      · rw [push_mem (List.mem_append_left _ h), ih L M hn.2 (fun z hz => hM z (List.mem_cons_of_mem _ hz)), List.filter_cons_of_neg (by simpa using h)]
      · have h' : y ∉ L ++ M := by
          intro z
          rcases List.mem_append.mp z with z | z
          · exact h z
          · exact hM y List.mem_cons_self z
        rw [push_new h', List.append_assoc, ih L (M ++ [y]) hn.2 ?_, List.filter_cons_of_pos (by simpa using h)]
        · simp
        · intro z hz hm
          rcases List.mem_append.mp hm with q | q
          · exact hM z (List.mem_cons_of_mem _ hz) q
          · rw [List.mem_singleton] at q
            rw [q] at hz
            exact hn.1 hz
  have := gen (D X) L [] (D_nodup X) (fun _ _ z => nomatch z)
  simpa using this
end
/-! ### pairs told apart, pass by pass -/
section
variable {n : Nat} {R : List (List Nat)} {E L : List Nat} {b : Nat}
structure Apart (n : Nat) (R : List (List Nat)) (E L : List Nat) (A : List (Nat × Nat)) : Prop where
  nd : A.Nodup
  mem : ∀ p ∈ A, p.1 ∈ L ∧ p.2 ∈ L
  no : ∀ p ∈ A, ¬ Alk n R E p.1 R E p.2
  ini : ∀ p ∈ L, ∀ q ∈ L, ¬ (p ∈ E ↔ q ∈ E) → (p, q) ∈ A
def prodL (L : List Nat) : List (Nat × Nat) := L.flatMap fun p => L.map fun q => (p, q)
theorem prodL_len (L : List Nat) : (prodL L).length = L.length * L.length := by
  have gen : ∀ (M : List Nat), (M.flatMap fun p => L.map fun q => (p, q)).length = M.length * L.length := by
    intro M
    induction M with
    | nil => simp
    | cons a M ih =>
      rw [List.flatMap_cons, List.length_append, ih, List.length_map, List.length_cons, Nat.add_mul, Nat.one_mul, Nat.add_comm]
  exact gen L
theorem Apart.len {A : List (Nat × Nat)} (h : Apart n R E L A) : A.length ≤ L.length * L.length := by
  rw [← prodL_len]
  refine length_le_of_sub h.nd fun p hp => ?_
  obtain ⟨h1, h2⟩ := h.mem p hp
  exact List.mem_flatMap.mpr ⟨p.1, h1, List.mem_map.mpr ⟨p.2, h2, rfl⟩⟩
def Cl (n : Nat) (R : List (List Nat)) (A : List (Nat × Nat)) (p q : Nat) : Prop := (p, q) ∉ A → ∀ k, k < n → (dl R p k, dl R q k) ∉ A
structure Pass (n : Nat) (R : List (List Nat)) (E L : List Nat) (A0 A : List (Nat × Nat)) (g : Bool) (don : Nat → Nat → Prop) : Prop where
  ap : Apart n R E L A
  f : g = false → A = A0 ∧ ∀ p q, don p q → Cl n R A p q
  t : g = true → A0.length < A.length
  le : A0.length ≤ A.length
theorem pass_start {A : List (Nat × Nat)} (h : Apart n R E L A) : Pass n R E L A A false (fun _ _ => False) :=
  ⟨h, fun _ => ⟨rfl, fun _ _ z => z.elim⟩, (fun z => nomatch z), Nat.le_refl _⟩
theorem pass_new (hM : Mok n R) (hB : Bfs n R b L) {A0 A : List (Nat × Nat)} {g : Bool} {don don' : Nat → Nat → Prop} (h : Pass n R E L A0 A g don) {p q k : Nat} (hp : p ∈ L) (hq : q ∈ L) (hk : k < n) (hn : (p, q) ∉ A) (hy : (dl R p k, dl R q k) ∈ A) :
    Pass n R E L A0 (A ++ [(p, q)]) true don' := by
  have hle := h.le
  refine ⟨⟨?_, ?_, ?_, ?_⟩, (fun z => nomatch z), fun _ => ?_, ?_⟩
  · have := push_nodup (s := (p, q)) h.ap.nd
    rwa [push_new hn] at this
  · intro x hx
    rcases List.mem_append.mp hx with z | z
    · exact h.ap.mem x z
    · rw [List.mem_singleton] at z
      rw [z]
      exact ⟨hp, hq⟩
  · intro x hx
    rcases List.mem_append.mp hx with z | z
    · exact h.ap.no x z
    · rw [List.mem_singleton] at z
      rw [z]
      exact apart_step hM hB hp hq hk (h.ap.no _ hy)
  · intro x hx y hy' hne
    exact List.mem_append_left _ (h.ap.ini x hx y hy' hne)
  · rw [List.length_append, List.length_singleton]
    omega
  · rw [List.length_append, List.length_singleton]
    omega
theorem pass_old {A0 A : List (Nat × Nat)} {g : Bool} {don don' : Nat → Nat → Prop} (h : Pass n R E L A0 A g don) (hd : ∀ p q, don' p q → don p q ∨ Cl n R A p q) : Pass n R E L A0 A g don' :=
  ⟨h.ap, fun z => ⟨(h.f z).1, fun p q e => (hd p q e).elim ((h.f z).2 p q) id⟩, h.t, h.le⟩
theorem pass_end (hM : Mok n R) (hB : Bfs n R b L) {A : List (Nat × Nat)} (h : Apart n R E L A) (hc : ∀ p ∈ L, ∀ q ∈ L, Cl n R A p q) : ∀ p ∈ L, ∀ q ∈ L, (p, q) ∉ A ↔ Alk n R E p R E q :=
  table_done (A := fun p q => (p, q) ∈ A) hM hB (fun p _ q _ z => h.no (p, q) z) h.ini (fun p hp q hq z => hc p hp q hq z)
end
/-! ### numbers by classes: the law's way -/
structure Num (A : Nat → Nat → Prop) (P F : List Nat) (num : Nat → Nat) : Prop where
  sub : ∀ s ∈ F, s ∈ P
  fn : F.map num = List.range F.length
  d : D (P.map num) = List.range F.length
  iff : ∀ s ∈ P, ∀ t ∈ P, num s = num t ↔ A s t
def put (num : Nat → Nat) (t v : Nat) : Nat → Nat := fun s => if s = t then v else num s
theorem put_same (num : Nat → Nat) (t v : Nat) : put num t v t = v := if_pos rfl
theorem put_ne {num : Nat → Nat} {t v s : Nat} (h : s ≠ t) : put num t v s = num s := if_neg h
section
variable {A : Nat → Nat → Prop} {P F : List Nat} {num : Nat → Nat} {t : Nat}
theorem Num.lt (h : Num A P F num) {s : Nat} (hs : s ∈ P) : num s < F.length := by
  have : num s ∈ D (P.map num) := mem_D.mpr (List.mem_map_of_mem hs)
  rw [h.d] at this
  exact List.mem_range.mp this
theorem Num.at (h : Num A P F num) {i : Nat} (hi : i < F.length) : num F[i] = i := by
  have := congrArg (fun l => l[i]?) h.fn
  simp only [List.getElem?_map] at this
  rw [List.getElem?_eq_getElem hi, List.getElem?_range hi] at this
  simpa using this
theorem map_put {num : Nat → Nat} {t v : Nat} : ∀ {P : List Nat}, t ∉ P → P.map (put num t v) = P.map num := by
  intro P h
  apply List.map_congr_left
  intro s hs
  exact put_ne fun e => h (by rw [← e]; exact hs)
theorem num_start (A : Nat → Nat → Prop) (num : Nat → Nat) : Num A [] [] num := ⟨(fun _ z => nomatch z), rfl, rfl, (fun _ z => nomatch z)⟩
theorem num_old (h : Num A P F num) (ht : t ∉ P) (rf : A t t) (sy : ∀ s ∈ P, A s t → A t s) (sy' : ∀ s ∈ P, A t s → A s t) (tr : ∀ s ∈ P, ∀ u ∈ P, A s u → A u t → A s t) (tr' : ∀ s ∈ P, ∀ u ∈ P, A s t → A t u → A s u) {k : Nat} (hk : k < F.length) (hA : A F[k] t) :
    Num A (P ++ [t]) F (put num t k) := by
  have hFk : F[k] ∈ P := h.sub _ (List.getElem_mem hk)
  have key : ∀ s ∈ P, num s = k ↔ A s t := by
    intro s hs
    constructor
    · intro e
      have : num s = num F[k] := by rw [h.at hk, e]
      exact tr s hs F[k] hFk ((h.iff s hs _ hFk).mp this) hA
    · intro e
      have := (h.iff s hs _ hFk).mpr (tr' s hs F[k] hFk e (sy _ hFk hA))
      rw [this, h.at hk]
  refine ⟨fun s hs => List.mem_append_left _ (h.sub s hs), ?_, ?_, ?_⟩
  · rw [map_put (fun z => ht (h.sub t z)), h.fn]
  · rw [List.map_append, map_put ht, D_append, h.d]
    show push (List.range F.length) (put num t k t) = _
    rw [put_same, push_mem (List.mem_range.mpr hk)]
  · intro s hs u hu
    rcases List.mem_append.mp hs with hs | hs
    · have hsn : s ≠ t := fun e => ht (by rw [← e]; exact hs)
      rcases List.mem_append.mp hu with hu | hu
      · have hun : u ≠ t := fun e => ht (by rw [← e]; exact hu)
        rw [put_ne hsn, put_ne hun]
        exact h.iff s hs u hu
      · rw [List.mem_singleton] at hu
        rw [hu, put_ne hsn, put_same]
        exact key s hs
    · rw [List.mem_singleton] at hs
      rw [hs]
      rcases List.mem_append.mp hu with hu | hu
      · have hun : u ≠ t := fun e => ht (by rw [← e]; exact hu)
        rw [put_ne hun, put_same]
        exact ⟨fun e => sy u hu ((key u hu).mp e.symm), fun e => ((key u hu).mpr (sy' u hu e)).symm⟩
      · rw [List.mem_singleton] at hu
        rw [hu]
        exact ⟨fun _ => rf, fun _ => rfl⟩
theorem num_new (h : Num A P F num) (ht : t ∉ P) (rf : A t t) (sy' : ∀ s ∈ P, A t s → A s t) (sP : ∀ s ∈ P, ∀ u ∈ P, A s u → A u s) (tr : ∀ s ∈ P, ∀ u ∈ P, A s u → A u t → A s t) (hno : ∀ k (hk : k < F.length), ¬ A F[k] t) :
    Num A (P ++ [t]) (F ++ [t]) (put num t F.length) := by
  have key : ∀ s ∈ P, ¬ A s t := by
    intro s hs e
    have hk := h.lt hs
    have hFk : F[num s] ∈ P := h.sub _ (List.getElem_mem hk)
    have e1 : A s F[num s] := (h.iff s hs _ hFk).mp (h.at hk).symm
    exact hno _ hk (tr _ hFk s hs (sP _ hs _ hFk e1) e)
  refine ⟨?_, ?_, ?_, ?_⟩
  · intro s hs
    rcases List.mem_append.mp hs with hs | hs
    · exact List.mem_append_left _ (h.sub s hs)
    · exact List.mem_append_right _ hs
  · rw [List.map_append, map_put (fun z => ht (h.sub t z)), h.fn, List.length_append, List.length_singleton, List.range_succ]
    show _ ++ [put num t F.length t] = _
    rw [put_same]
  · rw [List.map_append, map_put ht, D_append, h.d, List.length_append, List.length_singleton, List.range_succ]
    show push (List.range F.length) (put num t F.length t) = _
    rw [put_same, push_new (by simp)]
  · intro s hs u hu
    rcases List.mem_append.mp hs with hs | hs
    · have hsn : s ≠ t := fun e => ht (by rw [← e]; exact hs)
      rcases List.mem_append.mp hu with hu | hu
      · have hun : u ≠ t := fun e => ht (by rw [← e]; exact hu)
        rw [put_ne hsn, put_ne hun]
        exact h.iff s hs u hu
      · rw [List.mem_singleton] at hu
        rw [hu, put_ne hsn, put_same]
        constructor
        · intro e
          have := h.lt hs
          omega
        · exact fun e => absurd e (key s hs)
    · rw [List.mem_singleton] at hs
      rw [hs]
      rcases List.mem_append.mp hu with hu | hu
      · have hun : u ≠ t := fun e => ht (by rw [← e]; exact hu)
        rw [put_ne hun, put_same]
        constructor
        · intro e
          have := h.lt hu
          omega
        · exact fun e => absurd (sy' u hu e) (key u hu)
      · rw [List.mem_singleton] at hu
        rw [hu]
        exact ⟨fun _ => rf, fun _ => rfl⟩
end
end Mach
namespace Mach
/-- the pairs of p with those of the other kind -/
def prE (E L : List Nat) (p : Nat) : List (Nat × Nat) := (L.filter fun q => decide (decide (p ∈ E) ≠ decide (q ∈ E))).map fun q => (p, q)
theorem mem_prE {E L : List Nat} {p : Nat} {x : Nat × Nat} : x ∈ prE E L p ↔ x.1 = p ∧ x.2 ∈ L ∧ ¬ (p ∈ E ↔ x.2 ∈ E) := by
  unfold prE
  rw [List.mem_map]
  constructor
  · rintro ⟨q, hq, rfl⟩
    obtain ⟨h1, h2⟩ := List.mem_filter.mp hq
    refine ⟨rfl, h1, fun z => ?_⟩
    have h3 := of_decide_eq_true h2
    apply h3
    exact decide_eq_decide.mpr z
  · rintro ⟨h1, h2, h3⟩
    refine ⟨x.2, List.mem_filter.mpr ⟨h2, decide_eq_true fun z => h3 (decide_eq_decide.mp z)⟩, ?_⟩
    rw [← h1]
theorem prE_nodup {E L : List Nat} (h : L.Nodup) (p : Nat) : (prE E L p).Nodup := by
  have h1 : (L.filter fun q => decide (decide (p ∈ E) ≠ decide (q ∈ E))).Nodup := h.filter _
  unfold prE
  rw [List.Nodup, List.pairwise_map]
  exact h1.imp fun hab e => hab (Prod.mk.inj e).2
theorem apart_start {n : Nat} {R : List (List Nat)} {E L : List Nat} : Apart n R E L (D (L.flatMap (prE E L))) := by
  refine ⟨D_nodup _, fun x hx => ?_, fun x hx a => ?_, fun p hp q hq hne => ?_⟩
  · obtain ⟨p, hp, hx⟩ := List.mem_flatMap.mp (mem_D.mp hx)
    obtain ⟨h1, h2, _⟩ := mem_prE.mp hx
    rw [h1]
    exact ⟨hp, h2⟩
  · obtain ⟨p, hp, hx⟩ := List.mem_flatMap.mp (mem_D.mp hx)
    obtain ⟨h1, h2, h3⟩ := mem_prE.mp hx
    rw [h1] at a
    exact h3 a.nil
  · exact mem_D.mpr (List.mem_flatMap.mpr ⟨p, hp, mem_prE.mpr ⟨rfl, hq, hne⟩⟩)
end Mach

/-! the machine whose states 0 and b have changed their numbers -/
namespace Mach
def swp (b i : Nat) : Nat := if i = 0 then b else if i = b then 0 else i
theorem swp_swp (b i : Nat) : swp b (swp b i) = i := by
  unfold swp
  by_cases h0 : i = 0
  · rw [if_pos h0]
    by_cases hb : b = 0
    · rw [if_pos hb]
      omega
    · rw [if_neg hb, if_pos rfl]
      omega
  · rw [if_neg h0]
    by_cases hb : i = b
    · rw [if_pos hb, if_pos rfl]
      omega
    · rw [if_neg hb, if_neg h0, if_neg hb]
theorem swp_self (b : Nat) : swp b b = 0 := by
  unfold swp
  by_cases h0 : b = 0
  · rw [if_pos h0]
    exact h0
  · rw [if_neg h0, if_pos rfl]
theorem swp_inj {b i j : Nat} (h : swp b i = swp b j) : i = j := by
  have := congrArg (swp b) h
  rwa [swp_swp, swp_swp] at this
theorem swp_lt {b i N : Nat} (hb : b < N) (hi : i < N) : swp b i < N := by
  unfold swp
  split
  · exact hb
  · split
    · omega
    · exact hi
theorem swp_list {b N : Nat} (hb : b < N) : ((List.range N).set 0 b).set b 0 = (List.range N).map (swp b) := by
  apply List.ext_getElem
  · simp
  · intro i h1 h2
    rw [List.length_set, List.length_set, List.length_range] at h1
    rw [List.getElem_map, List.getElem_range, List.getElem_set, List.getElem_set, List.getElem_range]
    unfold swp
    by_cases h0 : i = 0
    · rw [if_pos h0]
      by_cases hbi : b = i
      · rw [if_pos hbi]
        omega
      · rw [if_neg hbi, if_pos h0.symm]
    · rw [if_neg h0]
      by_cases hbi : b = i
      · rw [if_pos hbi, if_pos hbi.symm]
      · rw [if_neg hbi, if_neg (fun z => h0 z.symm), if_neg (fun z => hbi z.symm)]
def turned (R : List (List Nat)) (b : Nat) : List (List Nat) := (List.range R.length).map fun i => (rowOf R (swp b i)).map (swp b)
section
variable {n b : Nat} {R : List (List Nat)} {E : List Nat}
theorem turned_len : (turned R b).length = R.length := by
  unfold turned
  rw [List.length_map, List.length_range]
theorem turned_row {i : Nat} (h : i < R.length) : rowOf (turned R b) i = (rowOf R (swp b i)).map (swp b) := by
  show (turned R b).getD i [] = _
  unfold turned
  rw [List.getD_eq_getElem?_getD, List.getElem?_map, List.getElem?_range h]
  rfl
theorem turned_mok (hM : Mok n R) (hb : b < R.length) : Mok n (turned R b) := by
  refine ⟨fun q hq => ?_, fun q hq x hx => ?_⟩
  · rw [turned_len] at hq
    rw [turned_row hq, List.length_map]
    exact hM.wide _ (swp_lt hb hq)
  · rw [turned_len] at hq ⊢
    rw [turned_row hq] at hx
    obtain ⟨y, hy, rfl⟩ := List.mem_map.mp hx
    exact swp_lt hb (hM.lt _ (swp_lt hb hq) y hy)
theorem dl_turned (hM : Mok n R) (hb : b < R.length) {q k : Nat} (hq : q < R.length) (hk : k < n) : dl (turned R b) (swp b q) k = swp b (dl R q k) := by
  unfold dl
  have hl := hM.wide q hq
  rw [turned_row (swp_lt hb hq), swp_swp, List.getD_eq_getElem?_getD, List.getD_eq_getElem?_getD, List.getElem?_map, List.getElem?_eq_getElem (by omega)]
  rfl
theorem run_turned (hM : Mok n R) (hb : b < R.length) : ∀ (w : List Nat) {q : Nat}, q < R.length → Wd n w → runM (turned R b) (swp b q) w = swp b (runM R q w)
  | [], _, _, _ => rfl
  | k :: w, q, hq, hw => by
    have hk : k < n := hw k List.mem_cons_self
    show runM (turned R b) (dl (turned R b) (swp b q) k) w = swp b (runM R (dl R q k) w)
    rw [dl_turned hM hb hq hk]
    exact run_turned hM hb w (hM.lt q hq _ (dl_mem hM hq hk)) fun j hj => hw j (List.mem_cons_of_mem _ hj)
theorem turned_alk (hM : Mok n R) (hb : b < R.length) (E : List Nat) : Alk n (turned R b) (E.map (swp b)) 0 R E b := by
  intro w hw
  have h1 := run_turned hM hb w hb hw
  rw [swp_self] at h1
  rw [h1]
  constructor
  · intro h
    obtain ⟨y, hy, e⟩ := List.mem_map.mp h
    rw [← swp_inj e]
    exact hy
  · exact fun h => List.mem_map_of_mem h
end
end Mach

/-! lists of states, rows and dicts of states as they stand in the heap -/
namespace Rg
open PySem PySem.Spec PyProof.Rows L2 Mach

def nVs (ns : List Nat) : List V := ns.map nV
theorem nVs_get {ns : List Nat} {i : Nat} {n : Nat} (h : ns[i]? = some n) : (nVs ns)[i]? = some (nV n) := by
  unfold nVs
  rw [List.getElem?_map, h]
  rfl
theorem nVs_len (ns : List Nat) : (nVs ns).length = ns.length := List.length_map _
theorem nV_inj {a b : Nat} (h : nV a = nV b) : a = b := by
  have : (a : Int) = b := V.int.inj h
  omega
theorem nVs_snoc (ns : List Nat) (n : Nat) : nVs (ns ++ [n]) = nVs ns ++ [nV n] := by
  unfold nVs
  rw [List.map_append]
  rfl
theorem nVs_at {ns : List Nat} {i : Nat} {x : V} (h : (nVs ns)[i]? = some x) : ∃ n, x = nV n ∧ ns[i]? = some n := by
  unfold nVs at h
  rw [List.getElem?_map] at h
  cases e : ns[i]? with
  | none => rw [e] at h; cases h
  | some n => rw [e] at h; exact ⟨n, (Option.some.inj h).symm, rfl⟩

/-! ### dicts from states -/
abbrev kN (s : Nat) : Key := Sum.inl (s : Int)
theorem kN_inj {a b : Nat} (h : kN a = kN b) : a = b := by
  have : (a : Int) = b := Sum.inl.inj h
  omega
def dO (L : List Nat) (c : Nat → V) : List (Key × V) := L.map fun s => (kN s, c s)
theorem dO_len (L : List Nat) (c : Nat → V) : (dO L c).length = L.length := List.length_map _
theorem valV_dO {L : List Nat} {c : Nat → V} {s : Nat} : valV (dO L c) (kN s) = if s ∈ L then some (c s) else none := by
  induction L with
  | nil => rfl
  | cons a L ih =>
    show valV ((kN a, c a) :: dO L c) (kN s) = _
    by_cases e : a = s
    · rw [valV_pos (by show kN a = kN s; rw [e]), if_pos (by rw [e]; exact List.mem_cons_self), e]
    · rw [valV_neg (fun z => e (kN_inj z)), ih]
      by_cases h : s ∈ L
      · rw [if_pos h, if_pos (List.mem_cons_of_mem _ h)]
      · rw [if_neg h, if_neg]
        intro z
        rcases List.mem_cons.mp z with z | z
        · exact e z.symm
        · exact h z
theorem valV_dO_in {L : List Nat} {c : Nat → V} {s : Nat} (h : s ∈ L) : valV (dO L c) (kN s) = some (c s) := by rw [valV_dO, if_pos h]
theorem valV_dO_out {L : List Nat} {c : Nat → V} {s : Nat} (h : s ∉ L) : valV (dO L c) (kN s) = none := by rw [valV_dO, if_neg h]
theorem putK_dO {L : List Nat} {c : Nat → V} {s : Nat} : putK (dO L c) (kN s) (c s) = dO (push L s) c := by
  by_cases h : s ∈ L
  · rw [push_mem h]
    unfold putK
    rw [if_pos (by rw [valV_any, valV_dO_in h]; rfl)]
    unfold dO
    rw [List.map_map]
    apply List.map_congr_left
    intro t ht
    show (if kN t = kN s then (kN t, c s) else (kN t, c t)) = (kN t, c t)
    by_cases e : kN t = kN s
    · rw [if_pos e, kN_inj e]
    · rw [if_neg e]
  · rw [push_new h, putK_new _ (valV_dO_out h)]
    unfold dO
    rw [List.map_append]
    rfl
theorem dO_congr {L : List Nat} {c d : Nat → V} (h : ∀ s ∈ L, c s = d s) : dO L c = dO L d := by
  unfold dO
  apply List.map_congr_left
  intro s hs
  rw [h s hs]
theorem putK_dO_new {L : List Nat} {c d : Nat → V} {s : Nat} (h : s ∉ L) (hd : ∀ t ∈ L, d t = c t) : putK (dO L c) (kN s) (d s) = dO (L ++ [s]) d := by
  rw [dO_congr (d := d) (fun t ht => (hd t ht).symm), putK_dO, push_new h]

/-! ### rows -/
structure RowsAt (H : Hp) (a : Addr) (xs : List Addr) (R : List (List Nat)) : Prop where
  at_ : H a = some (.lst (xs.map V.ref))
  len : xs.length = R.length
  row : ∀ (i : Nat) (x : Addr), xs[i]? = some x → H x = some (.lst (nVs (rowOf R i)))
theorem RowsAt.same {H H' : Hp} {a : Addr} {xs : List Addr} {R : List (List Nat)} (h : RowsAt H a xs R) (s : Same H H') : RowsAt H' a xs R :=
  ⟨s _ _ h.at_, h.len, fun i x e => s _ _ (h.row i x e)⟩
theorem RowsAt.get {H : Hp} {a : Addr} {xs : List Addr} {R : List (List Nat)} (h : RowsAt H a xs R) {q : Nat} (hq : q < R.length) :
    ∃ x, (xs.map V.ref)[q]? = some (.ref x) ∧ H x = some (.lst (nVs (rowOf R q))) := by
  have hq' : q < xs.length := by rw [h.len]; exact hq
  refine ⟨xs[q], ?_, h.row q _ (List.getElem?_eq_getElem hq')⟩
  rw [List.getElem?_map, List.getElem?_eq_getElem hq']
  rfl
theorem rowOf_get {R : List (List Nat)} {q k : Nat} {x : Nat} (h : (rowOf R q)[k]? = some x) : Mach.dl R q k = x := by
  unfold Mach.dl
  rw [List.getD_eq_getElem?_getD, h]
  rfl

/-! ### while, with the test read in one go -/
theorem lt_or_eq_or {a b : Nat} : a < b ∨ b ≤ a := Nat.lt_or_ge a b
theorem szBig {n : Nat} (h : n ≤ 100000) : n < sizeLine := Nat.lt_of_le_of_lt h (by decide)
theorem szBigLe {n : Nat} (h : n ≤ 100000) : n ≤ sizeLine := Nat.le_of_lt (szBig h)
end Rg
namespace Rg
open PySem PySem.Spec PyProof.Rows L2 Mach
theorem dget_dO {H : Hp} {d : Addr} {L : List Nat} {c : Nat → V} {t : Nat} (h : H d = some (.dK (dO L c))) (ht : t ∈ L) : DGet H d (nV t) (some (c t)) := by
  have := DGet.k (k := kN t) h
  rw [valV_dO_in ht] at this
  exact this
theorem din_dO {H : Hp} {d : Addr} {L : List Nat} {c : Nat → V} {t : Nat} (h : H d = some (.dK (dO L c))) : ∃ r, DGet H d (nV t) r ∧ r.isSome = decide (t ∈ L) := by
  refine ⟨_, DGet.k (k := kN t) h, ?_⟩
  by_cases ht : t ∈ L
  · rw [valV_dO_in ht, decide_eq_true ht]
    rfl
  · rw [valV_dO_out ht, decide_eq_false ht]
    rfl
theorem Same.of_eq_but {H H' : Hp} {a : Addr} (h : ∀ c, c ≠ a → H' c = H c) {H0 : Hp} (s : Same H0 H) (n : H0 a = none) : Same H0 H' := by
  intro b o e
  rw [h b (ne_of_none e n)]
  exact s b o e
theorem idxOf_pre {α : Type} [BEq α] [LawfulBEq α] {A Z : List α} {x : α} (h : x ∈ A) : (A ++ Z).idxOf x = A.idxOf x := by
  rw [List.idxOf_append, if_pos h]
end Rg
namespace Rg
open PySem PySem.Spec PyProof.Rows L2 Mach
/-! ### dicts from numbers to numbers, by pairs -/
def fD (ps : List (Nat × Nat)) : List (Key × V) := ps.map fun p => (kN p.1, nV p.2)
theorem fD_len (ps : List (Nat × Nat)) : (fD ps).length = ps.length := List.length_map _
theorem fD_snoc (ps : List (Nat × Nat)) (p : Nat × Nat) : fD (ps ++ [p]) = fD ps ++ [(kN p.1, nV p.2)] := by
  unfold fD
  rw [List.map_append]
  rfl
theorem valV_fD_out {ps : List (Nat × Nat)} {k : Nat} (h : k ∉ ps.map Prod.fst) : valV (fD ps) (kN k) = none := by
  induction ps with
  | nil => rfl
  | cons a ps ih =>
    have h1 : ¬ kN a.1 = kN k := fun z => h (by rw [← kN_inj z]; simp)
    show valV ((kN a.1, nV a.2) :: fD ps) (kN k) = none
    rw [valV_neg h1]
    exact ih fun z => h (by rw [List.map_cons]; exact List.mem_cons_of_mem _ z)
theorem valV_fD {ps : List (Nat × Nat)} (hn : (ps.map Prod.fst).Nodup) {k s : Nat} (h : (k, s) ∈ ps) : valV (fD ps) (kN k) = some (nV s) := by
  induction ps with
  | nil => cases h
  | cons a ps ih =>
    rw [List.map_cons, List.nodup_cons] at hn
    show valV ((kN a.1, nV a.2) :: fD ps) (kN k) = some (nV s)
    rcases List.mem_cons.mp h with e | h
    · rw [← e]
      exact valV_pos rfl
    · have h1 : ¬ kN a.1 = kN k := fun z => hn.1 (by rw [kN_inj z]; exact List.mem_map_of_mem h)
      rw [valV_neg h1]
      exact ih hn.2 h
theorem fD_keys (ps : List (Nat × Nat)) : (fD ps).map (fun kv => kV kv.1) = nVs (ps.map Prod.fst) := by
  unfold fD nVs
  simp only [List.map_map]
  rfl
theorem dgetK {H : Hp} {d : Addr} {kvs : List (Key × V)} {k : Nat} {v : V} (h : H d = some (.dK kvs)) (e : valV kvs (kN k) = some v) : DGet H d (nV k) (some v) := by
  have := DGet.k (k := kN k) h
  rw [e] at this
  exact this
theorem take_snoc {α : Type} {L : List α} {i : Nat} {t : α} (h : L[i]? = some t) : L.take (i + 1) = L.take i ++ [t] := by
  rw [List.take_add_one, h]
  rfl
theorem atI_zero_add {α : Type} {xs : List α} {j : Nat} {v : α} (h : xs[j]? = some v) : atI xs (0 + (j : Int)) = some v := by
  rw [Int.zero_add]
  exact atI_nat h
theorem nodup_not_take {α : Type} {L : List α} (h : L.Nodup) {i : Nat} {t : α} (ht : L[i]? = some t) : t ∉ L.take i := by
  intro hm
  obtain ⟨j, hj, e⟩ := List.mem_iff_getElem.mp hm
  rw [List.length_take] at hj
  rw [List.getElem_take] at e
  obtain ⟨h1, h2⟩ := List.getElem?_eq_some_iff.mp ht
  exact (List.pairwise_iff_getElem.mp h) j i (by omega) h1 (by omega) (by rw [e, h2])
end Rg
namespace Rg
open PySem PySem.Spec PyProof.Rows L2 Mach
theorem rows_mk {H : Hp} {a : Addr} : ∀ {xs : List Addr} {R : List (List Nat)}, H a = some (.lst (xs.map V.ref)) → Paired (fun (x : Addr) (r : List Nat) => H x = some (.lst (nVs r))) xs R → RowsAt H a xs R := by
  intro xs R ha hp
  have gen : ∀ {xs : List Addr} {R : List (List Nat)}, Paired (fun (x : Addr) (r : List Nat) => H x = some (.lst (nVs r))) xs R → xs.length = R.length ∧ ∀ (i : Nat) (x : Addr), xs[i]? = some x → H x = some (.lst (nVs (rowOf R i))) := by
    intro xs R hp
    induction hp with
    | nil => exact ⟨rfl, fun i x e => by simp at e⟩
    | @cons y r ys rs h t ih =>
      refine ⟨by rw [List.length_cons, List.length_cons, ih.1], fun i x e => ?_⟩
      cases i with
      | zero =>
        have : y = x := Option.some.inj e
        rw [← this]
        exact h
      | succ i => exact ih.2 i x e
  exact ⟨ha, (gen hp).1, (gen hp).2⟩
theorem rep_nVs (k v : Nat) : (List.replicate k [nV v]).flatten = nVs (List.replicate k v) := by
  induction k with
  | zero => rfl
  | succ k ih =>
    rw [List.replicate_succ, List.flatten_cons, ih, List.replicate_succ]
    rfl
theorem mok_of {n : Nat} {R : List (List Nat)} (h : ∀ r ∈ R, r.length = n ∧ ∀ x ∈ r, x < R.length) : Mok n R := by
  have hm : ∀ q, q < R.length → rowOf R q ∈ R := by
    intro q hq
    unfold rowOf
    rw [List.getD_eq_getElem?_getD, List.getElem?_eq_getElem hq]
    exact List.getElem_mem hq
  exact ⟨fun q hq => (h _ (hm q hq)).1, fun q hq => (h _ (hm q hq)).2⟩
/-- a machine made by drawing -/
def spMach : Sp := fun vs H Q _ => ∃ (g c : Addr) (z : Str) (m : Nat), vs = [.ref g, .str z, nV m] ∧ Bag H g c ∧ 1 ≤ z.length ∧ z.length ≤ 4 ∧ 1 ≤ m ∧ m ≤ 100 ∧
  ∀ (H' : Hp) (t pr pe : Addr) (xs : List Addr) (R : List (List Nat)) (E : List Nat), Bag H' g c → But g H H' → (∀ x ∈ t :: pr :: pe :: xs, H x = none) → H' t = some (.tup [.ref pr, .ref pe]) → RowsAt H' pr xs R → H' pe = some (.lst (nVs E)) →
    Mok z.length R → 0 < R.length → R.length ≤ m + 3 → (∀ x ∈ E, x < R.length) → E.length ≤ 100 → Q (.ref t) H'
theorem RowsAt.but {g : Addr} {H H' : Hp} {a : Addr} {xs : List Addr} {R : List (List Nat)} (h : RowsAt H a xs R) (b : But g H H') (ha : a ≠ g) (hx : ∀ x ∈ xs, x ≠ g) : RowsAt H' a xs R :=
  ⟨b _ _ ha h.at_, h.len, fun i x e => b _ _ (hx x (List.mem_of_getElem? e)) (h.row i x e)⟩
end Rg
namespace Rg
open PySem PySem.Spec PyProof.Rows L2 Mach
/-- the state of a drawing: the bag stands, all else is kept -/
structure Dr (g c : Addr) (H H' : Hp) : Prop where
  bag : Bag H' g c
  but : But g H H'
theorem Dr.refl {g c : Addr} {H : Hp} (b : Bag H g c) : Dr g c H H := ⟨b, .refl g H⟩
theorem Dr.trans {g c : Addr} {H H1 H2 : Hp} (a : Dr g c H H1) (b : Dr g c H1 H2) : Dr g c H H2 := ⟨b.bag, a.but.trans b.but⟩
theorem Dr.same {g c : Addr} {H H1 H2 : Hp} (a : Dr g c H H1) (s : Same H1 H2) : Dr g c H H2 := ⟨a.bag.same s, a.but.trans (.of_same s)⟩
theorem Dr.free {g c : Addr} {H H1 : Hp} (a : Dr g c H H1) {p : Addr} (h : H1 p = none) : H p = none := by
  obtain ⟨o, e⟩ := a.bag.at
  exact a.but.free e h
theorem Dr.keep {g c : Addr} {H H1 : Hp} (a : Dr g c H H1) {p : Addr} {o : HO} (h : H p = some o) (n : p ≠ g) : H1 p = some o := a.but p o n h
theorem Dr.ne {g c : Addr} {H H1 : Hp} (a : Dr g c H H1) {p : Addr} (h : H1 p = none) : p ≠ g := a.bag.ne h
theorem Dr.ne2 {g c : Addr} {H H1 : Hp} (a : Dr g c H H1) {p : Addr} (h : H1 p = none) : p ≠ c := a.bag.ne2 h
theorem Dr.upd_own {g c p : Addr} {H H1 : Hp} {o : HO} (a : Dr g c H H1) (n : H p = none) (h1 : p ≠ g) (h2 : p ≠ c) : Dr g c H (upd H1 p o) := by
  refine ⟨a.bag.upd_other h1 h2, fun b x nb e => ?_⟩
  rw [upd_ne (ne_of_none e n)]
  exact a.but b x nb e
end Rg
namespace Rg
open PySem PySem.Spec PyProof.Rows L2 Mach
theorem paired_keep {α β : Type} {F G : α → β → Prop} : ∀ {xs : List α} {ys : List β}, Paired F xs ys → (∀ x ∈ xs, ∀ y, F x y → G x y) → Paired G xs ys
  | _, _, .nil, _ => .nil
  | _, _, .cons h t, k => .cons (k _ List.mem_cons_self _ h) (paired_keep t fun x hx => k x (List.mem_cons_of_mem _ hx))
theorem paired_snoc {α β : Type} {F : α → β → Prop} {x : α} {y : β} : ∀ {xs : List α} {ys : List β}, Paired F xs ys → F x y → Paired F (xs ++ [x]) (ys ++ [y])
  | _, _, .nil, h => .cons h .nil
  | _, _, .cons h t, k => .cons h (paired_snoc t k)
end Rg

/-! dicts whose keys are tuples (number, tuple of numbers), the i-th key with the value i -/
namespace Rg
open PySem PySem.Spec PyProof.Rows L2 Mach

def nkOf (p : Nat × List Nat) : NestedKey := .tup [.num p.1, .tup (p.2.map fun x : Nat => NestedKey.num (x : Int))]
theorem nums_inj : ∀ {a b : List Nat}, (a.map fun x : Nat => NestedKey.num (x : Int)) = (b.map fun x : Nat => NestedKey.num (x : Int)) → a = b
  | [], [], _ => rfl
  | [], _ :: _, h => by cases h
  | _ :: _, [], h => by cases h
  | x :: a, y :: b, h => by
    rw [List.map_cons, List.map_cons] at h
    obtain ⟨h1, h2⟩ := List.cons.inj h
    have : (x : Int) = y := NestedKey.num.inj h1
    have e : x = y := by omega
    rw [e, nums_inj h2]
theorem nkOf_inj {p q : Nat × List Nat} (h : nkOf p = nkOf q) : p = q := by
  obtain ⟨a, b⟩ := p
  obtain ⟨c, d⟩ := q
  have h1 := NestedKey.tup.inj h
  obtain ⟨h2, h3⟩ := List.cons.inj h1
  obtain ⟨h4, _⟩ := List.cons.inj h3
  have e1 : (a : Int) = c := NestedKey.num.inj h2
  have e2 := nums_inj (NestedKey.tup.inj h4)
  have e3 : a = c := by omega
  simp only at e2
  rw [e3, e2]
theorem depthAll_nums : ∀ a : List Nat, NestedKey.depthAll (a.map fun x : Nat => NestedKey.num (x : Int)) = 0
  | [] => rfl
  | x :: a => by
    show max (NestedKey.depth (.num x)) (NestedKey.depthAll (a.map fun x : Nat => NestedKey.num (x : Int))) = 0
    rw [depthAll_nums a]
    rfl
theorem nkOf_depth (p : Nat × List Nat) : (nkOf p).depth ≤ 8 := by
  show NestedKey.depthAll [.num p.1, .tup (p.2.map fun x : Nat => NestedKey.num (x : Int))] + 1 ≤ 8
  show max 0 (max (NestedKey.depthAll (p.2.map fun x : Nat => NestedKey.num (x : Int)) + 1) 0) + 1 ≤ 8
  rw [depthAll_nums]
  decide

section
variable {P : Program} {w : World} {H : Hp} {h : Heap}
/-- the key's tuple stands at b -/
def KeyAt (H : Hp) (b : Addr) (p : Nat × List Nat) : Prop := ∃ t, H b = some (.tup [nV p.1, .ref t]) ∧ H t = some (.tup (nVs p.2))
theorem KeyAt.same {H H' : Hp} {b : Addr} {p : Nat × List Nat} (k : KeyAt H b p) (s : ∀ c xs, H c = some (.tup xs) → H' c = some (.tup xs)) : KeyAt H' b p := by
  obtain ⟨t, h1, h2⟩ := k
  exact ⟨t, s _ _ h1, s _ _ h2⟩
theorem nested_nums : ∀ {ns : List Nat} {us : List Value}, Vals (nVs ns) us → NestedAll h (ns.map fun x : Nat => NestedKey.num (x : Int)) us
  | [], _, .nil => .nil
  | n :: ns, _, .cons r t => by
    obtain ⟨k, rfl⟩ := r
    exact .cons (.int _ _) (nested_nums t)
theorem KeyAt.is {b : Addr} {p : Nat × List Nat} (ok : HOk P w H h) (k : KeyAt H b p) : (nestedKind P w).is h (nkOf p) b := by
  obtain ⟨t, h1, h2⟩ := k
  obtain ⟨_, its1, r1, o1, a1, a2, n1, a3⟩ := (show ObjOk P w H h b _ from ok b _ h1)
  obtain ⟨_, its2, r2, o2, b1, b2, n2, b3⟩ := (show ObjOk P w H h t _ from ok t _ h2)
  refine ⟨?_, nkOf_depth p⟩
  cases r1 with
  | cons x1 r1 =>
    cases r1 with
    | cons x2 r1 =>
      cases r1
      obtain ⟨k1, rfl⟩ := x1
      obtain rfl := (show _ = Value.ref t from x2)
      refine NestedIs.tup a1 a2 a3 ?_
      refine .cons (.int _ _) (.cons (NestedIs.tup b1 b2 b3 ?_) .nil)
      simpa using nested_nums r2

def NkO (P : Program) (w : World) (a : Addr) (xs : List (NestedKey × Addr × Value)) : HO := .ext fun h => (a == sysModules) = false ∧
  ∃ o es ep, h.get? a = some o ∧ o.ExactDict ∧ o.data = .dict es ep ∧ es.toList = xs.map (entryOfKey (nestedKind P w)) ∧ (xs.map (·.1)).Nodup
structure NkAt (P : Program) (w : World) (H : Hp) (a : Addr) (S : List (Nat × List Nat)) : Prop where
  ex : ∃ xs : List (NestedKey × Addr × Value), H a = some (NkO P w a xs) ∧ xs.length = S.length ∧ S.length ≤ 100000 ∧
    ∀ (i : Nat) (p : Nat × List Nat), S[i]? = some p → ∃ (ka : Addr) (t : Tok), xs[i]? = some (nkOf p, ka, .int (i : Int) t) ∧ KeyAt H ka p
theorem NkAt.same {H H' : Hp} {a : Addr} {S : List (Nat × List Nat)} (x : NkAt P w H a S) (s : ∀ c o, H c = some o → H' c = some o) : NkAt P w H' a S := by
  obtain ⟨xs, h1, h2, h3, h4⟩ := x.ex
  refine ⟨xs, s _ _ h1, h2, h3, fun i p e => ?_⟩
  obtain ⟨ka, t, e1, e2⟩ := h4 i p e
  exact ⟨ka, t, e1, e2.same fun c ys z => s c _ z⟩
theorem NkAt.upd_other {H : Hp} {a b : Addr} {o : HO} {S : List (Nat × List Nat)} (x : NkAt P w H a S) (hb : b ≠ a) (ht : ∀ ys, H b ≠ some (.tup ys)) : NkAt P w (upd H b o) a S := by
  obtain ⟨xs, h1, h2, h3, h4⟩ := x.ex
  refine ⟨xs, by rw [upd_ne hb.symm]; exact h1, h2, h3, fun i p e => ?_⟩
  obtain ⟨ka, t, e1, e2⟩ := h4 i p e
  refine ⟨ka, t, e1, e2.same fun c ys z => ?_⟩
  have hc : c ≠ b := by
    intro q
    rw [q] at z
    exact ht ys z
  rw [upd_ne hc]
  exact z
/-- what the library knows of it -/
theorem NkAt.dict {a : Addr} {S : List (Nat × List Nat)} (ok : HOk P w H h) (x : NkAt P w H a S) : (a == sysModules) = false ∧ ∃ xs, h.DictOfH (nestedKind P w) a xs ∧ H a = some (NkO P w a xs) ∧ xs.length = S.length ∧ S.length ≤ 100000 ∧
    ∀ (i : Nat) (p : Nat × List Nat), S[i]? = some p → ∃ (ka : Addr) (t : Tok), xs[i]? = some (nkOf p, ka, .int (i : Int) t) ∧ KeyAt H ka p := by
  obtain ⟨xs, h1, h2, h3, h4⟩ := x.ex
  obtain ⟨⟨hs, o, es, ep, g1, g2, g3, g4, g5⟩, _⟩ := (show ObjOk P w H h a _ from ok a _ h1)
  refine ⟨hs, xs, ⟨o, es, ep, g1, g2, g3, g4, fun y hy => ?_, g5⟩, h1, h2, h3, h4⟩
  obtain ⟨i, hi, e⟩ := List.mem_iff_getElem.mp hy
  have hiS : i < S.length := by omega
  obtain ⟨ka, t, e1, e2⟩ := h4 i _ (List.getElem?_eq_getElem hiS)
  rw [List.getElem?_eq_getElem hi] at e1
  have e3 := Option.some.inj e1
  rw [← e, e3]
  exact e2.is ok
theorem NkAt.val {a : Addr} {S : List (Nat × List Nat)} {xs : List (NestedKey × Addr × Value)} (hl : xs.length = S.length)
    (h4 : ∀ (i : Nat) (p : Nat × List Nat), S[i]? = some p → ∃ (ka : Addr) (t : Tok), xs[i]? = some (nkOf p, ka, .int (i : Int) t) ∧ KeyAt H ka p) (p : Nat × List Nat) :
    (p ∈ S → ∃ (i : Nat) (t : Tok), valueAt (pairsH xs) (nkOf p) = some (.int (i : Int) t) ∧ S.idxOf p = i) ∧ (p ∉ S → valueAt (pairsH xs) (nkOf p) = none) := by
  have gen : ∀ (S : List (Nat × List Nat)) (xs : List (NestedKey × Addr × Value)) (j : Nat), xs.length = S.length →
      (∀ (i : Nat) (p : Nat × List Nat), S[i]? = some p → ∃ (ka : Addr) (t : Tok), xs[i]? = some (nkOf p, ka, .int ((i + j : Nat) : Int) t)) →
      (p ∈ S → ∃ (i : Nat) (t : Tok), valueAt (pairsH xs) (nkOf p) = some (.int ((i + j : Nat) : Int) t) ∧ S.idxOf p = i) ∧ (p ∉ S → valueAt (pairsH xs) (nkOf p) = none) := by
    intro S
    induction S with
    | nil =>
      intro xs j hl _
      cases xs with
      | nil => exact ⟨(fun z => nomatch z), fun _ => rfl⟩
      | cons => cases hl
    | cons a S ih =>
      intro xs j hl h4
      cases xs with
      | nil => cases hl
      | cons x xs =>
        obtain ⟨ka, t, e⟩ := h4 0 a rfl
        have ex : x = (nkOf a, ka, .int ((0 + j : Nat) : Int) t) := Option.some.inj e
        have ih' := ih xs (j + 1) (by simpa using hl) (fun i p hp => by
          obtain ⟨kb, t', e'⟩ := h4 (i + 1) p hp
          refine ⟨kb, t', ?_⟩
          have : ((i + 1 + j : Nat) : Int) = ((i + (j + 1) : Nat) : Int) := by omega
          rw [← this]
          exact e')
        by_cases hp : a = p
        · refine ⟨fun _ => ⟨0, t, ?_, ?_⟩, fun z => absurd (by rw [hp]; exact List.mem_cons_self) z⟩
          · rw [ex]
            show ((_ :: _).find? _).map _ = _
            rw [List.find?_cons]
            simp [hp]
          · rw [hp]
            simp
        · have hk : ¬ nkOf a = nkOf p := fun z => hp (nkOf_inj z)
          have hv : valueAt (pairsH (x :: xs)) (nkOf p) = valueAt (pairsH xs) (nkOf p) := by
            rw [ex]
            unfold valueAt
            show (((nkOf a, _) :: pairsH xs).find? _).map _ = _
            rw [List.find?_cons_of_neg (by simpa using hk)]
          rw [hv]
          refine ⟨fun z => ?_, fun z => ih'.2 fun y => z (List.mem_cons_of_mem _ y)⟩
          rcases List.mem_cons.mp z with z | z
          · exact absurd z.symm hp
          · obtain ⟨i, t', e1, e2⟩ := ih'.1 z
            refine ⟨i + 1, t', ?_, ?_⟩
            · rw [e1]
              have : ((i + (j + 1) : Nat) : Int) = ((i + 1 + j : Nat) : Int) := by omega
              rw [this]
            · have hb : (a == p) = false := beq_eq_false_iff_ne.mpr hp
              rw [List.idxOf_cons, hb, e2]
              rfl
  have := gen S xs 0 hl (fun i p hp => by
    obtain ⟨ka, t, e, _⟩ := h4 i p hp
    exact ⟨ka, t, e⟩)
  simpa using this
end

section
variable {X : Cx} {pos : Pos}
theorem pe_dnewN : PE X (.Dict [] [] pos) (fun _ H Q => ∀ p, H p = none → Q (.ref p) (upd H p (NkO X.prog X.w p []))) := by
  refine ⟨fun pins s σ H Q I h => ?_⟩
  refine wpAny_Dict_empty ⟨.ref s.heap.objs.size, _, I.laid (a := s.heap.objs.size) (o := NkO X.prog X.w s.heap.objs.size []) (t' := s.toks) (fun _ _ q => Heap.get?_push_of_some _ q) (Nat.le_refl _) ?_, rfl, h _ (I.hok.fresh (Nat.le_refl _))⟩
  have e0 := dt_empty (P := X.prog) (w := X.w) (H := upd H s.heap.objs.size (.dT [])) s.heap I.big
  obtain ⟨_, hs, xs, r, o, es, ep, h1, h2, h3, h4, h5⟩ := e0
  cases r
  refine ⟨⟨hs, o, es, ep, h1, h2, h3, ?_, by simp⟩, ⟨o, h1⟩, ?_⟩
  · simpa using h4
  · rintro g1 g2 ⟨y1, o', es', ep', y2, y3⟩ k
    exact ⟨y1, o', es', ep', k _ y2, y3⟩
theorem op_notin_nk (hu : X.A.units + 64 < cLine) : OpR X (compareOp .NotIn) (fun x y H Q => ∃ (b a : Addr) (p : Nat × List Nat) (S : List (Nat × List Nat)), x = .ref b ∧ y = .ref a ∧ KeyAt H b p ∧ NkAt X.prog X.w H a S ∧ Q (.bl (!decide (p ∈ S))) H) := by
  intro pins s σ H x y v u Q I rx ry h
  obtain ⟨b, a, p, S, rfl, rfl, hk, hn, q⟩ := h
  cases rx
  cases ry
  obtain ⟨hs, xs, dd, _, hl, _, h4⟩ := hn.dict I.hok
  refine notIn_keyed (knd := nestedKind X.prog X.w) (kvs := pairsH xs) (by show X.A.units + 1 + 8 < cLine; omega) (hk.is I.hok) hs ⟨xs, dd, rfl⟩ ?_
  obtain ⟨v1, v2⟩ := NkAt.val (a := a) hl h4 p
  by_cases hp : p ∈ S
  · obtain ⟨i, t, e, _⟩ := v1 hp
    rw [e]
    rw [decide_eq_true hp] at q
    exact ⟨.bl false, H, I.tok _, rfl, q⟩
  · rw [v2 hp]
    rw [decide_eq_false hp] at q
    exact ⟨.bl true, H, I.tok _, rfl, q⟩
theorem ix_nk (hu : X.A.units + 64 < cLine) : IxR X (fun x y H Q => ∃ (a b : Addr) (p : Nat × List Nat) (S : List (Nat × List Nat)), x = .ref a ∧ y = .ref b ∧ KeyAt H b p ∧ NkAt X.prog X.w H a S ∧ p ∈ S ∧ Q (nV (S.idxOf p)) H) := by
  intro value slice pins s σ H x y v u Q I rx ry h hsl
  obtain ⟨a, b, p, S, rfl, rfl, hk, hn, hp, q⟩ := h
  cases rx
  cases ry
  obtain ⟨hs, xs, dd, _, hl, _, h4⟩ := hn.dict I.hok
  obtain ⟨v1, v2⟩ := NkAt.val (a := a) hl h4 p
  obtain ⟨i, t, e, ei⟩ := v1 hp
  refine subscriptTail_builtinR (x := .int (i : Int) t) dd.typeIs PySem.F.slot_dict_getitem.lookup (getItem_keyed (knd := nestedKind X.prog X.w) (kvs := pairsH xs) (by show X.A.units + 1 + 8 < cLine; omega) (hk.is I.hok) ⟨xs, dd, rfl⟩ e ?_) hsl
  rw [ei] at q
  exact ⟨rfl, ⟨nV i, H, I.tok _, ⟨_, rfl⟩, q⟩⟩
theorem call_len_nk : CallR X (.builtin "len") (fun xs H Q => ∃ (a : Addr) (S : List (Nat × List Nat)), xs = [.ref a] ∧ NkAt X.prog X.w H a S ∧ Q (nV S.length) H) := by
  intro pins s σ H xs us Q I r h
  obtain ⟨a, S, rfl, hn, q⟩ := h
  obtain ⟨u, rfl, rx⟩ := vals1 r
  obtain rfl : u = .ref a := rx
  obtain ⟨hs, xs, dd, _, hl, hz, h4⟩ := hn.dict I.hok
  refine call_len_dictH hs dd (by omega) ?_
  rw [hl]
  exact ⟨nV S.length, H, I.tok _, ⟨_, rfl⟩, q⟩
theorem set_nk (hu : X.A.units + 64 < cLine) : PSet X (fun o i v H Q => ∃ (a b : Addr) (p : Nat × List Nat) (S : List (Nat × List Nat)), o = .ref a ∧ i = .ref b ∧ v = nV S.length ∧ KeyAt H b p ∧ NkAt X.prog X.w H a S ∧ p ∉ S ∧ S.length < 100000 ∧
    ∀ H', (∀ c, c ≠ a → H' c = H c) → NkAt X.prog X.w H' a (S ++ [p]) → Q H') := by
  intro pins s σ H o i v ov iv u Q I ro ri rv h
  obtain ⟨a, b, p, S, rfl, rfl, rfl, hk, hn, hp, hz, q⟩ := h
  cases ro
  cases ri
  obtain ⟨tv, rfl⟩ := rv
  obtain ⟨hs, xs, dd, hH, hl, _, h4⟩ := hn.dict I.hok
  obtain ⟨v1, v2⟩ := NkAt.val (a := a) hl h4 p
  have hnone := v2 hp
  rw [valueAt_pairsH] at hnone
  have hat : atKey xs (nkOf p) = none := Option.map_eq_none_iff.mp hnone
  refine wpAny_setItem_heap (knd := nestedKind X.prog X.w) (hsz := by rw [hl]; exact szBigLe (by omega)) (by show X.A.units + 1 + 8 < cLine; omega) (hk.is I.hok) dd fun h' dd' hs' => ?_
  have est := storedH_new hat b (.int (S.length : Int) tv)
  rw [est] at dd'
  obtain ⟨o, es, ep, g1, g2, g3, g4, _, g5⟩ := dd'
  have ntup : ∀ c ys, H c = some (.tup ys) → c ≠ a := fun c ys e => ne_of e hH (fun z => by cases z)
  refine ⟨upd H a (NkO X.prog X.w a (xs ++ [(nkOf p, b, .int (S.length : Int) tv)])), d_write I (by rw [hH]; exact True.intro) hs' ⟨o, g1⟩ ⟨⟨hs, o, es, ep, g1, g2, g3, g4, g5⟩, ⟨o, g1⟩, ?_⟩, q _ (fun c hc => upd_ne hc) ⟨_, upd_same, by simp [hl], by simp; omega, fun i r e => ?_⟩⟩
  · rintro g1 g2 ⟨y1, o', es', ep', y2, y3⟩ k
    exact ⟨y1, o', es', ep', k _ y2, y3⟩
  · have kp : ∀ c ys, H c = some (.tup ys) → (upd H a (NkO X.prog X.w a (xs ++ [(nkOf p, b, .int (S.length : Int) tv)]))) c = some (.tup ys) := fun c ys z => by
      rw [upd_ne (ntup c ys z)]
      exact z
    by_cases hi : i < S.length
    · rw [List.getElem?_append_left hi] at e
      obtain ⟨ka, t, e1, e2⟩ := h4 i r e
      exact ⟨ka, t, by rw [List.getElem?_append_left (by omega)]; exact e1, e2.same kp⟩
    · rw [List.getElem?_append_right (by omega)] at e
      have hi0 : i - S.length = 0 := by
        have := (List.getElem?_eq_some_iff.mp e).1
        simp at this
        omega
      rw [hi0] at e
      have er : p = r := Option.some.inj e
      have ei : i = S.length := by omega
      refine ⟨b, tv, ?_, er ▸ hk.same kp⟩
      rw [List.getElem?_append_right (by omega), hl, hi0, ei, er]
      rfl
end
end Rg

namespace Rg
open PySem PySem.Spec PyProof.Rows L2 Mach
theorem vals_snd : ∀ {kvs : List (Key × V)} {vs : List (Key × Value)}, KV kvs vs → Vals (kvs.map (·.2)) (vs.map (·.2))
  | _, _, .nil => .nil
  | _, _, .cons r t => .cons r.2 (vals_snd t)
section
variable {X : Cx} {e : Expr} {te : TE} {p apos cpos pos : Pos}
/-- list(e.values()) -/
theorem pe_listVals (hc : X.calm = true) (he : PE X e te) (hg : Gl X "list") (hm : X.mg "list" = none) (hbase : attributeBase e "values" X.env (eval e X.env) = eval e X.env := by rfl) (hline : (apos.endLine == cpos.line) = true := by rfl)
    (hs : starEach [.Call (.Attribute e "values" apos) [] [] cpos] X.env = (false, eval (.Call (.Attribute e "values" apos) [] [] cpos) X.env) :: starEach [] X.env := by rfl) :
    PE X (.Call (.Name "list" p) [.Call (.Attribute e "values" apos) [] [] cpos] [] pos)
      (fun σ H Q => te σ H fun x H1 => ∃ (d : Addr) (kvs : List (Key × V)), x = .ref d ∧ H1 d = some (.dK kvs) ∧ ∀ p, H1 p = none → Q (.ref p) (upd H1 p (.lst (kvs.map (·.2))))) := by
  refine ⟨?_⟩
  intro pins s σ H Q I hq
  refine wpAny_Call_Name_kw (ld_blt I hg hm bList ?_)
  refine PyProof.Rows.callWith_type1 ?_ hs rfl
  rw [hs]
  show wpAny _ _ (spliced ((false, eval (.Call (.Attribute e "values" apos) [] [] cpos) X.env) :: backTo pos (starEach [] X.env))) _ _ s
  refine Calls.spliced_cons ?_
  refine wpAny_Call_method (T := "dict") (id := "dict.values") hbase rfl hline F.plainAttrs_dict F.slot_dict_values F.type_dict_values (thn (he.run pins s σ H _ I hq) ?_)
  rintro u s1 ⟨x, H1, I1, rx, d, kvs, ex, hd, q⟩
  subst ex
  obtain rfl : u = Value.ref d := rx
  obtain ⟨hz, hs0, vs, kv, hdo⟩ := I1.hok d _ hd
  obtain ⟨ep, hat⟩ := hdo.dictAt
  have lk : kvs.length = vs.length := Paired.length kv
  have I2 : Inv X pins σ H1 { s1 with heap := s1.heap.push { cls := .type "dict_values", data := .fields #[.ref d] } } := I1.kept (t' := s1.toks) (fun b ob q => Heap.get?_push_of_some _ q)
  refine ⟨hdo.typeIs, hdo.mapOf.noDict, ?_⟩
  show wpAny _ _ (callWith cpos (.builtin "dict.values") [.ref d] [] []) _ X.xe s1
  refine method_meetsIn F.slot_dict_values F.entry_dict_values rfl (PySem.evalArgs_none ⟨rfl, hdo.typeIs, F.args_dict_values_1 _, _, meets_dict_values (mixKind X.prog X.w) d hs0, ⟨vs, hdo⟩, ?_⟩)
  refine Calls.spliced_nil ?_
  refine PySem.W.kdl_call (PySem.W.kdl_values (knd := mixKind X.prog X.w) (kvs := vs) (ep := ep)) (I1.ok.hd hc) ⟨⟨_, Heap.get?_push_size _ rfl, rfl, rfl⟩, hat.push _⟩ (by omega) ?_
  intro h' tk acc c' hk hD hacc
  have ev : acc.toList = vs.map (·.2) := PySem.W.kdl_vals_eq acc.toList (by rw [Array.length_toList]; exact hacc.1) (fun j v e => hacc.2 j v (by rw [← Array.getElem?_toList]; exact e))
  have nf := I2.hok.fresh (Nat.le_refl _)
  refine ⟨.ref _, upd H1 _ (.lst (kvs.map (·.2))), I2.laid (t' := tk) hk (Nat.le_refl _) ?_, rfl, q _ nf⟩
  refine ⟨by rw [List.length_map]; exact hz, acc.toList, c', ?_, ?_⟩
  · rw [ev]
    exact vals_snd kv
  · rw [Array.toArray_toList]
    exact hD
/-- len(set(xs)), xs numbers -/
theorem pe_lenSetN {a : Expr} {ta : TE} {p2 q : Pos} (hg : Gl X "len") (hm : X.mg "len" = none) (hg2 : Gl X "set") (hm2 : X.mg "set" = none) (ha : PE X a ta) (hc : X.calm = true := by rfl)
    (na : starEach [a] X.env = (false, eval a X.env) :: starEach [] X.env := by rfl) : PE X (.Call (.Name "len" p) [.Call (.Name "set" p2) [a] [] q] [] pos)
      (fun σ H Q => ta σ H fun x H1 => ∃ (l : Addr) (ns : List Int), x = .ref l ∧ SqL X.K H1 l (ns.map V.int) ∧ ns.length ≤ 4000 ∧ Q (.int ((firstMet (fun i => ns.getD i 0) ns.length).length : Nat)) H1) := by
  refine ⟨?_⟩
  intro pins s σ H Q I h
  refine Call_ (ld_blt I hg hm bLen ?_)
  refine PyProof.Rows.callWith_builtin1 (PyProof.Rows.args_cons ?_ rfl) rfl rfl
  refine Call_ (ld_blt I hg2 hm2 bSet ?_)
  refine PyProof.Rows.callWith_type1 (PyProof.Rows.args_cons (thn (ha.run pins s σ H _ I h) ?_) na) na rfl
  rintro v s1 ⟨x, H1, I1, r1, l, ns, rfl, hq, hl, q1⟩
  refine PyProof.Rows.args_nil ?_
  cases r1
  obtain ⟨its, r, pl, hz⟩ := I1.list hq
  have hlen : its.toArray.size = ns.length := by rw [List.size_toArray, ← r.length, List.length_map]
  refine call_set_list (I1.ok.hd hc) pl.isList (by simpa using RZ.intsAre_vals r) (by rw [hlen]; unfold scanBound; omega) ?_
  intro h' tk hS hk
  refine PyProof.Rows.args_nil ?_
  rw [hlen] at hS
  obtain ⟨o, es, ep, t, ho, hex, hd, _, _, _, hf, hn⟩ := hS
  have I2 : Inv X pins σ H1 { s1 with heap := h', toks := tk } := I1.kept fun b o e => hk b o (Heap.lt_size e) e
  have hfl : ∀ k : Nat, (firstMet (fun i => ns.getD i 0) k).length ≤ k := by
    intro k
    induction k with
    | zero => simp [firstMet]
    | succ k ih =>
      rw [PyProof.Rows.firstMet_succ]
      unfold step_dedup
      split
      · omega
      · rw [List.length_append, List.length_singleton]
        omega
  have := hfl ns.length
  exact call_len_set ho hex hd hf (by rw [hn]; omega) ⟨.int ((firstMet (fun i => ns.getD i 0) ns.length).length : Nat), H1, I2.tok _, ⟨_, by rw [hn]⟩, q1⟩
end
theorem firstMet_D (ns : List Nat) (k : Nat) (hk : k ≤ ns.length) : firstMet (fun i => (ns.map fun n : Nat => (n : Int)).getD i 0) k = (D (ns.take k)).map fun n : Nat => (n : Int) := by
  induction k with
  | zero => rfl
  | succ k ih =>
    have hlt : k < ns.length := by omega
    have e1 : (ns.map fun n : Nat => (n : Int)).getD k 0 = (ns[k] : Int) := by
      rw [List.getD_eq_getElem?_getD, List.getElem?_map, List.getElem?_eq_getElem hlt]
      rfl
    rw [PyProof.Rows.firstMet_succ, ih (by omega), List.take_add_one, List.getElem?_eq_getElem hlt]
    show (if (((D (ns.take k)).map fun n : Nat => (n : Int)).any (· == (ns.map fun n : Nat => (n : Int)).getD k 0)) then _ else _) = (D (ns.take k ++ [ns[k]])).map _
    rw [e1, D_append]
    show _ = (push (D (ns.take k)) ns[k]).map _
    by_cases h : ns[k] ∈ D (ns.take k)
    · rw [push_mem h, if_pos]
      refine List.any_eq_true.mpr ⟨_, List.mem_map_of_mem h, by simp⟩
    · rw [push_new h, if_neg, List.map_append]
      · rfl
      · intro z
        obtain ⟨y, hy, ey⟩ := List.any_eq_true.mp z
        obtain ⟨m, hm, em⟩ := List.mem_map.mp hy
        have e2 : y = (ns[k] : Int) := eq_of_beq ey
        have : m = ns[k] := by
          rw [← em] at e2
          omega
        exact h (by rw [← this]; exact hm)
end Rg

/-! dict comprehensions: over a list, over a range; given to a local name -/
namespace Rg
open PySem PySem.Spec PyProof.Rows L2 Mach
section
variable {g : TG} {tt : TT} {tk tv : TE} {vs : List Nat} {σ : L2.St} {H1 : Hp} {D : Addr} {Qd : Hp → Prop}
/-- what one turn of a dict comprehension asks -/
abbrev DcTurn (g : TG) (tt : TT) (tk tv : TE) (vs : List Nat) (σ : L2.St) (D : Addr) (Nx : Hp → Prop) (x : V) (H : Hp) : Prop :=
  g x (wipe σ vs) H fun σ2 H2 => wipe σ2 vs = wipe σ vs ∧ tt σ2 H2 fun b H3 =>
    if b = true then tk σ2 H3 fun y H4 => tv σ2 H4 fun z H5 => ∃ kvs k, y = kV k ∧ H5 D = some (.dK kvs) ∧ kvs.length < sizeLine ∧ Nx (upd H5 D (.dK (putK kvs k z))) else Nx H3
theorem dc_list {K : PySem.W.Frag} {a : Addr} {xs : List V} (Pv : Nat → Hp → Prop) (h0 : Pv 0 (upd H1 D (.dK []))) (hl : ∀ i H, i ≤ xs.length → Pv i H → SqL K H a xs)
    (hs : ∀ i x H, xs[i]? = some x → Pv i H → DcTurn g tt tk tv vs σ D (Pv (i + 1)) x H) (hd : ∀ H, Pv xs.length H → Qd H) :
    ∃ W : Nat → Nat → Hp → Prop, (∃ m, W 0 m (upd H1 D (.dK []))) ∧ ∀ i m H, W i m H →
      ((Itl K a).stop i H ∧ Qd H) ∨ ((Itl K a).go i H ∧ ∃ Nx : Hp → Prop, (∀ H', Nx H' → ∃ m', m' < m ∧ W (i + 1) m' H') ∧ ∀ x H', (Itl K a).yld i H x H' → DcTurn g tt tk tv vs σ D Nx x H') := by
  refine ⟨fun i m H => m = xs.length - i ∧ i ≤ xs.length ∧ Pv i H, ⟨_, rfl, Nat.zero_le _, h0⟩, ?_⟩
  rintro i m H ⟨rfl, hi, hp⟩
  have hq := hl i H hi hp
  by_cases hlt : i < xs.length
  · right
    refine ⟨⟨xs, xs[i], hq, List.getElem?_eq_getElem hlt⟩, Pv (i + 1), fun H' z => ⟨xs.length - (i + 1), by omega, rfl, by omega, z⟩, ?_⟩
    rintro x H' ⟨rfl, hy⟩
    exact hs i x _ (hy xs hq) hp
  · left
    have e : i = xs.length := by omega
    subst e
    exact ⟨⟨xs, hq, Nat.le_refl _⟩, hd H hp⟩
theorem dc_range {lo : Int} {n : Nat} (Pv : Nat → Hp → Prop) (h0 : Pv 0 (upd H1 D (.dK [])))
    (hs : ∀ i H, i < n → Pv i H → DcTurn g tt tk tv vs σ D (Pv (i + 1)) (.int (lo + i)) H) (hd : ∀ H, Pv n H → Qd H) :
    ∃ W : Nat → Nat → Hp → Prop, (∃ m, W 0 m (upd H1 D (.dK []))) ∧ ∀ i m H, W i m H →
      ((Itr lo n).stop i H ∧ Qd H) ∨ ((Itr lo n).go i H ∧ ∃ Nx : Hp → Prop, (∀ H', Nx H' → ∃ m', m' < m ∧ W (i + 1) m' H') ∧ ∀ x H', (Itr lo n).yld i H x H' → DcTurn g tt tk tv vs σ D Nx x H') := by
  refine ⟨fun i m H => m = n - i ∧ i ≤ n ∧ Pv i H, ⟨_, rfl, Nat.zero_le _, h0⟩, ?_⟩
  rintro i m H ⟨rfl, hi, hp⟩
  by_cases hlt : i < n
  · right
    refine ⟨hlt, Pv (i + 1), fun H' z => ⟨n - (i + 1), by omega, rfl, by omega, z⟩, ?_⟩
    rintro x H' ⟨rfl, rfl⟩
    exact hs i _ hlt hp
  · left
    have e : i = n := by omega
    subst e
    exact ⟨Nat.le_refl _, hd H hp⟩
end
section
variable {X : Cx}
theorem sw_trueD {kx vx : Expr} {gs : List Comprehension} {scope : Scope} {pos py : Pos} {y : Str} {l : Nat} {env : Env} (hk : env.scope.kind = .function)
    (hy : env.scope.names.lookup y = some .local) (hl : (py.line == pos.line) = true)
    (ha : (scope.names.any fun (n, k) => n == y && (k == .local || k == .cell)) = false) : swapsWith (.DictComp kx vx gs scope pos) (some (.Name y py)) l env = pure true := by
  have k1 : env.kindOf y = some .local := hy
  have k2 : env.blockKind = .function := by
    unfold Env.blockKind
    rw [hk]
    rfl
  unfold swapsWith
  simp only [k2, k1, ha, Expr.pos, hl]
  rfl
/-- name = {..} on one line, the name a local -/
theorem ps_setDc {i : Nat} {y : Str} {py : Pos} {kx vx tg iter : Expr} {ifs : List Expr} {scope : Scope} {own : List (Str × Nat)} {pos spos : Pos} {wi : TI} {g : TG} {tt : TT} {tk tv : TE}
    (hc : X.calm = true) (hN : X.N.Nodup) (hy : X.N[i]? = some y) (hyl : X.env.scope.names.lookup y = some .local)
    (hsw : swapsWith (.DictComp kx vx [⟨tg, iter, ifs, 0⟩] scope pos) (some (.Name y py)) spos.line X.env = pure true) (hi : PI X tg iter wi) (ok : BlkOk X.N X.env.scope scope own)
    (hg : ∀ (s : Shared) (H : Hp) (C : Addr) (cl : List (Str × Addr)) (fp : List Addr), PG (X.blk s H scope (compEnvC scope cl C X.env) fp) tg g)
    (ht : ∀ (s : Shared) (H : Hp) (C : Addr) (cl : List (Str × Addr)) (fp : List Addr), PTs (X.blk s H scope (compEnvC scope cl C X.env) fp) ifs tt)
    (hk : ∀ (s : Shared) (H : Hp) (C : Addr) (cl : List (Str × Addr)) (fp : List Addr), PE (X.blk s H scope (compEnvC scope cl C X.env) fp) kx tk)
    (he : ∀ (s : Shared) (H : Hp) (C : Addr) (cl : List (Str × Addr)) (fp : List Addr), PE (X.blk s H scope (compEnvC scope cl C X.env) fp) vx tv)
    (hs : ∀ x, foldedSetIterable iter X.env x = pure x := by intro _; rfl) :
    PS X (.Assign [.Name y py] (.DictComp kx vx [⟨tg, iter, ifs, 0⟩] scope pos) spos) (tAsg (tDc wi g tt tk tv (own.map (·.2))) (gName i)) := by
  refine ⟨?_⟩
  intro pins s σ H D I h
  rw [exec_Assign_Name_used _ _ _ _ hsw]
  refine wpAny_bind (wpAny_standAt (wpAny_bind ?_))
  show wpAny _ X.A (do let _ ← comprehension (.DictComp kx vx [⟨tg, iter, ifs, 0⟩] scope pos) scope X.env (firstIterPos [⟨tg, iter, ifs, 0⟩] pos) newDict false (eval iter X.env) (some (assign (.Name y py) X.env))) _ _ s
  have h' : tDc wi g tt tk tv (own.map (·.2)) σ H (fun x H1 => gName i x σ H1 D.nx) := h
  refine wpAny_bind (thn (dc_core (Qf := fun _ s' => SP X pins D .next s') hc hN I hi ok hg ht hk he hs h' ?_) (fun _ s' hq => wpAny_pure (wpAny_pure hq)))
  intro L C s' m H' I' q hn f
  show wpAny _ _ (assign (.Name y py) X.env (.ref L)) _ _ _
  refine wpAny_assign_Name (store_ok2 (v := V.ref L) I' hN hy (.inl hyl) rfl ?_ (.inr hyl))
  rintro s2 I2 ⟨a, sb, ha⟩
  obtain ⟨f0, f1, f2, f3, f4, f5⟩ := f
  have haC : C ≠ a := by
    rcases ha with z | z
    · rw [z]
      exact f1
    · exact fun e => f4 y a z e.symm
  refine ⟨m, hn.sameBut sb haC, ?_⟩
  intro h3 sb3
  exact ⟨_, H', I2.turned (t' := s2.toks) (fun b o hb e => (sb3.2 b hb).trans e) f0 f1 f3 f4 f5, q⟩
end
end Rg

/-! dicts with tuple keys made of pairs and put into one another; the keys of a dict just made, walked -/
namespace Rg
open PySem PySem.Spec PyProof.Rows L2 Mach
section
variable {X : Cx} {tg e : Expr} {td : TE}
/-- for k in e, e a dict that nobody changes from here on -/
theorem pi_keysNew (he : PE X e td) : PI X tg e (fun σ H R => td σ H fun x H1 => ∃ (d : Addr) (kvs : List (Key × V)), x = .ref d ∧ H1 d = some (.dK kvs) ∧ ∀ o, R (Itk d o kvs) (upd H1 d (.frz o (.dK kvs)))) := by
  refine ⟨?_⟩
  intro pins s σ H R I h
  refine thn (he.run pins s σ H _ I h) ?_
  rintro u s1 ⟨x, H1, I1, rx, d, kvs, ex, hd, q⟩
  subst ex
  obtain rfl : u = Value.ref d := rx
  obtain ⟨od, I2⟩ := I1.lock hd True.intro
  obtain ⟨hs, hgd, hx, es, ep, vs, hdt, hsz, kv, hm⟩ := I2.frzK (upd_same)
  refine iter_keys hs hgd hx hdt (pi_one (tk := s1.toks) I2 _ (turn_keys _ hdt) ⟨_, Heap.get?_push_size _ rfl, rfl, ?_⟩ (q od))
  rw [hsz]
  rfl
end
/-- a comprehension over such keys -/
theorem lc_keys {d : Addr} {o : Obj} {kvs : List (Key × V)} {g : TG} {tt : TT} {te : TE} {vs : List Nat} {σ : L2.St} {H1 : Hp} {D : Addr} {Qd : Hp → Prop} (Pv : Nat → Hp → Prop) (h0 : Pv 0 (upd H1 D (.lst [])))
    (hl : ∀ i H, i ≤ kvs.length → Pv i H → H d = some (.frz o (.dK kvs)))
    (hs : ∀ i k v H, kvs[i]? = some (k, v) → Pv i H → g (kV k) (wipe σ vs) H fun σ2 H2 => wipe σ2 vs = wipe σ vs ∧ tt σ2 H2 fun b H3 =>
      if b = true then te σ2 H3 fun y H4 => ∃ acc, H4 D = some (.lst acc) ∧ acc.length < sizeLine ∧ Pv (i + 1) (upd H4 D (.lst (acc ++ [y]))) else Pv (i + 1) H3) (hd : ∀ H, Pv kvs.length H → Qd H) :
    ∃ W : Nat → Nat → Hp → Prop, (∃ m, W 0 m (upd H1 D (.lst []))) ∧ ∀ i m H, W i m H →
      ((Itk d o kvs).stop i H ∧ Qd H) ∨ ((Itk d o kvs).go i H ∧ ∃ Nx : Hp → Prop, (∀ H', Nx H' → ∃ m', m' < m ∧ W (i + 1) m' H') ∧ ∀ x H', (Itk d o kvs).yld i H x H' → g x (wipe σ vs) H' fun σ2 H2 => wipe σ2 vs = wipe σ vs ∧ tt σ2 H2 fun b H3 =>
        if b = true then te σ2 H3 fun y H4 => ∃ acc, H4 D = some (.lst acc) ∧ acc.length < sizeLine ∧ Nx (upd H4 D (.lst (acc ++ [y]))) else Nx H3) := by
  refine ⟨fun i m H => m = kvs.length - i ∧ i ≤ kvs.length ∧ Pv i H, ⟨_, rfl, Nat.zero_le _, h0⟩, ?_⟩
  rintro i m H ⟨rfl, hi, p⟩
  have q := hl i H hi p
  by_cases hlt : i < kvs.length
  · right
    refine ⟨⟨q, hlt⟩, Pv (i + 1), fun H' z => ⟨kvs.length - (i + 1), by omega, rfl, by omega, z⟩, ?_⟩
    rintro x H' ⟨rfl, k, v, e, rfl⟩
    exact hs i k v _ e p
  · left
    have e : i = kvs.length := by omega
    subst e
    exact ⟨⟨q, Nat.le_refl _⟩, hd H p⟩

def mergeT (kvs more : List (List Key × V)) : List (List Key × V) := more.foldl (fun acc kv => putK acc kv.1 kv.2) kvs
theorem mergeT_len : ∀ (more kvs : List (List Key × V)), (mergeT kvs more).length ≤ kvs.length + more.length
  | [], kvs => Nat.le_refl _
  | p :: more, kvs => by
    have h1 := mergeT_len more (putK kvs p.1 p.2)
    have h2 := length_putK kvs p.1 p.2
    show (mergeT (putK kvs p.1 p.2) more).length ≤ kvs.length + (more.length + 1)
    omega
theorem KT.merge {H : Hp} : ∀ {more : List (List Key × V)} {ps : List (List Key × Addr × Value)} {kvs : List (List Key × V)} {xs : List (List Key × Addr × Value)}, KT H more ps → KT H kvs xs → KT H (mergeT kvs more) (storedAllH xs ps) := by
  intro more ps kvs xs r
  induction r generalizing kvs xs with
  | nil => exact fun z => z
  | @cons p q mo qs h t ih =>
    intro z
    obtain ⟨h1, h2, h3⟩ := h
    show KT H (mergeT (putK kvs p.1 p.2) mo) (storedAllH (storedH xs q.1 q.2.1 q.2.2) qs)
    refine ih ?_
    rw [← h1]
    exact KT.put z p.1 h2 h3
section
variable {X : Cx}
/-- the pairs of a list: at each address a tuple of the key's tuple and the value -/
abbrev PairsT (H : Hp) (ps : List Addr) (qs : List (List Key × Addr × V)) : Prop := Paired (fun (p : Addr) (q : List Key × Addr × V) => H p = some (.tup [.ref q.2.1, q.2.2]) ∧ H q.2.1 = some (.tup (q.1.map kV))) ps qs
theorem pairsT_of {pins : List (Addr × Obj)} {σ : L2.St} {H : Hp} {s : Shared} (I : Inv X pins σ H s) : ∀ {ps : List Addr} {qs : List (List Key × Addr × V)}, PairsT H ps qs →
    ∃ prs : List (List Key × Addr × Value), KT H (qs.map fun q => (q.1, q.2.2)) prs ∧ prs.length = ps.length ∧ ∀ (j : Nat) (p : Addr), ps[j]? = some p → ∃ q, prs[j]? = some q ∧ s.heap.IsTuple p #[.ref q.2.1, q.2.2]
  | _, _, .nil => ⟨[], .nil, rfl, fun j p e => by simp at e⟩
  | _, _, .cons (a := p) (b := q) h t => by
    obtain ⟨prs, r, hl, hp⟩ := pairsT_of I t
    obtain ⟨h1, h2⟩ := h
    obtain ⟨_, its, rv, o, a1, a2, n, a3⟩ := (show ObjOk X.prog X.w H s.heap p _ from I.hok p _ h1)
    cases rv with
    | cons x1 rv =>
      cases rv with
      | @cons _ u2 _ _ x2 rv =>
        cases rv
        obtain rfl := (show _ = Value.ref q.2.1 from x1)
        refine ⟨(q.1, q.2.1, u2) :: prs, .cons ⟨rfl, h2, x2⟩ r, by rw [List.length_cons, List.length_cons, hl], fun j p' e => ?_⟩
        cases j with
        | zero =>
          have e' : p = p' := Option.some.inj e
          subst e'
          exact ⟨_, rfl, ⟨o, a1, a2, n, a3⟩⟩
        | succ j =>
          obtain ⟨q', e1, e2⟩ := hp j p' (by simpa using e)
          exact ⟨q', by simpa using e1, e2⟩
/-- dict(xs) of a list of pairs whose keys are tuples -/
theorem call_dictT (hcalm : X.calm = true) (hu : X.A.units + 64 < cLine) : CallR X (.type "dict") (fun xs H Q => ∃ (a : Addr) (ps : List Addr) (qs : List (List Key × Addr × V)), xs = [.ref a] ∧ H a = some (.lst (ps.map V.ref)) ∧ PairsT H ps qs ∧
    ∀ p, H p = none → Q (.ref p) (upd H p (.dT (mergeT [] (qs.map fun q => (q.1, q.2.2)))))) := by
  intro pins s σ H xs us Q I r q
  obtain ⟨a, ps, qs, rfl, ha, hp, q⟩ := q
  obtain ⟨u, rfl, rx⟩ := vals1 r
  cases rx
  obtain ⟨hz, its, n, rv, hobj⟩ := (show ObjOk X.prog X.w H s.heap a _ from I.hok a _ ha)
  have ei := refs_at rv
  subst ei
  rw [List.length_map] at hz
  obtain ⟨prs, rel, hl, hpr⟩ := pairsT_of I hp
  have hitem : PairItems s.heap (ps.map Value.ref).toArray (fun j => ps.getD j 0) (prs.map fun q => (Value.ref q.2.1, q.2.2)) := by
    refine ⟨by simp [hl], fun j k v e => ?_⟩
    rw [List.getElem?_map] at e
    obtain ⟨q0, e0, e1⟩ := Option.map_eq_some_iff.mp e
    have hj : j < ps.length := by
      have := (List.getElem?_eq_some_iff.mp e0).1
      omega
    obtain ⟨q1, e2, e3⟩ := hpr j ps[j] (List.getElem?_eq_getElem hj)
    rw [e0] at e2
    have eq01 : q0 = q1 := Option.some.inj e2
    have hgd : ps.getD j 0 = ps[j] := by
      rw [List.getD_eq_getElem?_getD, List.getElem?_eq_getElem hj]
      rfl
    refine ⟨?_, ?_⟩
    · show (List.map Value.ref ps).toArray[j]? = some (Value.ref (ps.getD j 0))
      rw [hgd]
      simp [hj]
    · show PairAt s.heap (ps.getD j 0) k v
      rw [hgd]
      left
      rw [← eq01] at e3
      have h1 := (Prod.mk.inj e1).1
      have h2 := (Prod.mk.inj e1).2
      rw [← h1, ← h2]
      exact e3
  have hkeys : ∀ x ∈ prs, H x.2.1 = some (.tup (x.1.map kV)) := by
    have gen : ∀ {l : List (List Key × V)} {m : List (List Key × Addr × Value)}, KT H l m → ∀ x ∈ m, H x.2.1 = some (.tup (x.1.map kV)) := by
      intro l m z
      induction z with
      | nil => intro x hx; cases hx
      | @cons p q lo mo h t ih =>
        intro x hx
        rcases List.mem_cons.mp hx with e | hx
        · rw [e, ← h.1]
          exact h.2.1
        · exact ih x hx
    exact gen rel
  refine call_dict_pairsH (knd := tupleKind (mixKind X.prog X.w)) (ps := prs) (PairArg.list a _ (fun j => ps.getD j 0) (prs.map fun q => (Value.ref q.2.1, q.2.2))) (I.ok.hd hcalm) (by show X.A.units + 1 + 1 < cLine; omega)
    ⟨⟨_, n, hobj, rfl, rfl, rfl⟩, hitem⟩ ⟨by rw [List.length_map], fun i key v e => ?_⟩ (fun h' hk x hx => ?_) (by rw [List.length_map, hl]; exact hz) ?_
  · have e : (prs.map fun q => (Value.ref q.2.1, q.2.2))[i]? = some (key, v) := e
    rw [List.getElem?_map] at e
    obtain ⟨q0, e0, e1⟩ := Option.map_eq_some_iff.mp e
    have h1 := (Prod.mk.inj e1).1
    have h2 := (Prod.mk.inj e1).2
    exact ⟨q0.1, q0.2.1, by rw [e0, ← h2], h1.symm⟩
  · have hk1 := key_of I.hok (hkeys x hx)
    obtain ⟨o, items, m, ho, hc, hd, hi⟩ := hk1
    exact ⟨o, items, m, hk _ _ (Nat.ne_of_lt (Heap.lt_size ho)) (fun z => nomatch z) ho, hc, hd, hi⟩
  · intro h' tk hd' hk
    have hm : (s.heap.objs.size == sysModules) = false := beq_eq_false_iff_ne.mpr (Nat.ne_of_gt I.big)
    have nf := I.hok.fresh (Nat.le_refl _)
    refine ⟨.ref s.heap.objs.size, upd H s.heap.objs.size (.dT (mergeT [] (qs.map fun q => (q.1, q.2.2)))), I.laid (t' := tk) (fun b o e => hk b o (fun z => nomatch z) e) (Nat.le_refl _) ?_, rfl, q _ nf⟩
    obtain ⟨o, es, ep, g1, g2, g3, g4, _, g5⟩ := hd'
    refine ⟨?_, hm, _, (KT.merge rel .nil).keeps (fun b ys z => ?_), o, es, ep, g1, g2, g3, g4, g5⟩
    · refine Nat.le_trans (mergeT_len _ _) ?_
      rw [List.length_nil, Nat.zero_add, Paired.length rel, hl]
      exact hz
    · rw [upd_ne (ne_of_none z nf)]
      exact z
/-- d.update(e), both with tuple keys -/
theorem mt_updateT (hu : X.A.units + 64 < cLine) : MtR X "dict.update" (fun x xs H Q => ∃ (d o : Addr) (kvs more : List (List Key × V)), x = .ref d ∧ xs = [.ref o] ∧ H d = some (.dT kvs) ∧ H o = some (.dT more) ∧ d ≠ o ∧
    (kvs ≠ [] ∨ (more.map fun p => (tupleKind (mixKind X.prog X.w)).hash p.1).Nodup) ∧ kvs.length + more.length ≤ sizeLine ∧ Q .non (upd H d (.dT (mergeT kvs more)))) := by
  intro pins s σ H x xs v us Q I rx rs q
  obtain ⟨d, o, kvs, more, rfl, rfl, hd, ho, hne, hap, hz, q⟩ := q
  cases rx
  obtain ⟨u, rfl, ru⟩ := vals1 rs
  cases ru
  obtain ⟨z1, y1, xs1, rel1, dd1⟩ := dt_of I.hok hd
  obtain ⟨z2, y2, xs2, rel2, dd2⟩ := dt_of I.hok ho
  have l1 : kvs.length = xs1.length := Paired.length rel1
  have l2 : more.length = xs2.length := Paired.length rel2
  have ek : ∀ {l : List (List Key × V)} {m : List (List Key × Addr × Value)}, KT H l m → (l.map fun p => (tupleKind (mixKind X.prog X.w)).hash p.1) = (m.map fun p => (tupleKind (mixKind X.prog X.w)).hash p.1) := by
    intro l m z
    induction z with
    | nil => rfl
    | @cons p q lo mo h t ih =>
      rw [List.map_cons, List.map_cons, ih, h.1]
  have hty : ∀ x ∈ xs2, s.TypeIs (.ref x.2.1) "tuple" := by
    obtain ⟨_, _, _, _, _, _, _, his, _⟩ := id dd2
    exact fun x hx => tupleKind_stays.tuple (his x hx)
  refine call_update_dictH (knd := tupleKind (mixKind X.prog X.w)) (by show X.A.units + 1 < cLine; omega) hne y2 dd1 dd2 ?_ (by omega) ?_
  · rcases hap with z | z
    · left
      intro e
      apply z
      rw [e] at rel1
      cases rel1
      rfl
    · right
      rw [ek rel2] at z
      exact ⟨hty, z⟩
  · intro h' hd' ho' hs
    obtain ⟨ob, es, ep, g1, g2, g3, g4, _, g5⟩ := hd'
    refine ⟨.non, upd H d (.dT (mergeT kvs more)), d_write I (by rw [hd]; exact True.intro) hs ⟨ob, g1⟩ ⟨?_, y1, _, (KT.merge rel2 rel1).keeps (fun b ys z => ?_), ob, es, ep, g1, g2, g3, g4, g5⟩, rfl, q⟩
    · exact Nat.le_trans (mergeT_len _ _) hz
    · rw [upd_ne (ne_of z hd (fun y => by cases y))]
      exact z
end
end Rg

namespace Rg
open PySem PySem.Spec PyProof.Rows L2 Mach
def hs2 (p q : Nat) : Int := reduceHash (Builtin.Tuple.tupleHashOf [hashInt (p : Int), hashInt (q : Int)])
theorem hs2_eq (P : Program) (w : World) (p q : Nat) : (tupleKind (mixKind P w)).hash [kN p, kN q] = hs2 p q := rfl
def hsInj (n : Nat) : Bool := (List.range n).all fun p => (List.range n).all fun a => (List.range n).all fun b => decide (a = b) || !decide (hs2 p a = hs2 p b)
theorem hs_ok : hsInj 16 = true := by decide +kernel
theorem hs_inj {p a b : Nat} (hp : p < 16) (ha : a < 16) (hb : b < 16) (h : hs2 p a = hs2 p b) : a = b := by
  have h0 := hs_ok
  generalize hf : hs2 = f at h h0
  unfold hsInj at h0
  rw [hf] at h0
  have h1 := List.all_eq_true.mp (List.all_eq_true.mp (List.all_eq_true.mp h0 p (List.mem_range.mpr hp)) a (List.mem_range.mpr ha)) b (List.mem_range.mpr hb)
  rw [Bool.or_eq_true] at h1
  rcases h1 with z | z
  · exact of_decide_eq_true z
  · rw [decide_eq_true h] at z
    cases z
theorem hs_list (P : Program) (w : World) (p : Nat) : ∀ M : List Nat, (M.map fun q => (tupleKind (mixKind P w)).hash [kN p, kN q]) = M.map fun q => hs2 p q
  | [] => rfl
  | a :: M => by
    rw [List.map_cons, List.map_cons, hs_list P w p M, hs2_eq]
theorem hs_nodup {p : Nat} (hp : p < 16) : ∀ (M : List Nat), M.Nodup → (∀ q ∈ M, q < 16) → (M.map fun q => hs2 p q).Nodup
  | [], _, _ => List.nodup_nil
  | a :: M, hn, hM => by
    rw [List.nodup_cons] at hn
    rw [List.map_cons, List.nodup_cons]
    refine ⟨fun z => ?_, hs_nodup hp M hn.2 fun q hq => hM q (List.mem_cons_of_mem _ hq)⟩
    obtain ⟨b, hb, eb⟩ := List.mem_map.mp z
    have := hs_inj hp (hM b (List.mem_cons_of_mem _ hb)) (hM a List.mem_cons_self) eb
    exact hn.1 (by rw [← this]; exact hb)
end Rg

namespace Rg
open PySem PySem.Spec PyProof.Rows L2 Mach
/-! ### dicts whose keys are pairs of numbers, all with True -/
abbrev kP (x : Nat × Nat) : List Key := [kN x.1, kN x.2]
theorem kP_inj {x y : Nat × Nat} (h : kP x = kP y) : x = y := by
  obtain ⟨a, b⟩ := x
  obtain ⟨c, d⟩ := y
  obtain ⟨h1, h2⟩ := List.cons.inj h
  obtain ⟨h3, _⟩ := List.cons.inj h2
  have e1 := kN_inj h1
  have e2 := kN_inj h3
  simp only at e1 e2
  rw [e1, e2]
def tO (A : List (Nat × Nat)) : List (List Key × V) := A.map fun x => (kP x, .bl true)
theorem tO_len (A : List (Nat × Nat)) : (tO A).length = A.length := List.length_map _
theorem valV_tO {A : List (Nat × Nat)} {x : Nat × Nat} : valV (tO A) (kP x) = if x ∈ A then some (.bl true) else none := by
  induction A with
  | nil => rfl
  | cons a A ih =>
    show valV ((kP a, .bl true) :: tO A) (kP x) = _
    by_cases e : a = x
    · rw [valV_pos (by show kP a = kP x; rw [e]), if_pos (by rw [e]; exact List.mem_cons_self)]
    · rw [valV_neg (fun z => e (kP_inj z)), ih]
      by_cases h : x ∈ A
      · rw [if_pos h, if_pos (List.mem_cons_of_mem _ h)]
      · rw [if_neg h, if_neg]
        intro z
        rcases List.mem_cons.mp z with z | z
        · exact e z.symm
        · exact h z
theorem putK_tO {A : List (Nat × Nat)} {x : Nat × Nat} : putK (tO A) (kP x) (.bl true) = tO (push A x) := by
  by_cases h : x ∈ A
  · rw [push_mem h]
    unfold putK
    rw [if_pos (by rw [valV_any, valV_tO, if_pos h]; rfl)]
    unfold tO
    rw [List.map_map]
    apply List.map_congr_left
    intro y hy
    show (if kP y = kP x then (kP y, V.bl true) else (kP y, V.bl true)) = (kP y, V.bl true)
    split <;> rfl
  · rw [push_new h, putK_new _ (by rw [valV_tO, if_neg h])]
    unfold tO
    rw [List.map_append]
    rfl
theorem mergeT_tO (B A : List (Nat × Nat)) : mergeT (tO A) (tO B) = tO (pushAll A B) := by
  induction B generalizing A with
  | nil => rfl
  | cons x B ih =>
    show mergeT (putK (tO A) (kP x) (.bl true)) (tO B) = tO (pushAll (push A x) B)
    rw [putK_tO]
    exact ih _
theorem kP_tup (p q : Nat) : [nV p, nV q] = (kP (p, q)).map kV := rfl
theorem dgetT {H : Hp} {d b : Addr} {A : List (Nat × Nat)} {p q : Nat} (h : H d = some (.dT (tO A))) (hb : H b = some (.tup [nV p, nV q])) : ∃ r, DGet H d (.ref b) r ∧ r.isSome = decide ((p, q) ∈ A) := by
  refine ⟨_, DGet.t (k := kP (p, q)) h hb, ?_⟩
  rw [valV_tO]
  by_cases z : (p, q) ∈ A
  · rw [if_pos z, decide_eq_true z]
    rfl
  · rw [if_neg z, decide_eq_false z]
    rfl
theorem tO_map (h : List Key → Int) (p : Nat) : ∀ M : List Nat, ((tO (M.map fun q => (p, q))).map fun x => h x.1) = M.map fun q => h [kN p, kN q]
  | [] => rfl
  | a :: M => by
    have ih := tO_map h p M
    show h [kN p, kN a] :: ((tO (M.map fun q => (p, q))).map fun x => h x.1) = h [kN p, kN a] :: (M.map fun q => h [kN p, kN q])
    rw [ih]
theorem hs_tO {p : Nat} (hp : p < 16) {M : List Nat} (hn : M.Nodup) (hM : ∀ q ∈ M, q < 16) (P : Program) (w : World) :
    ((tO (M.map fun q => (p, q))).map fun x => (tupleKind (mixKind P w)).hash x.1).Nodup := by
  rw [tO_map, hs_list]
  exact hs_nodup hp M hn hM
/-! ### in, not in, of lists of numbers -/
theorem inV_nVs (s : Nat) (E : List Nat) : inV (nV s) (nVs E) = decide (s ∈ E) := by
  unfold inV
  by_cases h : s ∈ E
  · rw [decide_eq_true h]
    refine List.any_eq_true.mpr ⟨nV s, List.mem_map_of_mem h, ?_⟩
    show ((s : Int) == (s : Int)) = true
    simp
  · rw [decide_eq_false h]
    refine Bool.eq_false_iff.mpr fun z => ?_
    obtain ⟨y, hy, e⟩ := List.any_eq_true.mp z
    obtain ⟨n, hn, rfl⟩ := List.mem_map.mp hy
    have : ((n : Int) == (s : Int)) = true := e
    have e2 : (n : Int) = s := eq_of_beq this
    have e3 : n = s := by omega
    exact h (by rw [← e3]; exact hn)
theorem flat_nVs (E : List Nat) : (nVs E).all flatV = true := by
  refine List.all_eq_true.mpr fun v hv => ?_
  unfold nVs at hv
  obtain ⟨n, _, rfl⟩ := List.mem_map.mp hv
  rfl
end Rg
namespace Rg
open PySem PySem.Spec PyProof.Rows L2 Mach
theorem mergeK_dO (c : Nat → V) : ∀ (X L : List Nat), mergeK (dO L c) (X.map fun s => (kN s, c s)) = dO (pushAll L X) c
  | [], L => rfl
  | x :: X, L => by
    show mergeK (putK (dO L c) (kN x) (c x)) (X.map fun s => (kN s, c s)) = dO (pushAll (push L x) X) c
    rw [putK_dO]
    exact mergeK_dO c X _
theorem paired_map {α β γ : Type} {F : α → β → Prop} {G : α → γ → Prop} (f : β → γ) (h : ∀ a b, F a b → G a (f b)) : ∀ {xs : List α} {ys : List β}, Paired F xs ys → Paired G xs (ys.map f)
  | _, _, .nil => .nil
  | _, _, .cons x t => .cons (h _ _ x) (paired_map f h t)
theorem dO_at {L : List Nat} {c : Nat → V} {i : Nat} {k : Key} {v : V} (h : (dO L c)[i]? = some (k, v)) : ∃ s, L[i]? = some s ∧ k = kN s ∧ v = c s := by
  unfold dO at h
  rw [List.getElem?_map] at h
  obtain ⟨s, hs, e⟩ := Option.map_eq_some_iff.mp h
  exact ⟨s, hs, (Prod.mk.inj e).1.symm, (Prod.mk.inj e).2.symm⟩
theorem filter_snoc {α : Type} {p : α → Bool} {L : List α} {t : α} : (L ++ [t]).filter p = L.filter p ++ (if p t then [t] else []) := by
  rw [List.filter_append]
  by_cases h : p t = true
  · rw [List.filter_cons_of_pos h, List.filter_nil, if_pos h]
  · rw [List.filter_cons_of_neg h, List.filter_nil, if_neg h]
end Rg

/-! numbers, rows, machines as data -/
namespace Rg
open PySem PySem.Spec PyProof.Rows L2 Mach
def dNs (ns : List Nat) : PyData := .list (ns.map fun n : Nat => .int (n : Int))
def dRs (R : List (List Nat)) : PyData := .list (R.map dNs)
def dMa (R : List (List Nat)) (E : List Nat) : PyData := .tuple [dRs R, dNs E]
section
variable {K : PySem.W.Frag} {H : Hp}
theorem dpAll_nVs : ∀ ns : List Nat, DpAll K H (nVs ns) (ns.map fun n : Nat => .int (n : Int))
  | [] => .nil
  | n :: ns => .cons (.int _) (dpAll_nVs ns)
theorem dp_nVs {p : Addr} {ns : List Nat} (h : H p = some (.lst (nVs ns))) : Dp K H (.ref p) (dNs ns) := .lst (SqL.of h) (dpAll_nVs ns)
theorem dpAll_rows : ∀ {xs : List Addr} {R : List (List Nat)}, xs.length = R.length → (∀ (i : Nat) (x : Addr), xs[i]? = some x → H x = some (.lst (nVs (rowOf R i)))) → DpAll K H (xs.map V.ref) (R.map dNs)
  | [], [], _, _ => .nil
  | [], _ :: _, h, _ => by cases h
  | _ :: _, [], h, _ => by cases h
  | x :: xs, r :: R, h, k => .cons (dp_nVs (k 0 x rfl)) (dpAll_rows (by simpa using h) fun i y e => k (i + 1) y e)
theorem dp_rows {a : Addr} {xs : List Addr} {R : List (List Nat)} (h : RowsAt H a xs R) : Dp K H (.ref a) (dRs R) := .lst (SqL.of h.at_) (dpAll_rows h.len h.row)
theorem dp_mach {t p e : Addr} {xs : List Addr} {R : List (List Nat)} {E : List Nat} (ht : H t = some (.tup [.ref p, .ref e])) (hR : RowsAt H p xs R) (he : H e = some (.lst (nVs E))) : Dp K H (.ref t) (dMa R E) :=
  .tup (SqT.of ht) (.cons (dp_rows hR) (.cons (dp_nVs he) .nil))
end
/-- data that can be shown and compared: depth at most e, weight at most k -/
structure Gd (e k : Nat) (d : PyData) : Prop where
  lay : d.canLay0 = true
  shw : d.showable = true
  ish : d.intsShort 13 = true
  dep : d.depth ≤ e
  wt : d.weight ≤ k
structure GdAll (e k : Nat) (ds : List PyData) : Prop where
  lay : PyData.canLayAll0 ds = true
  shw : PyData.showableAll ds = true
  ish : PyData.intsShortAll 13 ds = true
  dep : PyData.depthAll ds ≤ e
  wt : PyData.weightAll ds ≤ k
theorem gd_none : Gd 0 0 .none := ⟨rfl, rfl, rfl, Nat.le_refl _, Nat.le_refl _⟩
theorem gd_num {n : Nat} (h : n < 32) : Gd 0 8 (.int (n : Int)) := by
  have key : ∀ m : Fin 32, (PyData.showable (.int (m.val : Int)) && PyData.intsShort 13 (.int (m.val : Int)) && decide (PyData.weight (.int (m.val : Int)) ≤ 8)) = true := by decide +kernel
  have hk := key ⟨n, h⟩
  simp only [Bool.and_eq_true, decide_eq_true_eq] at hk
  exact ⟨rfl, hk.1.1, hk.1.2, Nat.le_refl _, hk.2⟩
theorem gdAll_nil {e : Nat} : GdAll e 0 [] := ⟨rfl, rfl, rfl, Nat.zero_le _, Nat.le_refl _⟩
theorem gdAll_cons {e k m : Nat} {d : PyData} {ds : List PyData} (h : Gd e k d) (t : GdAll e m ds) : GdAll e (k + 1 + m) (d :: ds) := by
  refine ⟨?_, ?_, ?_, ?_, ?_⟩
  · simp only [PyData.canLayAll0, h.lay, t.lay, Bool.and_self]
  · simp only [PyData.showableAll, h.shw, t.shw, Bool.and_self]
  · simp only [PyData.intsShortAll, h.ish, t.ish, Bool.and_self]
  · simp only [PyData.depthAll]
    exact Nat.max_le.mpr ⟨h.dep, t.dep⟩
  · simp only [PyData.weightAll]
    have h1 := h.wt
    have h2 := t.wt
    omega
theorem gd_list {e k : Nat} {ds : List PyData} (h : GdAll e k ds) : Gd (e + 1) k (.list ds) := by
  refine ⟨?_, ?_, ?_, ?_, ?_⟩
  · simp only [PyData.canLay0, h.lay]
  · simp only [PyData.showable, h.shw]
  · simp only [PyData.intsShort, h.ish]
  · simp only [PyData.depth]
    have := h.dep
    omega
  · simp only [PyData.weight]
    exact h.wt
theorem gd_tuple {e k : Nat} {ds : List PyData} (h : GdAll e k ds) : Gd (e + 1) k (.tuple ds) := by
  refine ⟨?_, ?_, ?_, ?_, ?_⟩
  · simp only [PyData.canLay0, h.lay]
  · simp only [PyData.showable, h.shw]
  · simp only [PyData.intsShort, h.ish]
  · simp only [PyData.depth]
    have := h.dep
    omega
  · simp only [PyData.weight]
    exact h.wt
theorem Gd.le {e k e' k' : Nat} {d : PyData} (h : Gd e k d) (he : e ≤ e') (hk : k ≤ k') : Gd e' k' d := ⟨h.lay, h.shw, h.ish, Nat.le_trans h.dep he, Nat.le_trans h.wt hk⟩
theorem gdAll_const {e k : Nat} : ∀ {ds : List PyData}, (∀ d ∈ ds, Gd e k d) → GdAll e ((k + 1) * ds.length) ds
  | [], _ => gdAll_nil
  | d :: ds, h => by
    have h1 := gdAll_cons (h d List.mem_cons_self) (gdAll_const fun x hx => h x (List.mem_cons_of_mem _ hx))
    rw [List.length_cons, Nat.mul_add, Nat.mul_one, Nat.add_comm ((k + 1) * ds.length)]
    exact h1
theorem gd_dNs {ns : List Nat} (h : ∀ n ∈ ns, n < 32) : Gd 1 (9 * ns.length) (dNs ns) := by
  have h1 : GdAll 0 ((8 + 1) * (ns.map fun n : Nat => PyData.int (n : Int)).length) (ns.map fun n : Nat => PyData.int (n : Int)) := gdAll_const fun d hd => by
    obtain ⟨n, hn, rfl⟩ := List.mem_map.mp hd
    exact gd_num (h n hn)
  rw [List.length_map] at h1
  exact gd_list h1
theorem gd_dRs {R : List (List Nat)} {L : Nat} (h : ∀ r ∈ R, r.length ≤ L ∧ ∀ n ∈ r, n < 32) : Gd 2 ((9 * L + 1) * R.length) (dRs R) := by
  have h1 : GdAll 1 ((9 * L + 1) * (R.map dNs).length) (R.map dNs) := gdAll_const fun d hd => by
    obtain ⟨r, hr, rfl⟩ := List.mem_map.mp hd
    exact (gd_dNs (h r hr).2).le (Nat.le_refl _) (Nat.mul_le_mul_left _ (h r hr).1)
  rw [List.length_map] at h1
  exact gd_list h1
theorem gd_dMa {R : List (List Nat)} {E : List Nat} {L : Nat} (h : ∀ r ∈ R, r.length ≤ L ∧ ∀ n ∈ r, n < 32) (hE : ∀ n ∈ E, n < 32) : Gd 3 ((9 * L + 1) * R.length + 1 + (9 * E.length + 1)) (dMa R E) :=
  gd_tuple (gdAll_cons (gd_dRs h) (gdAll_cons ((gd_dNs hE).le (by decide) (Nat.le_refl _)) gdAll_nil))
theorem Gd.shp {e k : Nat} {d : PyData} (h : Gd e k d) (he : e ≤ 60) : SeqAt.shaped d = true := by
  unfold SeqAt.shaped
  rw [h.lay, Bool.true_and]
  have := h.dep
  exact decide_eq_true (by omega)
theorem Gd.nod {e k : Nat} {d : PyData} (h : Gd e k d) : d.hasDict = false := PyData.hasDict_of_canLay d h.lay
theorem Gd.short {e k : Nat} {d : PyData} (h : Gd e k d) (he : e ≤ 60) (hk : k ≤ 100000) : d.shown.length ≤ sizeLine := by
  have hl : PyData.layable0 d = true := by
    unfold PyData.layable0
    have h1 := h.dep
    have h2 := h.wt
    have e2 : (2 : Nat) ^ 20 = 1048576 := by decide
    rw [h.lay, decide_eq_true (show d.depth ≤ 64 by omega), decide_eq_true (show d.weight ≤ 2 ^ 20 by omega)]
    rfl
  exact Nat.le_trans (shown_le13 hl h.ish) (by decide)
theorem eqv_dNs_nil (ns : List Nat) : PyData.eqv (dNs ns) (.list []) = decide (ns = []) := by
  cases ns with
  | nil => rfl
  | cons a ns => rfl
theorem eqv_same {d : PyData} (h : d.canLay0 = true) : PyData.eqv d d = true := SeqAt.eqv_refl d h
theorem shp_dNs (ns : List Nat) : SeqAt.shaped (dNs ns) = true := by
  have h1 : ∀ l : List Nat, PyData.canLayAll0 (l.map fun n : Nat => PyData.int (n : Int)) = true ∧ PyData.depthAll (l.map fun n : Nat => PyData.int (n : Int)) = 0 := by
    intro l
    induction l with
    | nil => exact ⟨rfl, rfl⟩
    | cons a l ih => exact ⟨by simp only [List.map_cons, PyData.canLayAll0, PyData.canLay0, ih.1, Bool.and_self], by simp only [List.map_cons, PyData.depthAll, PyData.depth, ih.2, Nat.max_self]⟩
  unfold SeqAt.shaped dNs
  simp only [PyData.canLay0, PyData.depth, (h1 ns).1, (h1 ns).2, Bool.true_and]
  decide
theorem shp_nil : SeqAt.shaped (.list []) = true := rfl
end Rg

namespace Rg
open PySem PySem.Spec PyProof.Rows L2 Mach
theorem hs_ok2 : hsInj 32 = true := by decide +kernel
theorem hs_inj2 {p a b : Nat} (hp : p < 32) (ha : a < 32) (hb : b < 32) (h : hs2 p a = hs2 p b) : a = b := by
  have h0 := hs_ok2
  generalize hf : hs2 = f at h h0
  unfold hsInj at h0
  rw [hf] at h0
  have h1 := List.all_eq_true.mp (List.all_eq_true.mp (List.all_eq_true.mp h0 p (List.mem_range.mpr hp)) a (List.mem_range.mpr ha)) b (List.mem_range.mpr hb)
  rw [Bool.or_eq_true] at h1
  rcases h1 with z | z
  · exact of_decide_eq_true z
  · rw [decide_eq_true h] at z
    cases z
theorem hs_nodup2 {p : Nat} (hp : p < 32) : ∀ (M : List Nat), M.Nodup → (∀ q ∈ M, q < 32) → (M.map fun q => hs2 p q).Nodup
  | [], _, _ => List.nodup_nil
  | a :: M, hn, hM => by
    rw [List.nodup_cons] at hn
    rw [List.map_cons, List.nodup_cons]
    refine ⟨fun z => ?_, hs_nodup2 hp M hn.2 fun q hq => hM q (List.mem_cons_of_mem _ hq)⟩
    obtain ⟨b, hb, eb⟩ := List.mem_map.mp z
    have := hs_inj2 hp (hM b (List.mem_cons_of_mem _ hb)) (hM a List.mem_cons_self) eb
    exact hn.1 (by rw [← this]; exact hb)
theorem hs_tO2 {p : Nat} (hp : p < 32) {M : List Nat} (hn : M.Nodup) (hM : ∀ q ∈ M, q < 32) (P : Program) (w : World) :
    ((tO (M.map fun q => (p, q))).map fun x => (tupleKind (mixKind P w)).hash x.1).Nodup := by
  rw [tO_map, hs_list]
  exact hs_nodup2 hp M hn hM
end Rg

/-! set(xs) of a list of numbers, with its order known; {t: v} with a tuple t as the key -/
namespace Rg
open PySem PySem.Spec PyProof.Rows L2
/-- the object of an empty set -/
abbrev nilSet (w : World) : Obj := { cls := .type "set", dict := none, data := .set #[] 0 (.fresh 0 0 (!w.params.followText "set-order")) }
section
variable {P : Program} {w : World} {A : Around} {E : Value → Shared → Prop} {s : Shared}
theorem upd_loop_nums {l : Addr} {items : Array Value} {ns : List Int} (hh : A.handled = none) (hl : s.heap.IsList l items) (hit : IntsAre items.toList ns) (hb : ns.length + 1 < scanBound) (hsz : items.size = ns.length) {R : Result → Shared → Prop}
    (hR : ∀ h' tk c, SetR w h' s.heap.objs.size (fun j => decide (j ∈ ns)) c → c ≤ ns.length → (∀ b o, s.heap.get? b = some o → h'.get? b = some o) → R (.ok (.ret .none)) { s with heap := h', toks := tk }) :
    codeAny (model P w) A (.builtin "set.update.loop" ⟨[.ref s.heap.objs.size, .ref (s.heap.objs.size + 1)], []⟩) R
      { s with heap := (s.heap.push (nilSet w)).push { cls := .type "list_iterator", data := .fields #[.ref l, .int 0 0] } } := by
  obtain ⟨ol, hol, hcl, nl, hdl⟩ := id hl
  have hlt : l < s.heap.objs.size := Heap.lt_size hol
  have hz : (s.heap.push (nilSet w)).objs.size = s.heap.objs.size + 1 := Heap.size_push ..
  have hl1 : (s.heap.push (nilSet w)).IsList l items := ⟨ol, Heap.get?_push_of_some _ hol, hcl, nl, hdl⟩
  have hin : A.in1.handled = none := by simp [hh]
  have hne : l ≠ s.heap.objs.size + 1 := Nat.ne_of_lt (Nat.lt_succ_of_lt hlt)
  have hS : s.heap.objs.size ∉ [s.heap.objs.size + 1, l] := by
    simp only [List.mem_cons, List.not_mem_nil, or_false, not_or]
    exact ⟨Nat.ne_of_lt (Nat.lt_succ_self _), Nat.ne_of_gt hlt⟩
  have hval : ∀ (i : Nat) (v : Value), items[i]? = some v → ∃ k t, ns[i]? = some k ∧ v = .int k t := by
    intro i v hv
    have hi : i < ns.length := by
      have := (Array.getElem?_eq_some_iff.mp hv).1
      omega
    obtain ⟨t, e⟩ := IntsAre.int_at hit i v (by rw [Array.getElem?_toList]; exact hv)
    have e2 : ns.getD i 0 = ns[i] := by
      rw [List.getD_eq_getElem?_getD, List.getElem?_eq_getElem hi]
      rfl
    exact ⟨ns[i], t, List.getElem?_eq_getElem hi, by rw [e, e2]⟩
  refine set_update_ints ((Walks.list hin _ l hne items).toS) s.heap.objs.size hS ns hsz hb hval items.size 0 _ (by omega) (Nat.zero_le _) ?_ ?_ ?_
  · have hg : ((s.heap.push (nilSet w)).push { cls := .type "list_iterator", data := .fields #[.ref l, .int 0 0] }).get? (s.heap.objs.size + 1) = some { cls := .type "list_iterator", data := .fields #[.ref l, .int 0 0] } := by
      rw [← hz]
      exact Heap.get?_push_size _ rfl
    exact ⟨⟨_, hg, rfl, rfl⟩, hl1.push _⟩
  · exact ⟨0, Nat.le_refl 0, setR_new_at (Heap.get?_push_of_some _ (Heap.get?_push_size _ rfl))⟩
  · rintro ⟨h', g2, d2, tk, o2⟩ c hm hc hR'
    have eg : g2 = s.gens := hm.gens
    have ed : d2 = s.drawn := hm.drawn
    have eo : o2 = s.os := hm.os
    subst eg ed eo
    refine hR h' tk c hR' (by omega) fun b o e => ?_
    have hb0 := Heap.lt_size e
    refine hm.heap b o ?_ (Heap.get?_push_of_some _ (Heap.get?_push_of_some _ e))
    simp only [List.mem_cons, List.not_mem_nil, or_false, not_or]
    exact ⟨Nat.ne_of_lt hb0, Nat.ne_of_lt (Nat.lt_succ_of_lt hb0)⟩
theorem call_set_nums {l : Addr} {items : Array Value} {ns : List Int} {Q : Value → Shared → Prop} (hh : A.handled = none) (hl : s.heap.IsList l items) (hit : IntsAre items.toList ns) (hb : ns.length + 1 < scanBound)
    (h : ∀ (h' : Heap) (tk c : Nat), SetR w h' s.heap.objs.size (fun j => decide (j ∈ ns)) c → c ≤ ns.length → (∀ b o, s.heap.get? b = some o → h'.get? b = some o) → Q (.ref s.heap.objs.size) { s with heap := h', toks := tk }) :
    wpAny (model P w) A (call (.type "set") [.ref l]) Q E s := by
  have hsz : items.size = ns.length := by
    have z := IntsAre.length hit
    rwa [Array.length_toList] at z
  obtain ⟨_, _, hmro⟩ := F.called_set.mro
  have k1 := F.called_set.made
  have k2 := F.called_set.sub
  have k3 := F.called_set.notType
  have k4 := F.called_set.canCreate
  have k5 := F.typeCall_set_1 (.ref l)
  refine wpAny_call (codeAny_of_tree ?_)
  show wpAny _ _ (callAny (.type "set") _) _ _ _
  refine wpAny_pure ⟨Code.quiet_builtin _ (by decide +kernel), codeAny_builtin F.entry_type_call ?_⟩
  rw [Around.under_plain (weight_type_call_type "set" [.ref l] []) rfl]
  repeat (any_goals (first | assumption | wp_step))
  refine codeAny_mono (code_set_led1 (.ref l) (E := E) (Q₁ := fun obj s₁ => obj = .ref s.heap.objs.size ∧ s₁ = { s with heap := s.heap.push (nilSet w) }) ⟨rfl, rfl⟩) ?_
  intro r s₁ hr
  cases r with
  | error e => exact hr
  | ok fl =>
    cases fl with
    | ret obj =>
      obtain ⟨rfl, rfl⟩ := hr
      have gS : (s.heap.push (nilSet w)).get? s.heap.objs.size = some (nilSet w) := Heap.get?_push_size _ rfl
      have tS : Shared.TypeIs { s with heap := s.heap.push (nilSet w) } (.ref s.heap.objs.size) "set" := ⟨_, gS, rfl⟩
      have k6 := F.called_set.init.lookup
      have k7 := F.called_set.init.bind (.ref s.heap.objs.size)
      repeat (any_goals (first | assumption | wp_step))
      refine codeAny_mono (codeAny_call_builtin (R := wants (fun r s₂ => r = .none ∧ ∃ h' tk c, s₂ = { s with heap := h', toks := tk } ∧ SetR w h' s.heap.objs.size (fun j => decide (j ∈ ns)) c ∧ c ≤ ns.length ∧
          (∀ b o, s.heap.get? b = some o → h'.get? b = some o)) E) F.called_set.init.plain F.entry_set_init (check_set_init_1 tS ?_)) ?_
      · obtain ⟨⟨oc, od, oda, osl⟩, hol, hcl, nl, hdl⟩ := id hl
        simp only at hcl hdl
        subst hcl hdl
        have gl : (s.heap.push (nilSet w)).get? l = some { cls := .type "list", dict := od, data := .seq items nl, slots := osl } := Heap.get?_push_of_some _ hol
        have k8 := F.sub_list_set
        have k9 := F.sub_list_frozenset
        have k10 : (Value.type "list" == Value.type "dict") = false := by decide
        have hl1 : (s.heap.push (nilSet w)).IsList l items := ⟨_, gl, rfl, nl, rfl⟩
        unfold Builtin.«set.__init__» noKeywords Builtin.Frozenset.updateFrom
        generalize hPI : pyIter = PI
        wp_walk
        subst hPI
        refine wpAny_pyIter_list hl1 ?_
        refine wpAny_bind (wpAny_runValue ?_)
        have hz : (s.heap.push (nilSet w)).objs.size = s.heap.objs.size + 1 := Heap.size_push ..
        rw [hz]
        refine upd_loop_nums (by simp [hh]) hl hit hb hsz ?_
        intro h' tk c hS' hc' hk
        show wpAny _ _ _ _ _ _
        refine wpAny_pure ?_
        show wpAny _ _ (ret Value.none) _ _ _
        exact wpAny_pure ⟨rfl, h', tk, c, rfl, hS', hc', hk⟩
      · intro r₂ s₂ hr₂
        cases r₂ with
        | error e => exact hr₂
        | ok fl₂ =>
          cases fl₂ with
          | ret r =>
            obtain ⟨rfl, h', tk, c', rfl, hS', hc', hk'⟩ := hr₂
            repeat (any_goals (first | assumption | wp_step))
            exact h _ _ _ hS' hc' hk'
          | _ => exact hr₂.elim
    | _ => exact hr.elim
end
section
variable {X : Cx}
/-- set(xs), xs a list of numbers -/
theorem call_setN (hc : X.calm = true) : CallR X (.type "set") (fun xs H Q => ∃ (l : Addr) (ns : List Int), xs = [.ref l] ∧ SqL X.K H l (ns.map V.int) ∧ ns.length ≤ 4000 ∧
    ∀ (a : Addr) (n : Nat), H a = none → n ≤ ns.length → Q (.ref a) (upd H a (SetO X.w a (fun k => decide (k ∈ ns)) n))) := by
  intro pins s σ H xs us Q I r h
  obtain ⟨l, ns, rfl, hq, hl, q⟩ := h
  rw [Vals.ref1 r]
  obtain ⟨its, rv, pl, hz⟩ := I.list hq
  refine call_set_nums (I.ok.hd hc) pl.isList (by simpa using RZ.intsAre_vals rv) (by unfold scanBound; omega) ?_
  intro h' tk c hS hcn hk
  refine ⟨.ref s.heap.objs.size, _, I.laid hk (Nat.le_refl _) (setO_new hS), rfl, q _ _ (I.hok.fresh (Nat.le_refl _)) hcn⟩
end
end Rg

namespace Rg
open PySem PySem.Spec PyProof.Rows L2
section
variable {X : Cx}
/-- {t: v}, t a tuple of numbers and texts -/
def tDispT (tk tv : TE) : TE := fun σ H Q => ∀ p, H p = none → tk σ (upd H p (.dT [])) fun x H1 => tv σ H1 fun y H2 => H2 p = some (.dT []) ∧ ∃ (b : Addr) (k : List Key), x = .ref b ∧ H2 b = some (.tup (k.map kV)) ∧ Q (.ref p) (upd H2 p (.dT [(k, y)]))
theorem pe_dispT {k v : Expr} {tk tv : TE} {pos : Pos} (hu : X.A.units + 1 < cLine) (hk : PE X k tk) (hv : PE X v tv) : PE X (.Dict [some k] [v] pos) (tDispT tk tv) := by
  refine ⟨?_⟩
  intro pins s σ H Q I q
  have hn := I.hok.fresh (Nat.le_refl s.heap.objs.size)
  have I1 := I.laid (a := s.heap.objs.size) (o := .dT []) (h' := s.heap.push { cls := .type "dict", data := .dict #[] }) (t' := s.toks) (fun _ _ q => Heap.get?_push_of_some _ q) (Nat.le_refl _) (dt_empty s.heap I.big)
  have hp : PPs X pos [some k] [v] [(tk, tv)] := pps_cons hk hv pps_nil
  rw [arm_eval_Dict, zip_pairTrees [some k] [v] X.env pos rfl rfl, dictDisplay_pairs (pairTrees [some k] [v] X.env pos) (by intro z; cases z) (by show 1 < 17; decide)]
  refine wpAny_bind (wpAny_standAt (wpAny_bind (wpAny_subDictH (knd := tupleKind (mixKind X.prog X.w)) (Q := fun d s' => wpAny (model X.prog X.w) X.A (pure (Value.ref d)) (EP X pins σ Q) X.xe s') ?_ (by show 1 ≤ 15; decide) ?_)))
  · exact Nat.lt_of_le_of_lt (Nat.le_succ _) hu
  · refine thn (hp.run pins _ σ _ (fun ps H2 => match ps with
      | [(x, y)] => H2 s.heap.objs.size = some (.dT []) ∧ ∃ (b : Addr) (k : List Key), x = .ref b ∧ H2 b = some (.tup (k.map kV)) ∧ Q (.ref s.heap.objs.size) (upd H2 s.heap.objs.size (.dT [(k, y)]))
      | _ => False) I1 (q _ hn)) ?_
    rintro ws s2 ⟨ps, H2, I2, rel, hq⟩
    match ps, rel, hq with
    | [(x, y)], rel, hq =>
      obtain ⟨e, b, k', rfl, eb, q2⟩ := hq
      cases rel with
      | @cons _ w0 _ _ h t =>
        cases t
        obtain ⟨w1, w2⟩ := w0
        obtain ⟨h1, h2⟩ := h
        cases (show w1 = Value.ref b from h1)
        refine ⟨[(k', b, w2)], ⟨rfl, rfl, key_of I2.hok eb, trivial⟩, ?_, ?_⟩
        · obtain ⟨z, hd, xs, r0, dd⟩ := dt_of I2.hok e
          cases r0
          exact dd
        · intro h' tk dd' hs
          refine wpAny_pure ⟨.ref s.heap.objs.size, _, ?_, rfl, q2⟩
          obtain ⟨o, es, ep, ho, g2, g3, g4, _, g5⟩ := dd'
          obtain ⟨z, hd, xs, r0, dd⟩ := dt_of I2.hok e
          have hne : b ≠ s.heap.objs.size := ne_of eb e (fun z => nomatch z)
          refine d_write I2 (by rw [e]; exact True.intro) hs ⟨o, ho⟩ ⟨by show 1 ≤ sizeLine; decide, hd, [(k', b, w2)], .cons ⟨rfl, by rw [upd_ne hne]; exact eb, h2⟩ .nil, o, es, ep, ho, g2, g3, g4, g5⟩
end
end Rg

/-! paths: moves between states, sets of states as rising lists -/
namespace Mach
abbrev Mv := Nat × Int × Nat
/-- led from P by moves that read nothing -/
inductive Rch (mv : List Mv) (P : Nat → Prop) : Nat → Prop
  | base {x : Nat} : P x → Rch mv P x
  | step {y x : Nat} : Rch mv P y → (y, (-1 : Int), x) ∈ mv → Rch mv P x
theorem Rch.mono {mv : List Mv} {P Q : Nat → Prop} (h : ∀ x, P x → Q x) {x : Nat} (r : Rch mv P x) : Rch mv Q x := by
  induction r with
  | base p => exact .base (h _ p)
  | step _ m ih => exact .step ih m
structure IsSil (mv : List Mv) (P : Nat → Prop) (T : List Nat) : Prop where
  up : T.Pairwise (· < ·)
  mem : ∀ x, x ∈ T ↔ Rch mv P x
theorem rising_ext : ∀ {S T : List Nat}, S.Pairwise (· < ·) → T.Pairwise (· < ·) → (∀ x, x ∈ S ↔ x ∈ T) → S = T
  | [], [], _, _, _ => rfl
  | [], b :: T, _, _, h => by
    have := (h b).mpr List.mem_cons_self
    cases this
  | a :: S, [], _, _, h => by
    have := (h a).mp List.mem_cons_self
    cases this
  | a :: S, b :: T, hs, ht, h => by
    rw [List.pairwise_cons] at hs ht
    have e : a = b := by
      have h1 := (h a).mp List.mem_cons_self
      have h2 := (h b).mpr List.mem_cons_self
      rcases List.mem_cons.mp h1 with z | z
      · exact z
      · rcases List.mem_cons.mp h2 with y | y
        · exact y.symm
        · have z1 := ht.1 a z
          have y1 := hs.1 b y
          omega
    subst e
    refine congrArg (a :: ·) (rising_ext hs.2 ht.2 fun x => ⟨fun hx => ?_, fun hx => ?_⟩)
    · have := (h x).mp (List.mem_cons_of_mem _ hx)
      rcases List.mem_cons.mp this with z | z
      · have := hs.1 x hx
        omega
      · exact z
    · have := (h x).mpr (List.mem_cons_of_mem _ hx)
      rcases List.mem_cons.mp this with z | z
      · have := ht.1 x hx
        omega
      · exact z
theorem IsSil.uniq {mv : List Mv} {P Q : Nat → Prop} {S T : List Nat} (h : IsSil mv P S) (h' : IsSil mv Q T) (hPQ : ∀ x, P x ↔ Q x) : S = T := by
  refine rising_ext h.up h'.up fun x => ?_
  rw [h.mem, h'.mem]
  exact ⟨fun r => r.mono fun y => (hPQ y).mp, fun r => r.mono fun y => (hPQ y).mpr⟩
open Classical in
/-- the set behind P, as a rising list -/
noncomputable def silF (mv : List Mv) (P : Nat → Prop) : List Nat := if h : ∃ T, IsSil mv P T then Classical.choose h else []
theorem IsSil.eq {mv : List Mv} {P : Nat → Prop} {T : List Nat} (h : IsSil mv P T) : T = silF mv P := by
  have he : ∃ T, IsSil mv P T := ⟨T, h⟩
  unfold silF
  rw [dif_pos he]
  exact h.uniq (Classical.choose_spec he) fun _ => Iff.rfl
theorem IsSil.eq' {mv : List Mv} {P Q : Nat → Prop} {T : List Nat} (h : IsSil mv P T) (hPQ : ∀ x, P x ↔ Q x) : T = silF mv Q := by
  have hQ : IsSil mv Q T := ⟨h.up, fun x => (h.mem x).trans ⟨fun r => r.mono fun y => (hPQ y).mp, fun r => r.mono fun y => (hPQ y).mpr⟩⟩
  exact hQ.eq
/-- by one sign on -/
def Led (mv : List Mv) (T : List Nat) (k : Nat) : Nat → Prop := fun x => ∃ y ∈ T, (y, (k : Int), x) ∈ mv
noncomputable def nxS (mv : List Mv) (T : List Nat) (k : Nat) : List Nat := silF mv (Led mv T k)
/-! ### a closure, step by step -/
structure Clo (mv : List Mv) (P : Nat → Prop) (L : List Nat) (i : Nat) : Prop where
  got : ∀ x, P x → x ∈ L
  all : ∀ x ∈ L, Rch mv P x
  done : ∀ j, j < i → ∀ (hj : j < L.length), ∀ x, (L[j], (-1 : Int), x) ∈ mv → x ∈ L
theorem Clo.fin {mv : List Mv} {P : Nat → Prop} {L : List Nat} {i : Nat} (h : Clo mv P L i) (hi : L.length ≤ i) : ∀ x, x ∈ L ↔ Rch mv P x := by
  intro x
  refine ⟨h.all x, fun r => ?_⟩
  induction r with
  | base p => exact h.got _ p
  | step _ m ih =>
    obtain ⟨j, hj, e⟩ := List.mem_iff_getElem.mp ih
    exact h.done j (by omega) hj _ (by rw [e]; exact m)
theorem Clo.step {mv : List Mv} {P : Nat → Prop} {L X : List Nat} {i : Nat} (h : Clo mv P L i) (hi : i < L.length) (hX : ∀ x ∈ X, (L[i], (-1 : Int), x) ∈ mv) (hA : ∀ x, (L[i], (-1 : Int), x) ∈ mv → x ∈ L ++ X) : Clo mv P (L ++ X) (i + 1) := by
  refine ⟨fun x p => List.mem_append_left _ (h.got x p), fun x hx => ?_, fun j hj hjl x hm => ?_⟩
  · rcases List.mem_append.mp hx with z | z
    · exact h.all x z
    · exact .step (h.all _ (List.getElem_mem hi)) (hX x z)
  · by_cases e : j = i
    · subst e
      rw [List.getElem_append_left hi] at hm
      exact hA x hm
    · have hji : j < i := by omega
      have hjl' : j < L.length := by omega
      rw [List.getElem_append_left hjl'] at hm
      exact List.mem_append_left _ (h.done j hji hjl' x hm)
/-! ### how many sets there are -/
def subs : List Nat → List (List Nat)
  | [] => [[]]
  | a :: l => subs l ++ (subs l).map (a :: ·)
theorem subs_len : ∀ l : List Nat, (subs l).length = 2 ^ l.length
  | [] => rfl
  | a :: l => by
    show (subs l ++ (subs l).map (a :: ·)).length = _
    rw [List.length_append, List.length_map, subs_len l, List.length_cons, Nat.pow_succ]
    omega
theorem mem_subs : ∀ {l T : List Nat}, l.Pairwise (· < ·) → T.Pairwise (· < ·) → (∀ x ∈ T, x ∈ l) → T ∈ subs l
  | [], [], _, _, _ => List.mem_singleton.mpr rfl
  | [], b :: T, _, _, h => by
    have := h b List.mem_cons_self
    cases this
  | a :: l, [], hl, ht, _ => by
    rw [List.pairwise_cons] at hl
    exact List.mem_append_left _ (mem_subs hl.2 ht (fun x hx => nomatch hx))
  | a :: l, b :: T, hl, ht, h => by
    have hl' := hl
    have ht' := ht
    rw [List.pairwise_cons] at hl' ht'
    by_cases e : b = a
    · subst e
      refine List.mem_append_right _ (List.mem_map.mpr ⟨T, mem_subs hl'.2 ht'.2 fun x hx => ?_, rfl⟩)
      rcases List.mem_cons.mp (h x (List.mem_cons_of_mem _ hx)) with z | z
      · have := ht'.1 x hx
        omega
      · exact z
    · refine List.mem_append_left _ (mem_subs hl'.2 ht fun x hx => ?_)
      rcases List.mem_cons.mp (h x hx) with z | z
      · rcases List.mem_cons.mp (h b List.mem_cons_self) with y | y
        · exact absurd y e
        · rcases List.mem_cons.mp hx with w | w
          · rw [w]
            exact y
          · have h1 := ht'.1 x w
            have h2 := hl'.1 b y
            omega
      · exact z
/-! ### the machine of sets -/
structure SetM (mv : List Mv) (n : Nat) (B : List Nat) (T0 : List Nat) (F : List (List Nat)) (R : List (List Nat)) : Prop where
  nd : F.Nodup
  sub : ∀ T ∈ F, T ∈ subs B
  zero : F[0]? = some T0
  len : R.length ≤ F.length
  wide : ∀ i, i < R.length → (rowOf R i).length = n
  to : ∀ i T, i < R.length → F[i]? = some T → ∀ k, k < n → F[dl R i k]? = some (nxS mv T k)
section
variable {mv : List Mv} {n : Nat} {B T0 : List Nat} {F R : List (List Nat)}
theorem SetM.le (h : SetM mv n B T0 F R) : F.length ≤ 2 ^ B.length := by
  rw [← subs_len]
  exact length_le_of_sub h.nd h.sub
theorem SetM.mok (h : SetM mv n B T0 F R) (he : F.length ≤ R.length) : Mok n R := by
  refine ⟨h.wide, fun q hq x hx => ?_⟩
  obtain ⟨k, hk, e⟩ := List.mem_iff_getElem.mp hx
  have hk' : k < n := by
    rw [← h.wide q hq]
    exact hk
  have hl := h.len
  have h1 := h.to q (F[q]'(by omega)) hq (List.getElem?_eq_getElem _) k hk'
  have h2 : dl R q k = x := by
    unfold dl
    rw [List.getD_eq_getElem?_getD, List.getElem?_eq_getElem hk, e]
    rfl
  rw [h2] at h1
  have := (List.getElem?_eq_some_iff.mp h1).1
  omega
theorem SetM.run (h : SetM mv n B T0 F R) (he : F.length ≤ R.length) : ∀ (w : List Nat), Wd n w → ∀ q T, F[q]? = some T → F[runM R q w]? = some (w.foldl (nxS mv) T)
  | [], _, _, _, e => e
  | k :: w, hw, q, T, e => by
    have hq := (List.getElem?_eq_some_iff.mp e).1
    show F[runM R (dl R q k) w]? = some (w.foldl (nxS mv) (nxS mv T k))
    exact SetM.run h he w (fun j hj => hw j (List.mem_cons_of_mem _ hj)) _ _ (h.to q T (by omega) e k (hw k List.mem_cons_self))
end
end Mach

/-! moves in the heap, dicts of successors -/
namespace Rg
open PySem PySem.Spec PyProof.Rows L2 Mach
theorem bSorted : bootBuiltins "sorted" = some (.builtin "sorted") := by decide +kernel
theorem bAny : bootBuiltins "any" = some (.builtin "any") := by decide +kernel
/-- where k leads from x, in the moves' order -/
def stp (mv : List Mv) (k : Int) (x : Nat) : List Nat := (mv.filter fun m => decide (m.1 = x ∧ m.2.1 = k)).map fun m => m.2.2
theorem mem_stp {mv : List Mv} {k : Int} {x y : Nat} : y ∈ stp mv k x ↔ (x, k, y) ∈ mv := by
  unfold stp
  rw [List.mem_map]
  constructor
  · rintro ⟨m, hm, rfl⟩
    obtain ⟨h1, h2⟩ := List.mem_filter.mp hm
    have h3 := of_decide_eq_true h2
    obtain ⟨m1, m2, m3⟩ := m
    simp only at h3
    rw [← h3.1, ← h3.2]
    exact h1
  · intro h
    exact ⟨_, List.mem_filter.mpr ⟨h, decide_eq_true ⟨rfl, rfl⟩⟩, rfl⟩
theorem stp_len (mv : List Mv) (k : Int) (x : Nat) : (stp mv k x).length ≤ mv.length := by
  unfold stp
  rw [List.length_map]
  exact List.length_filter_le _ _
theorem stp_snoc (mv : List Mv) (m : Mv) (k : Int) (x : Nat) : stp (mv ++ [m]) k x = stp mv k x ++ (if m.1 = x ∧ m.2.1 = k then [m.2.2] else []) := by
  unfold stp
  rw [filter_snoc, List.map_append]
  congr 1
  by_cases h : m.1 = x ∧ m.2.1 = k
  · rw [decide_eq_true h, if_pos rfl, if_pos h]
    rfl
  · rw [decide_eq_false h, if_neg Bool.false_ne_true, if_neg h]
    rfl
/-- d leads each number to a list of f's numbers -/
def ListsKc (c : Nat) (H : Hp) (d : Addr) (f : Nat → List Nat) : Prop := ∃ kvs : List (Key × V), H d = some (.dK kvs) ∧ kvs.length ≤ c ∧ ∀ x : Nat, (valV kvs (kN x) = none ∧ f x = []) ∨ ∃ l : Addr, valV kvs (kN x) = some (.ref l) ∧ H l = some (.lst (nVs (f x)))
abbrev ListsK (H : Hp) (d : Addr) (f : Nat → List Nat) : Prop := ListsKc 4000 H d f
theorem ListsKc.same {c : Nat} {H H' : Hp} {d : Addr} {f : Nat → List Nat} (h : ListsKc c H d f) (s : Same H H') : ListsKc c H' d f := by
  obtain ⟨kvs, h1, h2, h3⟩ := h
  refine ⟨kvs, s _ _ h1, h2, fun x => ?_⟩
  rcases h3 x with z | ⟨l, z1, z2⟩
  · exact .inl z
  · exact .inr ⟨l, z1, s _ _ z2⟩
/-- the same for pairs -/
def ListsPc (c : Nat) (H : Hp) (d : Addr) (f : Nat → Nat → List Nat) : Prop := ∃ kvs : List (List Key × V), H d = some (.dT kvs) ∧ kvs.length ≤ c ∧ ∀ x k : Nat, (valV kvs (kP (x, k)) = none ∧ f x k = []) ∨ ∃ l : Addr, valV kvs (kP (x, k)) = some (.ref l) ∧ H l = some (.lst (nVs (f x k)))
abbrev ListsP (H : Hp) (d : Addr) (f : Nat → Nat → List Nat) : Prop := ListsPc 4000 H d f
theorem ListsPc.same {c : Nat} {H H' : Hp} {d : Addr} {f : Nat → Nat → List Nat} (h : ListsPc c H d f) (s : Same H H') : ListsPc c H' d f := by
  obtain ⟨kvs, h1, h2, h3⟩ := h
  refine ⟨kvs, s _ _ h1, h2, fun x k => ?_⟩
  rcases h3 x k with z | ⟨l, z1, z2⟩
  · exact .inl z
  · exact .inr ⟨l, z1, s _ _ z2⟩
theorem ListsKc.le {c c' : Nat} {H : Hp} {d : Addr} {f : Nat → List Nat} (h : ListsKc c H d f) (hc : c ≤ c') : ListsKc c' H d f := by
  obtain ⟨kvs, h1, h2, h3⟩ := h
  exact ⟨kvs, h1, Nat.le_trans h2 hc, h3⟩
theorem ListsPc.le {c c' : Nat} {H : Hp} {d : Addr} {f : Nat → Nat → List Nat} (h : ListsPc c H d f) (hc : c ≤ c') : ListsPc c' H d f := by
  obtain ⟨kvs, h1, h2, h3⟩ := h
  exact ⟨kvs, h1, Nat.le_trans h2 hc, h3⟩
/-- what is kept where lists and dicts stand -/
theorem ListsKc.keep {c : Nat} {H H' : Hp} {d : Addr} {f g : Nat → List Nat} (h : ListsKc c H d f) (k1 : ∀ b xs, H b = some (.lst xs) → H' b = some (.lst xs)) (k2 : ∀ b xs, H b = some (.dK xs) → H' b = some (.dK xs)) (hg : ∀ x, g x = f x) : ListsKc c H' d g := by
  obtain ⟨kvs, h1, h2, h3⟩ := h
  refine ⟨kvs, k2 _ _ h1, h2, fun x => ?_⟩
  rw [hg x]
  rcases h3 x with z | ⟨l, z1, z2⟩
  · exact .inl z
  · exact .inr ⟨l, z1, k1 _ _ z2⟩
theorem ListsPc.keep {c : Nat} {H H' : Hp} {d : Addr} {f g : Nat → Nat → List Nat} (h : ListsPc c H d f) (k1 : ∀ b xs, H b = some (.lst xs) → H' b = some (.lst xs)) (k2 : ∀ b xs, H b = some (.dT xs) → H' b = some (.dT xs)) (hg : ∀ x k, g x k = f x k) : ListsPc c H' d g := by
  obtain ⟨kvs, h1, h2, h3⟩ := h
  refine ⟨kvs, k2 _ _ h1, h2, fun x k => ?_⟩
  rw [hg x k]
  rcases h3 x k with z | ⟨l, z1, z2⟩
  · exact .inl z
  · exact .inr ⟨l, z1, k1 _ _ z2⟩
/-- numbers sorted -/
theorem sorted_nums {L : List Nat} {ns : List Int} (hn : L.Nodup) (hp : ns.Perm (L.map fun n : Nat => (n : Int))) (hs : ns.Pairwise (· ≤ ·)) : ∃ T : List Nat, ns.map V.int = nVs T ∧ T.Pairwise (· < ·) ∧ (∀ x, x ∈ T ↔ x ∈ L) ∧ T.length = L.length := by
  have h0 : ∀ z ∈ ns, ∃ n : Nat, z = n := fun z hz => by
    obtain ⟨n, _, e⟩ := List.mem_map.mp (hp.mem_iff.mp hz)
    exact ⟨n, e.symm⟩
  have hT : (ns.map Int.toNat).map (fun n : Nat => (n : Int)) = ns := by
    rw [List.map_map]
    have : ∀ l : List Int, (∀ z ∈ l, ∃ n : Nat, z = n) → l.map ((fun n : Nat => (n : Int)) ∘ Int.toNat) = l := by
      intro l
      induction l with
      | nil => intro _; rfl
      | cons a l ih =>
        intro h
        obtain ⟨n, rfl⟩ := h a List.mem_cons_self
        rw [List.map_cons, ih fun z hz => h z (List.mem_cons_of_mem _ hz)]
        rfl
    exact this ns h0
  have hmem : ∀ x : Nat, x ∈ ns.map Int.toNat ↔ x ∈ L := fun x => by
    have h1 : x ∈ ns.map Int.toNat ↔ (x : Int) ∈ ns := by
      constructor
      · intro h
        rw [← hT]
        exact List.mem_map_of_mem h
      · intro h
        exact List.mem_map.mpr ⟨(x : Int), h, rfl⟩
    rw [h1, hp.mem_iff, List.mem_map]
    constructor
    · rintro ⟨n, hn', e⟩
      have : n = x := by omega
      rw [← this]
      exact hn'
    · intro h
      exact ⟨x, h, rfl⟩
  have hnd : ns.Nodup := hp.nodup_iff.mpr (by
    rw [List.Nodup, List.pairwise_map]
    exact hn.imp fun hab e => hab (by omega))
  refine ⟨ns.map Int.toNat, ?_, ?_, hmem, ?_⟩
  · unfold nVs
    conv => lhs; rw [← hT]
    rw [List.map_map]
    rfl
  · have h2 := lt_of_le_nodup ns hs hnd
    rw [← hT, List.pairwise_map] at h2
    exact h2.imp fun h => by omega
  · rw [List.length_map, hp.length_eq, List.length_map]
theorem nVs_ints (ns : List Nat) : nVs ns = (ns.map fun n : Nat => (n : Int)).map V.int := by
  unfold nVs
  rw [List.map_map]
  rfl
def tgs (mv : List Mv) : List Nat := mv.map fun m => m.2.2
theorem pushAll_len {S Y : List Nat} {mv : List Mv} (h : ∀ y ∈ Y, y ∈ tgs mv) : (pushAll S Y).length ≤ S.length + mv.length := by
  rw [pushAll_filter, List.length_append]
  have h1 := List.length_filter_le (fun x => decide (x ∉ S)) (D Y)
  have h2 : (D Y).length ≤ (tgs mv).length := length_le_of_sub (D_nodup Y) fun y hy => h y (mem_D.mp hy)
  unfold tgs at h2
  rw [List.length_map] at h2
  omega
/-- closing a list of states under silent moves -/
def spSil : Sp := fun vs H Q _ => ∃ (a d : Addr) (S : List Nat) (mv : List Mv), vs = [.ref a, .ref d] ∧ H a = some (.lst (nVs S)) ∧ ListsK H d (stp mv (-1)) ∧ S.length ≤ 1000 ∧ mv.length ≤ 100 ∧
  ∀ (H' : Hp) (t : Addr) (T : List Nat), Same H H' → H t = none → H' t = some (.tup (nVs T)) → IsSil mv (fun x => x ∈ S) T → Q (.ref t) H'
section
variable {K : PySem.W.Frag} {a : Addr} {xs : List V} {H0 : Hp} {Qd : Hp → Prop} {Body : V → Hp → (Hp → Prop) → Prop}
/-- going through a tuple, whatever is done with each -/
theorem go_tup (Pv : Nat → Hp → Prop) (h0 : Pv 0 H0) (hl : ∀ i H, i ≤ xs.length → Pv i H → SqT K H a xs) (hs : ∀ i x H, xs[i]? = some x → Pv i H → Body x H (Pv (i + 1))) (hd : ∀ H, Pv xs.length H → Qd H) :
    ∃ W : Nat → Nat → Hp → Prop, (∃ m, W 0 m H0) ∧ ∀ i m H, W i m H → ((Itt K a).stop i H ∧ Qd H) ∨ ((Itt K a).go i H ∧ ∃ Nx : Hp → Prop, (∀ H', Nx H' → ∃ m', m' < m ∧ W (i + 1) m' H') ∧ ∀ x H', (Itt K a).yld i H x H' → Body x H' Nx) := by
  refine ⟨fun i m H => m = xs.length - i ∧ i ≤ xs.length ∧ Pv i H, ⟨_, rfl, Nat.zero_le _, h0⟩, ?_⟩
  rintro i m H ⟨rfl, hi, p⟩
  have q := hl i H hi p
  by_cases hlt : i < xs.length
  · right
    refine ⟨⟨xs, xs[i], q, List.getElem?_eq_getElem hlt⟩, Pv (i + 1), fun H' z => ⟨xs.length - (i + 1), by omega, rfl, hlt, z⟩, ?_⟩
    rintro x H' ⟨rfl, hx⟩
    exact hs i x _ (hx xs q) p
  · left
    have e : i = xs.length := by omega
    subst e
    exact ⟨⟨xs, q, Nat.le_refl _⟩, hd H p⟩
theorem go_list (Pv : Nat → Hp → Prop) (h0 : Pv 0 H0) (hl : ∀ i H, i ≤ xs.length → Pv i H → SqL K H a xs) (hs : ∀ i x H, xs[i]? = some x → Pv i H → Body x H (Pv (i + 1))) (hd : ∀ H, Pv xs.length H → Qd H) :
    ∃ W : Nat → Nat → Hp → Prop, (∃ m, W 0 m H0) ∧ ∀ i m H, W i m H → ((Itl K a).stop i H ∧ Qd H) ∨ ((Itl K a).go i H ∧ ∃ Nx : Hp → Prop, (∀ H', Nx H' → ∃ m', m' < m ∧ W (i + 1) m' H') ∧ ∀ x H', (Itl K a).yld i H x H' → Body x H' Nx) := by
  refine ⟨fun i m H => m = xs.length - i ∧ i ≤ xs.length ∧ Pv i H, ⟨_, rfl, Nat.zero_le _, h0⟩, ?_⟩
  rintro i m H ⟨rfl, hi, p⟩
  have q := hl i H hi p
  by_cases hlt : i < xs.length
  · right
    refine ⟨⟨xs, xs[i], q, List.getElem?_eq_getElem hlt⟩, Pv (i + 1), fun H' z => ⟨xs.length - (i + 1), by omega, rfl, hlt, z⟩, ?_⟩
    rintro x H' ⟨rfl, hx⟩
    exact hs i x _ (hx xs q) p
  · left
    have e : i = xs.length := by omega
    subst e
    exact ⟨⟨xs, q, Nat.le_refl _⟩, hd H p⟩
end
end Rg

namespace K13
open PySem PySem.Spec PyProof.Rows L2 Rg
def topS (i : Nat) : Stmt := PySem.Challenge.pw_builttexts_k13_machines_of_paths.main.body.getD i (.Pass ⟨0, 0, 0, 0⟩)
abbrev sTake : Stmt := topS 11
theorem scTake : FnScope ["_law_bag_here", "_law_many", "_law_cell", "_law_mixed_here", "_law_drawn", "_law_early", "_law_second"] ["_law_bag_here", "_law_many"] (defScope sTake) :=
  ⟨rfl, rfl, rfl, by decide +kernel, rfl, by decide +kernel, by decide +kernel⟩

section
variable {P : Program} {w : World} {K : PySem.W.Frag} {mg : Str → Option Value} {base : Heap}

theorem ok_take {f : Addr} {fd : FuncData} {k : Nat} (F : Fun K "_law_take" "_law_take" sTake f fd) (mi : mg "int" = none) :
    FnOk P w K mg base CX0 (k + 1) f fd ["_law_bag_here", "_law_many"] spTake := by
  refine F.ok scTake (fun vs H Q E h => ?_) (fun cdv A outer s H vs Q E hr h => ?_)
  · obtain ⟨g, l, m, rfl, _⟩ := h
    rfl
  · obtain ⟨g, l, m, rfl, hB, hm0, hm1, q⟩ := h
    refine ⟨_, C8.pss_cut (ps_if (pt_cmpR op_eq (pe_ix ix_list (pv 0) pe_int (fun _ _ => rfl)) pe_int (nomark _))
        (pss_cons (ps_set (i := 2) scTake.nd rfl (.inl rfl) (pe_ix ix_list (pe_op op_cat (pe_slice sl_list (pe_ix ix_list (pv 0) pe_int (fun _ _ => rfl)) (po_some (pe_ix ix_list (pv 0) pe_int (fun _ _ => rfl))) po_none)
            (pe_lst (pa_cons pe_int pa_nil))) pe_int (fun _ _ => rfl)))
        (pss_cons (ps_augS (pv 0) pe_int get_listN pe_int ip_add set_list)
        (pss_cons (ps_asg (pe_op op_mul (pv 2) (pe_callTy call_int1 (by rfl) mi bInt (pa_cons (pe_cmpR op_ge (pv 2) (pe_op op_pow pe_int pe_int) (nomark _)) pa_nil))) (pg_sub (pv 0) pe_int set_list))
        (pss_cons (ps_set (i := 3) scTake.nd rfl (.inl rfl) (pe_op op_add (pe_op op_add (pe_op op_mul (pe_ix ix_list (pv 0) pe_int (fun _ _ => rfl)) pe_int)
            (pe_op op_mod (pe_callTy call_int1 (by rfl) mi bInt (pa_cons (pv 2) pa_nil)) pe_int)) (pe_op op_mul pe_int (pe_ix ix_list (pv 0) pe_int (fun _ _ => rfl)))))
        (pss_one (ps_asg (pe_op op_mod (pe_callTy call_int1 (by rfl) mi bInt (pa_cons (pv 3) pa_nil)) pe_int) (pg_sub (pv 0) pe_int set_list))))))) pss_nil)
      (pss_cons (ps_if (pt_cmpR op_gt (pe_ix ix_list (pv 0) pe_int (fun _ _ => rfl)) pe_int (nomark _))
        (pss_cons (ps_set (i := 4) scTake.nd rfl (.inl rfl) (pe_op op_mod (pe_callTy call_int1 (by rfl) mi bInt (pa_cons (pe_ix ix_list (pv 0) pe_int (fun _ _ => rfl)) pa_nil)) (pv 1)))
        (pss_cons (ps_asg (pe_op op_fdiv (pe_callTy call_int1 (by rfl) mi bInt (pa_cons (pe_ix ix_list (pv 0) pe_int (fun _ _ => rfl)) pa_nil)) (pv 1)) (pg_sub (pv 0) pe_int set_list))
        (pss_one (ps_ret (pv 4))))) pss_nil)
      (pss_cons (ps_set (i := 5) scTake.nd rfl (.inl rfl) (pe_op op_mod (pe_callTy call_int1 (by rfl) mi bInt (pa_cons (pe_op op_mul (pe_op op_add (pe_ix ix_list (pv 0) pe_int (fun _ _ => rfl)) pe_int) pe_int) pa_nil)) pe_int))
      (pss_cons (ps_set (i := 6) scTake.nd rfl (.inl rfl) (pe_op op_mod (pe_callTy call_int1 (by rfl) mi bInt (pa_cons (pe_op op_mul (pe_op op_mod (pe_callTy call_int1 (by rfl) mi bInt (pa_cons (pe_op op_mul (pv 5) (pv 5)) pa_nil)) pe_int) pe_int) pa_nil)) pe_int))
      (pss_one (ps_ret (pe_op op_mod (pe_callTy call_int1 (by rfl) mi bInt (pa_cons (pe_op op_fdiv (pv 6) pe_int) pa_nil)) (pv 1))))))), ?_⟩
    have pA : (0 : Int) < 2147483647 := by decide
    have pB : (0 : Int) < 1000000007 := by decide
    have pC : (0 : Int) < 998244353 := by decide
    refine ⟨fun σ H1 => ∃ c d : Option V, σ = [some (.ref g), some (.int m), c, d, none, none, none] ∧ Bag H1 g l ∧ But g H H1, ?_, ?_⟩
    · obtain ⟨x0, x1, x2, cs, hg, hl, h0, h1, h2, hc, hcl⟩ := id hB
      have ngl : l ≠ g := ne_of hl hg bag_ne
      refine ⟨_, rfl, g, _, 0, _, rfl, rfl, SqL.of hg, atI_nat (j := 0) rfl, rfl, _, rfl, ite2 (fun e => ?_) (fun e => ?_)⟩
      · -- a new cell
        refine ⟨_, rfl, g, _, 3, _, rfl, rfl, SqL.of hg, atI_nat (j := 3) rfl, _, rfl, g, _, 2, _, rfl, rfl, SqL.of hg, atI_nat (j := 2) rfl, x2, rfl, l, _, rfl, SqL.of hl, fun p1 n1 => ?_⟩
        obtain ⟨zs, ez, hz, hzl⟩ := cut_ints cs (some x2) none
        rw [ez]
        refine ⟨by show 1 ≤ sizeLine; decide, fun p2 n2 => ?_⟩
        have n12 : p1 ≠ p2 := by
          intro z
          rw [← z, upd_same] at n2
          cases n2
        refine ⟨p1, p2, _, _, rfl, rfl, by rw [upd_ne n12, upd_same], upd_same, ?_, fun p3 n3 => ?_⟩
        · rw [List.length_map]
          exact Nat.le_of_lt (small1000 (by show zs.length + 1 ≤ 1000; omega))
        obtain ⟨c, hc0, ec⟩ : ∃ c : Int, 0 ≤ c ∧ (zs.map V.int ++ [V.int 0])[0]? = some (.int c) := by
          cases zs with
          | nil => exact ⟨0, by decide, rfl⟩
          | cons z r => exact ⟨z, hc z (hz z List.mem_cons_self), rfl⟩
        refine ⟨p3, _, 0, _, rfl, rfl, SqL.of upd_same, atI_nat (j := 0) ec, ?_⟩
        have B1 : But g H (upd H p1 (.lst (zs.map V.int))) := (But.refl g H).new n1
        have B2 := B1.new (o := .lst [.int 0]) n2
        have B3 := B2.new (o := .lst (zs.map V.int ++ [V.int 0])) n3
        have b1 := hB.new (o := .lst (zs.map V.int)) n1
        have b2 := b1.new (o := .lst [.int 0]) n2
        have b3 := b2.new (o := .lst (zs.map V.int ++ [V.int 0])) n3
        have nl1 : l ≠ p1 := ne_of_none hl n1
        have ng1 : g ≠ p1 := ne_of_none hg n1
        have ng2 : g ≠ p2 := ne_of_none (by rw [upd_ne ng1]; exact hg) n2
        have ng3 : g ≠ p3 := ne_of_none (by rw [upd_ne ng2, upd_ne ng1]; exact hg) n3
        have l3 := B3 l _ ngl hl
        have g3 : (upd (upd (upd H p1 (.lst (zs.map V.int))) p2 (.lst [.int 0])) p3 (.lst (zs.map V.int ++ [V.int 0]))) g = some (BagL x0 x1 x2 l) := by
          rw [upd_ne ng3, upd_ne ng2, upd_ne ng1]
          exact hg
        generalize (upd (upd (upd H p1 (.lst (zs.map V.int))) p2 (.lst [.int 0])) p3 (.lst (zs.map V.int ++ [V.int 0]))) = H3 at B3 b3 l3 g3
        -- bag[2] += 1
        refine ⟨_, rfl, g, _, 2, _, rfl, rfl, SqL.of g3, rfl, _, _, rfl, rfl, g, _, 2, 2, rfl, rfl, g3, rfl, ?_⟩
        have B4 : But g H (upd H3 g (BagL x0 x1 (x2 + 1) l)) := B3.self
        have l4 := B4 l _ ngl hl
        -- bag[0] = cell * int(cell >= 10 ** 18)
        refine ⟨_, rfl, _, rfl, 10, 18, rfl, rfl, ⟨by decide, by decide, by decide⟩, _, _, rfl, rfl, .inr ⟨_, rfl, _, _, rfl, rfl, ?_, ?_⟩⟩
        · right
          split <;> decide
        have hy0 : 0 ≤ c * (if decide ((10 : Int) ^ (18 : Int).toNat ≤ c) then 1 else 0) := by
          split <;> omega
        refine ⟨_, rfl, g, _, 0, 0, rfl, rfl, upd_same, rfl, ?_⟩
        rw [upd_upd]
        -- mixed
        refine ⟨_, rfl, g, _, 1, _, rfl, rfl, SqL.of upd_same, atI_nat (j := 1) rfl, _, _, rfl, rfl, .inr ⟨by decide, by decide⟩, _, rfl, .inl ⟨_, rfl, _, _, rfl, rfl, pA, _, _, rfl, rfl, _, rfl, g, _, 2, _, rfl, rfl, SqL.of upd_same, atI_nat (j := 2) rfl, _, _, rfl, rfl, .inl ⟨by decide, by decide⟩, _, _, rfl, rfl, ?_⟩⟩
        refine ⟨_, rfl, .inl ⟨_, rfl, _, _, rfl, rfl, pA, _, rfl, g, _, 1, 1, rfl, rfl, upd_same, rfl, ?_⟩⟩
        rw [upd_upd]
        refine ⟨_, _, rfl, ⟨_, _, x2 + 1, cs, upd_same, ?_, hy0, Int.emod_nonneg _ (by decide), by omega, hc, hcl⟩, B3.self⟩
        rw [upd_ne ngl]
        exact l3
      · exact ⟨none, none, rfl, hB, .refl g H⟩
    · rintro σ H1 ⟨c, d, rfl, hB1, B1⟩
      obtain ⟨x0, x1, x2, cs, hg, hl, h0, h1, h2, hc, hcl⟩ := id hB1
      have ngl : l ≠ g := ne_of hl hg bag_ne
      refine ⟨_, rfl, g, _, 0, _, rfl, rfl, SqL.of hg, atI_nat (j := 0) rfl, _, _, rfl, rfl, _, rfl, ite2 (fun e => ?_) (fun e => ?_)⟩
      · refine ⟨_, rfl, g, _, 0, _, rfl, rfl, SqL.of hg, atI_nat (j := 0) rfl, .inl ⟨_, rfl, _, rfl, _, _, rfl, rfl, hm0, ?_⟩⟩
        refine ⟨_, rfl, g, _, 0, _, rfl, rfl, SqL.of hg, atI_nat (j := 0) rfl, .inl ⟨_, rfl, _, rfl, _, _, rfl, rfl, ⟨hm0, hm1⟩, _, rfl, g, _, 0, 0, rfl, rfl, hg, rfl, ?_⟩⟩
        refine ⟨_, rfl, ?_⟩
        have en : ((x0 % m).toNat : Int) = x0 % m := Int.toNat_of_nonneg (Int.emod_nonneg _ (by omega))
        have lt := Int.emod_lt_of_pos x0 hm0
        have := q (upd H1 g (BagL (x0 / m) x1 x2 l)) (x0 % m).toNat (by rw [en]; exact lt)
          ⟨x0 / m, x1, x2, cs, upd_same, by rw [upd_ne ngl]; exact hl, Int.ediv_nonneg h0 (by omega), h1, h2, hc, hcl⟩ B1.self
        unfold nV at this
        rw [en] at this
        exact this
      · refine ⟨_, rfl, g, _, 1, _, rfl, rfl, SqL.of hg, atI_nat (j := 1) rfl, _, _, rfl, rfl, _, _, rfl, rfl, .inr ⟨by decide, by decide⟩, .inl ⟨_, rfl, _, _, rfl, rfl, pB, ?_⟩⟩
        have e1 : 0 ≤ (x1 + 1) * 39373 % 1000000007 := Int.emod_nonneg _ (by decide)
        have e2 : (x1 + 1) * 39373 % 1000000007 < 1000000007 := Int.emod_lt_of_pos _ (by decide)
        have fin : ∀ z : Int, Q (V.int (z % m)) H1 := by
          intro z
          have en : ((z % m).toNat : Int) = z % m := Int.toNat_of_nonneg (Int.emod_nonneg _ (by omega))
          have lt := Int.emod_lt_of_pos z hm0
          have := q H1 (z % m).toNat (by rw [en]; exact lt) hB1 B1
          unfold nV at this
          rw [en] at this
          exact this
        refine ⟨_, rfl, _, rfl, _, _, rfl, rfl, .inl ⟨Int.lt_of_lt_of_le (by decide) e1, Int.lt_trans e2 (by decide)⟩, .inl ⟨_, rfl, _, _, rfl, rfl, pC, _, _, rfl, rfl, .inr ⟨by decide, by decide⟩, .inl ⟨_, rfl, _, _, rfl, rfl, pC, ?_⟩⟩⟩
        exact ⟨_, rfl, _, _, rfl, rfl, ⟨by decide, by decide⟩, .inl ⟨_, rfl, _, rfl, _, _, rfl, rfl, hm0, fin _⟩⟩
end
end K13

namespace K13
open PySem PySem.Spec PyProof.Rows L2 Rg Mach
abbrev sReach : Stmt := topS 1
theorem scReach : FnScope ["rows", "begin", "found", "known", "at", "state"] ["rows", "begin"] (defScope sReach) :=
  ⟨rfl, rfl, rfl, by decide +kernel, rfl, by decide +kernel, by decide +kernel⟩
def spReach : Sp := fun vs H Q _ => ∃ (a : Addr) (xs : List Addr) (R : List (List Nat)) (n b : Nat), vs = [.ref a, nV b] ∧ RowsAt H a xs R ∧ Mok n R ∧ b < R.length ∧ R.length ≤ 5000 ∧
  ∀ (H' : Hp) (p : Addr) (L : List Nat), Same H H' → H p = none → H' p = some (.lst (nVs L)) → Bfs n R b L → Q (.ref p) H'
section
variable {P : Program} {w : World} {K : PySem.W.Frag} {mg : Str → Option Value} {base : Heap}
theorem ok_reach {f : Addr} {fd : FuncData} {k : Nat} (F : Fun K "reached_from" "reached_from" sReach f fd) (ml : mg "len" = none) :
    FnOk P w K mg base CX0 (k + 1) f fd ["rows", "begin"] spReach := by
  refine F.ok scReach (fun vs H Q E h => ?_) (fun cdv A outer s H vs Q E hr h => ?_)
  · obtain ⟨a, xs, R, n, b, rfl, _⟩ := h
    rfl
  · obtain ⟨a, xs, R, n, b, rfl, hR, hM, hb, hsz, q⟩ := h
    have hu := hu_of hr
    refine ⟨_, pss_cons (ps_set (i := 2) scReach.nd rfl (.inl rfl) (pe_lst (pa_cons (pv 1) pa_nil)))
      (pss_cons (ps_set (i := 3) scReach.nd rfl (.inl rfl) (pe_disp (pps_cons (pv 1) pe_bl pps_nil) (by rfl) (by rfl) (fun z => by cases z) (by decide)))
      (pss_cons (ps_set (i := 4) scReach.nd rfl (.inl rfl) pe_int)
      (pss_cons (ps_while PassesOwn.never (pt_cmpR op_lt (pv 4) (pe_callB call_len_seq (by rfl) ml bLen (pa_cons (pv 2) pa_nil)) (nomark _))
        (pss_cons (ps_for PassesOwn.never rfl (pi_list (pe_ix ix_list (pv 0) (pe_ix ix_list (pv 2) (pv 4) (fun _ _ => rfl)) (fun _ _ => rfl))) (pg_name (i := 5) scReach.nd rfl (.inl rfl))
          (pss_one (ps_if (pt_cmp (pc_dnotin hu (pv 5) (pv 3))) (pss_cons (ps_dput hu (pv 3) (pv 5) pe_bl rfl)
            (pss_one (ps_expr (pe_bm PySem.F.plainAttrs_list PySem.F.slot_list_append PySem.F.type_list_append mt_append (pv 2) (pa_cons (pv 5) pa_nil))))) pss_nil)))
        (pss_one (ps_set (i := 4) scReach.nd rfl (.inl rfl) (pe_op op_add (pv 4) pe_int)))))
      (pss_one (ps_ret (pv 2)))))), ?_⟩
    -- found = [begin]; known = {begin: True}; at = 0
    refine ⟨_, rfl, by show 1 ≤ sizeLine; decide, fun pf nf => ?_⟩
    intro pk nk
    have nfk : pf ≠ pk := fun z => by
      rw [← z, upd_same] at nk
      cases nk
    have nk0 : H pk = none := by
      rw [upd_ne nfk.symm] at nk
      exact nk
    refine ⟨_, rfl, upd_same, [(kN b, .bl true)], rfl, by show 1 ≤ 15; decide, ?_⟩
    rw [upd_upd]
    refine ⟨fun m σ H1 => ∃ (L : List Nat) (i : Nat) (y : Option V), m = R.length - i ∧ σ = [some (.ref a), some (nV b), some (.ref pf), some (.ref pk), some (nV i), y] ∧ Same H H1 ∧
      H1 pf = some (.lst (nVs L)) ∧ H1 pk = some (.dK (dO L fun _ => .bl true)) ∧ BfsAt n R b L i, ⟨_, [b], 0, none, rfl, rfl, ?_, ?_, ?_, bfs_start hb⟩, ?_⟩
    · exact (same_new nf).trans (same_new nk)
    · rw [upd_ne nfk, upd_same]
      rfl
    · rw [upd_same]
      rfl
    · rintro m σ H1 ⟨L, i, y, rfl, rfl, sm, hf, hk, hW⟩
      have hlen := hW.len
      refine ⟨_, rfl, _, rfl, pf, _, rfl, .inl (SqL.of hf), _, _, rfl, rfl, _, rfl, ite2 (fun e => ?_) (fun e => ?_)⟩
      · have hi : i < L.length := by
          have := of_decide_eq_true e
          rw [nVs_len] at this
          omega
        have hs : L[i]? = some L[i] := List.getElem?_eq_getElem hi
        have hsl : L[i] < R.length := hW.lt _ (List.getElem_mem hi)
        obtain ⟨x, hx1, hx2⟩ := (hR.same sm).get hsl
        refine ⟨fun σ' H' => ∃ (y' : Option V), σ' = [some (.ref a), some (nV b), some (.ref pf), some (.ref pk), some (nV (i + 1)), y'] ∧ Same H H' ∧
          H' pf = some (.lst (nVs (pushAll L (rowOf R L[i])))) ∧ H' pk = some (.dK (dO (pushAll L (rowOf R L[i])) fun _ => .bl true)), ?_, ?_⟩
        · rintro σ' H' ⟨y', rfl, s1, h1, h2⟩
          exact ⟨R.length - (i + 1), by omega, _, i + 1, y', rfl, rfl, s1, h1, h2, bfs_step hM hW hs⟩
        · -- for state in rows[found[at]]
          refine ⟨_, rfl, _, rfl, _, rfl, pf, _, _, _, rfl, rfl, SqL.of hf, atI_nat (nVs_get hs), a, _, _, _, rfl, rfl, SqL.of (sm _ _ hR.at_), atI_nat hx1, x, rfl, ⟨_, SqL.of hx2⟩, ?_⟩
          have hx0 : H x = some (.lst (nVs (rowOf R L[i]))) := by
            obtain ⟨x', h1', h2'⟩ := hR.get hsl
            rw [hx1] at h1'
            cases h1'
            exact h2'
          refine for_list (K := K) (a := x) (xs := nVs (rowOf R L[i])) (fun j σ' H' => ∃ (y' : Option V), σ' = [some (.ref a), some (nV b), some (.ref pf), some (.ref pk), some (nV i), y'] ∧ Same H H' ∧
            H' pf = some (.lst (nVs (pushAll L ((rowOf R L[i]).take j)))) ∧ H' pk = some (.dK (dO (pushAll L ((rowOf R L[i]).take j)) fun _ => .bl true))) ⟨y, rfl, sm, hf, hk⟩ (fun j σ' H' _ ⟨_, _, s1, _, _⟩ => SqL.of (s1 _ _ hx0)) ?_ ?_
          · rintro j v σ' H' hj ⟨y', rfl, s1, hf1, hk1⟩
            obtain ⟨t, rfl, ht⟩ := nVs_at hj
            have htk : (rowOf R L[i]).take (j + 1) = (rowOf R L[i]).take j ++ [t] := by
              rw [List.take_add_one, ht]
              rfl
            have hnext : pushAll L ((rowOf R L[i]).take (j + 1)) = push (pushAll L ((rowOf R L[i]).take j)) t := by
              rw [htk, pushAll_append]
              rfl
            generalize hL1 : pushAll L ((rowOf R L[i]).take j) = L1 at hf1 hk1 hnext
            have hl1 : L1.length ≤ R.length := by
              refine nodup_lt_length ?_ ?_
              · rw [← hL1]
                exact pushAll_nodup hW.nodup
              · intro z hz
                rw [← hL1] at hz
                rcases mem_pushAll.mp hz with z1 | z1
                · exact hW.lt z z1
                · exact hM.lt _ hsl z (List.mem_of_mem_take z1)
            rw [hnext]
            refine ⟨_, rfl, _, rfl, pk, _, rfl, DGet.k (k := kN t) hk1, _, rfl, ?_⟩
            by_cases hm : t ∈ L1
            · rw [valV_dO_in hm, push_mem hm]
              exact iteF ⟨_, rfl, s1, hf1, hk1⟩
            · rw [valV_dO_out hm]
              refine iteT ?_
              refine ⟨_, rfl, _, rfl, pk, _, rfl, DPut.k (k := kN t) hk1 (by rw [dO_len]; exact szBig (by omega)), ?_⟩
              have hf2 : (upd H' pk (.dK (putK (dO L1 fun _ => .bl true) (kN t) (.bl true)))) pf = some (.lst (nVs L1)) := by
                rw [upd_ne nfk]
                exact hf1
              refine ⟨_, rfl, .inl ⟨rfl, _, SqL.of hf2⟩, _, rfl, pf, _, _, rfl, rfl, hf2, by rw [nVs_len]; exact szBig (by omega), ?_⟩
              refine ⟨_, rfl, ?_, ?_, ?_⟩
              · intro c o e
                rw [upd_ne (ne_of_none e nf), upd_ne (ne_of_none e nk0)]
                exact s1 _ _ e
              · rw [upd_same, push_new hm, nVs_snoc]
              · rw [upd_ne nfk.symm, upd_same]
                exact congrArg (fun z => some (HO.dK z)) (putK_dO (L := L1) (c := fun _ => .bl true) (s := t))
          · rintro σ' H' ⟨y', rfl, s1, hf1, hk1⟩
            rw [nVs_len, List.take_length] at hf1 hk1
            exact ⟨_, rfl, _, _, rfl, rfl, y', rfl, s1, hf1, hk1⟩
      · have hi : L.length ≤ i := by
          have := of_decide_eq_false (Bool.eq_false_iff.mpr e)
          rw [nVs_len] at this
          omega
        exact ⟨_, rfl, q H1 pf L sm nf hf (bfs_end hW hi)⟩
end
end K13

namespace K13
open PySem PySem.Spec PyProof.Rows L2 Rg Mach
abbrev sPart : Stmt := topS 2
theorem scPart : FnScope ["rows", "classes", "states", "numbers", "found", "state", "sign", "there"] ["rows", "classes", "states"] (defScope sPart) :=
  ⟨rfl, rfl, rfl, by decide +kernel, rfl, by decide +kernel, by decide +kernel⟩
def spPart : Sp := fun vs H Q _ => ∃ (a d l : Addr) (xs : List Addr) (R : List (List Nat)) (n b : Nat) (L : List Nat) (c : Nat → Nat), vs = [.ref a, .ref d, .ref l] ∧ RowsAt H a xs R ∧ Mok n R ∧ Bfs n R b L ∧ R.length ≤ 5000 ∧ n ≤ 5000 ∧
  H d = some (.dK (dO L fun s => nV (c s))) ∧ H l = some (.lst (nVs L)) ∧
  ∀ (H' : Hp) (p : Addr), Same H H' → H p = none → H' p = some (.dK (dO L fun s => nV (parted R L c s))) → Q (.ref p) H'
section
variable {P : Program} {w : World} {K : PySem.W.Frag} {mg : Str → Option Value} {base : Heap}
theorem ok_part {f : Addr} {fd : FuncData} {k : Nat} (F : Fun K "parted_once" "parted_once" sPart f fd) (ml : mg "len" = none) (mt : mg "tuple" = none) :
    FnOk P w K mg base CX0 (k + 1) f fd ["rows", "classes", "states"] spPart := by
  refine F.ok scPart (fun vs H Q E h => ?_) (fun cdv A outer s H vs Q E hr h => ?_)
  · obtain ⟨a, d, l, xs, R, n, b, L, c, rfl, _⟩ := h
    rfl
  · obtain ⟨a, d, l, xs, R, n, b, L, c, rfl, hR, hM, hB, hsz, hn, hd, hl, q⟩ := h
    have hu := hu_of hr
    refine ⟨_, pss_cons (ps_set (i := 3) scPart.nd rfl (.inl rfl) pe_dnewN)
      (pss_cons (ps_set (i := 4) scPart.nd rfl (.inl rfl) pe_dnewK)
      (pss_cons (ps_for PassesOwn.never rfl (pi_list (pv 2)) (pg_name (i := 5) scPart.nd rfl (.inl rfl))
        (pss_cons (ps_set (i := 6) scPart.nd rfl (.inl rfl) (pe_tup (pa_cons (pe_dget hu (pv 1) (pv 5) (fun _ _ => rfl)) (pa_cons (pe_callTy call_tuple_of (by rfl) mt bTuple (pa_cons
            (pe_lc (own := [("there", 7)]) (g := gName 7) (tt := tYes) rfl scPart.nd (pi_list (pe_ix ix_list (pv 0) (pv 5) (fun _ _ => rfl))) (blkOk_by (own := [("there", 7)]) (N := ["rows", "classes", "states", "numbers", "found", "state", "sign", "there"]) (sc := defScope sPart) (by decide +kernel))
              (fun _ _ _ _ _ => pg_name (i := 7) scPart.nd rfl (Or.inl rfl)) (fun _ _ _ _ _ => pts_nil) (fun _ _ _ _ _ => pe_dget hu (pv 1) (pv 7) (fun _ _ => rfl))) pa_nil)) pa_nil))))
        (C8.pss_cut (ps_if (pt_cmpR (op_notin_nk hr.units) (pv 6) (pv 3) rfl) (pss_one (ps_asg (pe_callB call_len_nk (by rfl) ml bLen (pa_cons (pv 3) pa_nil)) (pg_sub (pv 3) (pv 6) (set_nk hr.units)))) pss_nil)
        (pss_one (ps_dput hu (pv 4) (pv 5) (pe_ix (ix_nk hr.units) (pv 3) (pv 6) (fun _ _ => rfl)) rfl)))))
      (pss_one (ps_ret (pv 4))))), ?_⟩
    intro pn nn
    intro pf nf
    have nnf : pn ≠ pf := fun z => by
      rw [← z, upd_same] at nf
      cases nf
    have nf0 : H pf = none := by
      rw [upd_ne nnf.symm] at nf
      exact nf
    have hlR : ∀ s ∈ L, s < R.length := hB.lt
    have lenL := hB.len
    refine ⟨_, rfl, l, rfl, ⟨_, SqL.of (by rw [upd_ne (ne_of_none hl nf0), upd_ne (ne_of_none hl nn)]; exact hl)⟩, ?_⟩
    refine for_list (K := K) (a := l) (xs := nVs L) (fun i σ H1 => ∃ (y5 y6 : Option V), σ = [some (.ref a), some (.ref d), some (.ref l), some (.ref pn), some (.ref pf), y5, y6, none] ∧ Same H H1 ∧
      NkAt P w H1 pn (D ((L.take i).map (sgn R c))) ∧ H1 pf = some (.dK (dO (L.take i) fun s => nV (parted R L c s)))) ⟨none, none, rfl, ?_, ?_, ?_⟩ (fun i σ H1 _ ⟨_, _, _, s1, _⟩ => SqL.of (s1 _ _ hl)) ?_ ?_
    · exact (same_new nn).trans (same_new nf)
    · refine ⟨[], ?_, rfl, Nat.zero_le _, fun i p e => ?_⟩
      · rw [upd_ne nnf, upd_same]
        rfl
      · cases e
    · rw [upd_same]
      rfl
    · rintro i v σ H1 hi ⟨y5, y6, rfl, s1, hN, hF⟩
      obtain ⟨t, rfl, ht⟩ := nVs_at hi
      have htL : t ∈ L := List.mem_of_getElem? ht
      have hd1 := s1 _ _ hd
      obtain ⟨x, hx1, hx2⟩ := hR.get (hlR t htL)
      -- sign = (classes[state], tuple([..]))
      refine ⟨_, rfl, _, rfl, d, _, rfl, dget_dO hd1 htL, ?_⟩
      refine ⟨_, rfl, _, rfl, a, _, _, _, rfl, rfl, SqL.of (s1 _ _ hR.at_), atI_nat hx1, x, rfl, ⟨_, SqL.of (s1 _ _ hx2)⟩, fun D0 nD => ?_⟩
      refine lc_list (K := K) (a := x) (xs := nVs (rowOf R t)) (fun j H2 => Same H1 H2 ∧ H2 D0 = some (.lst (nVs (((rowOf R t).take j).map c)))) ⟨same_new nD, by rw [upd_same]; rfl⟩ (fun j H2 _ ⟨s2, _⟩ => SqL.of (s2 _ _ (s1 _ _ hx2))) ?_ ?_
      · rintro j v H2 hj ⟨s2, hD⟩
        obtain ⟨u, rfl, hu'⟩ := nVs_at hj
        have huL : u ∈ L := hB.closed htL (List.mem_of_getElem? hu')
        refine ⟨rfl, ?_⟩
        refine ⟨_, rfl, _, rfl, d, _, rfl, dget_dO (s2 _ _ hd1) huL, _, hD, ?_, ?_, ?_⟩
        · rw [nVs_len, List.length_map, List.length_take]
          have := hM.wide t (hlR t htL)
          exact szBig (by omega)
        · intro b o e
          rw [upd_ne (ne_of_none e nD)]
          exact s2 _ _ e
        · rw [upd_same, List.take_add_one, hu', List.map_append]
          exact congrArg (fun z => some (HO.lst z)) (nVs_snoc _ _).symm
      · rintro H2 ⟨s2, hD⟩
        rw [nVs_len, List.take_length] at hD
        refine ⟨D0, _, rfl, .inl ⟨SqL.of hD, fun pt nt => ?_⟩⟩
        refine ⟨by show 2 ≤ sizeLine; decide, fun ps ns => ?_⟩
        have npt : pt ≠ ps := fun z => by
          rw [← z, upd_same] at ns
          cases ns
        have s3 : Same H1 (upd (upd H2 pt (.tup (nVs ((rowOf R t).map c)))) ps (.tup [nV (c t), .ref pt])) := s2.trans ((same_new nt).trans (same_new ns))
        have hkey : KeyAt (upd (upd H2 pt (.tup (nVs ((rowOf R t).map c)))) ps (.tup [nV (c t), .ref pt])) ps (sgn R c t) :=
          ⟨pt, upd_same, by rw [upd_ne npt, upd_same]; rfl⟩
        have hN3 := hN.same s3
        have hF3 := s3 _ _ hF
        have s03 := s1.trans s3
        generalize (upd (upd H2 pt (.tup (nVs ((rowOf R t).map c)))) ps (.tup [nV (c t), .ref pt])) = H3 at s3 hkey hN3 hF3 s03
        have hmap : (L.take (i + 1)).map (sgn R c) = (L.take i).map (sgn R c) ++ [sgn R c t] := by
          rw [List.take_add_one, ht, List.map_append]
          rfl
        have hD1 : D ((L.take (i + 1)).map (sgn R c)) = push (D ((L.take i).map (sgn R c))) (sgn R c t) := by
          rw [hmap, D_append]
          rfl
        have hDl : (D ((L.take i).map (sgn R c))).length ≤ 5000 := by
          have := length_le_of_sub (D_nodup ((L.take i).map (sgn R c))) (fun x hx => mem_D.mp hx)
          rw [List.length_map, List.length_take] at this
          omega
        -- if sign not in numbers: numbers[sign] = len(numbers)
        refine ⟨fun σ H4 => σ = [some (.ref a), some (.ref d), some (.ref l), some (.ref pn), some (.ref pf), some (nV t), some (.ref ps), none] ∧ Same H H4 ∧ KeyAt H4 ps (sgn R c t) ∧
          NkAt P w H4 pn (D ((L.take (i + 1)).map (sgn R c))) ∧ H4 pf = some (.dK (dO (L.take i) fun s => nV (parted R L c s))), ?_, ?_⟩
        · refine ⟨_, rfl, _, rfl, ps, pn, _, _, rfl, rfl, hkey, hN3, _, rfl, ?_⟩
          by_cases hm : sgn R c t ∈ D ((L.take i).map (sgn R c))
          · rw [decide_eq_true hm]
            refine iteF ⟨rfl, s03, hkey, ?_, hF3⟩
            rw [hD1, push_mem hm]
            exact hN3
          · rw [decide_eq_false hm]
            refine iteT ⟨_, rfl, pn, _, rfl, hN3, ?_⟩
            refine ⟨_, rfl, _, rfl, pn, ps, _, _, rfl, rfl, rfl, hkey, hN3, hm, by omega, fun H4 k4 hN4 => ?_⟩
            have hps : ps ≠ pn := by
              obtain ⟨ys, e, _⟩ := hN3.ex
              obtain ⟨tt', e', _⟩ := hkey
              exact ne_of e' e (fun z => by cases z)
            refine ⟨rfl, Same.of_eq_but k4 s03 nn, ?_, ?_, ?_⟩
            · obtain ⟨tt', e1, e2⟩ := hkey
              obtain ⟨ys, e, _⟩ := hN3.ex
              exact ⟨tt', by rw [k4 _ hps]; exact e1, by rw [k4 _ (ne_of e2 e (fun z => by cases z))]; exact e2⟩
            · rw [hD1, push_new hm]
              exact hN4
            · rw [k4 _ nnf.symm]
              exact hF3
        · rintro σ H4 ⟨rfl, s4, hk4, hN4, hF4⟩
          -- found[state] = numbers[sign]
          have hin : sgn R c t ∈ D ((L.take (i + 1)).map (sgn R c)) := by
            rw [hD1]
            exact mem_push.mpr (.inr rfl)
          have hidx : (D ((L.take (i + 1)).map (sgn R c))).idxOf (sgn R c t) = parted R L c t := by
            unfold parted
            obtain ⟨Z, hZ⟩ := pushAll_pre (D ((L.take (i + 1)).map (sgn R c))) ((L.drop (i + 1)).map (sgn R c))
            have : D (L.map (sgn R c)) = D ((L.take (i + 1)).map (sgn R c)) ++ Z := by
              rw [← hZ, ← D_append, ← List.map_append, List.take_append_drop]
            rw [this, idxOf_pre hin]
          refine ⟨_, rfl, _, rfl, pn, ps, _, _, rfl, rfl, hk4, hN4, hin, ?_⟩
          rw [hidx]
          refine ⟨_, rfl, _, rfl, pf, _, rfl, DPut.k (k := kN t) hF4 (by rw [dO_len, List.length_take]; exact szBig (by omega)), ?_⟩
          have hnt : t ∉ L.take i := by
            intro hm
            obtain ⟨j, hj, e⟩ := List.mem_iff_getElem.mp hm
            rw [List.length_take] at hj
            rw [List.getElem_take] at e
            have hi' := (List.getElem?_eq_some_iff.mp ht)
            obtain ⟨h1, h2⟩ := hi'
            have := (List.pairwise_iff_getElem.mp hB.nodup) j i (by omega) h1 (by omega)
            exact this (by rw [e, h2])
          refine ⟨_, _, rfl, ?_, ?_, ?_⟩
          · intro b o e
            rw [upd_ne (ne_of_none e nf0)]
            exact s4 _ _ e
          · refine hN4.upd_other ?_ ?_
            · exact nnf.symm
            · intro ys e
              rw [hF4] at e
              cases e
          · rw [upd_same, List.take_add_one, ht]
            refine congrArg (fun z => some (HO.dK z)) ?_
            exact putK_dO_new (d := fun s => nV (parted R L c s)) hnt (fun _ _ => rfl)
    · rintro σ H1 ⟨y5, y6, rfl, s1, hN, hF⟩
      rw [nVs_len, List.take_length] at hF
      exact ⟨_, rfl, q H1 pf s1 nf0 hF⟩
end
end K13

namespace K13
open PySem PySem.Spec PyProof.Rows L2 Rg Mach
abbrev sHow : Stmt := topS 3
theorem scHow : FnScope ["classes"] ["classes"] (defScope sHow) := ⟨rfl, rfl, rfl, by decide +kernel, rfl, by decide +kernel, by decide +kernel⟩
def spHow : Sp := fun vs H Q _ => ∃ (d : Addr) (L : List Nat) (c : Nat → Nat), vs = [.ref d] ∧ H d = some (.dK (dO L fun s => nV (c s))) ∧ L.length ≤ 4000 ∧
  ∀ (H' : Hp), Same H H' → Q (nV (hm L c)) H'
section
variable {P : Program} {w : World} {K : PySem.W.Frag} {mg : Str → Option Value} {base : Heap}
theorem ok_how {f : Addr} {fd : FuncData} {k : Nat} (F : Fun K "how_many" "how_many" sHow f fd) (ml : mg "len" = none) (ms : mg "set" = none) (mli : mg "list" = none) :
    FnOk P w K mg base CX0 (k + 1) f fd ["classes"] spHow := by
  refine F.ok scHow (fun vs H Q E h => ?_) (fun cdv A outer s H vs Q E hr h => ?_)
  · obtain ⟨d, L, c, rfl, _⟩ := h
    rfl
  · obtain ⟨d, L, c, rfl, hd, hl, q⟩ := h
    refine ⟨_, pss_one (ps_ret (pe_lenSetN (by rfl) ml (by rfl) ms (pe_listVals rfl (pv 0) (by rfl) mli))), ?_⟩
    refine ⟨_, rfl, d, _, rfl, hd, fun p np => ?_⟩
    have ev : (dO L fun s => nV (c s)).map (·.2) = ((L.map c).map fun n : Nat => (n : Int)).map V.int := by
      unfold dO
      simp only [List.map_map]
      rfl
    refine ⟨p, (L.map c).map fun n : Nat => (n : Int), rfl, SqL.of (by rw [upd_same, ev]), by rw [List.length_map, List.length_map]; exact hl, ?_⟩
    have e2 : ((firstMet (fun i => ((L.map c).map fun n : Nat => (n : Int)).getD i 0) ((L.map c).map fun n : Nat => (n : Int)).length).length : Int) = ((hm L c : Nat) : Int) := by
      rw [List.length_map, firstMet_D _ _ (Nat.le_refl _), List.take_length, List.length_map]
      rfl
    rw [e2]
    exact q _ (same_new np)
end
end K13

namespace K13
open PySem PySem.Spec PyProof.Rows L2 Rg Mach
abbrev sCls : Stmt := topS 4
theorem scCls : FnScope ["rows", "ends", "states", "found", "later", "state"] ["rows", "ends", "states"] (defScope sCls) := ⟨rfl, rfl, rfl, by decide +kernel, rfl, by decide +kernel, by decide +kernel⟩
def spCls : Sp := fun vs H Q _ => ∃ (a d l : Addr) (xs : List Addr) (R : List (List Nat)) (n b : Nat) (L E : List Nat), vs = [.ref a, .ref d, .ref l] ∧ RowsAt H a xs R ∧ Mok n R ∧ Bfs n R b L ∧ R.length ≤ 4000 ∧ n ≤ 4000 ∧
  H d = some (.dK (dO E fun _ => .bl true)) ∧ H l = some (.lst (nVs L)) ∧
  ∀ (H' : Hp) (p : Addr) (c : Nat → Nat), Same H H' → H p = none → H' p = some (.dK (dO L fun s => nV (c s))) → (∀ s ∈ L, ∀ t ∈ L, c s = c t ↔ Alk n R E s R E t) → Q (.ref p) H'
section
variable {P : Program} {w : World} {K : PySem.W.Frag} {mg : Str → Option Value} {base : Heap}
theorem ok_cls {f fP fH : Addr} {fd fdP fdH : FuncData} {k : Nat} (F : Fun K "classes_of" "classes_of" sCls f fd)
    (FP : Fun K "parted_once" "parted_once" sPart fP fdP) (bP : Binds K fdP ["rows", "classes", "states"] []) (gP : mg "parted_once" = some (.ref fP))
    (FH : Fun K "how_many" "how_many" sHow fH fdH) (bH : Binds K fdH ["classes"] []) (gH : mg "how_many" = some (.ref fH))
    (ml : mg "len" = none) (mt : mg "tuple" = none) (ms : mg "set" = none) (mli : mg "list" = none) (mi : mg "int" = none) :
    FnOk P w K mg base CX0 (k + 2) f fd ["rows", "ends", "states"] spCls := by
  have GP : FnOk P w K mg base CX0 (k + 1) fP fdP ["rows", "classes", "states"] spPart := ok_part FP ml mt
  have GH : FnOk P w K mg base CX0 (k + 1) fH fdH ["classes"] spHow := ok_how FH ml ms mli
  refine F.ok scCls (fun vs H Q E h => ?_) (fun cdv A outer s H vs Q E hr h => ?_)
  · obtain ⟨a, d, l, xs, R, n, b, L, E', rfl, _⟩ := h
    rfl
  · obtain ⟨a, d, l, xs, R, n, b, L, E, rfl, hR, hM, hB, hsz, hn, hd, hl, q⟩ := h
    have hu := hu_of hr
    refine ⟨_, pss_cons (ps_setDc (i := 3) (own := [("state", 5)]) (g := gName 5) (tt := tYes) rfl scCls.nd rfl rfl (sw_trueD rfl rfl rfl (by decide +kernel)) (pi_list (pv 2)) (blkOk_by (own := [("state", 5)]) (N := ["rows", "ends", "states", "found", "later", "state"]) (sc := defScope sCls) (by decide +kernel))
          (fun _ _ _ _ _ => pg_name (i := 5) scCls.nd rfl (Or.inl rfl)) (fun _ _ _ _ _ => pts_nil) (fun _ _ _ _ _ => pv 5) (fun _ _ _ _ _ => pe_callTy call_int1 (by rfl) mi bInt (pa_cons (pe_cmp (pc_din hu (pv 5) (pv 1)) rfl) pa_nil)))
      (pss_cons (ps_set (i := 4) scCls.nd rfl (.inl rfl) (pe_call GP hr (by rfl) gP FP.kp bP .nil pass0 (pa_cons (pv 0) (pa_cons (pv 3) (pa_cons (pv 2) pa_nil)))))
      (pss_cons (ps_while PassesOwn.never (pt_cmpR op_gt (pe_call GH hr (by rfl) gH FH.kp bH .nil pass0 (pa_cons (pv 4) pa_nil)) (pe_call GH hr (by rfl) gH FH.kp bH .nil pass0 (pa_cons (pv 3) pa_nil)) (nomark _))
        (pss_cons (ps_set (i := 3) scCls.nd rfl (.inl rfl) (pv 4))
        (pss_one (ps_set (i := 4) scCls.nd rfl (.inl rfl) (pe_call GP hr (by rfl) gP FP.kp bP .nil pass0 (pa_cons (pv 0) (pa_cons (pv 3) (pa_cons (pv 2) pa_nil))))))))
      (pss_one (ps_ret (pv 4))))), ?_⟩
    have lenL := hB.len
    refine ⟨_, rfl, l, rfl, ⟨_, SqL.of hl⟩, fun D0 nD => ?_⟩
    refine dc_list (K := K) (a := l) (xs := nVs L) (fun i H1 => Same H H1 ∧ H1 D0 = some (.dK (dO (L.take i) fun s => nV (if s ∈ E then 1 else 0)))) ⟨same_new nD, by rw [upd_same]; rfl⟩ (fun i H1 _ ⟨s1, _⟩ => SqL.of (s1 _ _ hl)) ?_ ?_
    · rintro i v H1 hi ⟨s1, hD⟩
      obtain ⟨t, rfl, ht⟩ := nVs_at hi
      obtain ⟨r, hg, hr'⟩ := din_dO (t := t) (s1 _ _ hd)
      refine ⟨rfl, ?_⟩
      refine ⟨_, rfl, _, rfl, _, rfl, d, r, rfl, hg, .inr ⟨_, rfl, _, kN t, rfl, hD, by rw [dO_len, List.length_take]; exact szBig (by omega), ?_, ?_⟩⟩
      · intro b o e
        rw [upd_ne (ne_of_none e nD)]
        exact s1 _ _ e
      · rw [upd_same, List.take_add_one, ht]
        have hnt : t ∉ L.take i := by
          intro hm
          obtain ⟨j, hj, e⟩ := List.mem_iff_getElem.mp hm
          rw [List.length_take] at hj
          rw [List.getElem_take] at e
          obtain ⟨h1, h2⟩ := List.getElem?_eq_some_iff.mp ht
          exact (List.pairwise_iff_getElem.mp hB.nodup) j i (by omega) h1 (by omega) (by rw [e, h2])
        have ev : V.int (if r.isSome = true then 1 else 0) = nV (if t ∈ E then 1 else 0) := by
          rw [hr']
          by_cases hE : t ∈ E
          · simp [hE, nV]
          · simp [hE, nV]
        rw [ev]
        exact congrArg (fun z => some (HO.dK z)) (putK_dO_new (d := fun s => nV (if s ∈ E then 1 else 0)) hnt (fun _ _ => rfl))
    · rintro H1 ⟨s1, hD⟩
      rw [nVs_len, List.take_length] at hD
      refine ⟨_, rfl, _, rfl, _, rfl, a, D0, l, xs, R, n, b, L, _, rfl, hR.same s1, hM, hB, by omega, by omega, hD, s1 _ _ hl, fun H2 p2 s2 n2 h2 => ?_⟩
      refine ⟨fun m σ H3 => ∃ (df dl : Addr) (c : Nat → Nat), m = L.length - hm L c ∧ σ = [some (.ref a), some (.ref d), some (.ref l), some (.ref df), some (.ref dl), none] ∧ Same H H3 ∧ H dl = none ∧
        H3 df = some (.dK (dO L fun s => nV (c s))) ∧ H3 dl = some (.dK (dO L fun s => nV (parted R L c s))) ∧ MooreAt n R E L c, ⟨_, D0, p2, _, rfl, rfl, s1.trans s2, s1.free n2, s2 _ _ hD, h2, moore_start⟩, ?_⟩
      rintro m σ H3 ⟨df, dl, c, rfl, rfl, s3, ndl, hdf, hdl, hW⟩
      refine ⟨_, rfl, dl, L, _, rfl, hdl, by omega, fun H4 s4 => ?_⟩
      refine ⟨_, rfl, df, L, c, rfl, s4 _ _ hdf, by omega, fun H5 s5 => ?_⟩
      have s45 := s4.trans s5
      refine ⟨_, _, rfl, rfl, _, rfl, ite2 (fun e => ?_) (fun e => ?_)⟩
      · have hlt : hm L c < hm L (parted R L c) := by
          have := of_decide_eq_true e
          omega
        have hle := hm_le L (parted R L c)
        refine ⟨fun σ' H' => ∃ (p : Addr), σ' = [some (.ref a), some (.ref d), some (.ref l), some (.ref dl), some (.ref p), none] ∧ Same H H' ∧ H p = none ∧
          H' dl = some (.dK (dO L fun s => nV (parted R L c s))) ∧ H' p = some (.dK (dO L fun s => nV (parted R L (parted R L c) s))), ?_, ?_⟩
        · rintro σ' H' ⟨p, rfl, s6, np, h6, h7⟩
          exact ⟨L.length - hm L (parted R L c), by omega, dl, p, _, rfl, rfl, s6, np, h6, h7, moore_step hM hB hW⟩
        · refine ⟨_, rfl, ?_⟩
          refine ⟨_, rfl, _, rfl, _, rfl, a, dl, l, xs, R, n, b, L, _, rfl, hR.same (s3.trans s45), hM, hB, by omega, by omega, s45 _ _ hdl, (s3.trans s45) _ _ hl, fun H6 p6 s6 n6 h6 => ?_⟩
          exact ⟨p6, rfl, (s3.trans s45).trans s6, (s3.trans s45).free n6, s6 _ _ (s45 _ _ hdl), h6⟩
      · have hge : hm L (parted R L c) ≤ hm L c := by
          have := of_decide_eq_false (Bool.eq_false_iff.mpr e)
          omega
        exact ⟨_, rfl, q H5 dl _ (s3.trans s45) ndl (s45 _ _ hdl) (moore_end hM hB hW hge)⟩
end
end K13

namespace K13
open PySem PySem.Spec PyProof.Rows L2 Rg Mach
abbrev sLm : Stmt := topS 5
def nLm : List Str := ["rows", "ends", "begin", "states", "state", "known", "classes", "first", "order", "number", "found", "at", "one", "there"]
theorem scLm : FnScope nLm ["rows", "ends", "begin"] (defScope sLm) := ⟨rfl, rfl, rfl, by decide +kernel, rfl, by decide +kernel, by decide +kernel⟩
def scOne : Scope := match (defBody sLm).getD 7 (.Pass ⟨0, 0, 0, 0⟩) with
  | .Assign _ (.ListComp _ _ sc _) _ => sc
  | _ => defScope sLm
def spLm : Sp := fun vs H Q _ => ∃ (a e : Addr) (xs : List Addr) (R : List (List Nat)) (n b : Nat) (E : List Nat), vs = [.ref a, .ref e, nV b] ∧ RowsAt H a xs R ∧ Mok n R ∧ b < R.length ∧ R.length ≤ 4000 ∧ n ≤ 4000 ∧
  H e = some (.lst (nVs E)) ∧ E.length ≤ 4000 ∧
  ∀ (H' : Hp) (t p e' : Addr) (ys : List Addr) (R' : List (List Nat)) (E' : List Nat), Same H H' → H t = none → H p = none → H e' = none → p ≠ e' → (∀ y ∈ ys, H y = none ∧ y ≠ p ∧ y ≠ e') → ys.Nodup → H' t = some (.tup [.ref p, .ref e']) → RowsAt H' p ys R' → H' e' = some (.lst (nVs E')) →
    Least n R' E' → Alk n R' E' 0 R E b → R'.length ≤ R.length → Q (.ref t) H'
section
variable {P : Program} {w : World} {K : PySem.W.Frag} {mg : Str → Option Value} {base : Heap}
theorem ok_lm {f fR fC fP fH : Addr} {fd fdR fdC fdP fdH : FuncData} {k : Nat} (F : FunD K "least_machine" "least_machine" (defArgs sLm) (defBody sLm) (defScope sLm) [] [("begin", .int 0)] f fd)
    (FR : Fun K "reached_from" "reached_from" sReach fR fdR) (bR : Binds K fdR ["rows", "begin"] []) (gR : mg "reached_from" = some (.ref fR))
    (FC : Fun K "classes_of" "classes_of" sCls fC fdC) (bC : Binds K fdC ["rows", "ends", "states"] []) (gC : mg "classes_of" = some (.ref fC))
    (FP : Fun K "parted_once" "parted_once" sPart fP fdP) (bP : Binds K fdP ["rows", "classes", "states"] []) (gP : mg "parted_once" = some (.ref fP))
    (FH : Fun K "how_many" "how_many" sHow fH fdH) (bH : Binds K fdH ["classes"] []) (gH : mg "how_many" = some (.ref fH))
    (ml : mg "len" = none) (mt : mg "tuple" = none) (ms : mg "set" = none) (mli : mg "list" = none) (mi : mg "int" = none) (mr : mg "range" = none) :
    FnOk P w K mg base CX0 (k + 3) f fd ["rows", "ends", "begin"] spLm := by
  have GR : FnOk P w K mg base CX0 (k + 2) fR fdR ["rows", "begin"] spReach := ok_reach FR ml
  have GC : FnOk P w K mg base CX0 (k + 2) fC fdC ["rows", "ends", "states"] spCls := ok_cls FC FP bP gP FH bH gH ml mt ms mli mi
  refine F.ok scLm (fun vs H Q E h => ?_) (fun cdv A outer s H vs Q E hr h => ?_)
  · obtain ⟨a, e, xs, R, n, b, E', rfl, _⟩ := h
    rfl
  · obtain ⟨a, e, xs, R, n, b, E, rfl, hR, hM, hb, hsz, hn, he, hel, q⟩ := h
    have hu := hu_of hr
    refine ⟨_, PSs.nox (pss_cons (ps_set (i := 3) scLm.nd rfl (.inl rfl) (pe_call GR hr (by rfl) gR FR.kp bR .nil pass0 (pa_cons (pv 0) (pa_cons (pv 2) pa_nil))))
      (pss_cons (ps_set (i := 5) scLm.nd rfl (.inr rfl) (pe_dc (own := [("state", 4)]) (g := gName 4) (tt := tYes) rfl scLm.nd (pi_list (pv 1)) (blkOk_by (own := [("state", 4)]) (N := nLm) (sc := defScope sLm) (by decide +kernel))
          (fun _ _ _ _ _ => pg_name (i := 4) scLm.nd rfl (Or.inl rfl)) (fun _ _ _ _ _ => pts_nil) (fun _ _ _ _ _ => pv 4) (fun _ _ _ _ _ => pe_bl)))
      (pss_cons (ps_set (i := 6) scLm.nd rfl (.inr rfl) (pe_call GC hr (by rfl) gC FC.kp bC .nil pass0 (pa_cons (pv 0) (pa_cons (pv 5) (pa_cons (pv 3) pa_nil)))))
      (pss_cons (ps_set (i := 7) scLm.nd rfl (.inr rfl) pe_dnewK)
      (pss_cons (ps_for PassesOwn.never rfl (pi_list (pv 3)) (pg_name (i := 4) scLm.nd rfl (.inl rfl))
        (pss_one (ps_if (pt_cmp (pc_dnotin hu (pe_dget hu (pv 6) (pv 4) (fun _ _ => rfl)) (pv 7))) (pss_one (ps_dput hu (pv 7) (pe_dget hu (pv 6) (pv 4) (fun _ _ => rfl)) (pv 4) rfl)) pss_nil)))
      (pss_cons (ps_set (i := 8) scLm.nd rfl (.inr rfl) (pe_callTy (call_list_dK rfl) (by rfl) mli bList (pa_cons (pv 7) pa_nil)))
      (pss_cons (ps_set (i := 9) scLm.nd rfl (.inr rfl) (pe_dc (own := [("at", 11)]) (g := gName 11) (tt := tYes) (tk := tOp (rIxL K) (tVar 8) (tVar 11)) rfl scLm.nd (pi_range1 (by rfl) mr (pa_cons (pe_callB call_len_seq (by rfl) ml bLen (pa_cons (pv 8) pa_nil)) pa_nil)) (blkOk_by (own := [("at", 11)]) (N := nLm) (sc := defScope sLm) (by decide +kernel))
          (fun _ _ _ _ _ => pg_name (i := 11) scLm.nd rfl (Or.inl rfl)) (fun _ _ _ _ _ => pts_nil) (fun _ _ _ _ _ => pe_ix ix_list (pv 8) (pv 11) (fun _ _ => rfl)) (fun _ _ _ _ _ => pv 11)))
      (pss_cons (ps_setLc (i := 10) (own := [("one", 12)]) (g := gName 12) (tt := tYes) (te := tLc (iList K (tOp (rIxL K) (tVar 0) (tDGet (tVar 7) (tVar 12)))) (gName 13) tYes (tDGet (tVar 9) (tDGet (tVar 6) (tVar 13))) [13]) rfl scLm.nd rfl rfl (sw_true rfl rfl rfl (by decide +kernel)) (pi_list (pv 8)) (blkOk_by (own := [("one", 12)]) (N := nLm) (sc := defScope sLm) (by decide +kernel))
          (fun _ _ _ _ _ => pg_name (i := 12) scLm.nd rfl (Or.inl rfl)) (fun _ _ _ _ _ => pts_nil)
          (fun _ _ _ _ _ => pe_lc (own := [("there", 13)]) (g := gName 13) (tt := tYes) rfl scLm.nd (pi_list (pe_ix ix_list (pv 0) (pe_dget hu (pv 7) (pv 12) (fun _ _ => rfl)) (fun _ _ => rfl))) (blkOk_by (own := [("there", 13)]) (N := nLm) (sc := relS scOne (defScope sLm)) (by decide +kernel))
            (fun _ _ _ _ _ => pg_name (i := 13) scLm.nd rfl (Or.inl rfl)) (fun _ _ _ _ _ => pts_nil) (fun _ _ _ _ _ => pe_dget hu (pv 9) (pe_dget hu (pv 6) (pv 13) (fun _ _ => rfl)) (fun _ _ => rfl))))
      (pss_one (ps_ret (pe_tup (pa_cons (pv 10) (pa_cons (pe_lc (own := [("one", 12)]) (g := gName 12) (tt := _) rfl scLm.nd (pi_list (pv 8)) (blkOk_by (own := [("one", 12)]) (N := nLm) (sc := defScope sLm) (by decide +kernel))
          (fun _ _ _ _ _ => pg_name (i := 12) scLm.nd rfl (Or.inl rfl)) (fun _ _ _ _ _ => pts_one (pt_cmp (pc_din hu (pe_dget hu (pv 7) (pv 12) (fun _ _ => rfl)) (pv 5)))) (fun _ _ _ _ _ => pe_dget hu (pv 9) (pv 12) (fun _ _ => rfl))) pa_nil))))))))))))), ?_⟩
    -- states
    refine ⟨_, rfl, _, rfl, a, xs, R, n, b, rfl, hR, hM, hb, by omega, fun H1 ps L s1 n1 h1 hB => ?_⟩
    have lenL := hB.len
    -- known
    refine ⟨_, rfl, e, rfl, ⟨_, SqL.of (s1 _ _ he)⟩, fun pk nk => ?_⟩
    refine dc_list (K := K) (a := e) (xs := nVs E) (fun i H2 => Same H1 H2 ∧ H2 pk = some (.dK (dO (D (E.take i)) fun _ => .bl true))) ⟨same_new nk, by rw [upd_same]; rfl⟩ (fun i H2 _ ⟨s2, _⟩ => SqL.of (s2 _ _ (s1 _ _ he))) ?_ ?_
    · rintro i v H2 hi ⟨s2, hD⟩
      obtain ⟨t, rfl, ht⟩ := nVs_at hi
      have hDl : (D (E.take i)).length ≤ 4000 := by
        have := length_le_of_sub (D_nodup (E.take i)) (fun x hx => mem_D.mp hx)
        rw [List.length_take] at this
        omega
      refine ⟨rfl, ?_⟩
      refine ⟨_, rfl, _, kN t, rfl, hD, by rw [dO_len]; exact szBig (by omega), ?_, ?_⟩
      · intro b' o e'
        rw [upd_ne (ne_of_none e' nk)]
        exact s2 _ _ e'
      · rw [upd_same, take_snoc ht, D_append]
        exact congrArg (fun z => some (HO.dK z)) (putK_dO (c := fun _ => .bl true))
    rintro H2 ⟨s2, hk⟩
    rw [nVs_len, List.take_length] at hk
    have s02 := s1.trans s2
    -- classes
    refine ⟨_, rfl, _, rfl, _, rfl, a, pk, ps, xs, R, n, b, L, D E, rfl, hR.same s02, hM, hB, hsz, hn, hk, s2 _ _ h1, fun H3 pc c s3 n3 h3 hc => ?_⟩
    have s03 := s02.trans s3
    have hps3 := s3 _ _ (s2 _ _ h1)
    have hk3 := s3 _ _ hk
    -- first = {}
    intro pf nf
    have nf0 : H pf = none := s03.free nf
    have hfd : ((fsts c L).map Prod.fst).Nodup := by
      rw [fsts_fst]
      exact D_nodup _
    have fl : ∀ j, (fsts c (L.take j)).length ≤ 4000 := by
      intro j
      have h1' : (fsts c (L.take j)).length = (D ((L.take j).map c)).length := by
        rw [← fsts_fst, List.length_map]
      have h2' := length_le_of_sub (D_nodup ((L.take j).map c)) (fun x hx => mem_D.mp hx)
      rw [List.length_map, List.length_take] at h2'
      omega
    refine ⟨_, rfl, ps, rfl, ⟨_, SqL.of (by rw [upd_ne (ne_of_none hps3 nf)]; exact hps3)⟩, ?_⟩
    refine for_list (K := K) (a := ps) (xs := nVs L) (fun i σ H4 => ∃ (y : Option V), σ = [some (.ref a), some (.ref e), some (nV b), some (.ref ps), y, some (.ref pk), some (.ref pc), some (.ref pf), none, none, none, none, none, none] ∧ Same H3 H4 ∧
      H4 pf = some (.dK (fD (fsts c (L.take i))))) ⟨none, rfl, same_new nf, by rw [upd_same]; rfl⟩ (fun i σ H4 _ ⟨_, _, s4, _⟩ => SqL.of (s4 _ _ hps3)) ?_ ?_
    · rintro i v σ H4 hi ⟨y, rfl, s4, hf4⟩
      obtain ⟨t, rfl, ht⟩ := nVs_at hi
      have htL : t ∈ L := List.mem_of_getElem? ht
      refine ⟨_, rfl, _, rfl, pc, _, rfl, dget_dO (s4 _ _ h3) htL, _, rfl, pf, _, rfl, DGet.k (k := kN (c t)) hf4, _, rfl, ?_⟩
      have hsn := fsts_snoc c (L.take i) t
      rw [← take_snoc ht] at hsn
      by_cases hm : c t ∈ (fsts c (L.take i)).map Prod.fst
      · obtain ⟨p, hp, ep⟩ := List.mem_map.mp hm
        have hv : valV (fD (fsts c (L.take i))) (kN (c t)) = some (nV p.2) := valV_fD (by rw [fsts_fst]; exact D_nodup _) (by rw [← ep]; exact hp)
        rw [hv]
        refine iteF ⟨_, rfl, s4, ?_⟩
        rw [hsn, if_pos hm]
        exact hf4
      · rw [valV_fD_out hm]
        refine iteT ?_
        refine ⟨_, rfl, _, rfl, _, rfl, _, rfl, pc, _, rfl, dget_dO (s4 _ _ h3) htL, pf, _, rfl, DPut.k (k := kN (c t)) hf4 (by rw [fD_len]; exact szBig (by have := fl i; omega)), ?_⟩
        refine ⟨_, rfl, ?_, ?_⟩
        · intro b' o e'
          rw [upd_ne (ne_of_none e' nf)]
          exact s4 _ _ e'
        · rw [upd_same, hsn, if_neg hm, fD_snoc, putK_new _ (valV_fD_out hm)]
    rintro σ H4 ⟨y, rfl, s4, hf4⟩
    rw [nVs_len, List.take_length] at hf4
    have s04 := s03.trans s4
    -- order = list(first)
    refine ⟨_, rfl, pf, _, rfl, hf4, fun po no => ?_⟩
    rw [fD_keys, fsts_fst]
    have eO : (fsts c L).map Prod.fst = D (L.map c) := fsts_fst c L
    generalize hO : D (L.map c) = O at eO
    have Ond : O.Nodup := by rw [← hO]; exact D_nodup _
    have lenO : O.length ≤ L.length := by
      have := length_le_of_sub (D_nodup (L.map c)) (fun x hx => mem_D.mp hx)
      rw [List.length_map, hO] at this
      exact this
    have s5 : Same H4 (upd H4 po (.lst (nVs O))) := same_new no
    have ho5 : (upd H4 po (.lst (nVs O))) po = some (.lst (nVs O)) := upd_same
    generalize (upd H4 po (.lst (nVs O))) = H5 at s5 ho5
    have s05 := s04.trans s5
    -- number
    refine ⟨_, rfl, po, _, rfl, .inl (SqL.of ho5), _, rfl, by rw [nVs_len]; omega, by rw [nVs_len]; omega, fun pn nn => ?_⟩
    rw [nVs_len]
    refine dc_range (n := (O.length : Int).toNat) (fun i H6 => Same H5 H6 ∧ H6 pn = some (.dK (dO (O.take i) fun k => nV (O.idxOf k)))) ⟨same_new nn, by rw [upd_same]; rfl⟩ ?_ ?_
    · rintro i H6 hi ⟨s6, hn6⟩
      have hi' : i < O.length := by omega
      have ht : O[i]? = some O[i] := List.getElem?_eq_getElem hi'
      refine ⟨rfl, ?_⟩
      refine ⟨_, rfl, _, rfl, po, _, _, _, rfl, rfl, SqL.of (s6 _ _ ho5), atI_zero_add (nVs_get ht), _, rfl, _, kN O[i], rfl, hn6, by rw [dO_len, List.length_take]; exact szBig (by omega), ?_, ?_⟩
      · intro b' o e'
        rw [upd_ne (ne_of_none e' nn)]
        exact s6 _ _ e'
      · rw [upd_same, take_snoc ht]
        have ev : V.int (0 + (i : Int)) = nV (O.idxOf O[i]) := by
          rw [List.Nodup.idxOf_getElem Ond i hi', Int.zero_add]
          rfl
        rw [ev]
        exact congrArg (fun z => some (HO.dK z)) (putK_dO_new (d := fun k => nV (O.idxOf k)) (nodup_not_take Ond ht) (fun _ _ => rfl))
    rintro H6 ⟨s6, hn6⟩
    have eT : O.take ((O.length : Int).toNat) = O := by
      rw [Int.toNat_natCast, List.take_length]
    rw [eT] at hn6
    have s06 := s05.trans s6
    have ho6 := s6 _ _ ho5
    have hc6 : H6 pc = some (.dK (dO L fun s => nV (c s))) := s6 _ _ (s5 _ _ (s4 _ _ h3))
    have hf6 : H6 pf = some (.dK (fD (fsts c L))) := s6 _ _ (s5 _ _ hf4)
    have hk6 : H6 pk = some (.dK (dO (D E) fun _ => .bl true)) := s6 _ _ (s5 _ _ (s4 _ _ hk3))
    have eF : ∀ i (hi : i < O.length), ∃ s, (fsts c L)[i]? = some (O[i], s) ∧ s ∈ L ∧ ((fsts c L).map Prod.snd)[i]? = some s := by
      intro i hi
      have hil : i < (fsts c L).length := by
        have := congrArg List.length eO
        rw [List.length_map] at this
        omega
      have h1' : ((fsts c L).map Prod.fst)[i]? = some O[i] := by rw [eO, List.getElem?_eq_getElem hi]
      rw [List.getElem?_map, List.getElem?_eq_getElem hil] at h1'
      have h2' : (fsts c L)[i].1 = O[i] := Option.some.inj h1'
      refine ⟨(fsts c L)[i].2, ?_, (fsts_mem c L _ (List.getElem_mem hil)).1, ?_⟩
      · rw [List.getElem?_eq_getElem hil, ← h2']
      · rw [List.getElem?_map, List.getElem?_eq_getElem hil]
        rfl
    have numO : ∀ t ∈ L, c t ∈ O := fun t ht => by
      rw [← hO]
      exact mem_D.mpr (List.mem_map_of_mem ht)
    -- found = [[..] ..]
    refine ⟨_, rfl, po, rfl, ⟨_, SqL.of ho6⟩, fun D1 nD1 => ?_⟩
    refine lc_list (K := K) (a := po) (xs := nVs O) (fun i H7 => Same H6 H7 ∧ ∃ ys : List Addr, ys.length = i ∧ ys.Nodup ∧ (∀ y ∈ ys, H6 y = none ∧ y ≠ D1) ∧ H7 D1 = some (.lst (ys.map V.ref)) ∧
      ∀ (j : Nat) (y : Addr) (s : Nat), ys[j]? = some y → ((fsts c L).map Prod.snd)[j]? = some s → H7 y = some (.lst (nVs ((rowOf R s).map fun t => O.idxOf (c t)))))
      ⟨same_new nD1, [], rfl, List.nodup_nil, fun y hy => (nomatch hy), by rw [upd_same]; rfl, fun j y s hy => by simp at hy⟩ (fun i H7 _ ⟨s7, _⟩ => SqL.of (s7 _ _ ho6)) ?_ ?_
    · rintro i v H7 hi ⟨s7, ys, yl, ynd, ynew, hD1, hrow⟩
      obtain ⟨k, rfl, hk'⟩ := nVs_at hi
      have hi' : i < O.length := (List.getElem?_eq_some_iff.mp hk').1
      have ek : O[i] = k := (List.getElem?_eq_some_iff.mp hk').2
      obtain ⟨st, e1, e2, e3⟩ := eF i hi'
      rw [ek] at e1
      obtain ⟨x, hx1, hx2⟩ := (hR.same (s06.trans s7)).get (hB.lt st e2)
      refine ⟨rfl, ?_⟩
      refine ⟨_, rfl, _, rfl, _, rfl, pf, _, rfl, dgetK (s7 _ _ hf6) (valV_fD hfd (List.mem_of_getElem? e1)), a, _, _, _, rfl, rfl, SqL.of ((s06.trans s7) _ _ hR.at_), atI_nat hx1, x, rfl, ⟨_, SqL.of hx2⟩, fun D2 nD2 => ?_⟩
      refine lc_list (K := K) (a := x) (xs := nVs (rowOf R st)) (fun j H8 => Same H7 H8 ∧ H8 D2 = some (.lst (nVs (((rowOf R st).take j).map fun t => O.idxOf (c t))))) ⟨same_new nD2, by rw [upd_same]; rfl⟩ (fun j H8 _ ⟨s8, _⟩ => SqL.of (s8 _ _ hx2)) ?_ ?_
      · rintro j v H8 hj ⟨s8, hD2⟩
        obtain ⟨u, rfl, hu'⟩ := nVs_at hj
        have huL : u ∈ L := hB.closed e2 (List.mem_of_getElem? hu')
        refine ⟨rfl, ?_⟩
        refine ⟨_, rfl, _, rfl, _, rfl, pc, _, rfl, dget_dO (s8 _ _ (s7 _ _ hc6)) huL, pn, _, rfl, dget_dO (s8 _ _ (s7 _ _ hn6)) (numO u huL), _, hD2, ?_, ?_, ?_⟩
        · rw [nVs_len, List.length_map, List.length_take]
          have := hM.wide st (hB.lt st e2)
          exact szBig (by omega)
        · intro b' o e'
          rw [upd_ne (ne_of_none e' nD2)]
          exact s8 _ _ e'
        · rw [upd_same, take_snoc hu', List.map_append]
          exact congrArg (fun z => some (HO.lst z)) (nVs_snoc _ _).symm
      · rintro H8 ⟨s8, hD2⟩
        rw [nVs_len, List.take_length] at hD2
        have hD1' := s8 _ _ hD1
        have n12 : D2 ≠ D1 := fun z => by
          rw [z, hD1] at nD2
          cases nD2
        refine ⟨_, hD1', by rw [List.length_map]; exact szBig (by omega), ?_, ys ++ [D2], by rw [List.length_append, List.length_singleton, yl], ?_, ?_, ?_, ?_⟩
        · intro b' o e'
          rw [upd_ne (ne_of_none e' nD1)]
          exact (s7.trans s8) _ _ e'
        · rw [List.nodup_append]
          refine ⟨ynd, by simp, ?_⟩
          intro p hp q' hq' e'
          rw [List.mem_singleton] at hq'
          rw [e', hq'] at hp
          obtain ⟨j, hj, ej⟩ := List.mem_iff_getElem.mp hp
          have hjF : ∃ s, ((fsts c L).map Prod.snd)[j]? = some s := by
            obtain ⟨s', _, _, z⟩ := eF j (by omega)
            exact ⟨s', z⟩
          obtain ⟨s', hs'⟩ := hjF
          have := hrow j D2 s' (by rw [List.getElem?_eq_getElem hj, ej]) hs'
          rw [nD2] at this
          cases this
        · intro y' hy'
          rcases List.mem_append.mp hy' with z | z
          · exact ynew y' z
          · rw [List.mem_singleton] at z
            rw [z]
            exact ⟨s7.free nD2, n12⟩
        · rw [upd_same, List.map_append]
          rfl
        · intro j y' s' hy' hs'
          by_cases hj : j < ys.length
          · rw [List.getElem?_append_left hj] at hy'
            have hne := (ynew y' (List.mem_of_getElem? hy')).2
            rw [upd_ne hne]
            exact s8 _ _ (hrow j y' s' hy' hs')
          · rw [List.getElem?_append_right (by omega)] at hy'
            have hj0 : j - ys.length = 0 := by
              have := (List.getElem?_eq_some_iff.mp hy').1
              simp at this
              omega
            rw [hj0] at hy'
            have ey : D2 = y' := Option.some.inj hy'
            have ej : j = i := by omega
            rw [ej, e3] at hs'
            have es : st = s' := Option.some.inj hs'
            rw [← ey, ← es, upd_ne n12]
            exact hD2
    rintro H7 ⟨s7, ys, yl, ynd, ynew, hD1, hrow⟩
    rw [nVs_len] at yl
    -- return (found, [..])
    refine ⟨_, rfl, _, rfl, po, rfl, ⟨_, SqL.of (s7 _ _ ho6)⟩, fun D3 nD3 => ?_⟩
    refine lc_list (K := K) (a := po) (xs := nVs O) (fun i H8 => Same H7 H8 ∧ H8 D3 = some (.lst (nVs (((((fsts c L).map Prod.snd).take i).filter fun s => decide (s ∈ D E)).map fun t => O.idxOf (c t))))) ⟨same_new nD3, by rw [upd_same]; rfl⟩ (fun i H8 _ ⟨s8, _⟩ => SqL.of (s8 _ _ (s7 _ _ ho6))) ?_ ?_
    · rintro i v H8 hi ⟨s8, hD3⟩
      obtain ⟨k, rfl, hk'⟩ := nVs_at hi
      have hi' : i < O.length := (List.getElem?_eq_some_iff.mp hk').1
      have ek : O[i] = k := (List.getElem?_eq_some_iff.mp hk').2
      obtain ⟨st, e1, e2, e3⟩ := eF i hi'
      rw [ek] at e1
      have ekc : c st = k := (fsts_mem c L _ (List.mem_of_getElem? e1)).2
      obtain ⟨r, hg, hr'⟩ := din_dO (t := st) (s8 _ _ (s7 _ _ hk6))
      refine ⟨rfl, ?_⟩
      refine ⟨_, rfl, _, rfl, pf, _, rfl, dgetK (s8 _ _ (s7 _ _ hf6)) (valV_fD hfd (List.mem_of_getElem? e1)), _, rfl, pk, r, rfl, hg, _, rfl, ?_⟩
      rw [take_snoc e3, List.filter_append]
      by_cases hE : st ∈ D E
      · rw [hr', decide_eq_true hE]
        refine ⟨_, rfl, _, rfl, pn, _, rfl, dget_dO (s8 _ _ (s7 _ _ hn6)) (List.mem_of_getElem? hk'), _, hD3, ?_, ?_, ?_⟩
        · rw [nVs_len, List.length_map]
          have := List.length_filter_le (fun s => decide (s ∈ D E)) (((fsts c L).map Prod.snd).take i)
          rw [List.length_take] at this
          exact szBig (by omega)
        · intro b' o e'
          rw [upd_ne (ne_of_none e' nD3)]
          exact s8 _ _ e'
        · rw [upd_same, List.filter_cons_of_pos (by exact decide_eq_true hE), List.filter_nil, List.map_append]
          refine congrArg (fun z => some (HO.lst z)) ?_
          rw [← ekc]
          exact (nVs_snoc _ _).symm
      · rw [hr', decide_eq_false hE]
        refine ⟨s8, ?_⟩
        rw [List.filter_cons_of_neg (by simpa using hE), List.filter_nil, List.append_nil]
        exact hD3
    rintro H8 ⟨s8, hD3⟩
    have eT2 : ((fsts c L).map Prod.snd).take (nVs O).length = (fsts c L).map Prod.snd := by
      apply List.take_of_length_le
      have := congrArg List.length eO
      rw [List.length_map] at this
      rw [nVs_len, List.length_map]
      omega
    rw [eT2] at hD3
    refine ⟨by show 2 ≤ sizeLine; decide, fun pt nt => ?_⟩
    have hml := made_least (E := D E) hM hB hc
    unfold made at hml
    rw [hO] at hml
    have s08 := (s06.trans s7).trans s8
    have s9 : Same H8 (upd H8 pt (.tup [.ref D1, .ref D3])) := same_new nt
    have n13 : D1 ≠ D3 := fun z => by
      rw [← z, hD1] at nD3
      cases nD3
    have hFl : ((fsts c L).map Prod.snd).length = O.length := by
      have := congrArg List.length eO
      rw [List.length_map] at this
      rw [List.length_map]
      exact this
    refine q _ pt D1 D3 ys _ _ (s08.trans s9) (s08.free nt) (s06.free nD1) ((s06.trans s7).free nD3) n13 ?_ ynd upd_same ?_ ?_ hml.1 ?_ ?_
    · intro y' hy'
      obtain ⟨z1, z2⟩ := ynew y' hy'
      refine ⟨s06.free z1, z2, ?_⟩
      intro z
      obtain ⟨j, hj, ej⟩ := List.mem_iff_getElem.mp hy'
      obtain ⟨s', _, _, hs'⟩ := eF j (by omega)
      have := hrow j y' s' (by rw [List.getElem?_eq_getElem hj, ej]) hs'
      rw [z, nD3] at this
      cases this
    · refine ⟨s9 _ _ (s8 _ _ hD1), by rw [yl, List.length_map]; exact hFl.symm, fun j y' hy' => ?_⟩
      have hj : j < ys.length := (List.getElem?_eq_some_iff.mp hy').1
      obtain ⟨s', _, _, hs'⟩ := eF j (by omega)
      rw [s9 _ _ (s8 _ _ (hrow j y' s' hy' hs'))]
      have er : rowOf (((fsts c L).map Prod.snd).map fun s => (rowOf R s).map fun t => O.idxOf (c t)) j = (rowOf R s').map fun t => O.idxOf (c t) := by
        rw [show rowOf (((fsts c L).map Prod.snd).map fun s => (rowOf R s).map fun t => O.idxOf (c t)) j = (((fsts c L).map Prod.snd).map fun s => (rowOf R s).map fun t => O.idxOf (c t)).getD j [] from rfl, List.getD_eq_getElem?_getD, List.getElem?_map, hs']
        rfl
      rw [er]
    · exact s9 _ _ hD3
    · exact fun w hw => (hml.2 w hw).trans mem_D
    · rw [List.length_map, hFl]
      omega
end
end K13

namespace Rg
open PySem PySem.Spec PyProof.Rows L2 Mach
/-- the bag made of a script -/
def spBag (K : PySem.W.Frag) : Sp := fun vs H Q _ => ∃ (a : Addr) (ns : List Int), vs = [.ref a] ∧ SqL K H a (ns.map V.int) ∧ ns.length ≤ 63 ∧
  ∀ (H' : Hp) (g l : Addr), Same H H' → H g = none → H l = none → Bag H' g l → Q (.ref g) H'
def sgnsOk (z : Str) : Prop := 1 ≤ z.length ∧ z.length ≤ 4
def spSigns : Sp := fun vs H Q _ => ∃ (g c : Addr), vs = [.ref g] ∧ Bag H g c ∧ ∀ (H' : Hp) (z : Str), sgnsOk z → Bag H' g c → But g H H' → Q (.str z) H'
def spMixed : Sp := fun vs H Q _ => ∃ (g c l : Addr) (E : List Nat), vs = [.ref g, .ref l] ∧ Bag H g c ∧ H l = some (.lst (nVs E)) ∧ l ≠ g ∧ E.length ≤ 4000 ∧
  ∀ (H' : Hp) (p : Addr) (E' : List Nat), Bag H' g c → But g H H' → H p = none → H' p = some (.lst (nVs E')) → E'.Perm E → Q (.ref p) H'
end Rg
namespace K13
open PySem PySem.Spec PyProof.Rows L2 Rg Mach
abbrev sBag : Stmt := topS 10
abbrev sMixed : Stmt := topS 13
theorem scBag : FnScope ["_law_script", "_law_cell"] ["_law_script"] (defScope sBag) := ⟨rfl, rfl, rfl, by decide +kernel, rfl, by decide +kernel, by decide +kernel⟩
theorem scMixed : FnScope ["_law_bag_here", "_law_things", "_law_found", "_law_thing"] ["_law_bag_here", "_law_things"] (defScope sMixed) := ⟨rfl, rfl, rfl, by decide +kernel, rfl, by decide +kernel, by decide +kernel⟩
section
variable {P : Program} {w : World} {K : PySem.W.Frag} {mg : Str → Option Value} {base : Heap}
theorem ok_bag {f : Addr} {fd : FuncData} {k : Nat} (F : Fun K "_law_bag" "_law_bag" sBag f fd) (ma : mg "abs" = none) :
    FnOk P w K mg base CX0 (k + 1) f fd ["_law_script"] (spBag K) := by
  refine F.ok scBag (fun vs H Q E h => ?_) (fun cdv A outer s H vs Q E hr h => ?_)
  · obtain ⟨a, ns, rfl, _⟩ := h
    rfl
  · obtain ⟨a, ns, rfl, hS, hl, q⟩ := h
    refine ⟨_, pss_one (ps_ret (pe_lst (pa_cons pe_int (pa_cons pe_int (pa_cons pe_int (pa_cons
      (pe_lc (own := [("_law_cell", 1)]) (g := gName 1) (tt := tYes) rfl scBag.nd (pi_list (pe_slice sl_list (pv 0) po_none (po_some pe_int))) (blkOk_by (own := [("_law_cell", 1)]) (N := ["_law_script", "_law_cell"]) (sc := defScope sBag) (by decide +kernel))
        (fun _ _ _ _ _ => pg_name (i := 1) scBag.nd rfl (Or.inl rfl)) (fun _ _ _ _ _ => pts_nil) (fun _ _ _ _ _ => pe_callB call_abs (by rfl) ma bAbs (pa_cons (pv 1) pa_nil))) pa_nil)))))), ?_⟩
    refine ⟨_, rfl, 63, rfl, a, _, rfl, hS, fun p1 n1 => ?_⟩
    obtain ⟨zs, ez, hz, hzl⟩ := cut_ints ns none (some 63)
    rw [ez]
    have h1 : (upd H p1 (.lst (zs.map V.int))) p1 = some (.lst (zs.map V.int)) := upd_same
    have s1 : Same H (upd H p1 (.lst (zs.map V.int))) := same_new n1
    generalize (upd H p1 (.lst (zs.map V.int))) = H1 at h1 s1
    refine ⟨p1, rfl, ⟨_, SqL.of h1⟩, fun D0 nD => ?_⟩
    refine lc_list (K := K) (a := p1) (xs := zs.map V.int) (fun i H2 => Same H1 H2 ∧ ∃ cs : List Int, cs.length = i ∧ (∀ c ∈ cs, 0 ≤ c) ∧ H2 D0 = some (.lst (cs.map V.int))) ⟨same_new nD, [], rfl, fun c hc => (nomatch hc), by rw [upd_same]; rfl⟩
      (fun i H2 _ ⟨s2, _⟩ => SqL.of (s2 _ _ h1)) ?_ ?_
    · rintro i v H2 hi ⟨s2, cs, cl, cp, hD⟩
      rw [List.getElem?_map] at hi
      obtain ⟨c, hc, rfl⟩ := Option.map_eq_some_iff.mp hi
      have hi' : i < zs.length := (List.getElem?_eq_some_iff.mp hc).1
      refine ⟨rfl, ?_⟩
      refine ⟨_, rfl, _, rfl, _, hD, by rw [List.length_map]; exact szBig (by omega), ?_, cs ++ [if c < 0 then -c else c], by rw [List.length_append, List.length_singleton, cl], ?_, ?_⟩
      · intro b o e
        rw [upd_ne (ne_of_none e nD)]
        exact s2 _ _ e
      · intro x hx
        rcases List.mem_append.mp hx with z | z
        · exact cp x z
        · rw [List.mem_singleton] at z
          rw [z]
          split <;> omega
      · rw [upd_same, List.map_append]
        rfl
    · rintro H2 ⟨s2, cs, cl, cp, hD⟩
      rw [List.length_map] at cl
      refine ⟨by show 4 ≤ sizeLine; decide, fun g ng => ?_⟩
      have s3 : Same H2 (upd H2 g (BagL 0 1234567891 0 D0)) := same_new ng
      refine q _ g D0 (s1.trans (s2.trans s3)) ((s1.trans s2).free ng) (s1.free nD) ⟨0, 1234567891, 0, cs, upd_same, s3 _ _ hD, by decide, by decide, by decide, cp, by omega⟩
theorem ok_mixed {f fT : Addr} {fd fdT : FuncData} {k : Nat} (F : Fun K "_law_mixed" "_law_mixed" sMixed f fd)
    (FT : Fun K "_law_take" "_law_take" sTake fT fdT) (bT : Binds K fdT ["_law_bag_here", "_law_many"] []) (gT : mg "_law_take" = some (.ref fT)) (mi : mg "int" = none) (ml : mg "len" = none) :
    FnOk P w K mg base CX0 (k + 2) f fd ["_law_bag_here", "_law_things"] spMixed := by
  have GT : FnOk P w K mg base CX0 (k + 1) fT fdT ["_law_bag_here", "_law_many"] spTake := ok_take FT mi
  refine F.ok scMixed (fun vs H Q E h => ?_) (fun cdv A outer s H vs Q E hr h => ?_)
  · obtain ⟨g, c, l, E', rfl, _⟩ := h
    rfl
  · obtain ⟨g, c, l, E, rfl, hB, hl, nlg, hlen, q⟩ := h
    refine ⟨_, pss_cons (ps_set (i := 2) scMixed.nd rfl (.inl rfl) (pe_lst pa_nil))
      (pss_cons (ps_for PassesOwn.never rfl (pi_list (pv 1)) (pg_name (i := 3) scMixed.nd rfl (.inl rfl))
        (pss_one (ps_expr (pe_bm PySem.F.plainAttrs_list PySem.F.slot_list_insert PySem.F.type_list_insert mt_insert (pv 2) (pa_cons (pe_call GT hr (by rfl) gT FT.kp bT .nil pass0 (pa_cons (pv 0) (pa_cons (pe_op op_add (pe_callB call_len_seq (by rfl) ml bLen (pa_cons (pv 2) pa_nil)) pe_int) pa_nil))) (pa_cons (pv 3) pa_nil))))))
      (pss_one (ps_ret (pv 2)))), ?_⟩
    refine ⟨Nat.zero_le _, fun p np => ?_⟩
    have npg : p ≠ g := hB.ne np
    refine ⟨_, rfl, l, rfl, ⟨_, SqL.of (by rw [upd_ne (ne_of_none hl np)]; exact hl)⟩, ?_⟩
    refine for_list (K := K) (a := l) (xs := nVs E) (fun i σ H1 => ∃ (y : Option V) (E1 : List Nat), σ = [some (.ref g), some (.ref l), some (.ref p), y] ∧ Bag H1 g c ∧ But g H H1 ∧ H1 p = some (.lst (nVs E1)) ∧ E1.Perm (E.take i))
      ⟨none, [], rfl, hB.new np, (But.refl g H).new np, by rw [upd_same]; rfl, by simp⟩ (fun i σ H1 _ ⟨_, _, _, _, b1, _⟩ => SqL.of (b1 _ _ nlg hl)) ?_ ?_
    · rintro i v σ H1 hi ⟨y, E1, rfl, hB1, b1, hp, pm⟩
      obtain ⟨t, rfl, ht⟩ := nVs_at hi
      have hl1 : E1.length = i := by
        have := pm.length_eq
        rw [List.length_take] at this
        have := (List.getElem?_eq_some_iff.mp ht).1
        omega
      have hi' := (List.getElem?_eq_some_iff.mp ht).1
      refine ⟨_, rfl, .inl ⟨rfl, _, SqL.of hp⟩, _, rfl, _, rfl, p, _, rfl, .inl (SqL.of hp), _, _, rfl, rfl, g, c, _, rfl, hB1, ?_, ?_, fun H2 r hr2 hB2 b2 => ?_⟩
      · rw [nVs_len]
        omega
      · rw [nVs_len]
        omega
      rw [nVs_len] at hr2
      have hp2 := b2 _ _ npg hp
      refine ⟨_, rfl, p, _, _, _, rfl, rfl, hp2, by rw [nVs_len]; exact szBig (by omega), by omega, by omega, ?_⟩
      refine ⟨_, E1.take r ++ [t] ++ E1.drop r, rfl, ?_, ?_, ?_, ?_⟩
      · exact hB2.upd_other npg (hB.ne2 np)
      · intro b' o n' e'
        rw [upd_ne (fun z => by rw [z, np] at e'; cases e')]
        exact b2 _ _ n' (b1 _ _ n' e')
      · rw [upd_same]
        unfold nVs
        rw [List.map_append, List.map_append, List.map_take, List.map_drop]
        simp [nV]
      · rw [take_snoc ht]
        have p1 : (E1.take r ++ [t] ++ E1.drop r).Perm (E1.take r ++ E1.drop r ++ [t]) := by
          rw [List.append_assoc, List.append_assoc]
          exact List.Perm.append_left _ List.perm_append_comm
        rw [List.take_append_drop] at p1
        exact p1.trans (pm.append_right [t])
    · rintro σ H1 ⟨y, E1, rfl, hB1, b1, hp, pm⟩
      rw [nVs_len, List.take_length] at pm
      exact ⟨_, rfl, q H1 p E1 hB1 b1 np hp pm⟩
end
end K13

namespace Rg
open PySem PySem.Spec PyProof.Rows L2 Mach
/-- the least machine, as the law makes it -/
def spLeast : Sp := fun vs H Q _ => ∃ (a e : Addr) (xs : List Addr) (R : List (List Nat)) (n : Nat) (E : List Nat), vs = [.ref a, .ref e] ∧ RowsAt H a xs R ∧ Mok n R ∧ 0 < R.length ∧ R.length ≤ 32 ∧ n ≤ 100 ∧
  H e = some (.lst (nVs E)) ∧ E.length ≤ 4000 ∧
  ∀ (H' : Hp) (t p e' : Addr) (ys : List Addr) (R' : List (List Nat)) (E' : List Nat), Same H H' → H t = none → H p = none → H e' = none → (∀ y ∈ ys, H y = none) → H' t = some (.tup [.ref p, .ref e']) → RowsAt H' p ys R' → H' e' = some (.lst (nVs E')) →
    Least n R' E' → Alk n R' E' 0 R E 0 → R'.length ≤ R.length → Q (.ref t) H'
end Rg
namespace K13
open PySem PySem.Spec PyProof.Rows L2 Rg Mach
abbrev sLs : Stmt := topS 15
def nLs : List Str := ["_law_rows", "_law_ends", "_law_met", "_law_at", "_law_apart", "_law_grown", "_law_p", "_law_q", "_law_led", "_law_firsts", "_law_number", "_law_state", "_law_same", "_law_there", "_law_one", "_law_k"]
theorem scLs : FnScope nLs ["_law_rows", "_law_ends"] (defScope sLs) := ⟨rfl, rfl, rfl, by decide +kernel, rfl, by decide +kernel, by decide +kernel⟩
def scLsOut : Scope := match (defBody sLs).getD 7 (.Pass ⟨0, 0, 0, 0⟩) with
  | .Return (some (.Tuple ((.ListComp _ _ sc _) :: _) _ _)) _ => sc
  | _ => defScope sLs
section
variable {P : Program} {w : World} {K : PySem.W.Frag} {mg : Str → Option Value} {base : Heap}
theorem ok_least {f : Addr} {fd : FuncData} {k : Nat} (F : Fun K "_law_least" "_law_least" sLs f fd) (ml : mg "len" = none) (md : mg "dict" = none) (mr : mg "range" = none) :
    FnOk P w K mg base CX0 (k + 1) f fd ["_law_rows", "_law_ends"] spLeast := by
  refine F.ok scLs (fun vs H Q E h => ?_) (fun cdv A outer s H vs Q E hr h => ?_)
  · obtain ⟨a, e, xs, R, n, E', rfl, _⟩ := h
    rfl
  · obtain ⟨a, e, xs, R, n, E, rfl, hR, hM, hR0, hsz, hn, he, hel, q⟩ := h
    have hu := hu_of hr
    refine ⟨_, pss_cons (ps_asg (pe_tup (pa_cons (pe_lst (pa_cons pe_int pa_nil)) (pa_cons pe_int pa_nil))) (pg_tup rfl (pgs_cons (pg_name (i := 2) scLs.nd rfl (.inr rfl)) (pgs_cons (pg_name (i := 3) scLs.nd rfl (.inl rfl)) pgs_nil))))
      (pss_cons (ps_while PassesOwn.never (pt_cmpR op_lt (pv 3) (pe_callB call_len_seq (by rfl) ml bLen (pa_cons (pv 2) pa_nil)) (nomark _))
        (pss_cons (ps_set (i := 2) scLs.nd rfl (.inr rfl) (pe_op op_cat (pv 2) (pe_lc (own := [("_law_there", 13)]) (g := gName 13) (tt := tTest (tOp (rIn K true) (tVar 13) (tVar 2))) rfl scLs.nd
            (pi_keysNew (pe_callTy (call_dictP rfl) (by rfl) md bDict (pa_cons (pe_lc (own := [("_law_one", 14)]) (g := gName 14) (tt := tYes) rfl scLs.nd (pi_list (pe_ix ix_list (pv 0) (pe_ix ix_list (pv 2) (pv 3) (fun _ _ => rfl)) (fun _ _ => rfl))) (blkOk_by (own := [("_law_one", 14)]) (N := nLs) (sc := defScope sLs) (by decide +kernel))
                (fun _ _ _ _ _ => pg_name (i := 14) scLs.nd rfl (Or.inl rfl)) (fun _ _ _ _ _ => pts_nil) (fun _ _ _ _ _ => pe_tup (pa_cons (pv 14) (pa_cons pe_bl pa_nil)))) pa_nil)))
            (blkOk_by (own := [("_law_there", 13)]) (N := nLs) (sc := defScope sLs) (by decide +kernel)) (fun _ _ _ _ _ => pg_name (i := 13) scLs.nd rfl (Or.inl rfl)) (fun _ _ _ _ _ => pts_one (pt_cmpR op_notIn_seq (pv 13) (pv 2) rfl)) (fun _ _ _ _ _ => pv 13))))
        (pss_one (ps_aug (i := 3) scLs.nd rfl (.inl rfl) pe_int ip_add))))
      (pss_cons (ps_asg (pe_tup (pa_cons pe_dnewT (pa_cons pe_bl pa_nil))) (pg_tup rfl (pgs_cons (pg_name (i := 4) scLs.nd rfl (.inr rfl)) (pgs_cons (pg_name (i := 5) scLs.nd rfl (.inl rfl)) pgs_nil))))
      (pss_cons (ps_for PassesOwn.never rfl (pi_list (pv 2)) (pg_name (i := 6) scLs.nd rfl (.inr rfl)) (pss_one (ps_expr (pe_bm PySem.F.plainAttrs_dict PySem.F.slot_dict_update PySem.F.type_dict_update (mt_updateT hr.units) (pv 4) (pa_cons
          (pe_callTy (call_dictT rfl hr.units) (by rfl) md bDict (pa_cons (pe_lc (own := [("_law_q", 7)]) (g := gName 7) (tt := tTest (tOp rNe (tOp (rIn K false) (tVar 6) (tVar 1)) (tOp (rIn K false) (tVar 7) (tVar 1)))) rfl scLs.nd (pi_list (pv 2)) (blkOk_by (own := [("_law_q", 7)]) (N := nLs) (sc := defScope sLs) (by decide +kernel))
            (fun _ _ _ _ _ => pg_name (i := 7) scLs.nd rfl (Or.inl rfl)) (fun _ _ _ _ _ => pts_one (pt_cmpR op_ne (pe_cmpR op_in_seq (pv 6) (pv 1) rfl) (pe_cmpR op_in_seq (pv 7) (pv 1) rfl) (nomark _)))
            (fun _ _ _ _ _ => pe_tup (pa_cons (pe_tup (pa_cons (pv 6) (pa_cons (pv 7) pa_nil))) (pa_cons pe_bl pa_nil)))) pa_nil)) pa_nil)))))
      (pss_cons (ps_while PassesOwn.never (pt_val (pv 5)) (pss_cons (ps_set (i := 5) scLs.nd rfl (.inl rfl) pe_bl)
        (pss_one (ps_for PassesOwn.never rfl (pi_list (pv 2)) (pg_name (i := 6) scLs.nd rfl (.inr rfl)) (pss_one (ps_for PassesOwn.never rfl (pi_list (pv 2)) (pg_name (i := 7) scLs.nd rfl (.inr rfl))
          (pss_cons (ps_setLc (i := 8) (own := [("_law_k", 15)]) (g := gName 15) (tt := tB (tDIn (tTup (tCons (tOp (rIxL K) (tOp (rIxL K) (tVar 0) (tVar 6)) (tVar 15)) (tCons (tOp (rIxL K) (tOp (rIxL K) (tVar 0) (tVar 7)) (tVar 15)) tNil))) (tVar 4))) rfl scLs.nd rfl rfl (sw_true rfl rfl rfl (by decide +kernel))
              (pi_range1 (by rfl) mr (pa_cons (pe_callB call_len_seq (by rfl) ml bLen (pa_cons (pe_ix ix_list (pv 0) (pv 6) (fun _ _ => rfl)) pa_nil)) pa_nil)) (blkOk_by (own := [("_law_k", 15)]) (N := nLs) (sc := defScope sLs) (by decide +kernel))
              (fun _ _ _ _ _ => pg_name (i := 15) scLs.nd rfl (Or.inl rfl))
              (fun _ _ _ _ _ => pts_one (pt_cmp (pc_din hu (pe_tup (pa_cons (pe_ix ix_list (pe_ix ix_list (pv 0) (pv 6) (fun _ _ => rfl)) (pv 15) (fun _ _ => rfl)) (pa_cons (pe_ix ix_list (pe_ix ix_list (pv 0) (pv 7) (fun _ _ => rfl)) (pv 15) (fun _ _ => rfl)) pa_nil))) (pv 4)))) (fun _ _ _ _ _ => pv 15))
          (pss_one (ps_if (pw_and (pt_cmp (pc_dnotin hu (pe_tup (pa_cons (pv 6) (pa_cons (pv 7) pa_nil))) (pv 4))) (pw_and1 (pt_cmpR (op_neD hr.units) (pv 8) (pe_lst pa_nil) (nomark _)))).pt
            (pss_one (ps_asg (pe_tup (pa_cons pe_bl (pa_cons pe_bl pa_nil))) (pg_tup rfl (pgs_cons (pg_sub (pv 4) (pe_tup (pa_cons (pv 6) (pa_cons (pv 7) pa_nil))) (set_dict hu)) (pgs_cons (pg_name (i := 5) scLs.nd rfl (.inl rfl)) pgs_nil))))) pss_nil)))))))))
      (pss_cons (ps_asg (pe_tup (pa_cons (pe_lst pa_nil) (pa_cons pe_dnewK pa_nil))) (pg_tup rfl (pgs_cons (pg_name (i := 9) scLs.nd rfl (.inr rfl)) (pgs_cons (pg_name (i := 10) scLs.nd rfl (.inr rfl)) pgs_nil))))
      (pss_cons (ps_for PassesOwn.never rfl (pi_list (pv 2)) (pg_name (i := 11) scLs.nd rfl (.inr rfl))
        (pss_cons (ps_setLc (i := 12) (own := [("_law_k", 15)]) (g := gName 15) (tt := tB (tDNotIn (tTup (tCons (tOp (rIxL K) (tVar 9) (tVar 15)) (tCons (tVar 11) tNil))) (tVar 4))) rfl scLs.nd rfl rfl (sw_true rfl rfl rfl (by decide +kernel))
              (pi_range1 (by rfl) mr (pa_cons (pe_callB call_len_seq (by rfl) ml bLen (pa_cons (pv 9) pa_nil)) pa_nil)) (blkOk_by (own := [("_law_k", 15)]) (N := nLs) (sc := defScope sLs) (by decide +kernel))
              (fun _ _ _ _ _ => pg_name (i := 15) scLs.nd rfl (Or.inl rfl))
              (fun _ _ _ _ _ => pts_one (pt_cmp (pc_dnotin hu (pe_tup (pa_cons (pe_ix ix_list (pv 9) (pv 15) (fun _ _ => rfl)) (pa_cons (pv 11) pa_nil))) (pv 4)))) (fun _ _ _ _ _ => pv 15))
        (pss_cons (ps_dput hu (pv 10) (pv 11) (pe_ifExp (pt_cmpR (op_neD hr.units) (pv 12) (pe_lst pa_nil) (nomark _)) (pe_ix ix_list (pv 12) pe_int (fun _ _ => rfl)) (pe_callB call_len_seq (by rfl) ml bLen (pa_cons (pv 9) pa_nil))) rfl)
        (pss_one (ps_if (pt_cmpR (op_eqD hr.units) (pv 12) (pe_lst pa_nil) (nomark _)) (pss_one (ps_expr (pe_bm PySem.F.plainAttrs_list PySem.F.slot_list_append PySem.F.type_list_append mt_append (pv 9) (pa_cons (pv 11) pa_nil)))) pss_nil)))))
      (pss_one (ps_ret (pe_tup (pa_cons (pe_lc (own := [("_law_one", 14)]) (g := gName 14) (tt := tYes) (te := tLc (iList K (tOp (rIxL K) (tVar 0) (tVar 14))) (gName 13) tYes (tDGet (tVar 10) (tVar 13)) [13]) rfl scLs.nd (pi_list (pv 9)) (blkOk_by (own := [("_law_one", 14)]) (N := nLs) (sc := defScope sLs) (by decide +kernel))
            (fun _ _ _ _ _ => pg_name (i := 14) scLs.nd rfl (Or.inl rfl)) (fun _ _ _ _ _ => pts_nil)
            (fun _ _ _ _ _ => pe_lc (own := [("_law_there", 13)]) (g := gName 13) (tt := tYes) rfl scLs.nd (pi_list (pe_ix ix_list (pv 0) (pv 14) (fun _ _ => rfl))) (blkOk_by (own := [("_law_there", 13)]) (N := nLs) (sc := relS scLsOut (defScope sLs)) (by decide +kernel))
              (fun _ _ _ _ _ => pg_name (i := 13) scLs.nd rfl (Or.inl rfl)) (fun _ _ _ _ _ => pts_nil) (fun _ _ _ _ _ => pe_dget hu (pv 10) (pv 13) (fun _ _ => rfl))))
          (pa_cons (pe_lc (own := [("_law_one", 14)]) (g := gName 14) (tt := tTest (tOp (rIn K false) (tVar 14) (tVar 1))) rfl scLs.nd (pi_list (pv 9)) (blkOk_by (own := [("_law_one", 14)]) (N := nLs) (sc := defScope sLs) (by decide +kernel))
            (fun _ _ _ _ _ => pg_name (i := 14) scLs.nd rfl (Or.inl rfl)) (fun _ _ _ _ _ => pts_one (pt_cmpR op_in_seq (pv 14) (pv 1) rfl)) (fun _ _ _ _ _ => pe_dget hu (pv 10) (pv 14) (fun _ _ => rfl))) pa_nil))))))))))), ?_⟩
    -- met, at = [0], 0
    refine ⟨by show 1 ≤ sizeLine; decide, fun pm nm => ?_⟩
    refine ⟨by show 2 ≤ sizeLine; decide, fun t0 n0 => ?_⟩
    refine ⟨t0, _, rfl, SqT.of upd_same, rfl, _, _, rfl, _, _, rfl, rfl, ?_⟩
    have s2 : Same H (upd (upd H pm (.lst [.int 0])) t0 (.tup [.ref pm, .int 0])) := (same_new nm).trans (same_new n0)
    have hm2 : (upd (upd H pm (.lst [.int 0])) t0 (.tup [.ref pm, .int 0])) pm = some (.lst (nVs [0])) := same_new n0 _ _ upd_same
    generalize (upd (upd H pm (.lst [.int 0])) t0 (.tup [.ref pm, .int 0])) = H2 at s2 hm2
    refine ⟨fun m σ H1 => ∃ (pm : Addr) (M : List Nat) (i : Nat), m = R.length - i ∧ σ = [some (.ref a), some (.ref e), some (.ref pm), some (nV i), none, none, none, none, none, none, none, none, none, none, none, none] ∧ Same H H1 ∧ H1 pm = some (.lst (nVs M)) ∧ BfsAt n R 0 M i,
      ⟨_, pm, [0], 0, rfl, rfl, s2, hm2, bfs_start hR0⟩, ?_⟩
    rintro m σ H1 ⟨pm, M, i, rfl, rfl, s1, hm, hW⟩
    have hlen := hW.len
    refine ⟨_, rfl, _, rfl, pm, _, rfl, .inl (SqL.of hm), _, _, rfl, rfl, _, rfl, ite2 (fun ei => ?_) (fun ei => ?_)⟩
    · have hi : i < M.length := by
        have := of_decide_eq_true ei
        rw [nVs_len] at this
        omega
      have hs : M[i]? = some M[i] := List.getElem?_eq_getElem hi
      have hsl : M[i] < R.length := hW.lt _ (List.getElem_mem hi)
      obtain ⟨x, hx1, hx2⟩ := (hR.same s1).get hsl
      have hwide := hM.wide _ hsl
      refine ⟨fun σ' H' => ∃ (pm' : Addr), σ' = [some (.ref a), some (.ref e), some (.ref pm'), some (nV (i + 1)), none, none, none, none, none, none, none, none, none, none, none, none] ∧ Same H H' ∧ H' pm' = some (.lst (nVs (pushAll M (rowOf R M[i])))), ?_, ?_⟩
      · rintro σ' H' ⟨pm', rfl, s1', hm'⟩
        exact ⟨R.length - (i + 1), by omega, pm', _, i + 1, rfl, rfl, s1', hm', bfs_step hM hW hs⟩
      · refine ⟨_, rfl, ?_⟩
        refine ⟨_, rfl, _, rfl, _, rfl, pm, _, _, _, rfl, rfl, SqL.of hm, atI_nat (nVs_get hs), a, _, _, _, rfl, rfl, SqL.of (s1 _ _ hR.at_), atI_nat hx1, x, rfl, ⟨_, SqL.of hx2⟩, fun D1 nD1 => ?_⟩
        refine lc_list (K := K) (a := x) (xs := nVs (rowOf R M[i])) (fun j H3 => Same H1 H3 ∧ ∃ ts : List Addr, H3 D1 = some (.lst (ts.map V.ref)) ∧ ts.length = j ∧ (∀ t ∈ ts, t ≠ D1) ∧ Paired (fun (t : Addr) (s : Nat) => H3 t = some (.tup [nV s, .bl true])) ts ((rowOf R M[i]).take j))
          ⟨same_new nD1, [], by rw [upd_same]; rfl, rfl, (fun t z => nomatch z), .nil⟩ (fun j H3 _ ⟨s3, _⟩ => SqL.of (s3 _ _ hx2)) ?_ ?_
        · rintro j v H3 hj ⟨s3, ts, hD1, tl, tn, tp⟩
          obtain ⟨u, rfl, hu'⟩ := nVs_at hj
          have hj' := (List.getElem?_eq_some_iff.mp hu').1
          refine ⟨rfl, ?_⟩
          refine ⟨_, rfl, by show 2 ≤ sizeLine; decide, fun t nt => ?_⟩
          have ntD : t ≠ D1 := fun z => by
            rw [z, hD1] at nt
            cases nt
          refine ⟨_, by rw [upd_ne ntD.symm]; exact hD1, by rw [List.length_map]; exact szBig (by omega), ?_, ts ++ [t], ?_, by rw [List.length_append, List.length_singleton, tl], ?_, ?_⟩
          · intro b o eb
            rw [upd_ne (ne_of_none eb nD1), upd_ne (ne_of_none (s3 _ _ eb) nt)]
            exact s3 _ _ eb
          · rw [upd_same, List.map_append]
            rfl
          · intro y hy
            rcases List.mem_append.mp hy with z | z
            · exact tn y z
            · rw [List.mem_singleton] at z
              rw [z]
              exact ntD
          · rw [take_snoc hu']
            refine paired_snoc (paired_keep tp fun y hy r hyr => ?_) ?_
            · rw [upd_ne (tn y hy), upd_ne (ne_of_none hyr nt)]
              exact hyr
            · rw [upd_ne ntD, upd_same]
        · rintro H3 ⟨s3, ts, hD1, tl, tn, tp⟩
          rw [nVs_len, List.take_length] at tp
          refine ⟨D1, ts, (rowOf R M[i]).map fun s => (kN s, V.bl true), rfl, SqL.of hD1, paired_map (fun s => (kN s, V.bl true)) (fun _ _ z => SqT.of z) tp, fun d nd => ?_⟩
          have em : mergeK [] ((rowOf R M[i]).map fun s => (kN s, V.bl true)) = dO (D (rowOf R M[i])) (fun _ => .bl true) := mergeK_dO (fun _ => .bl true) (rowOf R M[i]) []
          rw [em]
          refine ⟨d, _, rfl, upd_same, fun o => ?_⟩
          rw [upd_upd]
          have s4 : Same H3 (upd H3 d (.frz o (.dK (dO (D (rowOf R M[i])) fun _ => .bl true)))) := same_new nd
          have hd4 : (upd H3 d (.frz o (.dK (dO (D (rowOf R M[i])) fun _ => .bl true)))) d = some (.frz o (.dK (dO (D (rowOf R M[i])) fun _ => .bl true))) := upd_same
          generalize (upd H3 d (.frz o (.dK (dO (D (rowOf R M[i])) fun _ => .bl true)))) = H4 at s4 hd4
          have s14 := s3.trans s4
          intro D2 nD2
          refine lc_keys (d := d) (o := o) (kvs := dO (D (rowOf R M[i])) fun _ => .bl true) (fun j H5 => Same H4 H5 ∧ H5 D2 = some (.lst (nVs (((D (rowOf R M[i])).take j).filter fun y => decide (y ∉ M))))) ⟨same_new nD2, by rw [upd_same]; rfl⟩ (fun j H5 _ ⟨s5, _⟩ => s5 _ _ hd4) ?_ ?_
          · rintro j k v H5 hj ⟨s5, hD2⟩
            obtain ⟨u, hu', rfl, rfl⟩ := dO_at hj
            refine ⟨rfl, ?_⟩
            refine ⟨_, rfl, _, rfl, pm, _, rfl, .inl (SqL.of (s5 _ _ (s14 _ _ hm))), rfl, flat_nVs _, _, rfl, ?_⟩
            rw [take_snoc hu', filter_snoc]
            have hDl : (((D (rowOf R M[i])).take j).filter fun y => decide (y ∉ M)).length ≤ 5000 := by
              have h1' := List.length_filter_le (fun y => decide (y ∉ M)) ((D (rowOf R M[i])).take j)
              have h2' := length_le_of_sub (D_nodup (rowOf R M[i])) (fun y hy => mem_D.mp hy)
              rw [List.length_take] at h1'
              omega
            have ein : (if true = true then !inV (kV (kN u)) (nVs M) else inV (kV (kN u)) (nVs M)) = decide (u ∉ M) := by
              rw [if_pos rfl, show kV (kN u) = nV u from rfl, inV_nVs]
              simp
            rw [ein]
            by_cases hu2 : u ∈ M
            · rw [decide_eq_false (by simpa using hu2)]
              refine ⟨s5, ?_⟩
              simpa using hD2
            · rw [decide_eq_true hu2]
              refine ⟨_, rfl, _, hD2, by rw [nVs_len]; exact szBig (by omega), ?_, ?_⟩
              · intro b o' eb
                rw [upd_ne (ne_of_none eb nD2)]
                exact s5 _ _ eb
              · rw [upd_same, if_pos rfl, nVs_snoc]
                rfl
          · rintro H5 ⟨s5, hD2⟩
            rw [dO_len, List.take_length] at hD2
            have hlen2 : (pushAll M (rowOf R M[i])).length ≤ R.length := by
              have := (bfs_step hM hW hs).len
              exact this
            rw [pushAll_filter, List.length_append] at hlen2
            refine ⟨pm, D2, _, _, rfl, rfl, s5 _ _ (s14 _ _ hm), hD2, by rw [nVs_len, nVs_len]; exact szBigLe (by omega), fun p np => ?_⟩
            refine ⟨_, rfl, _, _, rfl, rfl, p, rfl, (((s1.trans s14).trans s5).trans (same_new np)), ?_⟩
            rw [upd_same, pushAll_filter]
            unfold nVs
            rw [List.map_append]
    · have hi : M.length ≤ i := by
        have := of_decide_eq_false (Bool.eq_false_iff.mpr ei)
        rw [nVs_len] at this
        omega
      have hB := bfs_end hW hi
      clear hW ei hi
      -- apart, grown = {}, True
      intro pa na
      refine ⟨by show 2 ≤ sizeLine; decide, fun t1 n1 => ?_⟩
      refine ⟨t1, _, rfl, SqT.of upd_same, rfl, _, _, rfl, _, _, rfl, rfl, ?_⟩
      have s3 : Same H1 (upd (upd H1 pa (.dT [])) t1 (.tup [.ref pa, .bl true])) := (same_new na).trans (same_new n1)
      have ha3 : (upd (upd H1 pa (.dT [])) t1 (.tup [.ref pa, .bl true])) pa = some (.dT (tO [])) := same_new n1 _ _ upd_same
      generalize (upd (upd H1 pa (.dT [])) t1 (.tup [.ref pa, .bl true])) = H3 at s3 ha3
      have he1 := s1 _ _ he
      have lenM := hB.len
      have Mlt : ∀ y ∈ M, y < 32 := fun y hy => Nat.lt_of_lt_of_le (hB.lt y hy) hsz
      refine ⟨_, rfl, pm, rfl, ⟨_, SqL.of (s3 _ _ hm)⟩, ?_⟩
      refine for_list (K := K) (a := pm) (xs := nVs M) (fun j σ H4 => ∃ (y : Option V), σ = [some (.ref a), some (.ref e), some (.ref pm), some (nV i), some (.ref pa), some (.bl true), y, none, none, none, none, none, none, none, none, none] ∧ Same H1 H4 ∧
        H4 pa = some (.dT (tO (D ((M.take j).flatMap (prE E M)))))) ⟨none, rfl, s3, ha3⟩ (fun j σ H4 _ ⟨_, _, s4, _⟩ => SqL.of (s4 _ _ hm)) ?_ ?_
      · rintro j v σ H4 hj ⟨y, rfl, s4, ha4⟩
        obtain ⟨p, rfl, hp⟩ := nVs_at hj
        have hpM : p ∈ M := List.mem_of_getElem? hp
        refine ⟨_, rfl, .inr (.inr (.inl ⟨rfl, .inr ⟨_, ha4⟩⟩)), ?_⟩
        refine ⟨_, rfl, pm, rfl, ⟨_, SqL.of (s4 _ _ hm)⟩, fun D1 nD1 => ?_⟩
        refine lc_list (K := K) (a := pm) (xs := nVs M) (fun l H5 => Same H4 H5 ∧ ∃ (ts : List Addr) (qs : List (List Key × Addr × V)), H5 D1 = some (.lst (ts.map V.ref)) ∧ ts.length ≤ l ∧ PairsT H5 ts qs ∧ (qs.map fun q => (q.1, q.2.2)) = tO (prE E (M.take l) p))
          ⟨same_new nD1, [], [], by rw [upd_same]; rfl, Nat.le_refl _, .nil, rfl⟩ (fun l H5 _ ⟨s5, _⟩ => SqL.of (s5 _ _ (s4 _ _ hm))) ?_ ?_
        · rintro l v H5 hl ⟨s5, ts, qs, hD1, tl, tp, tq⟩
          obtain ⟨u, rfl, hu'⟩ := nVs_at hl
          have hl' := (List.getElem?_eq_some_iff.mp hu').1
          have he5 := s5 _ _ (s4 _ _ he1)
          refine ⟨rfl, ?_⟩
          refine ⟨_, rfl, _, rfl, e, _, rfl, .inl (SqL.of he5), rfl, flat_nVs _, _, rfl, _, rfl, e, _, rfl, .inl (SqL.of he5), rfl, flat_nVs _, rfl, _, rfl, ?_⟩
          have eT : (!decide (V.bl (if false = true then !inV (nV p) (nVs E) else inV (nV p) (nVs E)) = V.bl (if false = true then !inV (nV u) (nVs E) else inV (nV u) (nVs E)))) = decide (decide (p ∈ E) ≠ decide (u ∈ E)) := by
            rw [if_neg Bool.false_ne_true, if_neg Bool.false_ne_true, inV_nVs, inV_nVs]
            by_cases h1 : decide (p ∈ E) = decide (u ∈ E)
            · rw [h1]
              simp
            · have h2 : ¬ V.bl (decide (p ∈ E)) = V.bl (decide (u ∈ E)) := fun z => h1 (V.bl.inj z)
              rw [decide_eq_false h2, decide_eq_true h1]
              rfl
          rw [eT]
          have epr : prE E (M.take (l + 1)) p = prE E (M.take l) p ++ (if decide (decide (p ∈ E) ≠ decide (u ∈ E)) = true then [(p, u)] else []) := by
            unfold prE
            rw [take_snoc hu', filter_snoc, List.map_append]
            congr 1
            split <;> rfl
          rw [epr]
          by_cases hne : decide (p ∈ E) ≠ decide (u ∈ E)
          · rw [decide_eq_true hne]
            refine ⟨_, rfl, _, rfl, by show 2 ≤ sizeLine; decide, fun kt nkt => ?_⟩
            refine ⟨by show 2 ≤ sizeLine; decide, fun t nt => ?_⟩
            have s6 : Same H5 (upd (upd H5 kt (.tup [nV p, nV u])) t (.tup [.ref kt, .bl true])) := (same_new nkt).trans (same_new nt)
            have hk6 : (upd (upd H5 kt (.tup [nV p, nV u])) t (.tup [.ref kt, .bl true])) kt = some (.tup [nV p, nV u]) := same_new nt _ _ upd_same
            have ht6 : (upd (upd H5 kt (.tup [nV p, nV u])) t (.tup [.ref kt, .bl true])) t = some (.tup [.ref kt, .bl true]) := upd_same
            generalize (upd (upd H5 kt (.tup [nV p, nV u])) t (.tup [.ref kt, .bl true])) = H6 at s6 hk6 ht6
            have hD6 := s6 _ _ hD1
            have ntup : ∀ b ys, H6 b = some (.tup ys) → (upd H6 D1 (.lst (ts.map V.ref ++ [.ref t]))) b = some (.tup ys) := fun b ys z => by
              rw [upd_ne (ne_of z hD6 (fun w => by cases w))]
              exact z
            refine ⟨_, hD6, by rw [List.length_map]; exact szBig (by omega), ?_, ts ++ [t], qs ++ [(kP (p, u), kt, .bl true)], ?_, by rw [List.length_append, List.length_singleton]; omega, ?_, ?_⟩
            · intro b o eb
              rw [upd_ne (ne_of_none eb nD1)]
              exact s6 _ _ (s5 _ _ eb)
            · rw [upd_same, List.map_append]
              rfl
            · refine paired_snoc (paired_keep tp fun b _ q hb => ⟨ntup _ _ (s6 _ _ hb.1), ntup _ _ (s6 _ _ hb.2)⟩) ⟨ntup _ _ ht6, ntup _ _ hk6⟩
            · rw [List.map_append, tq, if_pos rfl]
              unfold tO
              rw [List.map_append]
              rfl
          · rw [decide_eq_false hne, if_neg Bool.false_ne_true, List.append_nil]
            exact ⟨s5, ts, qs, hD1, by omega, tp, tq⟩
        · rintro H5 ⟨s5, ts, qs, hD1, tl, tp, tq⟩
          rw [nVs_len, List.take_length] at tq
          refine ⟨D1, ts, qs, rfl, hD1, tp, fun d nd => ?_⟩
          rw [tq, show mergeT [] (tO (prE E M p)) = tO (prE E M p) from by
            rw [show ([] : List (List Key × V)) = tO [] from rfl, mergeT_tO]
            exact congrArg tO (D_of_nodup (prE_nodup hB.nodup p))]
          have s6 : Same H5 (upd H5 d (.dT (tO (prE E M p)))) := same_new nd
          have hd6 : (upd H5 d (.dT (tO (prE E M p)))) d = some (.dT (tO (prE E M p))) := upd_same
          generalize (upd H5 d (.dT (tO (prE E M p)))) = H6 at s6 hd6
          have ha6 := s6 _ _ (s5 _ _ ha4)
          have hne : pa ≠ d := fun z => by
            rw [← z, s5 _ _ ha4] at nd
            cases nd
          have hsz1 : (prE E M p).length ≤ 32 := by
            unfold prE
            rw [List.length_map]
            have := List.length_filter_le (fun q => decide (decide (p ∈ E) ≠ decide (q ∈ E))) M
            omega
          have hsz2 : (D ((M.take j).flatMap (prE E M))).length ≤ 1024 := by
            have h1 : ∀ x ∈ D ((M.take j).flatMap (prE E M)), x ∈ D (M.flatMap (prE E M)) := by
              intro x hx
              obtain ⟨p', hp', hx'⟩ := List.mem_flatMap.mp (mem_D.mp hx)
              exact mem_D.mpr (List.mem_flatMap.mpr ⟨p', List.mem_of_mem_take hp', hx'⟩)
            have h2 := length_le_of_sub (D_nodup _) h1
            have h3 := (apart_start (n := n) (R := R) (E := E) (L := M)).len
            have h4 : M.length * M.length ≤ 32 * 32 := Nat.mul_le_mul (by omega) (by omega)
            omega
          refine ⟨pa, d, _, _, rfl, rfl, ha6, hd6, hne, .inr ?_, by rw [tO_len, tO_len]; exact szBigLe (by omega), ?_⟩
          · exact hs_tO2 (Mlt p hpM) (hB.nodup.filter _) (fun q hq => Mlt q (List.mem_filter.mp hq).1) _ _
          · refine ⟨_, rfl, ?_, ?_⟩
            · intro b o eb
              rw [upd_ne (ne_of_none eb na)]
              exact s6 _ _ (s5 _ _ (s4 _ _ eb))
            · rw [upd_same, mergeT_tO, take_snoc hp, List.flatMap_append, D_append]
              simp
      · rintro σ H4 ⟨y, rfl, s4, ha4⟩
        rw [nVs_len, List.take_length] at ha4
        have hA0 := apart_start (n := n) (R := R) (E := E) (L := M)
        generalize D (M.flatMap (prE E M)) = A0 at ha4 hA0
        clear ha3 s3
        have hAm : ∀ A : List (Nat × Nat), Apart n R E M A → A.length ≤ 1024 := fun A hA => by
          have h1 := hA.len
          have h2 : M.length * M.length ≤ 32 * 32 := Nat.mul_le_mul (by omega) (by omega)
          omega
        refine ⟨fun m σ H5 => ∃ (A : List (Nat × Nat)) (g : Bool) (y6 y7 y8 : Option V), m = 2 * (1024 - A.length) + (if g = true then 1 else 0) ∧ σ = [some (.ref a), some (.ref e), some (.ref pm), some (nV i), some (.ref pa), some (.bl g), y6, y7, y8, none, none, none, none, none, none, none] ∧ Same H1 H5 ∧ H5 pa = some (.dT (tO A)) ∧ Apart n R E M A ∧ (g = false → ∀ p ∈ M, ∀ q ∈ M, Cl n R A p q),
          ⟨_, A0, true, y, none, none, rfl, rfl, s4, ha4, hA0, (fun z => nomatch z)⟩, ?_⟩
        clear hA0 ha4 s4
        rintro m σ H5 ⟨A, g, y6, y7, y8, rfl, rfl, s5, ha5, hA, hg⟩
        have hAl := hAm A hA
        refine ⟨_, rfl, g, rfl, ?_⟩
        cases g with
        | true =>
          rw [if_pos rfl]
          refine ⟨fun σ' H' => ∃ (A' : List (Nat × Nat)) (g' : Bool) (y6 y7 y8 : Option V), σ' = [some (.ref a), some (.ref e), some (.ref pm), some (nV i), some (.ref pa), some (.bl g'), y6, y7, y8, none, none, none, none, none, none, none] ∧ Same H1 H' ∧ H' pa = some (.dT (tO A')) ∧ Pass n R E M A A' g' (fun p q => p ∈ M ∧ q ∈ M), ?_, ?_⟩
          · rintro σ' H' ⟨A', g', z6, z7, z8, rfl, s', ha', hP⟩
            refine ⟨_, ?_, A', g', z6, z7, z8, rfl, rfl, s', ha', hP.ap, fun z p hp q hq => (hP.f z).2 p q ⟨hp, hq⟩⟩
            have hl' := hAm A' hP.ap
            have hle := hP.le
            cases g' with
            | true =>
              have := hP.t rfl
              simp only [if_pos]
              omega
            | false =>
              simp
              omega
          · refine ⟨_, rfl, pm, rfl, ⟨_, SqL.of (s5 _ _ hm)⟩, ?_⟩
            refine for_list (K := K) (a := pm) (xs := nVs M) (fun j σ H6 => ∃ (A' : List (Nat × Nat)) (g' : Bool) (y6 y7 y8 : Option V), σ = [some (.ref a), some (.ref e), some (.ref pm), some (nV i), some (.ref pa), some (.bl g'), y6, y7, y8, none, none, none, none, none, none, none] ∧ Same H1 H6 ∧ H6 pa = some (.dT (tO A')) ∧ Pass n R E M A A' g' (fun p q => p ∈ M.take j ∧ q ∈ M))
              ⟨A, false, y6, y7, y8, rfl, s5, ha5, pass_old (pass_start hA) (fun p q z => nomatch z.1)⟩ (fun j σ H6 _ ⟨_, _, _, _, _, _, s6, _⟩ => SqL.of (s6 _ _ hm)) ?_ ?_
            · rintro j v σ H6 hj ⟨A', g', y6, y7, y8, rfl, s6, ha6, hP⟩
              obtain ⟨p, rfl, hp⟩ := nVs_at hj
              have hpM : p ∈ M := List.mem_of_getElem? hp
              refine ⟨_, rfl, pm, rfl, ⟨_, SqL.of (s6 _ _ hm)⟩, ?_⟩
              refine for_list (K := K) (a := pm) (xs := nVs M) (fun l σ H6 => ∃ (A' : List (Nat × Nat)) (g' : Bool) (y7 y8 : Option V), σ = [some (.ref a), some (.ref e), some (.ref pm), some (nV i), some (.ref pa), some (.bl g'), some (nV p), y7, y8, none, none, none, none, none, none, none] ∧ Same H1 H6 ∧ H6 pa = some (.dT (tO A')) ∧ Pass n R E M A A' g' (fun p' q' => (p' ∈ M.take j ∧ q' ∈ M) ∨ (p' = p ∧ q' ∈ M.take l)))
                ⟨A', g', y7, y8, rfl, s6, ha6, pass_old hP (fun p' q' z => .inl (z.elim id (fun y => nomatch y.2)))⟩ (fun j σ H6 _ ⟨_, _, _, _, _, s6, _⟩ => SqL.of (s6 _ _ hm)) ?_ ?_
              · clear hP ha6 s6 A' g' y6 y7 y8 H6
                rintro l v σ H6 hl ⟨A', g', y7, y8, rfl, s6, ha6, hP⟩
                obtain ⟨u, rfl, hu'⟩ := nVs_at hl
                have huM : u ∈ M := List.mem_of_getElem? hu'
                obtain ⟨x, hx1, hx2⟩ := ((hR.same s1).same s6).get (hB.lt p hpM)
                obtain ⟨z, hz1, hz2⟩ := ((hR.same s1).same s6).get (hB.lt u huM)
                have ha6' := ((hR.same s1).same s6).at_
                have wp := hM.wide p (hB.lt p hpM)
                have wu := hM.wide u (hB.lt u huM)
                refine ⟨_, rfl, _, rfl, a, _, _, _, rfl, rfl, SqL.of ha6', atI_nat hx1, x, _, rfl, .inl (SqL.of hx2), _, rfl, ?_, ?_, fun D1 nD1 => ?_⟩
                · rw [nVs_len]
                  omega
                · rw [nVs_len]
                  omega
                refine lc_range (n := ((nVs (rowOf R p)).length : Int).toNat) (fun l H7 => Same H6 H7 ∧ H7 D1 = some (.lst (nVs ((List.range l).filter fun k => decide ((Mach.dl R p k, Mach.dl R u k) ∈ A'))))) ⟨same_new nD1, by rw [upd_same]; rfl⟩ ?_ ?_
                · rintro k H7 hk ⟨s7, hD1⟩
                  have hk' : k < n := by
                    rw [nVs_len, wp] at hk
                    omega
                  have ek1 : (nVs (rowOf R p))[k]? = some (nV (Mach.dl R p k)) := nVs_get (by
                    unfold Mach.dl
                    rw [List.getD_eq_getElem?_getD, List.getElem?_eq_getElem (by omega)]
                    rfl)
                  have ek2 : (nVs (rowOf R u))[k]? = some (nV (Mach.dl R u k)) := nVs_get (by
                    unfold Mach.dl
                    rw [List.getD_eq_getElem?_getD, List.getElem?_eq_getElem (by omega)]
                    rfl)
                  refine ⟨rfl, ?_⟩
                  refine ⟨_, rfl, _, rfl, a, _, _, _, rfl, rfl, SqL.of (s7 _ _ ha6'), atI_nat hx1, _, rfl, x, _, _, _, rfl, rfl, SqL.of (s7 _ _ hx2), atI_zero_add ek1, _, rfl, _, rfl, a, _, _, _, rfl, rfl, SqL.of (s7 _ _ ha6'), atI_nat hz1, _, rfl, z, _, _, _, rfl, rfl, SqL.of (s7 _ _ hz2), atI_zero_add ek2, by show 2 ≤ sizeLine; decide, fun kt nkt => ?_⟩
                  obtain ⟨r, hg1, hr1⟩ := dgetT (p := Mach.dl R p k) (q := Mach.dl R u k) (same_new nkt _ _ (s7 _ _ ha6)) (upd_same (H := H7) (a := kt) (o := .tup [nV (Mach.dl R p k), nV (Mach.dl R u k)]))
                  refine ⟨_, rfl, pa, r, rfl, hg1, _, rfl, ?_⟩
                  rw [List.range_succ, filter_snoc, hr1]
                  have hfl := List.length_filter_le (fun k => decide ((Mach.dl R p k, Mach.dl R u k) ∈ A')) (List.range k)
                  rw [List.length_range] at hfl
                  by_cases hin : (Mach.dl R p k, Mach.dl R u k) ∈ A'
                  · rw [decide_eq_true hin]
                    refine ⟨_, rfl, _, same_new nkt _ _ hD1, by rw [nVs_len]; exact szBig (by omega), ?_, ?_⟩
                    · intro b o eb
                      rw [upd_ne (ne_of_none eb nD1)]
                      exact same_new nkt _ _ (s7 _ _ eb)
                    · rw [upd_same, if_pos rfl, nVs_snoc, Int.zero_add]
                      rfl
                  · rw [decide_eq_false hin]
                    refine ⟨s7.trans (same_new nkt), ?_⟩
                    rw [if_neg Bool.false_ne_true, List.append_nil]
                    exact same_new nkt _ _ hD1
                · rintro H7 ⟨s7, hD1⟩
                  rw [nVs_len, wp, Int.toNat_natCast] at hD1
                  -- if (p, q) not in apart and led != []
                  have ha7 := s7 _ _ ha6
                  have hrest : ∀ Hx, Same H7 Hx → ((p, u) ∈ A' ∨ ((List.range n).filter fun k => decide ((Mach.dl R p k, Mach.dl R u k) ∈ A')) = []) → ∃ (A2 : List (Nat × Nat)) (g2 : Bool) (z7 z8 : Option V), ([some (V.ref a), some (.ref e), some (.ref pm), some (nV i), some (.ref pa), some (.bl g'), some (nV p), some (nV u), some (.ref D1), none, none, none, none, none, none, none] : L2.St) = [some (.ref a), some (.ref e), some (.ref pm), some (nV i), some (.ref pa), some (.bl g2), some (nV p), z7, z8, none, none, none, none, none, none, none] ∧ Same H1 Hx ∧ Hx pa = some (.dT (tO A2)) ∧ Pass n R E M A A2 g2 (fun p' q' => (p' ∈ M.take j ∧ q' ∈ M) ∨ (p' = p ∧ q' ∈ M.take (l + 1))) := by
                    intro Hx sx hc
                    refine ⟨A', g', _, _, rfl, (s6.trans s7).trans sx, sx _ _ ha7, pass_old hP fun p' q' z => ?_⟩
                    rcases z with z | ⟨z1, z2⟩
                    · exact .inl (.inl z)
                    · rw [take_snoc hu'] at z2
                      rcases List.mem_append.mp z2 with z2 | z2
                      · exact .inl (.inr ⟨z1, z2⟩)
                      · rw [List.mem_singleton] at z2
                        rw [z1, z2]
                        refine .inr fun h1 k hk h2 => ?_
                        rcases hc with hc | hc
                        · exact h1 hc
                        · have : k ∈ ((List.range n).filter fun k => decide ((Mach.dl R p k, Mach.dl R u k) ∈ A')) := List.mem_filter.mpr ⟨List.mem_range.mpr hk, decide_eq_true h2⟩
                          rw [hc] at this
                          cases this
                  refine ⟨_, rfl, _, rfl, by show 2 ≤ sizeLine; decide, fun kt nkt => ?_⟩
                  have s8 : Same H7 (upd H7 kt (.tup [nV p, nV u])) := same_new nkt
                  obtain ⟨r, hg1, hr1⟩ := dgetT (p := p) (q := u) (s8 _ _ ha7) (upd_same (H := H7) (a := kt) (o := .tup [nV p, nV u]))
                  refine ⟨_, rfl, pa, r, rfl, hg1, _, rfl, ?_⟩
                  rw [hr1]
                  clear hg1 hr1
                  generalize (upd H7 kt (.tup [nV p, nV u])) = H8 at s8
                  by_cases hin : (p, u) ∈ A'
                  · rw [decide_eq_true hin]
                    exact hrest _ s8 (.inl hin)
                  · rw [decide_eq_false hin]
                    refine ⟨_, rfl, by show 0 ≤ sizeLine; decide, fun e0 ne0 => ?_⟩
                    have s9 : Same H8 (upd H8 e0 (.lst [])) := same_new ne0
                    have he9 : (upd H8 e0 (.lst [])) e0 = some (.lst []) := upd_same
                    generalize (upd H8 e0 (.lst [])) = H9 at s9 he9
                    have s79 := s8.trans s9
                    have hlt : ∀ k ∈ ((List.range n).filter fun k => decide ((Mach.dl R p k, Mach.dl R u k) ∈ A')), k < n ∧ (Mach.dl R p k, Mach.dl R u k) ∈ A' := fun k hk => by
                      obtain ⟨h1, h2⟩ := List.mem_filter.mp hk
                      exact ⟨List.mem_range.mp h1, of_decide_eq_true h2⟩
                    generalize ((List.range n).filter fun k => decide ((Mach.dl R p k, Mach.dl R u k) ∈ A')) = S at hD1 hrest hlt
                    refine ⟨dNs S, .list [], dp_nVs (s79 _ _ hD1), .lst (SqL.of he9) .nil, shp_dNs S, shp_nil, _, rfl, ?_⟩
                    rw [eqv_dNs_nil]
                    cases S with
                    | nil => exact hrest _ s79 (.inr rfl)
                    | cons k0 S' =>
                      obtain ⟨hk0, hk1⟩ := hlt k0 List.mem_cons_self
                      refine ⟨by show 2 ≤ sizeLine; decide, fun t0 nt0 => ?_⟩
                      refine ⟨t0, _, rfl, SqT.of upd_same, rfl, _, _, rfl, _, rfl, _, rfl, _, rfl, by show 2 ≤ sizeLine; decide, fun k2 nk2 => ?_⟩
                      have s10 : Same H9 (upd (upd H9 t0 (.tup [.bl true, .bl true])) k2 (.tup [nV p, nV u])) := (same_new nt0).trans (same_new nk2)
                      have hk10 : (upd (upd H9 t0 (.tup [.bl true, .bl true])) k2 (.tup [nV p, nV u])) k2 = some (.tup [nV p, nV u]) := upd_same
                      generalize (upd (upd H9 t0 (.tup [.bl true, .bl true])) k2 (.tup [nV p, nV u])) = H10 at s10 hk10
                      have ha10 := s10 _ _ (s79 _ _ ha7)
                      refine ⟨pa, _, rfl, DPut.t (k := kP (p, u)) ha10 hk10 (by rw [tO_len]; exact szBig (by have := hAm A' hP.ap; omega)), _, _, rfl, rfl, ?_⟩
                      refine ⟨A' ++ [(p, u)], true, _, _, rfl, ?_, ?_, pass_new hM hB hP hpM huM hk0 hin hk1⟩
                      · intro b o eb
                        rw [upd_ne (ne_of_none eb na)]
                        exact s10 _ _ (s79 _ _ (s7 _ _ (s6 _ _ eb)))
                      · rw [upd_same, putK_tO, push_new hin]
              · rintro σ H6 ⟨A', g', y7, y8, rfl, s6, ha6, hP⟩
                rw [nVs_len, List.take_length] at hP
                refine ⟨A', g', _, y7, y8, rfl, s6, ha6, pass_old hP fun p' q' z => .inl ?_⟩
                rw [take_snoc hp] at z
                rcases List.mem_append.mp z.1 with z' | z'
                · exact .inl ⟨z', z.2⟩
                · exact .inr ⟨List.mem_singleton.mp z', z.2⟩
            · rintro σ H6 ⟨A', g', y6, y7, y8, rfl, s6, ha6, hP⟩
              rw [nVs_len, List.take_length] at hP
              exact ⟨A', g', y6, y7, y8, rfl, s6, ha6, hP⟩
        | false =>
          rw [if_neg Bool.false_ne_true]
          have hcl := pass_end hM hB hA (hg rfl)
          have hAs : ∀ p ∈ M, ∀ q ∈ M, (p, q) ∉ A → (q, p) ∉ A := fun p hp q hq z => (hcl q hq p hp).mpr (((hcl p hp q hq).mp z).symm)
          have hAt : ∀ p ∈ M, ∀ q ∈ M, ∀ r ∈ M, (p, q) ∉ A → (q, r) ∉ A → (p, r) ∉ A := fun p hp q hq r hr z z' => (hcl p hp r hr).mpr (((hcl p hp q hq).mp z).trans ((hcl q hq r hr).mp z'))
          have hAr : ∀ p ∈ M, (p, p) ∉ A := fun p hp => (hcl p hp p hp).mpr (Alk.refl _ _ _ _)
          -- firsts, number = [], {}
          refine ⟨by show 0 ≤ sizeLine; decide, fun pf nf => ?_⟩
          intro pn nn
          refine ⟨by show 2 ≤ sizeLine; decide, fun t2 n2 => ?_⟩
          refine ⟨t2, _, rfl, SqT.of upd_same, rfl, _, _, rfl, _, _, rfl, rfl, ?_⟩
          have s6 : Same H5 (upd (upd (upd H5 pf (.lst [])) pn (.dK [])) t2 (.tup [.ref pf, .ref pn])) := ((same_new nf).trans (same_new nn)).trans (same_new n2)
          have hf6 : (upd (upd (upd H5 pf (.lst [])) pn (.dK [])) t2 (.tup [.ref pf, .ref pn])) pf = some (.lst (nVs [])) := same_new n2 _ _ (same_new nn _ _ upd_same)
          have hn6 : (upd (upd (upd H5 pf (.lst [])) pn (.dK [])) t2 (.tup [.ref pf, .ref pn])) pn = some (.dK (dO (M.take 0) fun _ => nV 0)) := same_new n2 _ _ upd_same
          generalize (upd (upd (upd H5 pf (.lst [])) pn (.dK [])) t2 (.tup [.ref pf, .ref pn])) = H6 at s6 hf6 hn6
          have nn5 : H5 pn = none := (same_new nf).free nn
          have nfn : pf ≠ pn := fun z => by
            rw [z, hn6] at hf6
            cases hf6
          refine ⟨_, rfl, pm, rfl, ⟨_, SqL.of (s6 _ _ (s5 _ _ hm))⟩, ?_⟩
          refine for_list (K := K) (a := pm) (xs := nVs M) (fun j σ H7 => ∃ (F : List Nat) (num : Nat → Nat) (y11 y12 : Option V), σ = [some (.ref a), some (.ref e), some (.ref pm), some (nV i), some (.ref pa), some (.bl false), y6, y7, y8, some (.ref pf), some (.ref pn), y11, y12, none, none, none] ∧ Same H5 H7 ∧ H7 pf = some (.lst (nVs F)) ∧ H7 pn = some (.dK (dO (M.take j) fun s => nV (num s))) ∧ Num (fun s t => (s, t) ∉ A) (M.take j) F num)
            ⟨[], fun _ => 0, none, none, rfl, s6, hf6, hn6, num_start _ _⟩ (fun j σ H7 _ ⟨_, _, _, _, _, s7, _⟩ => SqL.of (s7 _ _ (s5 _ _ hm))) ?_ ?_
          · clear s6 hf6 hn6
            rintro j v σ H7 hj ⟨F, num, y11, y12, rfl, s7, hf7, hn7, hN⟩
            obtain ⟨t, rfl, ht⟩ := nVs_at hj
            have htM : t ∈ M := List.mem_of_getElem? ht
            have hnt := nodup_not_take hB.nodup ht
            have hsub : ∀ s ∈ M.take j, s ∈ M := fun s hs => List.mem_of_mem_take hs
            have hFl : F.length ≤ 32 := by
              have h1 := congrArg List.length hN.d
              rw [List.length_range] at h1
              have h2 := length_le_of_sub (D_nodup ((M.take j).map num)) (fun x hx => mem_D.mp hx)
              rw [List.length_map, List.length_take] at h2
              omega
            refine ⟨_, rfl, pf, _, rfl, .inl (SqL.of hf7), _, rfl, ?_, ?_, fun D1 nD1 => ?_⟩
            · rw [nVs_len]
              omega
            · rw [nVs_len]
              omega
            refine lc_range (n := ((nVs F).length : Int).toNat) (fun l H8 => Same H7 H8 ∧ H8 D1 = some (.lst (nVs ((List.range l).filter fun k => decide ((F.getD k 0, t) ∉ A))))) ⟨same_new nD1, by rw [upd_same]; rfl⟩ ?_ ?_
            · rintro k H8 hk ⟨s8, hD1⟩
              have hk' : k < F.length := by
                rw [nVs_len] at hk
                omega
              have ek : (nVs F)[k]? = some (nV (F.getD k 0)) := nVs_get (by
                rw [List.getD_eq_getElem?_getD, List.getElem?_eq_getElem hk']
                rfl)
              refine ⟨rfl, ?_⟩
              refine ⟨_, rfl, _, rfl, pf, _, _, _, rfl, rfl, SqL.of (s8 _ _ hf7), atI_zero_add ek, _, rfl, by show 2 ≤ sizeLine; decide, fun kt nkt => ?_⟩
              obtain ⟨r, hg1, hr1⟩ := dgetT (p := F.getD k 0) (q := t) (same_new nkt _ _ (s8 _ _ (s7 _ _ ha5))) (upd_same (H := H8) (a := kt) (o := .tup [nV (F.getD k 0), nV t]))
              refine ⟨_, rfl, pa, r, rfl, hg1, _, rfl, ?_⟩
              rw [List.range_succ, filter_snoc, hr1]
              have hfl := List.length_filter_le (fun k => decide ((F.getD k 0, t) ∉ A)) (List.range k)
              rw [List.length_range] at hfl
              by_cases hin : (F.getD k 0, t) ∈ A
              · rw [decide_eq_true hin, decide_eq_false (fun z => z hin)]
                refine ⟨s8.trans (same_new nkt), ?_⟩
                rw [if_neg Bool.false_ne_true, List.append_nil]
                exact same_new nkt _ _ hD1
              · rw [decide_eq_false hin, decide_eq_true hin]
                refine ⟨_, rfl, _, same_new nkt _ _ hD1, by rw [nVs_len]; exact szBig (by omega), ?_, ?_⟩
                · intro b o eb
                  rw [upd_ne (ne_of_none eb nD1)]
                  exact same_new nkt _ _ (s8 _ _ eb)
                · rw [upd_same, if_pos rfl, nVs_snoc, Int.zero_add]
                  rfl
            · rintro H8 ⟨s8, hD1⟩
              rw [nVs_len, Int.toNat_natCast] at hD1
              have hS : ∀ k, k ∈ ((List.range F.length).filter fun k => decide ((F.getD k 0, t) ∉ A)) ↔ k < F.length ∧ (F.getD k 0, t) ∉ A := fun k => by
                rw [List.mem_filter, List.mem_range, decide_eq_true_eq]
              generalize ((List.range F.length).filter fun k => decide ((F.getD k 0, t) ∉ A)) = S at hD1 hS
              refine ⟨_, rfl, by show 0 ≤ sizeLine; decide, fun e0 ne0 => ?_⟩
              have s9 : Same H8 (upd H8 e0 (.lst [])) := same_new ne0
              have he9 : (upd H8 e0 (.lst [])) e0 = some (.lst []) := upd_same
              generalize (upd H8 e0 (.lst [])) = H9 at s9 he9
              have s79 := s8.trans s9
              have hn9 := s79 _ _ hn7
              have hf9 := s79 _ _ hf7
              refine ⟨dNs S, .list [], dp_nVs (s9 _ _ hD1), .lst (SqL.of he9) .nil, shp_dNs S, shp_nil, _, rfl, ?_⟩
              rw [eqv_dNs_nil]
              cases S with
              | nil =>
                refine ⟨_, rfl, pf, _, rfl, .inl (SqL.of hf9), _, rfl, _, rfl, pn, _, rfl, DPut.k (k := kN t) hn9 (by rw [dO_len, List.length_take]; exact szBig (by omega)), ?_⟩
                have hput : putK (dO (M.take j) fun s => nV (num s)) (kN t) (.int ((nVs F).length : Int)) = dO (M.take j ++ [t]) (fun s => nV (put num t F.length s)) := by
                  have h1 := putK_dO_new (L := M.take j) (c := fun s => nV (num s)) (d := fun s => nV (put num t F.length s)) (s := t) hnt (fun s hs => by
                    show nV (put num t F.length s) = nV (num s)
                    rw [put_ne (fun z => hnt (by rw [← z]; exact hs))])
                  rw [← h1, put_same, nVs_len]
                  rfl
                rw [hput]
                have hf10 : (upd H9 pn (.dK (dO (M.take j ++ [t]) fun s => nV (put num t F.length s)))) pf = some (.lst (nVs F)) := by
                  rw [upd_ne nfn]
                  exact hf9
                have hn10 : (upd H9 pn (.dK (dO (M.take j ++ [t]) fun s => nV (put num t F.length s)))) pn = some (.dK (dO (M.take j ++ [t]) fun s => nV (put num t F.length s))) := upd_same
                have s10 : Same H5 (upd H9 pn (.dK (dO (M.take j ++ [t]) fun s => nV (put num t F.length s)))) := fun b o eb => by
                  rw [upd_ne (ne_of_none eb nn5)]
                  exact s79 _ _ (s7 _ _ eb)
                have hD10 : (upd H9 pn (.dK (dO (M.take j ++ [t]) fun s => nV (put num t F.length s)))) D1 = some (.lst (nVs [])) := by
                  rw [upd_ne (ne_of (s9 _ _ hD1) hn9 (fun w => by cases w))]
                  exact s9 _ _ hD1
                generalize (upd H9 pn (.dK (dO (M.take j ++ [t]) fun s => nV (put num t F.length s)))) = H10 at hf10 hn10 s10 hD10
                refine ⟨_, rfl, by show 0 ≤ sizeLine; decide, fun e1 ne1 => ?_⟩
                have s11 : Same H10 (upd H10 e1 (.lst [])) := same_new ne1
                have he11 : (upd H10 e1 (.lst [])) e1 = some (.lst []) := upd_same
                generalize (upd H10 e1 (.lst [])) = H11 at s11 he11
                refine ⟨dNs [], .list [], dp_nVs (s11 _ _ hD10), .lst (SqL.of he11) .nil, shp_nil, shp_nil, _, rfl, ?_⟩
                rw [eqv_dNs_nil]
                have hf11 := s11 _ _ hf10
                refine ⟨_, rfl, .inl ⟨rfl, _, SqL.of hf11⟩, _, rfl, pf, _, _, rfl, rfl, hf11, by rw [nVs_len]; exact szBig (by omega), ?_⟩
                refine ⟨F ++ [t], put num t F.length, _, _, rfl, ?_, ?_, ?_, ?_⟩
                · intro b o eb
                  rw [upd_ne (ne_of_none eb nf)]
                  exact s11 _ _ (s10 _ _ eb)
                · rw [upd_same, nVs_snoc]
                · rw [upd_ne nfn.symm, take_snoc ht]
                  exact s11 _ _ hn10
                · rw [take_snoc ht]
                  refine num_new hN hnt (hAr t htM) (fun s hs z => hAs t htM s (hsub s hs) z) (fun s hs u hu z => hAs s (hsub s hs) u (hsub u hu) z) (fun s hs u hu z z' => hAt s (hsub s hs) u (hsub u hu) t htM z z') (fun k hk z => ?_)
                  have := (hS k).mpr ⟨hk, by rw [List.getD_eq_getElem?_getD, List.getElem?_eq_getElem hk]; exact z⟩
                  cases this
              | cons k0 S' =>
                obtain ⟨hk0, hk1⟩ := (hS k0).mp List.mem_cons_self
                have hk1' : (F[k0], t) ∉ A := by
                  rw [List.getD_eq_getElem?_getD, List.getElem?_eq_getElem hk0] at hk1
                  exact hk1
                refine ⟨_, rfl, D1, _, _, _, rfl, rfl, SqL.of (s9 _ _ hD1), atI_nat (j := 0) (nVs_get (ns := k0 :: S') (i := 0) (n := k0) rfl), _, rfl, _, rfl, pn, _, rfl, DPut.k (k := kN t) hn9 (by rw [dO_len, List.length_take]; exact szBig (by omega)), ?_⟩
                have hput : putK (dO (M.take j) fun s => nV (num s)) (kN t) (nV k0) = dO (M.take j ++ [t]) (fun s => nV (put num t k0 s)) := by
                  have h1 := putK_dO_new (L := M.take j) (c := fun s => nV (num s)) (d := fun s => nV (put num t k0 s)) (s := t) hnt (fun s hs => by
                    show nV (put num t k0 s) = nV (num s)
                    rw [put_ne (fun z => hnt (by rw [← z]; exact hs))])
                  rw [← h1, put_same]
                rw [hput]
                have hf10 : (upd H9 pn (.dK (dO (M.take j ++ [t]) fun s => nV (put num t k0 s)))) pf = some (.lst (nVs F)) := by
                  rw [upd_ne nfn]
                  exact hf9
                have hn10 : (upd H9 pn (.dK (dO (M.take j ++ [t]) fun s => nV (put num t k0 s)))) pn = some (.dK (dO (M.take j ++ [t]) fun s => nV (put num t k0 s))) := upd_same
                have s10 : Same H5 (upd H9 pn (.dK (dO (M.take j ++ [t]) fun s => nV (put num t k0 s)))) := fun b o eb => by
                  rw [upd_ne (ne_of_none eb nn5)]
                  exact s79 _ _ (s7 _ _ eb)
                have hD10 : (upd H9 pn (.dK (dO (M.take j ++ [t]) fun s => nV (put num t k0 s)))) D1 = some (.lst (nVs (k0 :: S'))) := by
                  rw [upd_ne (ne_of (s9 _ _ hD1) hn9 (fun w => by cases w))]
                  exact s9 _ _ hD1
                generalize (upd H9 pn (.dK (dO (M.take j ++ [t]) fun s => nV (put num t k0 s)))) = H10 at hf10 hn10 s10 hD10
                refine ⟨_, rfl, by show 0 ≤ sizeLine; decide, fun e1 ne1 => ?_⟩
                have s11 : Same H10 (upd H10 e1 (.lst [])) := same_new ne1
                have he11 : (upd H10 e1 (.lst [])) e1 = some (.lst []) := upd_same
                generalize (upd H10 e1 (.lst [])) = H11 at s11 he11
                refine ⟨dNs (k0 :: S'), .list [], dp_nVs (s11 _ _ hD10), .lst (SqL.of he11) .nil, shp_dNs _, shp_nil, _, rfl, ?_⟩
                rw [eqv_dNs_nil]
                refine ⟨F, put num t k0, _, _, rfl, s10.trans s11, s11 _ _ hf10, ?_, ?_⟩
                · rw [take_snoc ht]
                  exact s11 _ _ hn10
                · rw [take_snoc ht]
                  exact num_old hN hnt (hAr t htM) (fun s hs z => hAs s (hsub s hs) t htM z) (fun s hs z => hAs t htM s (hsub s hs) z) (fun s hs u hu z z' => hAt s (hsub s hs) u (hsub u hu) t htM z z') (fun s hs u hu z z' => hAt s (hsub s hs) t htM u (hsub u hu) z z') hk0 hk1'
          · rintro σ H7 ⟨F, num, y11, y12, rfl, s7, hf7, hn7, hN⟩
            rw [nVs_len, List.take_length] at hn7 hN
            have hq := quot_least hM hB (fun s hs t ht => (hN.iff s hs t ht).trans (hcl s hs t ht)) hN.sub hN.fn hN.d
            have hFl : F.length ≤ M.length := by
              have h1 := congrArg List.length hN.d
              rw [List.length_range] at h1
              have h2 := length_le_of_sub (D_nodup (M.map num)) (fun x hx => mem_D.mp hx)
              rw [List.length_map] at h2
              omega
            -- return
            have hs07 : Same H H7 := (s1.trans s5).trans s7
            refine ⟨_, rfl, pf, rfl, ⟨_, SqL.of hf7⟩, fun D1 nD1 => ?_⟩
            refine lc_list (K := K) (a := pf) (xs := nVs F) (fun i H8 => Same H7 H8 ∧ ∃ ys : List Addr, ys.length = i ∧ (∀ y ∈ ys, H7 y = none) ∧ H8 D1 = some (.lst (ys.map V.ref)) ∧ (∀ y ∈ ys, y ≠ D1) ∧
              ∀ (j : Nat) (y : Addr) (s : Nat), ys[j]? = some y → F[j]? = some s → H8 y = some (.lst (nVs ((rowOf R s).map num))))
              ⟨same_new nD1, [], rfl, fun y hy => (nomatch hy), by rw [upd_same]; rfl, fun y hy => (nomatch hy), fun j y s hy => by simp at hy⟩ (fun i H8 _ ⟨s8, _⟩ => SqL.of (s8 _ _ hf7)) ?_ ?_
            · rintro i v H8 hi ⟨s8, ys, yl, ynew, hD1, yne, hrow⟩
              obtain ⟨st, rfl, hst⟩ := nVs_at hi
              have hi' : i < F.length := (List.getElem?_eq_some_iff.mp hst).1
              have hsM : st ∈ M := hN.sub _ (List.mem_of_getElem? hst)
              obtain ⟨x, hx1, hx2⟩ := (hR.same (hs07.trans s8)).get (hB.lt st hsM)
              refine ⟨rfl, ?_⟩
              refine ⟨_, rfl, _, rfl, a, _, _, _, rfl, rfl, SqL.of ((hs07.trans s8) _ _ hR.at_), atI_nat hx1, x, rfl, ⟨_, SqL.of hx2⟩, fun D2 nD2 => ?_⟩
              refine lc_list (K := K) (a := x) (xs := nVs (rowOf R st)) (fun j H9 => Same H8 H9 ∧ H9 D2 = some (.lst (nVs (((rowOf R st).take j).map num)))) ⟨same_new nD2, by rw [upd_same]; rfl⟩ (fun j H9 _ ⟨s9, _⟩ => SqL.of (s9 _ _ hx2)) ?_ ?_
              · rintro j v H9 hj ⟨s9, hD2⟩
                obtain ⟨u, rfl, hu'⟩ := nVs_at hj
                have huM : u ∈ M := hB.closed hsM (List.mem_of_getElem? hu')
                have hj' := (List.getElem?_eq_some_iff.mp hu').1
                have hw := hM.wide st (hB.lt st hsM)
                refine ⟨rfl, ?_⟩
                refine ⟨_, rfl, _, rfl, pn, _, rfl, dget_dO (s9 _ _ (s8 _ _ hn7)) huM, _, hD2, ?_, ?_, ?_⟩
                · rw [nVs_len, List.length_map, List.length_take]
                  exact szBig (by omega)
                · intro b o eb
                  rw [upd_ne (ne_of_none eb nD2)]
                  exact s9 _ _ eb
                · rw [upd_same, take_snoc hu', List.map_append]
                  exact congrArg (fun z => some (HO.lst z)) (nVs_snoc _ _).symm
              · rintro H9 ⟨s9, hD2⟩
                rw [nVs_len, List.take_length] at hD2
                have hD1' := s9 _ _ hD1
                have n12 : D2 ≠ D1 := fun z => by
                  rw [z, hD1] at nD2
                  cases nD2
                refine ⟨_, hD1', by rw [List.length_map]; exact szBig (by omega), ?_, ys ++ [D2], by rw [List.length_append, List.length_singleton, yl], ?_, ?_, ?_, ?_⟩
                · intro b o eb
                  rw [upd_ne (ne_of_none eb nD1)]
                  exact (s8.trans s9) _ _ eb
                · intro y hy
                  rcases List.mem_append.mp hy with z | z
                  · exact ynew y z
                  · rw [List.mem_singleton] at z
                    rw [z]
                    exact s8.free nD2
                · rw [upd_same, List.map_append]
                  rfl
                · intro y hy
                  rcases List.mem_append.mp hy with z | z
                  · exact yne y z
                  · rw [List.mem_singleton] at z
                    rw [z]
                    exact n12
                · intro j y s' hy hs'
                  by_cases hj : j < ys.length
                  · rw [List.getElem?_append_left hj] at hy
                    rw [upd_ne (yne y (List.mem_of_getElem? hy))]
                    exact s9 _ _ (hrow j y s' hy hs')
                  · have hj2 : j = ys.length := by
                      have := (List.getElem?_eq_some_iff.mp hy).1
                      rw [List.length_append, List.length_singleton] at this
                      omega
                    rw [hj2, yl, hst] at hs'
                    rw [hj2, List.getElem?_concat_length] at hy
                    cases hs'
                    cases hy
                    rw [upd_ne n12]
                    exact hD2
            · rintro H8 ⟨s8, ys, yl, ynew, hD1, yne, hrow⟩
              refine ⟨_, rfl, pf, rfl, ⟨_, SqL.of (s8 _ _ hf7)⟩, fun D3 nD3 => ?_⟩
              refine lc_list (K := K) (a := pf) (xs := nVs F) (fun i H9 => Same H8 H9 ∧ H9 D3 = some (.lst (nVs (((F.take i).filter fun s => decide (s ∈ E)).map num)))) ⟨same_new nD3, by rw [upd_same]; rfl⟩ (fun i H9 _ ⟨s9, _⟩ => SqL.of (s9 _ _ (s8 _ _ hf7))) ?_ ?_
              · rintro i v H9 hi ⟨s9, hD3⟩
                obtain ⟨st, rfl, hst⟩ := nVs_at hi
                have hi' : i < F.length := (List.getElem?_eq_some_iff.mp hst).1
                have hsM : st ∈ M := hN.sub _ (List.mem_of_getElem? hst)
                refine ⟨rfl, ?_⟩
                refine ⟨_, rfl, _, rfl, e, _, rfl, .inl (SqL.of (s9 _ _ (s8 _ _ (hs07 _ _ he)))), rfl, flat_nVs _, _, rfl, ?_⟩
                rw [take_snoc hst, filter_snoc, if_neg Bool.false_ne_true, inV_nVs]
                have hfl := List.length_filter_le (fun s => decide (s ∈ E)) (F.take i)
                rw [List.length_take] at hfl
                by_cases hE : st ∈ E
                · rw [decide_eq_true hE]
                  refine ⟨_, rfl, _, rfl, pn, _, rfl, dget_dO (s9 _ _ (s8 _ _ hn7)) hsM, _, hD3, ?_, ?_, ?_⟩
                  · rw [nVs_len, List.length_map]
                    exact szBig (by omega)
                  · intro b o eb
                    rw [upd_ne (ne_of_none eb nD3)]
                    exact s9 _ _ eb
                  · rw [upd_same, if_pos rfl, List.map_append]
                    exact congrArg (fun z => some (HO.lst z)) (nVs_snoc _ _).symm
                · rw [decide_eq_false hE]
                  refine ⟨s9, ?_⟩
                  rw [if_neg Bool.false_ne_true, List.append_nil]
                  exact hD3
              · rintro H9 ⟨s9, hD3⟩
                rw [nVs_len, List.take_length] at hD3
                refine ⟨by show 2 ≤ sizeLine; decide, fun pt nt => ?_⟩
                have s08 := (hs07.trans s8).trans s9
                have s10 : Same H9 (upd H9 pt (.tup [.ref D1, .ref D3])) := same_new nt
                refine q _ pt D1 D3 ys _ _ (s08.trans s10) (s08.free nt) (hs07.free nD1) ((hs07.trans s8).free nD3) (fun y hy => hs07.free (ynew y hy)) upd_same ?_ (s10 _ _ hD3) hq.1 hq.2 ?_
                · rw [nVs_len] at yl
                  refine ⟨s10 _ _ (s9 _ _ hD1), by rw [yl, List.length_map], fun j y hy => ?_⟩
                  have hj : j < F.length := by
                    have := (List.getElem?_eq_some_iff.mp hy).1
                    omega
                  rw [s10 _ _ (s9 _ _ (hrow j y F[j] hy (List.getElem?_eq_getElem hj)))]
                  have er : rowOf (F.map fun s => (rowOf R s).map num) j = (rowOf R F[j]).map num := by
                    rw [show rowOf (F.map fun s => (rowOf R s).map num) j = (F.map fun s => (rowOf R s).map num).getD j [] from rfl, List.getD_eq_getElem?_getD, List.getElem?_map, List.getElem?_eq_getElem hj]
                    rfl
                  rw [er]
                · rw [List.length_map]
                  omega
end
end K13

namespace Rg
open PySem PySem.Spec PyProof.Rows L2 Mach
/-- alike: the same data -/
def spAlk (K : PySem.W.Frag) : Sp := fun vs H Q _ => ∃ (a b : Addr) (d : PyData) (i k : Nat), vs = [.ref a, .ref b] ∧ Dp K H (.ref a) d ∧ Dp K H (.ref b) d ∧ Gd i k d ∧ i ≤ 60 ∧ k ≤ 100000 ∧ Q (.bl true) H
end Rg
namespace K13
open PySem PySem.Spec PyProof.Rows L2 Rg Mach
abbrev sAlk : Stmt := topS 12
theorem scAlk : FnScope ["_law_found", "_law_due"] ["_law_found", "_law_due"] (defScope sAlk) := ⟨rfl, rfl, rfl, by decide +kernel, rfl, by decide +kernel, by decide +kernel⟩
section
variable {P : Program} {w : World} {K : PySem.W.Frag} {mg : Str → Option Value} {base : Heap}
theorem ok_alk {f : Addr} {fd : FuncData} {k : Nat} (F : Fun K "_law_alike" "_law_alike" sAlk f fd) (mre : mg "repr" = none) :
    GFn P w K mg base CX0 (k + 1) f fd ["_law_found", "_law_due"] (spAlk K) := by
  refine fun_okG F scAlk (fun vs H Q E h => ?_) (fun cdv A outer s H vs Q E hr hg h => ?_)
  · obtain ⟨a, b, d, i, k, rfl, _⟩ := h
    rfl
  · obtain ⟨a, b, d, i, k', rfl, ha, hb, hd, hi, hk, q⟩ := h
    refine ⟨_, pss_one (ps_ret (pe_and (pe_cmpR (op_eqD hr.units) (pv 0) (pv 1) (nomark _))
      (pe_one (pe_cmpR op_eq (pe_callB (call_repr_data hg hr.units) (by rfl) mre bRepr (pa_cons (pv 0) pa_nil)) (pe_callB (call_repr_data hg hr.units) (by rfl) mre bRepr (pa_cons (pv 1) pa_nil)) (nomark _))))), ?_⟩
    refine ⟨_, rfl, _, rfl, d, d, ha, hb, hd.shp hi, hd.shp hi, ?_⟩
    rw [eqv_same hd.lay]
    have hdp := hd.dep
    refine ⟨_, rfl, _, rfl, a, d, rfl, ha, hd.shw, hd.nod, by omega, hd.short hi hk, _, rfl, b, d, rfl, hb, hd.shw, hd.nod, by omega, hd.short hi hk, rfl, ?_⟩
    rw [decide_eq_true rfl]
    exact q
end
end K13

/-! sets of states in the heap: tuples, the list of them, the dict of their numbers -/
namespace Rg
open PySem PySem.Spec PyProof.Rows L2 Mach
def kT (T : List Nat) : List Key := T.map kN
theorem kT_inj : ∀ {S T : List Nat}, kT S = kT T → S = T
  | [], [], _ => rfl
  | [], _ :: _, h => by cases h
  | _ :: _, [], h => by cases h
  | a :: S, b :: T, h => by
    obtain ⟨h1, h2⟩ := List.cons.inj h
    rw [kN_inj h1, kT_inj h2]
theorem kT_vals (T : List Nat) : (kT T).map kV = nVs T := by
  unfold kT nVs
  rw [List.map_map]
  rfl
def nOG (F G : List (List Nat)) : List (List Key × V) := G.map fun T => (kT T, nV (F.idxOf T))
def nO (F : List (List Nat)) : List (List Key × V) := nOG F F
theorem nO_len (F : List (List Nat)) : (nO F).length = F.length := List.length_map _
theorem valV_nOG (F : List (List Nat)) (T : List Nat) : ∀ G : List (List Nat), valV (nOG F G) (kT T) = if T ∈ G then some (nV (F.idxOf T)) else none
  | [] => rfl
  | S :: G => by
    show valV ((kT S, nV (F.idxOf S)) :: nOG F G) (kT T) = _
    by_cases e : S = T
    · rw [valV_pos (by show kT S = kT T; rw [e]), if_pos (by rw [e]; exact List.mem_cons_self), e]
    · rw [valV_neg (fun z => e (kT_inj z)), valV_nOG F T G]
      by_cases h : T ∈ G
      · rw [if_pos h, if_pos (List.mem_cons_of_mem _ h)]
      · rw [if_neg h, if_neg]
        intro z
        rcases List.mem_cons.mp z with z | z
        · exact e z.symm
        · exact h z
theorem valV_nO {F : List (List Nat)} {T : List Nat} : valV (nO F) (kT T) = if T ∈ F then some (nV (F.idxOf T)) else none := valV_nOG F T F
theorem putK_nO {F : List (List Nat)} {T : List Nat} (h : T ∉ F) : putK (nO F) (kT T) (nV F.length) = nO (F ++ [T]) := by
  rw [putK_new _ (by rw [valV_nO, if_neg h])]
  unfold nO nOG
  rw [List.map_append]
  refine congr (congrArg _ ?_) ?_
  · apply List.map_congr_left
    intro S hS
    rw [idxOf_pre hS]
  · show [(kT T, nV F.length)] = [(kT T, nV ((F ++ [T]).idxOf T))]
    rw [List.idxOf_append, if_neg h]
    simp
theorem dget_nO {H : Hp} {d b : Addr} {F : List (List Nat)} {T : List Nat} (h : H d = some (.dT (nO F))) (hb : H b = some (.tup (nVs T))) (hT : T ∈ F) : DGet H d (.ref b) (some (nV (F.idxOf T))) := by
  have := DGet.t (k := kT T) h (by rw [kT_vals]; exact hb)
  rw [valV_nO, if_pos hT] at this
  exact this
theorem din_nO {H : Hp} {d b : Addr} {F : List (List Nat)} {T : List Nat} (h : H d = some (.dT (nO F))) (hb : H b = some (.tup (nVs T))) : ∃ r, DGet H d (.ref b) r ∧ r.isSome = decide (T ∈ F) := by
  refine ⟨_, DGet.t (k := kT T) h (by rw [kT_vals]; exact hb), ?_⟩
  rw [valV_nO]
  by_cases hT : T ∈ F
  · rw [if_pos hT, decide_eq_true hT]
    rfl
  · rw [if_neg hT, decide_eq_false hT]
    rfl
/-- tuples of states, one behind another -/
def TupsAt (H : Hp) (ts : List Addr) (F : List (List Nat)) : Prop := Paired (fun (t : Addr) (T : List Nat) => H t = some (.tup (nVs T))) ts F
theorem TupsAt.same {H H' : Hp} {ts : List Addr} {F : List (List Nat)} (h : TupsAt H ts F) (s : Same H H') : TupsAt H' ts F := paired_keep h fun _ _ _ z => s _ _ z
theorem TupsAt.upd_lst {H : Hp} {ts : List Addr} {F : List (List Nat)} {p : Addr} {o : HO} (h : TupsAt H ts F) (hp : ∀ xs, H p ≠ some (.tup xs)) : TupsAt (upd H p o) ts F := paired_keep h fun t _ T z => by
  rw [upd_ne]
  · exact z
  · intro e
    rw [e] at z
    exact hp _ z
theorem TupsAt.len : ∀ {H : Hp} {ts : List Addr} {F : List (List Nat)}, TupsAt H ts F → ts.length = F.length
  | _, _, _, .nil => rfl
  | _, _, _, .cons _ t => by
    rw [List.length_cons, List.length_cons, TupsAt.len t]
theorem TupsAt.get : ∀ {H : Hp} {ts : List Addr} {F : List (List Nat)}, TupsAt H ts F → ∀ {i : Nat} {T : List Nat}, F[i]? = some T → ∃ t, ts[i]? = some t ∧ H t = some (.tup (nVs T))
  | _, _, _, .nil, i, T, h => by simp at h
  | _, _, _, .cons h0 t, 0, T, h => by
    cases h
    exact ⟨_, rfl, h0⟩
  | _, _, _, .cons h0 t, i + 1, T, h => TupsAt.get t (by simpa using h)
theorem TupsAt.get' : ∀ {H : Hp} {ts : List Addr} {F : List (List Nat)}, TupsAt H ts F → ∀ {i : Nat} {t : Addr}, ts[i]? = some t → ∃ T, F[i]? = some T ∧ H t = some (.tup (nVs T))
  | _, _, _, .nil, i, T, h => by simp at h
  | _, _, _, .cons h0 t, 0, T, h => by
    cases h
    exact ⟨_, rfl, h0⟩
  | _, _, _, .cons h0 t, i + 1, T, h => TupsAt.get' t (by simpa using h)
/-- moves in the heap -/
def MvAt (H : Hp) (m : Addr) (ms : List Addr) (mv : List Mv) : Prop := H m = some (.lst (ms.map V.ref)) ∧ Paired (fun (t : Addr) (x : Mv) => H t = some (.tup [nV x.1, .int x.2.1, nV x.2.2])) ms mv
theorem MvAt.same {H H' : Hp} {m : Addr} {ms : List Addr} {mv : List Mv} (h : MvAt H m ms mv) (s : Same H H') : MvAt H' m ms mv := ⟨s _ _ h.1, paired_keep h.2 fun _ _ _ z => s _ _ z⟩
theorem paired_get {α β : Type} {G : α → β → Prop} : ∀ {xs : List α} {ys : List β}, Paired G xs ys → ∀ {i : Nat} {x : α}, xs[i]? = some x → ∃ y, ys[i]? = some y ∧ G x y
  | _, _, .nil, i, x, h => by simp at h
  | _, _, .cons h0 t, 0, x, h => by
    cases h
    exact ⟨_, rfl, h0⟩
  | _, _, .cons h0 t, i + 1, x, h => paired_get t (by simpa using h)
theorem paired_length {α β : Type} {G : α → β → Prop} : ∀ {xs : List α} {ys : List β}, Paired G xs ys → xs.length = ys.length
  | _, _, .nil => rfl
  | _, _, .cons _ t => by rw [List.length_cons, List.length_cons, paired_length t]
/-- dicts of lists, one put in -/
theorem ListsKc.put {c : Nat} {H H' : Hp} {d l : Addr} {f g : Nat → List Nat} {kvs : List (Key × V)} {x : Nat} (hv : ∀ y : Nat, (valV kvs (kN y) = none ∧ f y = []) ∨ ∃ l : Addr, valV kvs (kN y) = some (.ref l) ∧ H l = some (.lst (nVs (f y)))) (hl : kvs.length ≤ c)
    (hd : H' d = some (.dK (putK kvs (kN x) (.ref l)))) (hk : ∀ b o, b ≠ d → H b = some o → H' b = some o) (hb : ∀ xs, H d ≠ some (.lst xs)) (hnew : H' l = some (.lst (nVs (g x)))) (hg : ∀ y, y ≠ x → g y = f y) : ListsKc (c + 1) H' d g := by
  refine ⟨_, hd, by have := length_putK kvs (kN x) (V.ref l); omega, fun y => ?_⟩
  by_cases e : y = x
  · subst e
    exact .inr ⟨l, by rw [valV_put, if_pos rfl], hnew⟩
  · rw [valV_put, if_neg (fun z => e (kN_inj z)), hg y e]
    rcases hv y with z | ⟨l', z1, z2⟩
    · exact .inl z
    · refine .inr ⟨l', z1, hk _ _ (fun z => ?_) z2⟩
      rw [z] at z2
      exact hb _ z2
theorem ListsPc.put {c : Nat} {H H' : Hp} {d l : Addr} {f g : Nat → Nat → List Nat} {kvs : List (List Key × V)} {x k : Nat} (hv : ∀ y j : Nat, (valV kvs (kP (y, j)) = none ∧ f y j = []) ∨ ∃ l : Addr, valV kvs (kP (y, j)) = some (.ref l) ∧ H l = some (.lst (nVs (f y j)))) (hl : kvs.length ≤ c)
    (hd : H' d = some (.dT (putK kvs (kP (x, k)) (.ref l)))) (hk : ∀ b o, b ≠ d → H b = some o → H' b = some o) (hb : ∀ xs, H d ≠ some (.lst xs)) (hnew : H' l = some (.lst (nVs (g x k)))) (hg : ∀ y j, (y, j) ≠ (x, k) → g y j = f y j) : ListsPc (c + 1) H' d g := by
  refine ⟨_, hd, by have := length_putK kvs (kP (x, k)) (V.ref l); omega, fun y j => ?_⟩
  by_cases e : (y, j) = (x, k)
  · cases e
    exact .inr ⟨l, by rw [valV_put, if_pos rfl], hnew⟩
  · rw [valV_put, if_neg (fun z => e (kP_inj z)), hg y j e]
    rcases hv y j with z | ⟨l', z1, z2⟩
    · exact .inl z
    · refine .inr ⟨l', z1, hk _ _ (fun z => ?_) z2⟩
      rw [z] at z2
      exact hb _ z2
/-- the rest of the moves: only those of the dict's kind count -/
theorem stp_other {mv : List Mv} {m : Mv} {k : Int} {x : Nat} (h : ¬ (m.1 = x ∧ m.2.1 = k)) : stp (mv ++ [m]) k x = stp mv k x := by
  rw [stp_snoc, if_neg h, List.append_nil]
theorem stp_this {mv : List Mv} {m : Mv} {k : Int} {x : Nat} (h : m.1 = x ∧ m.2.1 = k) : stp (mv ++ [m]) k x = stp mv k x ++ [m.2.2] := by
  rw [stp_snoc, if_pos h]
theorem RowsAt.snoc {H H' : Hp} {a y : Addr} {xs : List Addr} {R : List (List Nat)} {row : List Nat} (h : RowsAt H a xs R) (ha : H' a = some (.lst (xs.map V.ref ++ [.ref y]))) (hy : H' y = some (.lst (nVs row))) (hk : ∀ x ∈ xs, ∀ o, H x = some o → H' x = some o) : RowsAt H' a (xs ++ [y]) (R ++ [row]) := by
  refine ⟨by rw [ha, List.map_append]; rfl, by rw [List.length_append, List.length_append, h.len]; rfl, fun i x e => ?_⟩
  by_cases hi : i < xs.length
  · rw [List.getElem?_append_left hi] at e
    have : rowOf (R ++ [row]) i = rowOf R i := by
      show (R ++ [row]).getD i [] = R.getD i []
      rw [List.getD_eq_getElem?_getD, List.getD_eq_getElem?_getD, List.getElem?_append_left (by rw [← h.len]; exact hi)]
    rw [this]
    exact hk x (List.mem_of_getElem? e) _ (h.row i x e)
  · have hi2 : i = xs.length := by
      have := (List.getElem?_eq_some_iff.mp e).1
      rw [List.length_append, List.length_singleton] at this
      omega
    rw [hi2, List.getElem?_concat_length] at e
    cases e
    have : rowOf (R ++ [row]) i = row := by
      show (R ++ [row]).getD i [] = row
      rw [hi2, h.len, List.getD_eq_getElem?_getD, List.getElem?_concat_length]
      rfl
    rw [this]
    exact hy
end Rg
namespace Mach
theorem SetM.step {mv : List Mv} {n : Nat} {B T0 : List Nat} {F R : List (List Nat)} {T : List Nat} (h : SetM mv n B T0 F R) (hT : F[R.length]? = some T) {F' : List (List Nat)} {row : List Nat} (hpre : ∃ Z, F' = F ++ Z) (nd : F'.Nodup) (sub : ∀ T ∈ F', T ∈ subs B)
    (hl : row.length = n) (hrow : ∀ k, k < n → F'[row.getD k 0]? = some (nxS mv T k)) : SetM mv n B T0 F' (R ++ [row]) := by
  obtain ⟨Z, rfl⟩ := hpre
  have old : ∀ {j : Nat} {S : List Nat}, F[j]? = some S → (F ++ Z)[j]? = some S := fun {j S} e => by
    rw [List.getElem?_append_left (List.getElem?_eq_some_iff.mp e).1]
    exact e
  have hR := (List.getElem?_eq_some_iff.mp hT).1
  have row1 : ∀ i, i < R.length → rowOf (R ++ [row]) i = rowOf R i := fun i hi => by
    unfold rowOf
    rw [List.getD_eq_getElem?_getD, List.getD_eq_getElem?_getD, List.getElem?_append_left hi]
  have row2 : rowOf (R ++ [row]) R.length = row := by
    unfold rowOf
    rw [List.getD_eq_getElem?_getD, List.getElem?_concat_length]
    rfl
  refine ⟨nd, sub, old h.zero, ?_, fun i hi => ?_, fun i S hi hS k hk => ?_⟩
  · rw [List.length_append, List.length_append, List.length_singleton]
    by_cases hz : Z = []
    · subst hz
      simp
      omega
    · omega
  · rw [List.length_append, List.length_singleton] at hi
    by_cases e : i < R.length
    · rw [row1 i e]
      exact h.wide i e
    · have e2 : i = R.length := by omega
      rw [e2, row2]
      exact hl
  · rw [List.length_append, List.length_singleton] at hi
    by_cases e : i < R.length
    · have hS' : F[i]? = some S := by
        rw [List.getElem?_append_left (by have := h.len; omega)] at hS
        exact hS
      have := h.to i S e hS' k hk
      unfold dl
      rw [row1 i e]
      exact old this
    · have e2 : i = R.length := by omega
      subst e2
      have : S = T := by
        have h1 := old hT
        rw [h1] at hS
        exact (Option.some.inj hS).symm
      subst this
      unfold dl
      rw [row2]
      exact hrow k hk
/-- which texts are there -/
def Meets (T ends : List Nat) : Prop := ∃ s ∈ T, s ∈ ends
theorem SetM.acc {mv : List Mv} {n : Nat} {B T0 : List Nat} {F R : List (List Nat)} {E ends : List Nat} (h : SetM mv n B T0 F R) (he : F.length ≤ R.length) (hE : ∀ j T, F[j]? = some T → (j ∈ E ↔ Meets T ends)) : ∀ w, Wd n w → (runM R 0 w ∈ E ↔ Meets (w.foldl (nxS mv) T0) ends) :=
  fun w hw => hE _ _ (h.run he w hw 0 T0 h.zero)
end Mach
namespace Rg
open PySem PySem.Spec PyProof.Rows L2 Mach
theorem rch_sub {mv : List Mv} {P : Nat → Prop} {B : List Nat} (hP : ∀ x, P x → x ∈ B) (hm : ∀ m ∈ mv, m.2.2 ∈ B) {x : Nat} (h : Rch mv P x) : x ∈ B := by
  induction h with
  | base p => exact hP _ p
  | step _ m _ => exact hm _ m
theorem sil_subs {mv : List Mv} {P : Nat → Prop} {B T : List Nat} (hB : B.Pairwise (· < ·)) (hP : ∀ x, P x → x ∈ B) (hm : ∀ m ∈ mv, m.2.2 ∈ B) (h : IsSil mv P T) : T ∈ subs B :=
  mem_subs hB h.up fun x hx => rch_sub hP hm ((h.mem x).mp hx)
theorem subs_short : ∀ {l T : List Nat}, T ∈ subs l → T.length ≤ l.length
  | [], T, h => by
    rw [List.mem_singleton.mp h]
    exact Nat.le_refl _
  | a :: l, T, h => by
    rcases List.mem_append.mp h with z | z
    · exact Nat.le_succ_of_le (subs_short z)
    · obtain ⟨S, hS, rfl⟩ := List.mem_map.mp z
      exact Nat.succ_le_succ (subs_short hS)
theorem idxOf_nodup {α : Type} [BEq α] [LawfulBEq α] : ∀ {l : List α}, l.Nodup → ∀ {i : Nat} (hi : i < l.length), l.idxOf l[i] = i
  | [], _, i, hi => absurd hi (Nat.not_lt_zero _)
  | a :: l, h, 0, hi => by simp
  | a :: l, h, i + 1, hi => by
    rw [List.nodup_cons] at h
    have hi' : i < l.length := by simpa using hi
    have hne : a ≠ l[i] := fun z => h.1 (by rw [z]; exact List.getElem_mem hi')
    rw [List.getElem_cons_succ, List.idxOf_cons, beq_eq_false_iff_ne.mpr hne, cond_false, idxOf_nodup h.2 hi']
end Rg

namespace K13
open PySem PySem.Spec PyProof.Rows L2 Rg Mach
abbrev sSil : Stmt := topS 6
def nSil : List Str := ["states", "silent", "found", "known", "at", "there", "state"]
theorem scSil : FnScope nSil ["states", "silent"] (defScope sSil) := ⟨rfl, rfl, rfl, by decide +kernel, rfl, by decide +kernel, by decide +kernel⟩
section
variable {P : Program} {w : World} {K : PySem.W.Frag} {mg : Str → Option Value} {base : Heap}
theorem ok_sil {f : Addr} {fd : FuncData} {k : Nat} (F : Fun K "silent_from" "silent_from" sSil f fd) (ml : mg "len" = none) (mli : mg "list" = none) (md : mg "dict" = none) (mt : mg "tuple" = none) (mso : mg "sorted" = none) :
    FnOk P w K mg base CX0 (k + 1) f fd ["states", "silent"] spSil := by
  refine F.ok scSil (fun vs H Q E h => ?_) (fun cdv A outer s H vs Q E hr h => ?_)
  · obtain ⟨a, d, S, mv, rfl, _⟩ := h
    rfl
  · obtain ⟨a, d, S, mv, rfl, ha, hd, hSl, hml, q⟩ := h
    have hu := hu_of hr
    refine ⟨_, pss_cons (ps_set (i := 2) scSil.nd rfl (.inl rfl) (pe_callTy call_list_of (by rfl) mli bList (pa_cons (pv 0) pa_nil)))
      (pss_cons (ps_set (i := 3) scSil.nd rfl (.inl rfl) (pe_callTy (call_dictP rfl) (by rfl) md bDict (pa_cons (pe_lc (own := [("state", 6)]) (g := gName 6) (tt := tYes) rfl scSil.nd (pi_list (pv 0)) (blkOk_by (own := [("state", 6)]) (N := nSil) (sc := defScope sSil) (by decide +kernel))
          (fun _ _ _ _ _ => pg_name (i := 6) scSil.nd rfl (Or.inl rfl)) (fun _ _ _ _ _ => pts_nil) (fun _ _ _ _ _ => pe_tup (pa_cons (pv 6) (pa_cons pe_bl pa_nil)))) pa_nil)))
      (pss_cons (ps_set (i := 4) scSil.nd rfl (.inl rfl) pe_int)
      (pss_cons (ps_while PassesOwn.never (pt_cmpR op_lt (pv 4) (pe_callB call_len_seq (by rfl) ml bLen (pa_cons (pv 2) pa_nil)) (nomark _))
        (pss_cons (ps_for PassesOwn.never rfl (pi_list (pe_dget2 hu (pv 1) (pe_ix ix_list (pv 2) (pv 4) (fun _ _ => rfl)) (pe_lst pa_nil) ⟨rfl, rfl, rfl, rfl⟩)) (pg_name (i := 5) scSil.nd rfl (.inl rfl))
          (pss_one (ps_if (pt_cmp (pc_dnotin hu (pv 5) (pv 3))) (pss_cons (ps_dput hu (pv 3) (pv 5) pe_bl rfl)
            (pss_one (ps_expr (pe_bm PySem.F.plainAttrs_list PySem.F.slot_list_append PySem.F.type_list_append mt_append (pv 2) (pa_cons (pv 5) pa_nil))))) pss_nil)))
        (pss_one (ps_set (i := 4) scSil.nd rfl (.inl rfl) (pe_op op_add (pv 4) pe_int)))))
      (pss_one (ps_ret (pe_callTy call_tuple_of (by rfl) mt bTuple (pa_cons (pe_callB cr_sortedI (by rfl) mso bSorted (pa_cons (pe_callTy (call_listD rfl) (by rfl) mli bList (pa_cons (pv 3) pa_nil)) pa_nil)) pa_nil))))))), ?_⟩
    -- found
    refine ⟨_, rfl, a, _, rfl, .inl (SqL.of ha), fun pf nf => ?_⟩
    have s1 : Same H (upd H pf (.lst (nVs S))) := same_new nf
    have hf1 : (upd H pf (.lst (nVs S))) pf = some (.lst (nVs S)) := upd_same
    generalize (upd H pf (.lst (nVs S))) = H1 at s1 hf1
    -- known
    refine ⟨_, rfl, a, rfl, ⟨_, SqL.of (s1 _ _ ha)⟩, fun D1 nD1 => ?_⟩
    refine lc_list (K := K) (a := a) (xs := nVs S) (fun j H3 => Same H1 H3 ∧ ∃ ts : List Addr, H3 D1 = some (.lst (ts.map V.ref)) ∧ ts.length = j ∧ (∀ t ∈ ts, t ≠ D1) ∧ Paired (fun (t : Addr) (s : Nat) => H3 t = some (.tup [nV s, .bl true])) ts (S.take j))
      ⟨same_new nD1, [], by rw [upd_same]; rfl, rfl, (fun t z => nomatch z), .nil⟩ (fun j H3 _ ⟨s3, _⟩ => SqL.of (s3 _ _ (s1 _ _ ha))) ?_ ?_
    · rintro j v H3 hj ⟨s3, ts, hD1, tl, tn, tp⟩
      obtain ⟨u, rfl, hu'⟩ := nVs_at hj
      have hj' := (List.getElem?_eq_some_iff.mp hu').1
      refine ⟨rfl, ?_⟩
      refine ⟨_, rfl, by show 2 ≤ sizeLine; decide, fun t nt => ?_⟩
      have ntD : t ≠ D1 := fun z => by
        rw [z, hD1] at nt
        cases nt
      refine ⟨_, by rw [upd_ne ntD.symm]; exact hD1, by rw [List.length_map]; exact szBig (by omega), ?_, ts ++ [t], ?_, by rw [List.length_append, List.length_singleton, tl], ?_, ?_⟩
      · intro b o eb
        rw [upd_ne (ne_of_none eb nD1), upd_ne (ne_of_none (s3 _ _ eb) nt)]
        exact s3 _ _ eb
      · rw [upd_same, List.map_append]
        rfl
      · intro y hy
        rcases List.mem_append.mp hy with z | z
        · exact tn y z
        · rw [List.mem_singleton] at z
          rw [z]
          exact ntD
      · rw [take_snoc hu']
        refine paired_snoc (paired_keep tp fun y hy r hyr => ?_) ?_
        · rw [upd_ne (tn y hy), upd_ne (ne_of_none hyr nt)]
          exact hyr
        · rw [upd_ne ntD, upd_same]
    rintro H3 ⟨s3, ts, hD1, tl, tn, tp⟩
    rw [nVs_len, List.take_length] at tp
    refine ⟨D1, ts, S.map fun s => (kN s, V.bl true), rfl, SqL.of hD1, paired_map (fun s => (kN s, V.bl true)) (fun _ _ z => SqT.of z) tp, fun pk nk => ?_⟩
    have em : mergeK [] (S.map fun s => (kN s, V.bl true)) = dO (D S) (fun _ => .bl true) := mergeK_dO (fun _ => .bl true) S []
    rw [em]
    have s4 : Same H3 (upd H3 pk (.dK (dO (D S) fun _ => .bl true))) := same_new nk
    have hk4 : (upd H3 pk (.dK (dO (D S) fun _ => .bl true))) pk = some (.dK (dO (D S) fun _ => .bl true)) := upd_same
    generalize (upd H3 pk (.dK (dO (D S) fun _ => .bl true))) = H4 at s4 hk4
    have nk1 : H1 pk = none := s3.free nk
    have hf4 := s4 _ _ (s3 _ _ hf1)
    have s04 : Same H H4 := (s1.trans s3).trans s4
    have nk0 : H pk = none := s1.free nk1
    have nfk : pf ≠ pk := fun z => by
      rw [z, hk4] at hf4
      cases hf4
    have hd4 := hd.same s04
    clear em tp tn tl hD1 ts nD1
    -- while
    refine ⟨fun m σ H5 => ∃ (L Y : List Nat) (i : Nat) (y : Option V), m = S.length + mv.length - i ∧ σ = [some (.ref a), some (.ref d), some (.ref pf), some (.ref pk), some (nV i), y, none] ∧ Same H H5 ∧ H5 pf = some (.lst (nVs L)) ∧ H5 pk = some (.dK (dO (D L) fun _ => .bl true)) ∧ L = pushAll S Y ∧ (∀ y ∈ Y, y ∈ tgs mv) ∧ Clo mv (fun x => x ∈ S) L i,
      ⟨_, S, [], 0, none, rfl, rfl, s04, hf4, hk4, rfl, (fun y hy => nomatch hy), ⟨fun x hx => hx, fun x hx => .base hx, fun j hj => absurd hj (Nat.not_lt_zero j)⟩⟩, ?_⟩
    clear hf4 hk4 s04 hd4 s4 s3 nk1 nk hf1 s1
    rintro m σ H5 ⟨L, Y, i, y, rfl, rfl, s5, hf5, hk5, eL, hY, hC⟩
    have hLl : L.length ≤ S.length + mv.length := by
      rw [eL]
      exact pushAll_len hY
    refine ⟨_, rfl, _, rfl, pf, _, rfl, .inl (SqL.of hf5), _, _, rfl, rfl, _, rfl, ite2 (fun ei => ?_) (fun ei => ?_)⟩
    · have hi : i < L.length := by
        have := of_decide_eq_true ei
        rw [nVs_len] at this
        omega
      have hs : L[i]? = some L[i] := List.getElem?_eq_getElem hi
      generalize hX : stp mv (-1) L[i] = X
      have hXt : ∀ x ∈ X, (L[i], (-1 : Int), x) ∈ mv := fun x hx => mem_stp.mp (by rw [hX]; exact hx)
      have hXg : ∀ x ∈ X, x ∈ tgs mv := fun x hx => List.mem_map.mpr ⟨_, hXt x hx, rfl⟩
      have hXl : X.length ≤ 100 := by
        rw [← hX]
        exact Nat.le_trans (stp_len _ _ _) hml
      refine ⟨fun σ' H' => ∃ (y : Option V), σ' = [some (.ref a), some (.ref d), some (.ref pf), some (.ref pk), some (nV (i + 1)), y, none] ∧ Same H H' ∧ H' pf = some (.lst (nVs (pushAll L X))) ∧ H' pk = some (.dK (dO (D (pushAll L X)) fun _ => .bl true)), ?_, ?_⟩
      · rintro σ' H' ⟨y', rfl, s6, hf6, hk6⟩
        refine ⟨S.length + mv.length - (i + 1), by omega, pushAll L X, Y ++ X, i + 1, y', rfl, rfl, s6, hf6, hk6, ?_, ?_, ?_⟩
        · rw [eL, pushAll_append]
        · intro z hz
          rcases List.mem_append.mp hz with h | h
          · exact hY z h
          · exact hXg z h
        · have e1 := pushAll_filter L X
          rw [e1]
          refine hC.step hi (fun x hx => hXt x (mem_D.mp (List.mem_filter.mp hx).1)) (fun x hx => ?_)
          rw [← e1]
          refine mem_pushAll.mpr (.inr ?_)
          rw [← hX]
          exact mem_stp.mpr hx
      · -- for there in silent.get(..)
        have hdd := hd
        obtain ⟨kvs, hkv, hkl, hval⟩ := hdd
        refine ⟨_, rfl, d, rfl, .inl ⟨_, .inl (s5 _ _ hkv)⟩, _, rfl, _, rfl, pf, _, _, _, rfl, rfl, SqL.of hf5, atI_nat (nVs_get hs), by show 0 ≤ sizeLine; decide, fun e0 ne0 => ?_⟩
        have s6 : Same H5 (upd H5 e0 (.lst [])) := same_new ne0
        have he6 : (upd H5 e0 (.lst [])) e0 = some (.lst (nVs [])) := upd_same
        generalize (upd H5 e0 (.lst [])) = H6 at s6 he6
        have key : ∃ (o : Option V) (l : Addr), DGet H6 d (nV L[i]) o ∧ o.getD (.ref e0) = .ref l ∧ H6 l = some (.lst (nVs X)) ∧ l ≠ pf ∧ l ≠ pk := by
          refine ⟨valV kvs (kN L[i]), ?_⟩
          rcases hval L[i] with ⟨z1, z2⟩ | ⟨l, z1, z2⟩
          · refine ⟨e0, DGet.k (k := kN L[i]) (s6 _ _ (s5 _ _ hkv)), by rw [z1]; rfl, ?_, (ne_of_none hf5 ne0).symm, (ne_of_none hk5 ne0).symm⟩
            rw [hX] at z2
            rw [z2]
            exact he6
          · rw [hX] at z2
            exact ⟨l, DGet.k (k := kN L[i]) (s6 _ _ (s5 _ _ hkv)), by rw [z1]; rfl, s6 _ _ (s5 _ _ z2), ne_of_none z2 nf, ne_of_none z2 nk0⟩
        obtain ⟨o, l, hg, el, hl, nlf, nlk⟩ := key
        refine ⟨o, hg, ?_⟩
        rw [el]
        refine ⟨l, rfl, ⟨_, SqL.of hl⟩, ?_⟩
        refine for_list (K := K) (a := l) (xs := nVs X) (fun j σ H7 => ∃ (y : Option V), σ = [some (.ref a), some (.ref d), some (.ref pf), some (.ref pk), some (nV i), y, none] ∧ Same H H7 ∧ H7 l = some (.lst (nVs X)) ∧ H7 pf = some (.lst (nVs (pushAll L (X.take j)))) ∧ H7 pk = some (.dK (dO (D (pushAll L (X.take j))) fun _ => .bl true)))
          ⟨y, rfl, s5.trans s6, hl, s6 _ _ hf5, s6 _ _ hk5⟩ (fun j σ H7 _ ⟨_, _, _, hl7, _⟩ => SqL.of hl7) ?_ ?_
        · rintro j v σ H7 hj ⟨y', rfl, s7, hl7, hf7, hk7⟩
          obtain ⟨t, rfl, ht⟩ := nVs_at hj
          have hnext : pushAll L (X.take (j + 1)) = push (pushAll L (X.take j)) t := by
            rw [take_snoc ht, pushAll_append]
            rfl
          have hsz : (pushAll L (X.take j)).length ≤ 1100 + 100 := by
            rw [eL, ← pushAll_append]
            have := pushAll_len (S := S) (Y := Y ++ X.take j) (mv := mv) (fun z hz => by
              rcases List.mem_append.mp hz with h | h
              · exact hY z h
              · exact hXg z (List.mem_of_mem_take h))
            omega
          have hDl : (D (pushAll L (X.take j))).length ≤ 1200 := Nat.le_trans (length_le_of_sub (D_nodup _) fun z hz => mem_D.mp hz) hsz
          rw [hnext]
          generalize pushAll L (X.take j) = L1 at hf7 hk7 hsz hDl
          obtain ⟨r, hg7, hr7⟩ := din_dO (t := t) hk7
          refine ⟨_, rfl, _, rfl, pk, r, rfl, hg7, _, rfl, ?_⟩
          rw [hr7]
          by_cases hin : t ∈ L1
          · rw [decide_eq_true (mem_D.mpr hin), push_mem hin]
            exact ⟨_, rfl, s7, hl7, hf7, hk7⟩
          · rw [decide_eq_false (fun z => hin (mem_D.mp z))]
            refine ⟨_, rfl, _, rfl, pk, _, rfl, DPut.k (k := kN t) hk7 (by rw [dO_len]; exact szBig (by omega)), ?_⟩
            have hf8 : (upd H7 pk (.dK (putK (dO (D L1) fun _ => .bl true) (kN t) (.bl true)))) pf = some (.lst (nVs L1)) := by
              rw [upd_ne nfk]
              exact hf7
            refine ⟨_, rfl, .inl ⟨rfl, _, SqL.of hf8⟩, _, rfl, pf, _, _, rfl, rfl, hf8, by rw [nVs_len]; exact szBig (by omega), ?_⟩
            refine ⟨_, rfl, ?_, ?_, ?_, ?_⟩
            · intro b o' eb
              rw [upd_ne (ne_of_none eb nf), upd_ne (ne_of_none eb nk0)]
              exact s7 _ _ eb
            · rw [upd_ne nlf, upd_ne nlk]
              exact hl7
            · rw [upd_same, push_new hin, nVs_snoc]
            · rw [upd_ne nfk.symm, upd_same, push_new hin, D_append]
              exact congrArg (fun z => some (HO.dK z)) (putK_dO (L := D L1) (c := fun _ => .bl true) (s := t))
        · rintro σ H7 ⟨y', rfl, s7, hl7, hf7, hk7⟩
          rw [nVs_len, List.take_length] at hf7 hk7
          exact ⟨_, rfl, _, _, rfl, rfl, y', rfl, s7, hf7, hk7⟩
    · have hi : L.length ≤ i := by
        have := of_decide_eq_false (Bool.eq_false_iff.mpr ei)
        rw [nVs_len] at this
        omega
      have hfin := hC.fin hi
      -- tuple(sorted(list(known)))
      refine ⟨_, rfl, pk, _, rfl, .inl hk5, fun p1 n1 => ?_⟩
      have e1 : ((dO (D L) fun _ => V.bl true).map fun kv => kV kv.1) = ((D L).map fun n : Nat => (n : Int)).map V.int := by
        rw [← nVs_ints]
        unfold dO nVs
        rw [List.map_map]
        rfl
      rw [e1]
      have s6 : Same H5 (upd H5 p1 (.lst (((D L).map fun n : Nat => (n : Int)).map V.int))) := same_new n1
      have h16 : (upd H5 p1 (.lst (((D L).map fun n : Nat => (n : Int)).map V.int))) p1 = some (.lst (((D L).map fun n : Nat => (n : Int)).map V.int)) := upd_same
      generalize (upd H5 p1 (.lst (((D L).map fun n : Nat => (n : Int)).map V.int))) = H6 at s6 h16
      refine ⟨p1, _, rfl, SqL.of h16, fun ns p2 hp hsr n2 => ?_⟩
      obtain ⟨T, eT, hT1, hT2, hT3⟩ := sorted_nums (D_nodup L) hp hsr
      rw [eT]
      have s7 : Same H6 (upd H6 p2 (.lst (nVs T))) := same_new n2
      have h27 : (upd H6 p2 (.lst (nVs T))) p2 = some (.lst (nVs T)) := upd_same
      generalize (upd H6 p2 (.lst (nVs T))) = H7 at s7 h27
      refine ⟨p2, _, rfl, .inl ⟨SqL.of h27, fun t nt => ?_⟩⟩
      have s57 := (s5.trans s6).trans s7
      exact q _ t T (s57.trans (same_new nt)) (s57.free nt) upd_same ⟨hT1, fun x => by rw [hT2, mem_D]; exact hfin x⟩
end
end K13

namespace Rg
open PySem PySem.Spec PyProof.Rows L2 Mach
theorem flatMap_le {α β : Type} {f : α → List β} {c : Nat} (h : ∀ x, (f x).length ≤ c) : ∀ l : List α, (l.flatMap f).length ≤ l.length * c
  | [] => by simp
  | a :: l => by
    have h1 := h a
    have h2 := flatMap_le h l
    rw [List.flatMap_cons, List.length_append, List.length_cons, Nat.add_mul, Nat.one_mul]
    omega
/-- where a tuple of states leads by one sign -/
def spLed : Sp := fun vs H Q _ => ∃ (a d : Addr) (T : List Nat) (mv : List Mv) (k : Nat), vs = [.ref a, nV k, .ref d] ∧ H a = some (.tup (nVs T)) ∧ ListsP H d (fun x k => stp mv (k : Int) x) ∧ T.length ≤ 10 ∧ mv.length ≤ 100 ∧
  ∀ (H' : Hp) (p : Addr), Same H H' → H p = none → H' p = some (.lst (nVs (T.flatMap (stp mv (k : Int))))) → Q (.ref p) H'
end Rg
namespace K13
open PySem PySem.Spec PyProof.Rows L2 Rg Mach
abbrev sLed : Stmt := topS 7
def nLed : List Str := ["states", "place", "reading", "state", "there"]
theorem scLed : FnScope nLed ["states", "place", "reading"] (defScope sLed) := ⟨rfl, rfl, rfl, by decide +kernel, rfl, by decide +kernel, by decide +kernel⟩
section
variable {P : Program} {w : World} {K : PySem.W.Frag} {mg : Str → Option Value} {base : Heap}
theorem ok_led {f : Addr} {fd : FuncData} {k : Nat} (F : Fun K "led_to" "led_to" sLed f fd) :
    FnOk P w K mg base CX0 (k + 1) f fd ["states", "place", "reading"] spLed := by
  refine F.ok scLed (fun vs H Q E h => ?_) (fun cdv A outer s H vs Q E hr h => ?_)
  · obtain ⟨a, d, T, mv, n, rfl, _⟩ := h
    rfl
  · obtain ⟨a, d, T, mv, n, rfl, ha, hd, hTl, hml, q⟩ := h
    have hu := hu_of hr
    refine ⟨_, pss_one (ps_ret (pe_lc2 (own := [("state", 3), ("there", 4)]) (vs1 := [4]) (g := gName 3) (g1 := gName 4) (tt := tYes) (tt1 := tYes) (te := tVar 4) (wi1 := iList K (tDGet2 (tVar 2) (tTup (tCons (tVar 3) (tCons (tVar 1) tNil))) (tLst tNil))) rfl scLed.nd (pi_tup (pv 0)) (blkOk_by (own := [("state", 3), ("there", 4)]) (N := nLed) (sc := defScope sLed) (by decide +kernel))
      (by decide) (fun _ _ _ _ _ => pg_name (i := 3) scLed.nd rfl (Or.inl rfl)) (fun _ _ _ _ _ => pts_nil)
      (fun _ _ _ _ _ => pi_list (pe_dget2 hu (pv 2) (pe_tup (pa_cons (pv 3) (pa_cons (pv 1) pa_nil))) (pe_lst pa_nil) ⟨rfl, rfl, rfl, rfl⟩)) (fun _ _ _ _ _ => pg_name (i := 4) scLed.nd rfl (Or.inl rfl)) (fun _ _ _ _ _ => pts_nil) (fun _ _ _ _ _ => pv 4))), ?_⟩
    obtain ⟨kvs, hkv, hkl, hval⟩ := id hd
    refine ⟨_, rfl, a, rfl, ⟨_, SqT.of ha⟩, fun D1 nD1 => ?_⟩
    refine go_tup (K := K) (a := a) (xs := nVs T) (fun i H1 => Same H H1 ∧ H1 D1 = some (.lst (nVs ((T.take i).flatMap (stp mv (n : Int)))))) ⟨same_new nD1, by rw [upd_same]; rfl⟩ (fun i H1 _ ⟨s1, _⟩ => SqT.of (s1 _ _ ha)) ?_ ?_
    · rintro i v H1 hi ⟨s1, hD1⟩
      obtain ⟨x, rfl, hx⟩ := nVs_at hi
      have hTi : (T.take i).length ≤ 10 := by
        rw [List.length_take]
        omega
      have hsz : ((T.take i).flatMap (stp mv (n : Int))).length ≤ 1000 := by
        have h1 := flatMap_le (f := stp mv (n : Int)) (c := 100) (fun x => Nat.le_trans (stp_len _ _ _) hml) (T.take i)
        omega
      have hX := stp_len mv (n : Int) x
      refine ⟨rfl, ?_⟩
      refine ⟨_, rfl, d, rfl, .inr ⟨_, .inl (s1 _ _ hkv)⟩, _, rfl, _, rfl, by show 2 ≤ sizeLine; decide, fun kt nkt => ?_⟩
      refine ⟨by show 0 ≤ sizeLine; decide, fun e0 ne0 => ?_⟩
      have s2 : Same H1 (upd (upd H1 kt (.tup [nV x, nV n])) e0 (.lst [])) := (same_new nkt).trans (same_new ne0)
      have hk2 : (upd (upd H1 kt (.tup [nV x, nV n])) e0 (.lst [])) kt = some (.tup [nV x, nV n]) := same_new ne0 _ _ upd_same
      have he2 : (upd (upd H1 kt (.tup [nV x, nV n])) e0 (.lst [])) e0 = some (.lst (nVs [])) := upd_same
      have ne1 : H1 e0 = none := (same_new nkt).free ne0
      generalize (upd (upd H1 kt (.tup [nV x, nV n])) e0 (.lst [])) = H2 at s2 hk2 he2
      have key : ∃ (o : Option V) (l : Addr), DGet H2 d (.ref kt) o ∧ o.getD (.ref e0) = .ref l ∧ H2 l = some (.lst (nVs (stp mv (n : Int) x))) ∧ l ≠ D1 := by
        refine ⟨valV kvs (kP (x, n)), ?_⟩
        rcases hval x n with ⟨z1, z2⟩ | ⟨l, z1, z2⟩
        · refine ⟨e0, DGet.t (k := kP (x, n)) (s2 _ _ (s1 _ _ hkv)) hk2, by rw [z1]; rfl, ?_, (ne_of_none hD1 ne1).symm⟩
          have z3 : stp mv (n : Int) x = [] := z2
          rw [z3]
          exact he2
        · exact ⟨l, DGet.t (k := kP (x, n)) (s2 _ _ (s1 _ _ hkv)) hk2, by rw [z1]; rfl, s2 _ _ (s1 _ _ z2), ne_of_none z2 nD1⟩
      obtain ⟨o, l, hg, el, hl, nl⟩ := key
      refine ⟨o, hg, ?_⟩
      rw [el]
      refine ⟨l, rfl, ⟨_, SqL.of hl⟩, ?_⟩
      refine go_list (K := K) (a := l) (xs := nVs (stp mv (n : Int) x)) (fun j H3 => Same H H3 ∧ H3 l = some (.lst (nVs (stp mv (n : Int) x))) ∧ H3 D1 = some (.lst (nVs ((T.take i).flatMap (stp mv (n : Int)) ++ (stp mv (n : Int) x).take j)))) ⟨s1.trans s2, hl, by rw [List.take_zero, List.append_nil]; exact s2 _ _ hD1⟩ (fun j H3 _ ⟨_, hl3, _⟩ => SqL.of hl3) ?_ ?_
      · rintro j v H3 hj ⟨s3, hl3, hD3⟩
        obtain ⟨y, rfl, hy⟩ := nVs_at hj
        have hjl := (List.getElem?_eq_some_iff.mp hy).1
        refine ⟨rfl, ?_⟩
        refine ⟨_, rfl, _, hD3, by rw [nVs_len, List.length_append, List.length_take]; exact szBig (by omega), ?_, ?_, ?_⟩
        · intro b o' eb
          rw [upd_ne (ne_of_none eb nD1)]
          exact s3 _ _ eb
        · rw [upd_ne nl]
          exact hl3
        · rw [upd_same, take_snoc hy, ← List.append_assoc, nVs_snoc]
      · rintro H3 ⟨s3, hl3, hD3⟩
        rw [nVs_len, List.take_length] at hD3
        refine ⟨s3, ?_⟩
        rw [take_snoc hx, List.flatMap_append, List.flatMap_cons, List.flatMap_nil, List.append_nil]
        exact hD3
    · rintro H1 ⟨s1, hD1⟩
      rw [nVs_len, List.take_length] at hD1
      exact q H1 D1 s1 nD1 hD1
end
end K13

namespace Rg
open PySem PySem.Spec PyProof.Rows L2 Mach
/-- the machine of paths -/
def spDet : Sp := fun vs H Q _ => ∃ (b m e : Addr) (ms : List Addr) (mv : List Mv) (n : Nat) (S0 ends B : List Nat), vs = [nV n, .ref b, .ref m, .ref e] ∧ H b = some (.lst (nVs S0)) ∧ MvAt H m ms mv ∧ H e = some (.lst (nVs ends)) ∧
  n ≤ 4 ∧ mv.length ≤ 100 ∧ S0.length ≤ 100 ∧ ends.length ≤ 100 ∧ (∀ x ∈ mv, -1 ≤ x.2.1) ∧ B.Pairwise (· < ·) ∧ B.length ≤ 5 ∧ (∀ x ∈ S0, x ∈ B) ∧ (∀ x ∈ mv, x.2.2 ∈ B) ∧
  ∀ (H' : Hp) (t p e' : Addr) (ys : List Addr) (R' : List (List Nat)) (E' : List Nat), Same H H' → H t = none → H p = none → H e' = none → p ≠ e' → (∀ y ∈ ys, H y = none ∧ y ≠ p ∧ y ≠ e') → ys.Nodup → H' t = some (.tup [.ref p, .ref e']) → RowsAt H' p ys R' → H' e' = some (.lst (nVs E')) →
    Least n R' E' → (∀ w, Wd n w → (runM R' 0 w ∈ E' ↔ Meets (w.foldl (nxS mv) (silF mv fun x => x ∈ S0)) ends)) → R'.length ≤ 32 → Q (.ref t) H'
end Rg
namespace K13
open PySem PySem.Spec PyProof.Rows L2 Rg Mach
abbrev sDet : Stmt := topS 8
def nDet : List Str := ["wide", "begins", "moves", "ends", "silent", "reading", "state", "place", "there", "found", "number", "rows", "some", "later", "known"]
theorem scDet : FnScope nDet ["wide", "begins", "moves", "ends"] (defScope sDet) := ⟨rfl, rfl, rfl, by decide +kernel, rfl, by decide +kernel, by decide +kernel⟩
def scDetOut : Scope := match (defBody sDet).getD 8 (.Pass ⟨0, 0, 0, 0⟩) with
  | .Return (some (.Call _ [_, .ListComp _ _ sc _] _ _)) _ => sc
  | _ => defScope sDet
section
variable {P : Program} {w : World} {K : PySem.W.Frag} {mg : Str → Option Value} {base : Heap}
theorem ok_det {f fS fL fM fR fC fP fH : Addr} {fd fdS fdL fdM fdR fdC fdP fdH : FuncData} {k : Nat} (F : Fun K "determined" "determined" sDet f fd)
    (FS : Fun K "silent_from" "silent_from" sSil fS fdS) (bS : Binds K fdS ["states", "silent"] []) (gS : mg "silent_from" = some (.ref fS))
    (FL : Fun K "led_to" "led_to" sLed fL fdL) (bL : Binds K fdL ["states", "place", "reading"] []) (gL : mg "led_to" = some (.ref fL))
    (FM : FunD K "least_machine" "least_machine" (defArgs sLm) (defBody sLm) (defScope sLm) [] [("begin", .int 0)] fM fdM) (bM : ∃ ds, Vals [.int 0] ds ∧ Binds K fdM ["rows", "ends", "begin"] ds) (gM : mg "least_machine" = some (.ref fM))
    (FR : Fun K "reached_from" "reached_from" sReach fR fdR) (bR : Binds K fdR ["rows", "begin"] []) (gR : mg "reached_from" = some (.ref fR))
    (FC : Fun K "classes_of" "classes_of" sCls fC fdC) (bC : Binds K fdC ["rows", "ends", "states"] []) (gC : mg "classes_of" = some (.ref fC))
    (FP : Fun K "parted_once" "parted_once" sPart fP fdP) (bP : Binds K fdP ["rows", "classes", "states"] []) (gP : mg "parted_once" = some (.ref fP))
    (FH : Fun K "how_many" "how_many" sHow fH fdH) (bH : Binds K fdH ["classes"] []) (gH : mg "how_many" = some (.ref fH))
    (ml : mg "len" = none) (mt : mg "tuple" = none) (ms : mg "set" = none) (mli : mg "list" = none) (mi : mg "int" = none) (mr : mg "range" = none) (md : mg "dict" = none) (mso : mg "sorted" = none) (man : mg "any" = none) :
    FnOk P w K mg base CX0 (k + 4) f fd ["wide", "begins", "moves", "ends"] spDet := by
  have GS : FnOk P w K mg base CX0 (k + 3) fS fdS ["states", "silent"] spSil := ok_sil FS ml mli md mt mso
  have GL : FnOk P w K mg base CX0 (k + 3) fL fdL ["states", "place", "reading"] spLed := ok_led FL
  have GM : FnOk P w K mg base CX0 (k + 3) fM fdM ["rows", "ends", "begin"] spLm := ok_lm FM FR bR gR FC bC gC FP bP gP FH bH gH ml mt ms mli mi mr
  obtain ⟨ds, vd, bd⟩ := bM
  refine F.ok scDet (fun vs H Q E h => ?_) (fun cdv A outer s H vs Q E hr h => ?_)
  · obtain ⟨b, m, e, ms, mv, n, S0, ends, B, rfl, _⟩ := h
    rfl
  · obtain ⟨b, m, e, ms, mv, n, S0, ends, B, rfl, hb, hm, he, hn, hml, hSl, hel, hpl, hBp, hBl, hSB, hmB, q⟩ := h
    have hu := hu_of hr
    refine ⟨_, pss_cons (ps_set (i := 4) scDet.nd rfl (.inr rfl) pe_dnewK)
      (pss_cons (ps_set (i := 5) scDet.nd rfl (.inr rfl) pe_dnewT)
      (pss_cons (ps_for PassesOwn.never rfl (pi_list (pv 2)) (pg_tup rfl (pgs_cons (pg_name (i := 6) scDet.nd rfl (.inl rfl)) (pgs_cons (pg_name (i := 7) scDet.nd rfl (.inl rfl)) (pgs_cons (pg_name (i := 8) scDet.nd rfl (.inl rfl)) pgs_nil))))
        (pss_one (ps_if (pt_cmpR op_lt (pv 7) pe_int (nomark _))
          (pss_one (ps_dput hu (pv 4) (pv 6) (pe_op op_cat (pe_dget2 hu (pv 4) (pv 6) (pe_lst pa_nil) ⟨rfl, rfl, rfl, rfl⟩) (pe_lst (pa_cons (pv 8) pa_nil))) rfl))
          (pss_one (ps_dput hu (pv 5) (pe_tup (pa_cons (pv 6) (pa_cons (pv 7) pa_nil))) (pe_op op_cat (pe_dget2 hu (pv 5) (pe_tup (pa_cons (pv 6) (pa_cons (pv 7) pa_nil))) (pe_lst pa_nil) ⟨rfl, rfl, rfl, rfl⟩) (pe_lst (pa_cons (pv 8) pa_nil))) rfl)))))
      (pss_cons (ps_set (i := 9) scDet.nd rfl (.inr rfl) (pe_lst (pa_cons (pe_call GS hr (by rfl) gS FS.kp bS .nil pass0 (pa_cons (pv 1) (pa_cons (pv 4) pa_nil))) pa_nil)))
      (pss_cons (ps_set (i := 10) scDet.nd rfl (.inr rfl) (pe_dispT hu (pe_ix ix_list (pv 9) pe_int (fun _ _ => rfl)) pe_int))
      (pss_cons (ps_set (i := 11) scDet.nd rfl (.inr rfl) (pe_lst pa_nil))
      (pss_cons (ps_while PassesOwn.never (pt_cmpR op_lt (pe_callB call_len_seq (by rfl) ml bLen (pa_cons (pv 11) pa_nil)) (pe_callB call_len_seq (by rfl) ml bLen (pa_cons (pv 9) pa_nil)) (nomark _))
        (pss_cons (ps_setLc (i := 12) (own := [("place", 7)]) (g := gName 7) (tt := tYes) (te := tCall spSil [] E0 (tCons (tCall spLed [] E0 (tCons (tOp (rIxL K) (tVar 9) (tCB (fun xs H Q => ∃ p ys, xs = [V.ref p] ∧ (SqL K H p ys ∨ SqT K H p ys) ∧ Q (V.int (ys.length : Nat)) H) (tCons (tVar 11) tNil))) (tCons (tVar 7) (tCons (tVar 5) tNil)))) (tCons (tVar 4) tNil))) rfl scDet.nd rfl rfl (sw_true rfl rfl rfl (by decide +kernel))
            (pi_range1 (by rfl) mr (pa_cons (pv 0) pa_nil)) (blkOk_by (own := [("place", 7)]) (N := nDet) (sc := defScope sDet) (by decide +kernel))
            (fun _ _ _ _ _ => pg_name (i := 7) scDet.nd rfl (Or.inl rfl)) (fun _ _ _ _ _ => pts_nil)
            (fun _ _ _ _ _ => pe_call GS hr (by rfl) gS FS.kp bS .nil pass0 (pa_cons (pe_call GL hr (by rfl) gL FL.kp bL .nil pass0 (pa_cons (pe_ix ix_list (pv 9) (pe_callB call_len_seq (by rfl) ml bLen (pa_cons (pv 11) pa_nil)) (fun _ _ => rfl)) (pa_cons (pv 7) (pa_cons (pv 5) pa_nil)))) (pa_cons (pv 4) pa_nil))))
        (pss_cons (ps_for PassesOwn.never rfl (pi_list (pv 12)) (pg_name (i := 13) scDet.nd rfl (.inl rfl))
          (pss_one (ps_if (pt_cmp (pc_dnotin hu (pv 13) (pv 10))) (pss_cons (ps_dput hu (pv 10) (pv 13) (pe_callB call_len_seq (by rfl) ml bLen (pa_cons (pv 9) pa_nil)) rfl)
            (pss_one (ps_expr (pe_bm PySem.F.plainAttrs_list PySem.F.slot_list_append PySem.F.type_list_append mt_append (pv 9) (pa_cons (pv 13) pa_nil))))) pss_nil)))
        (pss_one (ps_expr (pe_bm PySem.F.plainAttrs_list PySem.F.slot_list_append PySem.F.type_list_append mt_append (pv 11) (pa_cons (pe_lc (own := [("later", 13)]) (g := gName 13) (tt := tYes) (te := tDGet (tVar 10) (tVar 13)) rfl scDet.nd (pi_list (pv 12)) (blkOk_by (own := [("later", 13)]) (N := nDet) (sc := defScope sDet) (by decide +kernel))
            (fun _ _ _ _ _ => pg_name (i := 13) scDet.nd rfl (Or.inl rfl)) (fun _ _ _ _ _ => pts_nil) (fun _ _ _ _ _ => pe_dget hu (pv 10) (pv 13) (fun _ _ => rfl))) pa_nil)))))))
      (pss_cons (ps_set (i := 14) scDet.nd rfl (.inr rfl) (pe_dc (own := [("state", 6)]) (g := gName 6) (tt := tYes) rfl scDet.nd (pi_list (pv 3)) (blkOk_by (own := [("state", 6)]) (N := nDet) (sc := defScope sDet) (by decide +kernel))
          (fun _ _ _ _ _ => pg_name (i := 6) scDet.nd rfl (Or.inl rfl)) (fun _ _ _ _ _ => pts_nil) (fun _ _ _ _ _ => pv 6) (fun _ _ _ _ _ => pe_bl)))
      (pss_one (ps_ret (pe_call GM hr (by rfl) gM FM.kp bd vd pass0 (pa_cons (pv 11) (pa_cons (pe_lc (own := [("some", 12)]) (g := gName 12) (tt := tB (tCB (rAny K) (tCons (tLc (iTup K (tVar 12)) (gName 6) tYes (tDIn (tVar 6) (tVar 14)) [6]) tNil))) (te := tDGet (tVar 10) (tVar 12)) rfl scDet.nd (pi_list (pv 9)) (blkOk_by (own := [("some", 12)]) (N := nDet) (sc := defScope sDet) (by decide +kernel))
          (fun _ _ _ _ _ => pg_name (i := 12) scDet.nd rfl (Or.inl rfl))
          (fun _ _ _ _ _ => pts_one (pt_val (pe_callB (cr_any rfl) (by rfl) man bAny (pa_cons (pe_lc (own := [("state", 6)]) (g := gName 6) (tt := tYes) rfl scDet.nd (pi_tup (pv 12)) (blkOk_by (own := [("state", 6)]) (N := nDet) (sc := relS scDetOut (defScope sDet)) (by decide +kernel))
            (fun _ _ _ _ _ => pg_name (i := 6) scDet.nd rfl (Or.inl rfl)) (fun _ _ _ _ _ => pts_nil) (fun _ _ _ _ _ => pe_cmp (pc_din hu (pv 6) (pv 14)))) pa_nil))))
          (fun _ _ _ _ _ => pe_dget hu (pv 10) (pv 12) (fun _ _ => rfl))) pa_nil)))))))))))), ?_⟩
    -- silent, reading = {}, {}
    intro ps nps pr npr
    have s2 : Same H (upd (upd H ps (.dK [])) pr (.dT [])) := (same_new nps).trans (same_new npr)
    have hs2 : (upd (upd H ps (.dK [])) pr (.dT [])) ps = some (.dK []) := same_new npr _ _ upd_same
    have hr2 : (upd (upd H ps (.dK [])) pr (.dT [])) pr = some (.dT []) := upd_same
    have npr0 : H pr = none := (same_new nps).free npr
    generalize (upd (upd H ps (.dK [])) pr (.dT [])) = H2 at s2 hs2 hr2
    have nsr : ps ≠ pr := fun z => by
      rw [z, hr2] at hs2
      cases hs2
    refine ⟨_, rfl, m, rfl, ⟨_, SqL.of (s2 _ _ hm.1)⟩, ?_⟩
    refine for_list (K := K) (a := m) (xs := ms.map V.ref) (fun j σ H3 => ∃ (y6 y7 y8 : Option V), σ = [some (nV n), some (.ref b), some (.ref m), some (.ref e), some (.ref ps), some (.ref pr), y6, y7, y8, none, none, none, none, none, none] ∧ Same H H3 ∧ ListsKc j H3 ps (stp (mv.take j) (-1)) ∧ ListsPc j H3 pr (fun x k => stp (mv.take j) (k : Int) x))
      ⟨none, none, none, rfl, s2, ⟨[], hs2, Nat.le_refl _, fun x => .inl ⟨rfl, rfl⟩⟩, ⟨[], hr2, Nat.le_refl _, fun x k => .inl ⟨rfl, rfl⟩⟩⟩ (fun j σ H3 _ ⟨_, _, _, _, s3, _⟩ => SqL.of (s3 _ _ hm.1)) ?_ ?_
    · rintro j v σ H3 hj ⟨y6, y7, y8, rfl, s3, hK, hP⟩
      rw [List.getElem?_map] at hj
      obtain ⟨t, ht, rfl⟩ := Option.map_eq_some_iff.mp hj
      obtain ⟨x, hx, htx⟩ := Rg.paired_get hm.2 ht
      have hxm : x ∈ mv := List.mem_of_getElem? hx
      have hpx := hpl x hxm
      have hjl := (List.getElem?_eq_some_iff.mp hx).1
      refine ⟨t, _, rfl, SqT.of (s3 _ _ htx), rfl, _, _, rfl, _, _, rfl, _, _, rfl, rfl, ?_⟩
      refine ⟨_, rfl, _, _, rfl, rfl, _, rfl, ite2 (fun ei => ?_) (fun ei => ?_)⟩
      · have ep : x.2.1 = -1 := by
          have := of_decide_eq_true ei
          omega
        obtain ⟨kvs, hk1, hk2, hk3⟩ := id hK
        refine ⟨_, rfl, ps, rfl, .inl ⟨_, .inl hk1⟩, _, rfl, by show 0 ≤ sizeLine; decide, fun e0 ne0 => ?_⟩
        have s4 : Same H3 (upd H3 e0 (.lst [])) := same_new ne0
        have he4 : (upd H3 e0 (.lst [])) e0 = some (.lst (nVs [])) := upd_same
        generalize (upd H3 e0 (.lst [])) = H4 at s4 he4
        have key : ∃ (o : Option V) (l : Addr), DGet H4 ps (nV x.1) o ∧ o.getD (.ref e0) = .ref l ∧ H4 l = some (.lst (nVs (stp (mv.take j) (-1) x.1))) := by
          refine ⟨valV kvs (kN x.1), ?_⟩
          rcases hk3 x.1 with ⟨z1, z2⟩ | ⟨l, z1, z2⟩
          · refine ⟨e0, DGet.k (k := kN x.1) (s4 _ _ hk1), by rw [z1]; rfl, ?_⟩
            rw [z2]
            exact he4
          · exact ⟨l, DGet.k (k := kN x.1) (s4 _ _ hk1), by rw [z1]; rfl, s4 _ _ z2⟩
        obtain ⟨o, l, hg, el, hl⟩ := key
        refine ⟨o, hg, ?_⟩
        rw [el]
        refine ⟨_, rfl, by show 1 ≤ sizeLine; decide, fun e1 ne1 => ?_⟩
        have s5 : Same H4 (upd H4 e1 (.lst [nV x.2.2])) := same_new ne1
        have he5 : (upd H4 e1 (.lst [nV x.2.2])) e1 = some (.lst [nV x.2.2]) := upd_same
        generalize (upd H4 e1 (.lst [nV x.2.2])) = H5 at s5 he5
        have hsz := stp_len (mv.take j) (-1) x.1
        rw [List.length_take] at hsz
        refine ⟨l, e1, _, _, rfl, rfl, s5 _ _ hl, he5, by rw [nVs_len]; exact szBigLe (by show _ + 1 ≤ _; omega), fun p np => ?_⟩
        rw [← nVs_snoc]
        have s6 : Same H5 (upd H5 p (.lst (nVs (stp (mv.take j) (-1) x.1 ++ [x.2.2])))) := same_new np
        have hp6 : (upd H5 p (.lst (nVs (stp (mv.take j) (-1) x.1 ++ [x.2.2])))) p = some (.lst (nVs (stp (mv.take j) (-1) x.1 ++ [x.2.2]))) := upd_same
        generalize (upd H5 p (.lst (nVs (stp (mv.take j) (-1) x.1 ++ [x.2.2])))) = H6 at s6 hp6
        have s36 := (s4.trans s5).trans s6
        refine ⟨_, rfl, _, rfl, ps, _, rfl, DPut.k (k := kN x.1) (s36 _ _ hk1) (szBig (by omega)), ?_⟩
        have hps6 := s36 _ _ hk1
        refine ⟨_, _, _, rfl, ?_, ?_, ?_⟩
        · intro b' o' eb
          rw [upd_ne (ne_of_none eb nps)]
          exact s36 _ _ (s3 _ _ eb)
        · refine ListsKc.put (H := H6) (f := stp (mv.take j) (-1)) (kvs := kvs) (x := x.1) (l := p) (fun y => ?_) hk2 upd_same (fun b' o' nb eb => by rw [upd_ne nb]; exact eb) (fun xs z => by rw [hps6] at z; cases z) ?_ (fun y hy => ?_)
          · rcases hk3 y with z | ⟨l', z1, z2⟩
            · exact .inl z
            · exact .inr ⟨l', z1, s36 _ _ z2⟩
          · rw [upd_ne (ne_of hp6 hps6 (fun z => by cases z)), take_snoc hx, stp_this ⟨rfl, ep⟩]
            exact hp6
          · rw [take_snoc hx, stp_other (fun z => hy z.1.symm)]
        · refine ((hP.same s36).keep (fun b' xs eb => ?_) (fun b' xs eb => ?_) (fun y k' => ?_)).le (Nat.le_succ _)
          · rw [upd_ne (ne_of eb hps6 (fun z => by cases z))]
            exact eb
          · rw [upd_ne (ne_of eb hps6 (fun z => by cases z))]
            exact eb
          · rw [take_snoc hx, stp_other (fun z => by have := z.2; omega)]
      · have ep : ∃ k : Nat, x.2.1 = k := ⟨x.2.1.toNat, by
          have := of_decide_eq_false (Bool.eq_false_iff.mpr ei)
          omega⟩
        obtain ⟨c, ec⟩ := ep
        rw [ec]
        obtain ⟨kvs, hk1, hk2, hk3⟩ := id hP
        refine ⟨_, rfl, pr, rfl, .inr ⟨_, .inl hk1⟩, _, rfl, _, rfl, by show 2 ≤ sizeLine; decide, fun kt nkt => ?_⟩
        refine ⟨by show 0 ≤ sizeLine; decide, fun e0 ne0 => ?_⟩
        have s4 : Same H3 (upd (upd H3 kt (.tup [nV x.1, nV c])) e0 (.lst [])) := (same_new nkt).trans (same_new ne0)
        have hkt4 : (upd (upd H3 kt (.tup [nV x.1, nV c])) e0 (.lst [])) kt = some (.tup [nV x.1, nV c]) := same_new ne0 _ _ upd_same
        have he4 : (upd (upd H3 kt (.tup [nV x.1, nV c])) e0 (.lst [])) e0 = some (.lst (nVs [])) := upd_same
        generalize hH4 : (upd (upd H3 kt (.tup [nV x.1, nV c])) e0 (.lst [])) = H4 at s4 he4 hkt4
        have hH4' : (upd (upd H3 kt (.tup [nV x.1, .int (c : Int)])) e0 (.lst [])) = H4 := hH4
        rw [hH4']
        clear hH4 hH4'
        have key : ∃ (o : Option V) (l : Addr), DGet H4 pr (.ref kt) o ∧ o.getD (.ref e0) = .ref l ∧ H4 l = some (.lst (nVs (stp (mv.take j) (c : Int) x.1))) := by
          refine ⟨valV kvs (kP (x.1, c)), ?_⟩
          rcases hk3 x.1 c with ⟨z1, z2⟩ | ⟨l, z1, z2⟩
          · refine ⟨e0, DGet.t (k := kP (x.1, c)) (s4 _ _ hk1) hkt4, by rw [z1]; rfl, ?_⟩
            have z3 : stp (mv.take j) (c : Int) x.1 = [] := z2
            rw [z3]
            exact he4
          · exact ⟨l, DGet.t (k := kP (x.1, c)) (s4 _ _ hk1) hkt4, by rw [z1]; rfl, s4 _ _ z2⟩
        obtain ⟨o, l, hg, el, hl⟩ := key
        refine ⟨o, hg, ?_⟩
        rw [el]
        refine ⟨_, rfl, by show 1 ≤ sizeLine; decide, fun e1 ne1 => ?_⟩
        have s5 : Same H4 (upd H4 e1 (.lst [nV x.2.2])) := same_new ne1
        have he5 : (upd H4 e1 (.lst [nV x.2.2])) e1 = some (.lst [nV x.2.2]) := upd_same
        generalize (upd H4 e1 (.lst [nV x.2.2])) = H5 at s5 he5
        have hsz := stp_len (mv.take j) (c : Int) x.1
        rw [List.length_take] at hsz
        refine ⟨l, e1, _, _, rfl, rfl, s5 _ _ hl, he5, by rw [nVs_len]; exact szBigLe (by show _ + 1 ≤ _; omega), fun p np => ?_⟩
        rw [← nVs_snoc]
        have s6 : Same H5 (upd H5 p (.lst (nVs (stp (mv.take j) (c : Int) x.1 ++ [x.2.2])))) := same_new np
        have hp6 : (upd H5 p (.lst (nVs (stp (mv.take j) (c : Int) x.1 ++ [x.2.2])))) p = some (.lst (nVs (stp (mv.take j) (c : Int) x.1 ++ [x.2.2]))) := upd_same
        generalize (upd H5 p (.lst (nVs (stp (mv.take j) (c : Int) x.1 ++ [x.2.2])))) = H6 at s6 hp6
        refine ⟨_, rfl, _, rfl, _, rfl, by show 2 ≤ sizeLine; decide, fun kt2 nkt2 => ?_⟩
        have s7 : Same H6 (upd H6 kt2 (.tup [nV x.1, .int (c : Int)])) := same_new nkt2
        have hk7 : (upd H6 kt2 (.tup [nV x.1, .int (c : Int)])) kt2 = some (.tup [nV x.1, nV c]) := upd_same
        generalize (upd H6 kt2 (.tup [nV x.1, .int (c : Int)])) = H7 at s7 hk7
        have s37 := ((s4.trans s5).trans s6).trans s7
        have hpr7 := s37 _ _ hk1
        refine ⟨pr, _, rfl, DPut.t (k := kP (x.1, c)) hpr7 hk7 (szBig (by omega)), ?_⟩
        refine ⟨_, _, _, rfl, ?_, ?_, ?_⟩
        · intro b' o' eb
          rw [upd_ne (ne_of_none eb npr0)]
          exact s37 _ _ (s3 _ _ eb)
        · refine ((hK.same s37).keep (fun b' xs eb => ?_) (fun b' xs eb => ?_) (fun y => ?_)).le (Nat.le_succ _)
          · rw [upd_ne (ne_of eb hpr7 (fun z => by cases z))]
            exact eb
          · rw [upd_ne (ne_of eb hpr7 (fun z => by cases z))]
            exact eb
          · rw [take_snoc hx, stp_other (fun z => by have := z.2; omega)]
        · refine ListsPc.put (H := H7) (f := fun x k => stp (mv.take j) (k : Int) x) (kvs := kvs) (x := x.1) (k := c) (l := p) (fun y k' => ?_) hk2 upd_same (fun b' o' nb eb => by rw [upd_ne nb]; exact eb) (fun xs z => by rw [hpr7] at z; cases z) ?_ (fun y k' hy => ?_)
          · rcases hk3 y k' with z | ⟨l', z1, z2⟩
            · exact .inl z
            · exact .inr ⟨l', z1, s37 _ _ z2⟩
          · have hp7 := s7 _ _ hp6
            rw [upd_ne (ne_of hp7 hpr7 (fun z => by cases z)), take_snoc hx, stp_this ⟨rfl, ec⟩]
            exact hp7
          · rw [take_snoc hx]
            refine stp_other fun z => hy ?_
            have h1 := z.1
            have h2 := z.2
            rw [ec] at h2
            have h3 : c = k' := by omega
            rw [h1, h3]
    rintro σ Hb ⟨y6, y7, y8, rfl, sb, hK, hP⟩
    rw [List.length_map] at hK hP
    have eml : ms.length = mv.length := paired_length hm.2
    rw [eml, List.take_length] at hK hP
    replace hK := hK.le (show mv.length ≤ 4000 by omega)
    replace hP := hP.le (show mv.length ≤ 4000 by omega)
    clear hs2 hr2 s2 nsr
    -- found = [silent_from(begins, silent)]
    refine ⟨_, rfl, _, rfl, b, ps, S0, mv, rfl, sb _ _ hb, hK, by omega, hml, fun H4 t0 T0 s4 nt0 ht0 hT0 => ?_⟩
    have hT0s : T0 ∈ subs B := sil_subs hBp hSB hmB hT0
    have eT0 : T0 = silF mv fun x => x ∈ S0 := hT0.eq
    refine ⟨by show 1 ≤ sizeLine; decide, fun pf npf => ?_⟩
    have s5 : Same H4 (upd H4 pf (.lst [.ref t0])) := same_new npf
    have hf5 : (upd H4 pf (.lst [.ref t0])) pf = some (.lst ([t0].map V.ref)) := upd_same
    generalize (upd H4 pf (.lst [.ref t0])) = H5 at s5 hf5
    -- number = {found[0]: 0}
    intro pn npn
    have s6 : Same H5 (upd H5 pn (.dT [])) := same_new npn
    have hn6 : (upd H5 pn (.dT [])) pn = some (.dT []) := upd_same
    refine ⟨_, rfl, pf, _, _, _, rfl, rfl, SqL.of (s6 _ _ hf5), (rfl : atI [V.ref t0] 0 = some (.ref t0)), hn6, t0, kT T0, rfl, by rw [kT_vals]; exact s6 _ _ (s5 _ _ ht0), ?_⟩
    rw [upd_upd]
    have e0 : ([(kT T0, V.int 0)] : List (List Key × V)) = nO [T0] := by
      show [(kT T0, V.int 0)] = [(kT T0, nV ([T0].idxOf T0))]
      rw [List.idxOf_cons_self]
      rfl
    rw [e0]
    clear s6 hn6
    have s6 : Same H5 (upd H5 pn (.dT (nO [T0]))) := same_new npn
    have hn6 : (upd H5 pn (.dT (nO [T0]))) pn = some (.dT (nO [T0])) := upd_same
    generalize (upd H5 pn (.dT (nO [T0]))) = H6 at s6 hn6
    -- rows = []
    refine ⟨by show 0 ≤ sizeLine; decide, fun pw npw => ?_⟩
    have s7 : Same H6 (upd H6 pw (.lst [])) := same_new npw
    have hw7 : (upd H6 pw (.lst [])) pw = some (.lst []) := upd_same
    generalize (upd H6 pw (.lst [])) = H7 at s7 hw7
    have npf0 : Hb pf = none := s4.free npf
    have npn0 : Hb pn = none := (s4.trans s5).free npn
    have npw0 : Hb pw = none := ((s4.trans s5).trans s6).free npw
    have nfw : pf ≠ pw := ne_of_none (s6 _ _ hf5) npw
    have nfn : pf ≠ pn := ne_of_none hf5 npn
    have nnw : pn ≠ pw := ne_of_none hn6 npw
    have hW0 : SetM mv n B T0 [T0] [] := ⟨by simp, fun T hT => by rw [List.mem_singleton] at hT; rw [hT]; exact hT0s, rfl, by simp, fun i hi => absurd hi (Nat.not_lt_zero _), fun i T hi => absurd hi (Nat.not_lt_zero _)⟩
    refine ⟨fun k' σ H8 => ∃ (F R : List (List Nat)) (ts xs : List Addr) (y6 y7 y8 y12 y13 : Option V), k' = 32 - R.length ∧ σ = [some (nV n), some (.ref b), some (.ref m), some (.ref e), some (.ref ps), some (.ref pr), y6, y7, y8, some (.ref pf), some (.ref pn), some (.ref pw), y12, y13, none] ∧ Same Hb H8 ∧ H8 pf = some (.lst (ts.map V.ref)) ∧ TupsAt H8 ts F ∧ H8 pn = some (.dT (nO F)) ∧ RowsAt H8 pw xs R ∧ (∀ x ∈ xs, x ≠ pf ∧ x ≠ pw) ∧ SetM mv n B T0 F R,
      ⟨_, [T0], [], [t0], [], y6, y7, y8, none, none, rfl, rfl, ((s4.trans s5).trans s6).trans s7, s7 _ _ (s6 _ _ hf5), .cons (s7 _ _ (s6 _ _ (s5 _ _ ht0))) .nil, s7 _ _ hn6, ⟨hw7, rfl, fun i x hx => by simp at hx⟩, (fun x hx => nomatch hx), hW0⟩, ?_⟩
    clear hW0 s7 hw7 s6 hn6 hf5 s5 npf npn npw ht0 nt0 s4 e0
    rintro k' σ H8 ⟨F, R, ts, xs, y6, y7, y8, y12, y13, rfl, rfl, s8, hf8, hts8, hn8, hw8, hxn, hW⟩
    have hFl : F.length ≤ 32 := by
      have h1 := hW.le
      have h2 : 2 ^ B.length ≤ 2 ^ 5 := Nat.pow_le_pow_right (by decide) hBl
      omega
    have hRl := hW.len
    have htl := hts8.len
    have hxl := hw8.len
    refine ⟨_, rfl, pw, _, rfl, .inl (SqL.of hw8.at_), _, rfl, pf, _, rfl, .inl (SqL.of hf8), _, _, rfl, rfl, _, rfl, ite2 (fun ei => ?_) (fun ei => ?_)⟩
    · have hlt : R.length < F.length := by
        have := of_decide_eq_true ei
        rw [List.length_map, List.length_map] at this
        omega
      clear ei
      have hT : F[R.length]? = some F[R.length] := List.getElem?_eq_getElem hlt
      generalize F[R.length] = T at hT
      have hTm : T ∈ F := List.mem_of_getElem? hT
      obtain ⟨tT, htT, hTt⟩ := hts8.get hT
      have hTl : T.length ≤ 10 := by
        have h1 := hW.sub T hTm
        have := subs_short h1
        omega
      refine ⟨fun σ' H' => ∃ (F' R' : List (List Nat)) (ts' xs' : List Addr) (y12 y13 : Option V), R'.length = R.length + 1 ∧ σ' = [some (nV n), some (.ref b), some (.ref m), some (.ref e), some (.ref ps), some (.ref pr), y6, y7, y8, some (.ref pf), some (.ref pn), some (.ref pw), y12, y13, none] ∧ Same Hb H' ∧ H' pf = some (.lst (ts'.map V.ref)) ∧ TupsAt H' ts' F' ∧ H' pn = some (.dT (nO F')) ∧ RowsAt H' pw xs' R' ∧ (∀ x ∈ xs', x ≠ pf ∧ x ≠ pw) ∧ SetM mv n B T0 F' R', ?_, ?_⟩
      · rintro σ' H' ⟨F', R', ts', xs', z12, z13, hl', rfl, s', hf', hts', hn', hw', hxn', hW'⟩
        exact ⟨32 - R'.length, by omega, F', R', ts', xs', y6, y7, y8, z12, z13, rfl, rfl, s', hf', hts', hn', hw', hxn', hW'⟩
      · -- some
        refine ⟨_, rfl, (n : Int), rfl, by omega, by omega, fun D1 nD1 => ?_⟩
        refine lc_range (n := (n : Int).toNat) (fun i H9 => Same H8 H9 ∧ ∃ us : List Addr, us.length = i ∧ H9 D1 = some (.lst (us.map V.ref)) ∧ TupsAt H9 us ((List.range i).map (nxS mv T)) ∧ ∀ c, c < i → nxS mv T c ∈ subs B) ⟨same_new nD1, [], rfl, by rw [upd_same]; rfl, .nil, fun c hc => absurd hc (Nat.not_lt_zero c)⟩ ?_ ?_
        · rintro i H9 hi ⟨s9, us, ul, hD9, hus, hsb⟩
          have hi' : i < n := by omega
          have s89 := s8.trans s9
          refine ⟨rfl, ?_⟩
          refine ⟨_, rfl, _, rfl, pw, _, rfl, .inl (SqL.of (s9 _ _ hw8.at_)), pf, _, _, _, rfl, rfl, SqL.of (s9 _ _ hf8), atI_nat (by rw [List.length_map, hxl, List.getElem?_map, htT]; rfl), _, rfl, _, rfl, tT, pr, T, mv, i, by rw [Int.zero_add]; rfl, s9 _ _ hTt, hP.same s89, hTl, hml, fun H10 p s10 np hp => ?_⟩
          have hlen := flatMap_le (f := stp mv (i : Int)) (c := 100) (fun x => Nat.le_trans (stp_len _ _ _) hml) T
          refine ⟨_, rfl, p, ps, _, mv, rfl, hp, hK.same (s89.trans s10), by omega, hml, fun H11 t T' s11 nt ht hT' => ?_⟩
          have hLed : ∀ x, x ∈ T.flatMap (stp mv (i : Int)) ↔ Led mv T i x := fun x => by
            rw [List.mem_flatMap]
            exact ⟨fun ⟨y, hy, hx⟩ => ⟨y, hy, mem_stp.mp hx⟩, fun ⟨y, hy, hx⟩ => ⟨y, hy, mem_stp.mpr hx⟩⟩
          have eT' : T' = nxS mv T i := hT'.eq' hLed
          have hsub' : T' ∈ subs B := sil_subs hBp (fun x hx => by
            obtain ⟨y, _, hy⟩ := (hLed x).mp hx
            exact hmB _ hy) hmB hT'
          have s911 := s10.trans s11
          have hD11 := s911 _ _ hD9
          refine ⟨_, hD11, by rw [List.length_map]; exact szBig (by omega), ?_, us ++ [t], by rw [List.length_append, List.length_singleton, ul], ?_, ?_, ?_⟩
          · intro b' o eb
            rw [upd_ne (ne_of_none eb nD1)]
            exact s911 _ _ (s9 _ _ eb)
          · rw [upd_same, List.map_append]
            rfl
          · rw [List.range_succ, List.map_append]
            refine TupsAt.upd_lst (paired_snoc (hus.same s911) ?_) (fun xs z => by rw [hD11] at z; cases z)
            rw [← eT']
            exact ht
          · intro c hc
            by_cases ec : c < i
            · exact hsb c ec
            · have : c = i := by omega
              rw [this, ← eT']
              exact hsub'
        rintro H9 ⟨s9, us, ul, hD9, hus, hsb⟩
        rw [Int.toNat_natCast] at ul hus hsb
        generalize hG : (List.range n).map (nxS mv T) = G at hus
        have hGl : G.length = n := by
          rw [← hG, List.length_map, List.length_range]
        have hGs : ∀ S ∈ G, S ∈ subs B := fun S hS => by
          rw [← hG] at hS
          obtain ⟨c, hc, rfl⟩ := List.mem_map.mp hS
          exact hsb c (List.mem_range.mp hc)
        have hGg : ∀ c, c < n → G[c]? = some (nxS mv T c) := fun c hc => by
          rw [← hG, List.getElem?_map, List.getElem?_range hc]
          rfl
        clear hG hsb
        have hF'nd : ∀ X : List (List Nat), (pushAll F X).Nodup := fun X => pushAll_nodup hW.nd
        have hF'sub : ∀ X : List (List Nat), (∀ S ∈ X, S ∈ G) → ∀ S ∈ pushAll F X, S ∈ subs B := fun X hX S hS => by
          rcases mem_pushAll.mp hS with z | z
          · exact hW.sub S z
          · exact hGs S (hX S z)
        have hF'l : ∀ X : List (List Nat), (∀ S ∈ X, S ∈ G) → (pushAll F X).length ≤ 32 := fun X hX => by
          have h1 := length_le_of_sub (hF'nd X) (hF'sub X hX)
          rw [subs_len] at h1
          have h2 : 2 ^ B.length ≤ 2 ^ 5 := Nat.pow_le_pow_right (by decide) hBl
          omega
        -- for later in some
        refine ⟨_, rfl, D1, rfl, ⟨_, SqL.of hD9⟩, ?_⟩
        have nD1f : D1 ≠ pf := (ne_of_none hf8 nD1).symm
        have nD1n : D1 ≠ pn := (ne_of_none hn8 nD1).symm
        refine for_list (K := K) (a := D1) (xs := us.map V.ref) (fun j σ H10 => ∃ (ts' : List Addr) (y13 : Option V), σ = [some (nV n), some (.ref b), some (.ref m), some (.ref e), some (.ref ps), some (.ref pr), y6, y7, y8, some (.ref pf), some (.ref pn), some (.ref pw), some (.ref D1), y13, none] ∧ Same Hb H10 ∧ H10 D1 = some (.lst (us.map V.ref)) ∧ TupsAt H10 us G ∧ H10 pf = some (.lst (ts'.map V.ref)) ∧ TupsAt H10 ts' (pushAll F (G.take j)) ∧ H10 pn = some (.dT (nO (pushAll F (G.take j)))) ∧ RowsAt H10 pw xs R)
          ⟨ts, y13, rfl, s8.trans s9, hD9, hus, s9 _ _ hf8, hts8.same s9, s9 _ _ hn8, hw8.same s9⟩ (fun j σ H10 _ ⟨_, _, _, _, hD10, _⟩ => SqL.of hD10) ?_ ?_
        · rintro j v σ H10 hj ⟨ts', z13, rfl, s10, hD10, hus10, hf10, hts10, hn10, hw10⟩
          rw [List.getElem?_map] at hj
          obtain ⟨u, hu', rfl⟩ := Option.map_eq_some_iff.mp hj
          obtain ⟨U, hU, hUt⟩ := hus10.get' hu'
          have hnext : pushAll F (G.take (j + 1)) = push (pushAll F (G.take j)) U := by
            rw [take_snoc hU, pushAll_append]
            rfl
          have hl1 := hF'l (G.take j) (fun S hS => List.mem_of_mem_take hS)
          have htl1 := hts10.len
          rw [hnext]
          generalize pushAll F (G.take j) = F1 at hts10 hn10 hl1 htl1
          obtain ⟨r, hg, hr1⟩ := din_nO hn10 hUt
          refine ⟨_, rfl, _, rfl, pn, r, rfl, hg, _, rfl, ?_⟩
          rw [hr1]
          by_cases hin : U ∈ F1
          · rw [decide_eq_true hin, push_mem hin]
            exact ⟨ts', _, rfl, s10, hD10, hus10, hf10, hts10, hn10, hw10⟩
          · rw [decide_eq_false hin, push_new hin]
            refine ⟨_, rfl, pf, _, rfl, .inl (SqL.of hf10), _, rfl, _, rfl, pn, _, rfl, DPut.t (k := kT U) hn10 (by rw [kT_vals]; exact hUt) (by rw [nO_len]; exact szBig (by omega)), ?_⟩
            have eput : putK (nO F1) (kT U) (.int ((ts'.map V.ref).length : Int)) = nO (F1 ++ [U]) := by
              rw [← putK_nO hin, List.length_map, htl1]
              rfl
            rw [eput]
            have k11 : ∀ c o, H10 c = some o → c ≠ pn → (upd H10 pn (.dT (nO (F1 ++ [U])))) c = some o := fun c o ec nc => by
              rw [upd_ne nc]
              exact ec
            have hn11 : (upd H10 pn (.dT (nO (F1 ++ [U])))) pn = some (.dT (nO (F1 ++ [U]))) := upd_same
            have hus11 : TupsAt (upd H10 pn (.dT (nO (F1 ++ [U])))) us G := hus10.upd_lst (fun xs z => by rw [hn10] at z; cases z)
            have hts11 : TupsAt (upd H10 pn (.dT (nO (F1 ++ [U])))) ts' F1 := hts10.upd_lst (fun xs z => by rw [hn10] at z; cases z)
            have hU11 : (upd H10 pn (.dT (nO (F1 ++ [U])))) u = some (.tup (nVs U)) := k11 _ _ hUt (ne_of hUt hn10 (fun z => by cases z))
            have hf11 := k11 _ _ hf10 nfn
            have hD11 := k11 _ _ hD10 nD1n
            have hw11 : RowsAt (upd H10 pn (.dT (nO (F1 ++ [U])))) pw xs R := ⟨k11 _ _ hw10.at_ nnw.symm, hw10.len, fun i x hx => k11 _ _ (hw10.row i x hx) (ne_of (hw10.row i x hx) hn10 (fun z => by cases z))⟩
            have s11 : Same Hb (upd H10 pn (.dT (nO (F1 ++ [U])))) := fun c o ec => k11 _ _ (s10 _ _ ec) (ne_of_none ec npn0)
            generalize (upd H10 pn (.dT (nO (F1 ++ [U])))) = H11 at hn11 hus11 hts11 hU11 hf11 hD11 hw11 s11
            clear k11
            refine ⟨_, rfl, .inl ⟨rfl, _, SqL.of hf11⟩, _, rfl, pf, _, _, rfl, rfl, hf11, by rw [List.length_map]; exact szBig (by omega), ?_⟩
            refine ⟨ts' ++ [u], _, rfl, ?_, ?_, ?_, ?_, ?_, ?_, ?_⟩
            · intro c o ec
              rw [upd_ne (ne_of_none ec npf0)]
              exact s11 _ _ ec
            · rw [upd_ne nD1f]
              exact hD11
            · exact hus11.upd_lst (fun xs z => by rw [hf11] at z; cases z)
            · rw [upd_same, List.map_append]
              rfl
            · exact TupsAt.upd_lst (paired_snoc hts11 hU11) (fun xs z => by rw [hf11] at z; cases z)
            · rw [upd_ne nfn.symm]
              exact hn11
            · exact ⟨by rw [upd_ne nfw.symm]; exact hw11.at_, hw11.len, fun i x hx => by rw [upd_ne (hxn x (List.mem_of_getElem? hx)).1]; exact hw11.row i x hx⟩
        · rintro σ H10 ⟨ts', z13, rfl, s10, hD10, hus10, hf10, hts10, hn10, hw10⟩
          rw [List.length_map, ul, ← hGl, List.take_length] at hts10 hn10
          have hnd' := hF'nd G
          have hsub' := hF'sub G (fun S hS => hS)
          have hpre := pushAll_pre F G
          have hGF : ∀ S ∈ G, S ∈ pushAll F G := fun S hS => mem_pushAll.mpr (.inr hS)
          generalize pushAll F G = F1 at hts10 hn10 hnd' hsub' hpre hGF
          -- rows.append
          refine ⟨_, rfl, .inl ⟨rfl, _, SqL.of hw10.at_⟩, _, rfl, D1, rfl, ⟨_, SqL.of hD10⟩, fun D2 nD2 => ?_⟩
          refine lc_list (K := K) (a := D1) (xs := us.map V.ref) (fun i H11 => Same H10 H11 ∧ H11 D2 = some (.lst (nVs ((G.take i).map F1.idxOf)))) ⟨same_new nD2, by rw [upd_same]; rfl⟩ (fun i H11 _ ⟨s11, _⟩ => SqL.of (s11 _ _ hD10)) ?_ ?_
          · rintro i v H11 hi ⟨s11, hD2⟩
            rw [List.getElem?_map] at hi
            obtain ⟨u, hu', rfl⟩ := Option.map_eq_some_iff.mp hi
            obtain ⟨U, hU, hUt⟩ := hus10.get' hu'
            have hil := (List.getElem?_eq_some_iff.mp hU).1
            refine ⟨rfl, ?_⟩
            refine ⟨_, rfl, _, rfl, pn, _, rfl, dget_nO (s11 _ _ hn10) (s11 _ _ hUt) (hGF U (List.mem_of_getElem? hU)), _, hD2, by rw [nVs_len, List.length_map, List.length_take]; exact szBig (by omega), ?_, ?_⟩
            · intro c o ec
              rw [upd_ne (ne_of_none ec nD2)]
              exact s11 _ _ ec
            · rw [upd_same, take_snoc hU, List.map_append]
              exact congrArg (fun z => some (HO.lst z)) (nVs_snoc _ _).symm
          rintro H11 ⟨s11, hD2⟩
          rw [List.length_map, ul, ← hGl, List.take_length] at hD2
          have hw11 := hw10.same s11
          have nD2w : D2 ≠ pw := (ne_of_none hw10.at_ nD2).symm
          refine ⟨pw, _, _, rfl, rfl, hw11.at_, by rw [List.length_map]; exact szBig (by omega), ?_⟩
          refine ⟨F1, R ++ [G.map F1.idxOf], ts', xs ++ [D2], _, _, by rw [List.length_append, List.length_singleton], rfl, ?_, ?_, ?_, ?_, ?_, ?_, ?_⟩
          · intro c o ec
            rw [upd_ne (ne_of_none ec npw0)]
            exact s11 _ _ (s10 _ _ ec)
          · rw [upd_ne nfw]
            exact s11 _ _ hf10
          · exact TupsAt.upd_lst (hts10.same s11) (fun xs z => by rw [hw11.at_] at z; cases z)
          · rw [upd_ne nnw]
            exact s11 _ _ hn10
          · refine RowsAt.snoc hw11 upd_same (by rw [upd_ne nD2w]; exact hD2) (fun x hx o ex => ?_)
            rw [upd_ne (hxn x hx).2]
            exact ex
          · intro x hx
            rcases List.mem_append.mp hx with z | z
            · exact hxn x z
            · rw [List.mem_singleton] at z
              rw [z]
              exact ⟨(ne_of_none hf10 nD2).symm, nD2w⟩
          · refine hW.step hT hpre hnd' hsub' (by rw [List.length_map, hGl]) (fun c hc => ?_)
            have hc' := hGg c hc
            have hm' := hGF _ (List.mem_of_getElem? hc')
            rw [List.getD_eq_getElem?_getD, List.getElem?_map, hc']
            show F1[F1.idxOf (nxS mv T c)]? = some (nxS mv T c)
            have hlt' := List.idxOf_lt_length_iff.mpr hm'
            rw [List.getElem?_eq_getElem hlt', List.getElem_idxOf]
    · have hle : F.length ≤ R.length := by
        have := of_decide_eq_false (Bool.eq_false_iff.mpr ei)
        rw [List.length_map, List.length_map] at this
        omega
      clear ei
      have he8 := s8 _ _ (sb _ _ he)
      -- known
      refine ⟨_, rfl, e, rfl, ⟨_, SqL.of he8⟩, fun pk nk => ?_⟩
      refine dc_list (K := K) (a := e) (xs := nVs ends) (fun i H9 => Same H8 H9 ∧ H9 pk = some (.dK (dO (D (ends.take i)) fun _ => .bl true))) ⟨same_new nk, by rw [upd_same]; rfl⟩ (fun i H9 _ ⟨s9, _⟩ => SqL.of (s9 _ _ he8)) ?_ ?_
      · rintro i v H9 hi ⟨s9, hD⟩
        obtain ⟨t, rfl, ht⟩ := nVs_at hi
        have hDl : (D (ends.take i)).length ≤ 4000 := by
          have := length_le_of_sub (D_nodup (ends.take i)) (fun x hx => mem_D.mp hx)
          rw [List.length_take] at this
          omega
        refine ⟨rfl, ?_⟩
        refine ⟨_, rfl, _, kN t, rfl, hD, by rw [dO_len]; exact szBig (by omega), ?_, ?_⟩
        · intro b' o e'
          rw [upd_ne (ne_of_none e' nk)]
          exact s9 _ _ e'
        · rw [upd_same, take_snoc ht, D_append]
          exact congrArg (fun z => some (HO.dK z)) (putK_dO (c := fun _ => .bl true))
      rintro H9 ⟨s9, hk9⟩
      rw [nVs_len, List.take_length] at hk9
      have hf9 := s9 _ _ hf8
      have hts9 := hts8.same s9
      have hn9 := s9 _ _ hn8
      have hw9 := hw8.same s9
      -- least_machine(rows, [..])
      refine ⟨_, rfl, _, rfl, pf, rfl, ⟨_, SqL.of hf9⟩, fun D3 nD3 => ?_⟩
      refine lc_list (K := K) (a := pf) (xs := ts.map V.ref) (fun i H10 => Same H9 H10 ∧ H10 D3 = some (.lst (nVs ((List.range i).filter fun j => (F.getD j []).any fun s => decide (s ∈ D ends))))) ⟨same_new nD3, by rw [upd_same]; rfl⟩ (fun i H10 _ ⟨s10, _⟩ => SqL.of (s10 _ _ hf9)) ?_ ?_
      · rintro i v H10 hi ⟨s10, hD3⟩
        rw [List.getElem?_map] at hi
        obtain ⟨t, ht, rfl⟩ := Option.map_eq_some_iff.mp hi
        obtain ⟨T, hT, hTt⟩ := hts9.get' ht
        have hil := (List.getElem?_eq_some_iff.mp hT).1
        have hTl : T.length ≤ 10 := by
          have := subs_short (hW.sub T (List.mem_of_getElem? hT))
          omega
        refine ⟨rfl, ?_⟩
        refine ⟨_, rfl, t, rfl, ⟨_, SqT.of (s10 _ _ hTt)⟩, fun D4 nD4 => ?_⟩
        refine lc_tup (K := K) (a := t) (xs := nVs T) (fun l H11 => Same H10 H11 ∧ H11 D4 = some (.lst (((T.take l).map fun s => decide (s ∈ D ends)).map V.bl))) ⟨same_new nD4, by rw [upd_same]; rfl⟩ (fun l H11 _ ⟨s11, _⟩ => SqT.of (s11 _ _ (s10 _ _ hTt))) ?_ ?_
        · rintro l v H11 hl ⟨s11, hD4⟩
          obtain ⟨x, rfl, hx⟩ := nVs_at hl
          have hll := (List.getElem?_eq_some_iff.mp hx).1
          obtain ⟨r, hg, hr1⟩ := din_dO (t := x) (s11 _ _ (s10 _ _ hk9))
          refine ⟨rfl, ?_⟩
          refine ⟨_, rfl, _, rfl, pk, r, rfl, hg, _, hD4, by rw [List.length_map, List.length_map, List.length_take]; exact szBig (by omega), ?_, ?_⟩
          · intro c o ec
            rw [upd_ne (ne_of_none ec nD4)]
            exact s11 _ _ ec
          · rw [upd_same, take_snoc hx, List.map_append, List.map_append, hr1]
            rfl
        rintro H11 ⟨s11, hD4⟩
        rw [nVs_len, List.take_length] at hD4
        refine ⟨D4, _, rfl, SqL.of hD4, _, rfl, ?_⟩
        have eA : ((T.map fun s => decide (s ∈ D ends)).any id) = (F.getD i []).any fun s => decide (s ∈ D ends) := by
          rw [List.any_map, List.getD_eq_getElem?_getD, hT]
          rfl
        rw [eA, List.range_succ, filter_snoc]
        have hfl := List.length_filter_le (fun j => (F.getD j []).any fun s => decide (s ∈ D ends)) (List.range i)
        rw [List.length_range] at hfl
        cases hA : (F.getD i []).any fun s => decide (s ∈ D ends) with
        | true =>
          have hFi : F.idxOf T = i := by
            have e1 : F[i] = T := (List.getElem?_eq_some_iff.mp hT).2
            rw [← e1]
            exact idxOf_nodup hW.nd hil
          have hdg := dget_nO (s11 _ _ (s10 _ _ hn9)) (s11 _ _ (s10 _ _ hTt)) (List.mem_of_getElem? hT)
          rw [hFi] at hdg
          refine ⟨_, rfl, _, rfl, pn, _, rfl, hdg, _, s11 _ _ hD3, by rw [nVs_len]; exact szBig (by omega), ?_, ?_⟩
          · intro c o ec
            rw [upd_ne (ne_of_none ec nD3)]
            exact s11 _ _ (s10 _ _ ec)
          · rw [upd_same, if_pos rfl, nVs_snoc]
        | false =>
          refine ⟨s10.trans s11, ?_⟩
          rw [if_neg Bool.false_ne_true, List.append_nil]
          exact s11 _ _ hD3
      rintro H10 ⟨s10, hD3⟩
      rw [List.length_map, htl] at hD3
      have hEm : ∀ j T, F[j]? = some T → (j ∈ ((List.range F.length).filter fun j => (F.getD j []).any fun s => decide (s ∈ D ends)) ↔ Meets T ends) := fun j T hT => by
        rw [List.mem_filter, List.mem_range, List.getD_eq_getElem?_getD, hT]
        constructor
        · rintro ⟨_, h2⟩
          obtain ⟨x, hx, h3⟩ := List.any_eq_true.mp h2
          exact ⟨x, hx, mem_D.mp (of_decide_eq_true h3)⟩
        · rintro ⟨x, hx, h3⟩
          exact ⟨(List.getElem?_eq_some_iff.mp hT).1, List.any_eq_true.mpr ⟨x, hx, decide_eq_true (mem_D.mpr h3)⟩⟩
      have hEl := List.length_filter_le (fun j => (F.getD j []).any fun s => decide (s ∈ D ends)) (List.range F.length)
      rw [List.length_range] at hEl
      have hacc := hW.acc hle hEm
      have hF0 : 0 < F.length := (List.getElem?_eq_some_iff.mp hW.zero).1
      generalize ((List.range F.length).filter fun j => (F.getD j []).any fun s => decide (s ∈ D ends)) = EE at hD3 hEl hacc
      have s010 : Same H H10 := ((sb.trans s8).trans s9).trans s10
      refine ⟨pw, D3, xs, R, n, 0, EE, rfl, hw9.same s10, hW.mok hle, by omega, by omega, by omega, hD3, by omega, fun H11 t p e' ys R' E' s11 nt np ne' npe hys ynd ht' hR' hE' hL hA hRl' => ?_⟩
      refine q H11 t p e' ys R' E' (s010.trans s11) (s010.free nt) (s010.free np) (s010.free ne') npe (fun y hy => ⟨s010.free (hys y hy).1, (hys y hy).2⟩) ynd ht' hR' hE' hL (fun w' hw' => ?_) (by omega)
      rw [← eT0]
      exact (hA w' hw').trans (hacc w' hw')
end
end K13

namespace Rg
open PySem PySem.Spec PyProof.Rows L2 Mach
/-- the law's own closing -/
def spSilL : Sp := fun vs H Q _ => ∃ (a m : Addr) (ms : List Addr) (S : List Nat) (mv : List Mv), vs = [.ref a, .ref m] ∧ H a = some (.lst (nVs S)) ∧ MvAt H m ms mv ∧ S.length ≤ 60 ∧ mv.length ≤ 60 ∧
  ∀ (H' : Hp) (t : Addr) (T : List Nat), Same H H' → H t = none → H' t = some (.tup (nVs T)) → IsSil mv (fun x => x ∈ S) T → Q (.ref t) H'
/-- a set of numbers, sorted -/
theorem sorted_set_nums {S : List Nat} {ns : List Int} (hs : ns.Pairwise (· < ·)) (hm : ∀ k : Int, k ∈ ns ↔ decide (k ∈ S.map fun n : Nat => (n : Int)) = true) : ∃ T : List Nat, ns.map V.int = nVs T ∧ T.Pairwise (· < ·) ∧ (∀ x, x ∈ T ↔ x ∈ S) ∧ T.length = ns.length := by
  have h1 : ns.Perm ((D S).map fun n : Nat => (n : Int)) := by
    refine (List.perm_ext_iff_of_nodup ?_ ?_).mpr fun k => ?_
    · exact hs.imp fun h e => by omega
    · rw [List.Nodup, List.pairwise_map]
      exact (D_nodup S).imp fun hab e => hab (by omega)
    · rw [hm k, decide_eq_true_eq, List.mem_map, List.mem_map]
      exact ⟨fun ⟨n, h, e⟩ => ⟨n, mem_D.mpr h, e⟩, fun ⟨n, h, e⟩ => ⟨n, mem_D.mp h, e⟩⟩
  obtain ⟨T, e1, e2, e3, e4⟩ := sorted_nums (D_nodup S) h1 (hs.imp fun h => by omega)
  exact ⟨T, e1, e2, fun x => (e3 x).trans mem_D, by rw [e4, h1.length_eq, List.length_map]⟩
end Rg
namespace K13
open PySem PySem.Spec PyProof.Rows L2 Rg Mach
abbrev sSl : Stmt := topS 16
def nSl : List Str := ["_law_states", "_law_moves", "_law_found", "_law_at", "_law_led", "_law_one", "_law_place", "_law_there"]
theorem scSl : FnScope nSl ["_law_states", "_law_moves"] (defScope sSl) := ⟨rfl, rfl, rfl, by decide +kernel, rfl, by decide +kernel, by decide +kernel⟩
section
variable {P : Program} {w : World} {K : PySem.W.Frag} {mg : Str → Option Value} {base : Heap}
theorem ok_sl {f : Addr} {fd : FuncData} {k : Nat} (F : Fun K "_law_silent" "_law_silent" sSl f fd) (ml : mg "len" = none) (mt : mg "tuple" = none) (ms' : mg "set" = none) (mso : mg "sorted" = none) :
    FnOk P w K mg base CX0 (k + 1) f fd ["_law_states", "_law_moves"] spSilL := by
  refine F.ok scSl (fun vs H Q E h => ?_) (fun cdv A outer s H vs Q E hr h => ?_)
  · obtain ⟨a, m, ms, S, mv, rfl, _⟩ := h
    rfl
  · obtain ⟨a, m, ms, S, mv, rfl, ha, hm, hSl, hml, q⟩ := h
    have hu := hu_of hr
    refine ⟨_, pss_cons (ps_asg (pe_tup (pa_cons (pe_callB (cr_sortedSet rfl) (by rfl) mso bSorted (pa_cons (pe_callTy (call_setN rfl) (by rfl) ms' bSet (pa_cons (pv 0) pa_nil)) pa_nil)) (pa_cons pe_int pa_nil))) (pg_tup rfl (pgs_cons (pg_name (i := 2) scSl.nd rfl (.inr rfl)) (pgs_cons (pg_name (i := 3) scSl.nd rfl (.inr rfl)) pgs_nil))))
      (pss_cons (ps_while PassesOwn.never (pt_cmpR op_lt (pv 3) (pe_callB call_len_seq (by rfl) ml bLen (pa_cons (pv 2) pa_nil)) (nomark _))
        (pss_cons (ps_setLc (i := 4) (own := [("_law_one", 5), ("_law_place", 6), ("_law_there", 7)]) (g := gTup K 3 (gCons (gName 5) (gCons (gName 6) (gCons (gName 7) gNil)))) (tt := tTest (tOp (rEqD K) (tTup (tCons (tVar 5) (tCons (tVar 6) tNil))) (tTup (tCons (tOp (rIxL K) (tVar 2) (tVar 3)) (tCons (tUn (rU fun i => .int (-i)) (tC (.int 1))) tNil))))) (te := tVar 7) rfl scSl.nd rfl rfl (sw_true rfl rfl rfl (by decide +kernel))
            (pi_list (pv 1)) (blkOk_by (own := [("_law_one", 5), ("_law_place", 6), ("_law_there", 7)]) (N := nSl) (sc := defScope sSl) (by decide +kernel))
            (fun _ _ _ _ _ => pg_tup rfl (pgs_cons (pg_name (i := 5) scSl.nd rfl (Or.inl rfl)) (pgs_cons (pg_name (i := 6) scSl.nd rfl (Or.inl rfl)) (pgs_cons (pg_name (i := 7) scSl.nd rfl (Or.inl rfl)) pgs_nil))))
            (fun _ _ _ _ _ => pts_one (pt_cmpR (op_eqD hr.units) (pe_tup (pa_cons (pv 5) (pa_cons (pv 6) pa_nil))) (pe_tup (pa_cons (pe_ix ix_list (pv 2) (pv 3) (fun _ _ => rfl)) (pa_cons (pe_un un_neg pe_int) pa_nil))) (nomark _))) (fun _ _ _ _ _ => pv 7))
        (pss_cons (ps_set (i := 2) scSl.nd rfl (.inr rfl) (pe_op op_cat (pv 2) (pe_lc (own := [("_law_there", 7)]) (g := gName 7) (tt := tTest (tOp (rIn K true) (tVar 7) (tVar 2))) rfl scSl.nd
            (pi_list (pe_callB (cr_sortedSet rfl) (by rfl) mso bSorted (pa_cons (pe_callTy (call_setN rfl) (by rfl) ms' bSet (pa_cons (pv 4) pa_nil)) pa_nil)))
            (blkOk_by (own := [("_law_there", 7)]) (N := nSl) (sc := defScope sSl) (by decide +kernel)) (fun _ _ _ _ _ => pg_name (i := 7) scSl.nd rfl (Or.inl rfl)) (fun _ _ _ _ _ => pts_one (pt_cmpR op_notIn_seq (pv 7) (pv 2) rfl)) (fun _ _ _ _ _ => pv 7))))
        (pss_one (ps_aug (i := 3) scSl.nd rfl (.inr rfl) pe_int ip_add)))))
      (pss_one (ps_ret (pe_callTy call_tuple_of (by rfl) mt bTuple (pa_cons (pe_callB cr_sortedI (by rfl) mso bSorted (pa_cons (pv 2) pa_nil)) pa_nil))))), ?_⟩
    have sqN : ∀ {H' : Hp} {c : Addr} {X : List Nat}, H' c = some (.lst (nVs X)) → SqL K H' c ((X.map fun n : Nat => (n : Int)).map V.int) := fun {H' c X} h => by
      rw [← nVs_ints]
      exact SqL.of h
    -- found, at = sorted(set(states)), 0
    refine ⟨_, rfl, a, _, rfl, sqN ha, by rw [List.length_map]; omega, fun sa na nsa hna => ?_⟩
    rw [List.length_map] at hna
    refine ⟨sa, _, na, rfl, upd_same, by omega, fun ns p hsr hmem hnl np => ?_⟩
    obtain ⟨T0, eT, hT1, hT2, hT3⟩ := sorted_set_nums hsr hmem
    rw [eT]
    have s1 : Same H (upd (upd H sa (SetO w sa (fun k => decide (k ∈ S.map fun n : Nat => (n : Int))) na)) p (.lst (nVs T0))) := (same_new nsa).trans (same_new np)
    have hp1 : (upd (upd H sa (SetO w sa (fun k => decide (k ∈ S.map fun n : Nat => (n : Int))) na)) p (.lst (nVs T0))) p = some (.lst (nVs T0)) := upd_same
    generalize hH1 : (upd (upd H sa (SetO w sa (fun k => decide (k ∈ S.map fun n : Nat => (n : Int))) na)) p (.lst (nVs T0))) = H1 at s1 hp1
    have hH1' : upd (upd H sa (SetO (cxOf CX0 P w K mg base nSl "_law_silent" (defScope sSl) f cdv A outer s H E).nox.w sa (fun k => decide (k ∈ S.map fun n : Nat => (n : Int))) na)) p (.lst (nVs T0)) = H1 := hH1
    rw [hH1']
    clear hH1 hH1'
    refine ⟨by show 2 ≤ sizeLine; decide, fun t0 n0 => ?_⟩
    refine ⟨t0, _, rfl, SqT.of upd_same, rfl, _, _, rfl, _, _, rfl, rfl, ?_⟩
    have s2 : Same H (upd H1 t0 (.tup [.ref p, .int 0])) := s1.trans (same_new n0)
    have hp2 : (upd H1 t0 (.tup [.ref p, .int 0])) p = some (.lst (nVs T0)) := same_new n0 _ _ hp1
    generalize (upd H1 t0 (.tup [.ref p, .int 0])) = H2 at s2 hp2
    refine ⟨fun k' σ H3 => ∃ (pf : Addr) (L : List Nat) (i : Nat) (y : Option V), k' = S.length + mv.length - i ∧ σ = [some (.ref a), some (.ref m), some (.ref pf), some (nV i), y, none, none, none] ∧ Same H H3 ∧ H3 pf = some (.lst (nVs L)) ∧ L.Nodup ∧ (∀ x ∈ L, x ∈ S ++ tgs mv) ∧ Clo mv (fun x => x ∈ S) L i,
      ⟨_, p, T0, 0, none, rfl, rfl, s2, hp2, hT1.imp (fun h => by omega), fun x hx => List.mem_append_left _ ((hT2 x).mp hx), ⟨fun x hx => (hT2 x).mpr hx, fun x hx => .base ((hT2 x).mp hx), fun j hj => absurd hj (Nat.not_lt_zero j)⟩⟩, ?_⟩
    clear hp2 s2 n0 hp1 s1 hT1 hT2 hT3 eT hsr hmem hnl np nsa hna
    rintro k' σ H3 ⟨pf, L, i, y, rfl, rfl, s3, hf3, hLn, hLs, hC⟩
    have hLl : L.length ≤ S.length + mv.length := by
      have h1 := length_le_of_sub hLn hLs
      rw [List.length_append] at h1
      unfold tgs at h1
      rw [List.length_map] at h1
      exact h1
    refine ⟨_, rfl, _, rfl, pf, _, rfl, .inl (SqL.of hf3), _, _, rfl, rfl, _, rfl, ite2 (fun ei => ?_) (fun ei => ?_)⟩
    · have hi : i < L.length := by
        have := of_decide_eq_true ei
        rw [nVs_len] at this
        omega
      have hs : L[i]? = some L[i] := List.getElem?_eq_getElem hi
      generalize hx0 : L[i] = x0 at hs
      refine ⟨fun σ' H' => ∃ (pf' : Addr) (Z : List Nat) (y : Option V), σ' = [some (.ref a), some (.ref m), some (.ref pf'), some (nV (i + 1)), y, none, none, none] ∧ Same H H' ∧ H' pf' = some (.lst (nVs (L ++ Z))) ∧ Z.Nodup ∧ ∀ z, z ∈ Z ↔ (x0, (-1 : Int), z) ∈ mv ∧ z ∉ L, ?_, ?_⟩
      · rintro σ' H' ⟨pf', Z, y', rfl, s4, hf4, hZn, hZ⟩
        refine ⟨S.length + mv.length - (i + 1), by omega, pf', L ++ Z, i + 1, y', rfl, rfl, s4, hf4, ?_, ?_, ?_⟩
        · rw [List.nodup_append]
          exact ⟨hLn, hZn, fun x hx z hz e' => ((hZ z).mp hz).2 (by rw [← e']; exact hx)⟩
        · intro x hx
          rcases List.mem_append.mp hx with z | z
          · exact hLs x z
          · exact List.mem_append_right _ (List.mem_map.mpr ⟨_, ((hZ x).mp z).1, rfl⟩)
        · refine hC.step hi (fun x hx => ?_) (fun x hx => ?_)
          · rw [hx0]
            exact ((hZ x).mp hx).1
          · rw [hx0] at hx
            by_cases h : x ∈ L
            · exact List.mem_append_left _ h
            · exact List.mem_append_right _ ((hZ x).mpr ⟨hx, h⟩)
      · -- led
        refine ⟨_, rfl, m, rfl, ⟨_, SqL.of (s3 _ _ hm.1)⟩, fun D1 nD1 => ?_⟩
        refine lc_list (K := K) (a := m) (xs := ms.map V.ref) (fun j H4 => Same H3 H4 ∧ H4 D1 = some (.lst (nVs (stp (mv.take j) (-1) x0)))) ⟨same_new nD1, by rw [upd_same]; rfl⟩ (fun j H4 _ ⟨s4, _⟩ => SqL.of (s4 _ _ (s3 _ _ hm.1))) ?_ ?_
        · rintro j v H4 hj ⟨s4, hD1⟩
          rw [List.getElem?_map] at hj
          obtain ⟨t, ht, rfl⟩ := Option.map_eq_some_iff.mp hj
          obtain ⟨x, hx, htx⟩ := Rg.paired_get hm.2 ht
          have hjl := (List.getElem?_eq_some_iff.mp hx).1
          refine ⟨t, _, rfl, SqT.of (s4 _ _ (s3 _ _ htx)), rfl, _, _, rfl, _, _, rfl, _, _, rfl, rfl, rfl, ?_⟩
          refine ⟨_, rfl, _, rfl, by show 2 ≤ sizeLine; decide, fun ta nta => ?_⟩
          have s5 : Same H4 (upd H4 ta (.tup [nV x.1, .int x.2.1])) := same_new nta
          have ha5 : (upd H4 ta (.tup [nV x.1, .int x.2.1])) ta = some (.tup [nV x.1, .int x.2.1]) := upd_same
          generalize (upd H4 ta (.tup [nV x.1, .int x.2.1])) = H5 at s5 ha5
          refine ⟨_, rfl, _, rfl, pf, _, _, _, rfl, rfl, SqL.of (s5 _ _ (s4 _ _ hf3)), atI_nat (nVs_get hs), 1, rfl, by show 2 ≤ sizeLine; decide, fun tb ntb => ?_⟩
          have s6 : Same H5 (upd H5 tb (.tup [nV x0, .int (-1)])) := same_new ntb
          have hb6 : (upd H5 tb (.tup [nV x0, .int (-1)])) tb = some (.tup [nV x0, .int (-1)]) := upd_same
          generalize (upd H5 tb (.tup [nV x0, .int (-1)])) = H6 at s6 hb6
          have s46 := s5.trans s6
          refine ⟨.tuple [.int (x.1 : Int), .int x.2.1], .tuple [.int (x0 : Int), .int (-1)], .tup (SqT.of (s6 _ _ ha5)) (.cons (.int _) (.cons (.int _) .nil)), .tup (SqT.of hb6) (.cons (.int _) (.cons (.int _) .nil)), rfl, rfl, _, rfl, ?_⟩
          have eeq : PyData.eqv (.tuple [.int (x.1 : Int), .int x.2.1]) (.tuple [.int (x0 : Int), .int (-1)]) = decide (x.1 = x0 ∧ x.2.1 = -1) := by
            simp only [PyData.eqv, PyData.eqvAll, Bool.and_true]
            by_cases h1 : x.1 = x0
            · by_cases h2 : x.2.1 = -1
              · rw [decide_eq_true ⟨h1, h2⟩, h1, h2]
                simp
              · rw [decide_eq_false (fun z => h2 z.2), beq_eq_false_iff_ne.mpr h2, Bool.and_false]
            · rw [decide_eq_false (fun z => h1 z.1), beq_eq_false_iff_ne.mpr (fun z => h1 (by omega)), Bool.false_and]
          rw [eeq]
          have hsl := stp_len (mv.take j) (-1) x0
          rw [List.length_take] at hsl
          rw [take_snoc hx, stp_snoc]
          by_cases hc : x.1 = x0 ∧ x.2.1 = -1
          · rw [decide_eq_true hc, if_pos hc]
            refine ⟨_, rfl, _, s46 _ _ hD1, by rw [nVs_len]; exact szBig (by omega), ?_, ?_⟩
            · intro c o ec
              rw [upd_ne (ne_of_none ec nD1)]
              exact s46 _ _ (s4 _ _ ec)
            · rw [upd_same, nVs_snoc]
          · rw [decide_eq_false hc, if_neg hc, List.append_nil]
            exact ⟨s4.trans s46, s46 _ _ hD1⟩
        rintro H4 ⟨s4, hD1⟩
        rw [List.length_map, paired_length hm.2, List.take_length] at hD1
        have hXl := stp_len mv (-1) x0
        have hXm : ∀ z, z ∈ stp mv (-1) x0 ↔ (x0, (-1 : Int), z) ∈ mv := fun z => mem_stp
        generalize stp mv (-1) x0 = X at hD1 hXl hXm
        have hf4 := s4 _ _ hf3
        -- found = found + [..]
        refine ⟨_, rfl, _, rfl, D1, _, rfl, sqN hD1, by rw [List.length_map]; omega, fun sa na nsa hna => ?_⟩
        rw [List.length_map] at hna
        refine ⟨sa, _, na, rfl, upd_same, by omega, fun ns p hsr hmem hnl np => ?_⟩
        obtain ⟨T, eT, hT1, hT2, hT3⟩ := sorted_set_nums hsr hmem
        rw [eT]
        have s5 : Same H4 (upd (upd H4 sa (SetO w sa (fun k => decide (k ∈ X.map fun n : Nat => (n : Int))) na)) p (.lst (nVs T))) := (same_new nsa).trans (same_new np)
        have hp5 : (upd (upd H4 sa (SetO w sa (fun k => decide (k ∈ X.map fun n : Nat => (n : Int))) na)) p (.lst (nVs T))) p = some (.lst (nVs T)) := upd_same
        refine ⟨p, rfl, ⟨_, SqL.of hp5⟩, ?_⟩
        generalize hH5 : (upd (upd H4 sa (SetO w sa (fun k => decide (k ∈ X.map fun n : Nat => (n : Int))) na)) p (.lst (nVs T))) = H5 at s5 hp5
        have hH5' : upd (upd H4 sa (SetO (cxOf CX0 P w K mg base nSl "_law_silent" (defScope sSl) f cdv A outer s H E).nox.w sa (fun k => decide (k ∈ X.map fun n : Nat => (n : Int))) na)) p (.lst (nVs T)) = H5 := hH5
        rw [hH5']
        clear hH5 hH5'
        intro D2 nD2
        have hTl : T.length ≤ 60 := by omega
        refine lc_list (K := K) (a := p) (xs := nVs T) (fun j H6 => Same H5 H6 ∧ H6 D2 = some (.lst (nVs ((T.take j).filter fun z => decide (z ∉ L))))) ⟨same_new nD2, by rw [upd_same]; rfl⟩ (fun j H6 _ ⟨s6, _⟩ => SqL.of (s6 _ _ hp5)) ?_ ?_
        · rintro j v H6 hj ⟨s6, hD2⟩
          obtain ⟨u, rfl, hu'⟩ := nVs_at hj
          have hjl := (List.getElem?_eq_some_iff.mp hu').1
          refine ⟨rfl, ?_⟩
          refine ⟨_, rfl, _, rfl, pf, _, rfl, .inl (SqL.of (s6 _ _ (s5 _ _ hf4))), rfl, flat_nVs _, _, rfl, ?_⟩
          rw [take_snoc hu', filter_snoc]
          have ein : (if true = true then !inV (nV u) (nVs L) else inV (nV u) (nVs L)) = decide (u ∉ L) := by
            rw [if_pos rfl, inV_nVs]
            simp
          rw [ein]
          have hfl := List.length_filter_le (fun z => decide (z ∉ L)) (T.take j)
          rw [List.length_take] at hfl
          by_cases hu2 : u ∈ L
          · rw [decide_eq_false (by simpa using hu2)]
            refine ⟨s6, ?_⟩
            rw [if_neg Bool.false_ne_true, List.append_nil]
            exact hD2
          · rw [decide_eq_true hu2]
            refine ⟨_, rfl, _, hD2, by rw [nVs_len]; exact szBig (by omega), ?_, ?_⟩
            · intro c o ec
              rw [upd_ne (ne_of_none ec nD2)]
              exact s6 _ _ ec
            · rw [upd_same, if_pos rfl, nVs_snoc]
        · rintro H6 ⟨s6, hD2⟩
          rw [nVs_len, List.take_length] at hD2
          have hfl := List.length_filter_le (fun z => decide (z ∉ L)) T
          refine ⟨pf, D2, _, _, rfl, rfl, s6 _ _ (s5 _ _ hf4), hD2, by rw [nVs_len, nVs_len]; exact szBigLe (by omega), fun p2 np2 => ?_⟩
          refine ⟨_, rfl, _, _, rfl, rfl, p2, T.filter fun z => decide (z ∉ L), _, rfl, (((s3.trans s4).trans s5).trans s6).trans (same_new np2), ?_, ?_, ?_⟩
          · rw [upd_same]
            unfold nVs
            rw [List.map_append]
          · exact (hT1.imp fun h => by omega : T.Nodup).filter _
          · intro z
            rw [List.mem_filter, hT2, hXm, decide_eq_true_eq]
    · have hi : L.length ≤ i := by
        have := of_decide_eq_false (Bool.eq_false_iff.mpr ei)
        rw [nVs_len] at this
        omega
      have hfin := hC.fin hi
      refine ⟨_, rfl, pf, _, rfl, sqN hf3, fun ns p2 hp hsr n2 => ?_⟩
      obtain ⟨T, eT, hT1, hT2, hT3⟩ := sorted_nums hLn hp hsr
      rw [eT]
      have s7 : Same H3 (upd H3 p2 (.lst (nVs T))) := same_new n2
      have h27 : (upd H3 p2 (.lst (nVs T))) p2 = some (.lst (nVs T)) := upd_same
      generalize (upd H3 p2 (.lst (nVs T))) = H7 at s7 h27
      refine ⟨p2, _, rfl, .inl ⟨SqL.of h27, fun t nt => ?_⟩⟩
      have s37 := s3.trans s7
      exact q _ t T (s37.trans (same_new nt)) (s37.free nt) upd_same ⟨hT1, fun x => by rw [hT2]; exact hfin x⟩
end
end K13

namespace Rg
open PySem PySem.Spec PyProof.Rows L2 Mach
/-! a tuple of states as data -/
def dTu (T : List Nat) : PyData := .tuple (T.map fun n : Nat => .int (n : Int))
theorem eqv_ints : ∀ S T : List Nat, PyData.eqvAll (S.map fun n : Nat => PyData.int (n : Int)) (T.map fun n : Nat => PyData.int (n : Int)) = decide (S = T)
  | [], [] => rfl
  | [], b :: T => rfl
  | a :: S, [] => rfl
  | a :: S, b :: T => by
    show (PyData.eqv (.int (a : Int)) (.int (b : Int)) && PyData.eqvAll _ _) = _
    rw [eqv_ints S T, show PyData.eqv (.int (a : Int)) (.int (b : Int)) = ((a : Int) == (b : Int)) from by simp only [PyData.eqv]]
    by_cases h1 : a = b
    · by_cases h2 : S = T
      · rw [h1, h2]
        simp
      · rw [decide_eq_false h2, Bool.and_false, decide_eq_false (fun z => h2 (List.cons.inj z).2)]
    · rw [beq_eq_false_iff_ne.mpr (fun z => h1 (by omega)), Bool.false_and, decide_eq_false (fun z => h1 (List.cons.inj z).1)]
theorem eqv_dTu (S T : List Nat) : PyData.eqv (dTu S) (dTu T) = decide (S = T) := by
  unfold dTu
  simp only [PyData.eqv]
  exact eqv_ints S T
theorem lay_ints (l : List Nat) : PyData.canLayAll0 (l.map fun n : Nat => PyData.int (n : Int)) = true ∧ PyData.depthAll (l.map fun n : Nat => PyData.int (n : Int)) = 0 := by
  induction l with
  | nil => exact ⟨rfl, rfl⟩
  | cons a l ih => exact ⟨by simp only [List.map_cons, PyData.canLayAll0, PyData.canLay0, ih.1, Bool.and_self], by simp only [List.map_cons, PyData.depthAll, PyData.depth, ih.2, Nat.max_self]⟩
theorem lay_dTu (T : List Nat) : (dTu T).canLay0 = true ∧ (dTu T).depth = 1 := by
  unfold dTu
  simp only [PyData.canLay0, PyData.depth, (lay_ints T).1, (lay_ints T).2]
  exact ⟨trivial, trivial⟩
theorem shp_dTu (T : List Nat) : SeqAt.shaped (dTu T) = true := by
  unfold SeqAt.shaped
  rw [(lay_dTu T).1, (lay_dTu T).2]
  rfl
theorem lay_dTus (F : List (List Nat)) : PyData.canLayAll0 (F.map dTu) = true ∧ PyData.depthAll (F.map dTu) ≤ 1 := by
  induction F with
  | nil => exact ⟨rfl, by decide⟩
  | cons a l ih =>
    refine ⟨by simp only [List.map_cons, PyData.canLayAll0, (lay_dTu a).1, ih.1, Bool.and_self], ?_⟩
    simp only [List.map_cons, PyData.depthAll, (lay_dTu a).2]
    exact Nat.max_le.mpr ⟨Nat.le_refl _, ih.2⟩
theorem shp_dTus (F : List (List Nat)) : SeqAt.shaped (.list (F.map dTu)) = true := by
  unfold SeqAt.shaped
  simp only [PyData.canLay0, PyData.depth, (lay_dTus F).1, Bool.true_and]
  have := (lay_dTus F).2
  exact decide_eq_true (by omega)
theorem dp_tup {K : PySem.W.Frag} {H : Hp} {t : Addr} {T : List Nat} (h : H t = some (.tup (nVs T))) : Dp K H (.ref t) (dTu T) := .tup (SqT.of h) (dpAll_nVs T)
theorem dpAll_tups {K : PySem.W.Frag} {H : Hp} : ∀ {ts : List Addr} {F : List (List Nat)}, TupsAt H ts F → DpAll K H (ts.map V.ref) (F.map dTu)
  | _, _, .nil => .nil
  | _, _, .cons h t => .cons (dp_tup h) (dpAll_tups t)
theorem any_dTu (F : List (List Nat)) (T : List Nat) : ((F.map dTu).any fun z => PyData.eqv z (dTu T)) = decide (T ∈ F) := by
  rw [List.any_map]
  by_cases h : T ∈ F
  · rw [decide_eq_true h]
    exact List.any_eq_true.mpr ⟨T, h, by show PyData.eqv (dTu T) (dTu T) = true; rw [eqv_dTu]; exact decide_eq_true rfl⟩
  · rw [decide_eq_false h]
    refine Bool.eq_false_iff.mpr fun z => ?_
    obtain ⟨S, hS, e⟩ := List.any_eq_true.mp z
    have e' : PyData.eqv (dTu S) (dTu T) = true := e
    rw [eqv_dTu] at e'
    exact h (by rw [← of_decide_eq_true e']; exact hS)
/-- the law's own machine of paths -/
def spDetL : Sp := fun vs H Q _ => ∃ (b m e : Addr) (ms : List Addr) (mv : List Mv) (n : Nat) (S0 ends B : List Nat), vs = [nV n, .ref b, .ref m, .ref e] ∧ H b = some (.lst (nVs S0)) ∧ MvAt H m ms mv ∧ H e = some (.lst (nVs ends)) ∧
  n ≤ 4 ∧ mv.length ≤ 50 ∧ S0.length ≤ 50 ∧ ends.length ≤ 100 ∧ B.Pairwise (· < ·) ∧ B.length ≤ 5 ∧ (∀ x ∈ S0, x ∈ B) ∧ (∀ x ∈ mv, x.2.2 ∈ B) ∧
  ∀ (H' : Hp) (t p e' : Addr) (ys : List Addr) (R' : List (List Nat)) (E' : List Nat), Same H H' → H' t = some (.tup [.ref p, .ref e']) → RowsAt H' p ys R' → H' e' = some (.lst (nVs E')) →
    Mok n R' → 0 < R'.length → R'.length ≤ 32 → E'.length ≤ 32 → (∀ w, Wd n w → (runM R' 0 w ∈ E' ↔ Meets (w.foldl (nxS mv) (silF mv fun x => x ∈ S0)) ends)) → Q (.ref t) H'
end Rg
namespace K13
open PySem PySem.Spec PyProof.Rows L2 Rg Mach
abbrev sDl : Stmt := topS 17
def nDl : List Str := ["_law_wide", "_law_begins", "_law_moves", "_law_ends", "_law_found", "_law_rows", "_law_row", "_law_k", "_law_led", "_law_later", "_law_one", "_law_place", "_law_there", "_law_state"]
theorem scDl : FnScope nDl ["_law_wide", "_law_begins", "_law_moves", "_law_ends"] (defScope sDl) := ⟨rfl, rfl, rfl, by decide +kernel, rfl, by decide +kernel, by decide +kernel⟩
def scDlOut : Scope := match (defBody sDl).getD 2 (.Pass ⟨0, 0, 0, 0⟩) with
  | .Return (some (.Tuple [_, .ListComp _ _ sc _] _ _)) _ => sc
  | _ => defScope sDl
section
variable {P : Program} {w : World} {K : PySem.W.Frag} {mg : Str → Option Value} {base : Heap}
theorem ok_dl {f fS : Addr} {fd fdS : FuncData} {k : Nat} (F : Fun K "_law_determined" "_law_determined" sDl f fd)
    (FS : Fun K "_law_silent" "_law_silent" sSl fS fdS) (bS : Binds K fdS ["_law_states", "_law_moves"] []) (gS : mg "_law_silent" = some (.ref fS))
    (ml : mg "len" = none) (mt : mg "tuple" = none) (ms' : mg "set" = none) (mso : mg "sorted" = none) (mr : mg "range" = none) :
    FnOk P w K mg base CX0 (k + 2) f fd ["_law_wide", "_law_begins", "_law_moves", "_law_ends"] spDetL := by
  have GS : FnOk P w K mg base CX0 (k + 1) fS fdS ["_law_states", "_law_moves"] spSilL := ok_sl FS ml mt ms' mso
  refine F.ok scDl (fun vs H Q E h => ?_) (fun cdv A outer s H vs Q E hr h => ?_)
  · obtain ⟨b, m, e, ms, mv, n, S0, ends, B, rfl, _⟩ := h
    rfl
  · obtain ⟨b, m, e, ms, mv, n, S0, ends, B, rfl, hb, hm, he, hn, hml, hSl, hel, hBp, hBl, hSB, hmB, q⟩ := h
    have hu := hu_of hr
    have hu65 : (A.deeper (envOfC "_law_determined" (defScope sDl) s.heap.objs.size f cdv)).units + 65 < cLine := by
      have := hr.un
      omega
    refine ⟨_, pss_cons (ps_asg (pe_tup (pa_cons (pe_lst (pa_cons (pe_call GS hr (by rfl) gS FS.kp bS .nil pass0 (pa_cons (pv 1) (pa_cons (pv 2) pa_nil))) pa_nil)) (pa_cons (pe_lst pa_nil) pa_nil))) (pg_tup rfl (pgs_cons (pg_name (i := 4) scDl.nd rfl (.inr rfl)) (pgs_cons (pg_name (i := 5) scDl.nd rfl (.inr rfl)) pgs_nil))))
      (pss_cons (ps_while PassesOwn.never (pt_cmpR op_lt (pe_callB call_len_seq (by rfl) ml bLen (pa_cons (pv 5) pa_nil)) (pe_callB call_len_seq (by rfl) ml bLen (pa_cons (pv 4) pa_nil)) (nomark _))
        (pss_cons (ps_set (i := 6) scDl.nd rfl (.inl rfl) (pe_lst pa_nil))
        (pss_cons (ps_for PassesOwn.never rfl (pi_range1 (by rfl) mr (pa_cons (pv 0) pa_nil)) (pg_name (i := 7) scDl.nd rfl (.inr rfl))
          (pss_cons (ps_setLc (i := 8) (own := [("_law_one", 10), ("_law_place", 11), ("_law_there", 12)]) (g := gTup K 3 (gCons (gName 10) (gCons (gName 11) (gCons (gName 12) gNil))))
              (tt := tAnd (tTest (tOp rEq (tVar 11) (tVar 7))) (tTest (tOp (rIn K false) (tVar 10) (tOp (rIxL K) (tVar 4) (tCB (fun xs H Q => ∃ p ys, xs = [V.ref p] ∧ (SqL K H p ys ∨ SqT K H p ys) ∧ Q (V.int (ys.length : Nat)) H) (tCons (tVar 5) tNil)))))) (te := tVar 12) rfl scDl.nd rfl rfl (sw_true rfl rfl rfl (by decide +kernel))
              (pi_list (pv 2)) (blkOk_by (own := [("_law_one", 10), ("_law_place", 11), ("_law_there", 12)]) (N := nDl) (sc := defScope sDl) (by decide +kernel))
              (fun _ _ _ _ _ => pg_tup rfl (pgs_cons (pg_name (i := 10) scDl.nd rfl (Or.inl rfl)) (pgs_cons (pg_name (i := 11) scDl.nd rfl (Or.inl rfl)) (pgs_cons (pg_name (i := 12) scDl.nd rfl (Or.inl rfl)) pgs_nil))))
              (fun _ _ _ _ _ => pts_one (pw_and (pt_cmpR op_eq (pv 11) (pv 7) (nomark _)) (pw_and1 (pt_cmpR op_in_seq (pv 10) (pe_ix ix_list (pv 4) (pe_callB call_len_seq (by rfl) ml bLen (pa_cons (pv 5) pa_nil)) (fun _ _ => rfl)) rfl))).pt) (fun _ _ _ _ _ => pv 12))
          (pss_cons (ps_set (i := 9) scDl.nd rfl (.inl rfl) (pe_call GS hr (by rfl) gS FS.kp bS .nil pass0 (pa_cons (pv 8) (pa_cons (pv 2) pa_nil))))
          (pss_cons (ps_if (pt_cmpR (op_notInD hu65) (pv 9) (pv 4) rfl) (pss_one (ps_expr (pe_bm PySem.F.plainAttrs_list PySem.F.slot_list_append PySem.F.type_list_append mt_append (pv 4) (pa_cons (pv 9) pa_nil)))) pss_nil)
          (pss_one (ps_expr (pe_bm PySem.F.plainAttrs_list PySem.F.slot_list_append PySem.F.type_list_append mt_append (pv 6) (pa_cons (pe_bm PySem.F.plainAttrs_list PySem.F.slot_list_index PySem.F.type_list_index (mt_indexD hu65) (pv 4) (pa_cons (pv 9) pa_nil)) pa_nil))))))))
        (pss_one (ps_expr (pe_bm PySem.F.plainAttrs_list PySem.F.slot_list_append PySem.F.type_list_append mt_append (pv 5) (pa_cons (pv 6) pa_nil)))))))
      (pss_one (ps_ret (pe_tup (pa_cons (pv 5) (pa_cons (pe_lc (own := [("_law_k", 7)]) (g := gName 7)
          (tt := tTest (tOp (rNeD K) (tLc (iTup K (tOp (rIxL K) (tVar 4) (tVar 7))) (gName 13) (tTest (tOp (rIn K false) (tVar 13) (tVar 3))) (tVar 13) [13]) (tLst tNil))) (te := tVar 7) rfl scDl.nd (pi_range1 (by rfl) mr (pa_cons (pe_callB call_len_seq (by rfl) ml bLen (pa_cons (pv 4) pa_nil)) pa_nil)) (blkOk_by (own := [("_law_k", 7)]) (N := nDl) (sc := defScope sDl) (by decide +kernel))
          (fun _ _ _ _ _ => pg_name (i := 7) scDl.nd rfl (Or.inl rfl))
          (fun _ _ _ _ _ => pts_one (pt_cmpR (op_neD hr.units) (pe_lc (own := [("_law_state", 13)]) (g := gName 13) (tt := tTest (tOp (rIn K false) (tVar 13) (tVar 3))) rfl scDl.nd (pi_tup (pe_ix ix_list (pv 4) (pv 7) (fun _ _ => rfl))) (blkOk_by (own := [("_law_state", 13)]) (N := nDl) (sc := relS scDlOut (defScope sDl)) (by decide +kernel))
            (fun _ _ _ _ _ => pg_name (i := 13) scDl.nd rfl (Or.inl rfl)) (fun _ _ _ _ _ => pts_one (pt_cmpR op_in_seq (pv 13) (pv 3) rfl)) (fun _ _ _ _ _ => pv 13)) (pe_lst pa_nil) (nomark _)))
          (fun _ _ _ _ _ => pv 7)) pa_nil)))))), ?_⟩
    -- found, rows = [silent(..)], []
    refine ⟨_, rfl, _, rfl, b, m, ms, S0, mv, rfl, hb, hm, by omega, by omega, fun H4 t0 T0 s4 nt0 ht0 hT0 => ?_⟩
    have hT0s : T0 ∈ subs B := sil_subs hBp hSB hmB hT0
    have eT0 : T0 = silF mv fun x => x ∈ S0 := hT0.eq
    refine ⟨by show 1 ≤ sizeLine; decide, fun pf npf => ?_⟩
    refine ⟨by show 0 ≤ sizeLine; decide, fun pw npw => ?_⟩
    refine ⟨by show 2 ≤ sizeLine; decide, fun tq ntq => ?_⟩
    refine ⟨tq, _, rfl, SqT.of upd_same, rfl, _, _, rfl, _, _, rfl, rfl, ?_⟩
    have s5 : Same H4 (upd (upd (upd H4 pf (.lst [.ref t0])) pw (.lst [])) tq (.tup [.ref pf, .ref pw])) := ((same_new npf).trans (same_new npw)).trans (same_new ntq)
    have hf5 : (upd (upd (upd H4 pf (.lst [.ref t0])) pw (.lst [])) tq (.tup [.ref pf, .ref pw])) pf = some (.lst ([t0].map V.ref)) := same_new ntq _ _ (same_new npw _ _ upd_same)
    have hw5 : (upd (upd (upd H4 pf (.lst [.ref t0])) pw (.lst [])) tq (.tup [.ref pf, .ref pw])) pw = some (.lst []) := same_new ntq _ _ upd_same
    have nfw : pf ≠ pw := ne_of_none (upd_same (H := H4) (a := pf) (o := .lst [.ref t0])) npw
    have npw4 : H4 pw = none := (same_new npf).free npw
    generalize (upd (upd (upd H4 pf (.lst [.ref t0])) pw (.lst [])) tq (.tup [.ref pf, .ref pw])) = H5 at s5 hf5 hw5
    have npf0 : H pf = none := s4.free npf
    have npw0 : H pw = none := s4.free npw4
    have hW0 : SetM mv n B T0 [T0] [] := ⟨by simp, fun T hT => by rw [List.mem_singleton] at hT; rw [hT]; exact hT0s, rfl, by simp, fun i hi => absurd hi (Nat.not_lt_zero _), fun i T hi => absurd hi (Nat.not_lt_zero _)⟩
    refine ⟨fun k' σ H8 => ∃ (F R : List (List Nat)) (ts xs : List Addr) (y6 y7 y8 y9 : Option V), k' = 32 - R.length ∧ σ = [some (nV n), some (.ref b), some (.ref m), some (.ref e), some (.ref pf), some (.ref pw), y6, y7, y8, y9, none, none, none, none] ∧ Same H H8 ∧ H8 pf = some (.lst (ts.map V.ref)) ∧ TupsAt H8 ts F ∧ RowsAt H8 pw xs R ∧ (∀ x ∈ xs, x ≠ pf ∧ x ≠ pw) ∧ SetM mv n B T0 F R,
      ⟨_, [T0], [], [t0], [], none, none, none, none, rfl, rfl, s4.trans s5, hf5, .cons (s5 _ _ ht0) .nil, ⟨hw5, rfl, fun i x hx => by simp at hx⟩, (fun x hx => nomatch hx), hW0⟩, ?_⟩
    clear hW0 hw5 hf5 s5 npf npw ntq ht0 nt0 s4 npw4
    rintro k' σ H8 ⟨F, R, ts, xs, y6, y7, y8, y9, rfl, rfl, s8, hf8, hts8, hw8, hxn, hW⟩
    have hFl : F.length ≤ 32 := by
      have h1 := hW.le
      have h2 : 2 ^ B.length ≤ 2 ^ 5 := Nat.pow_le_pow_right (by decide) hBl
      omega
    have hRl := hW.len
    have htl := hts8.len
    have hxl := hw8.len
    refine ⟨_, rfl, pw, _, rfl, .inl (SqL.of hw8.at_), _, rfl, pf, _, rfl, .inl (SqL.of hf8), _, _, rfl, rfl, _, rfl, ite2 (fun ei => ?_) (fun ei => ?_)⟩
    · have hlt : R.length < F.length := by
        have := of_decide_eq_true ei
        rw [List.length_map, List.length_map] at this
        omega
      clear ei
      have hT : F[R.length]? = some F[R.length] := List.getElem?_eq_getElem hlt
      generalize F[R.length] = T at hT
      have hTm : T ∈ F := List.mem_of_getElem? hT
      refine ⟨fun σ' H' => ∃ (F' R' : List (List Nat)) (ts' xs' : List Addr) (y6 y7 y8 y9 : Option V), R'.length = R.length + 1 ∧ σ' = [some (nV n), some (.ref b), some (.ref m), some (.ref e), some (.ref pf), some (.ref pw), y6, y7, y8, y9, none, none, none, none] ∧ Same H H' ∧ H' pf = some (.lst (ts'.map V.ref)) ∧ TupsAt H' ts' F' ∧ RowsAt H' pw xs' R' ∧ (∀ x ∈ xs', x ≠ pf ∧ x ≠ pw) ∧ SetM mv n B T0 F' R', ?_, ?_⟩
      · rintro σ' H' ⟨F', R', ts', xs', z6, z7, z8, z9, hl', rfl, s', hf', hts', hw', hxn', hW'⟩
        exact ⟨32 - R'.length, by omega, F', R', ts', xs', z6, z7, z8, z9, rfl, rfl, s', hf', hts', hw', hxn', hW'⟩
      · -- row = []
        refine ⟨by show 0 ≤ sizeLine; decide, fun pv npv => ?_⟩
        have s9 : Same H8 (upd H8 pv (.lst [])) := same_new npv
        have hv9 : (upd H8 pv (.lst [])) pv = some (.lst (nVs [])) := upd_same
        generalize (upd H8 pv (.lst [])) = H9 at s9 hv9
        have nvf : pv ≠ pf := (ne_of_none hf8 npv).symm
        have nvw : pv ≠ pw := (ne_of_none hw8.at_ npv).symm
        have nv0 : H pv = none := s8.free npv
        have nvx : ∀ x ∈ xs, x ≠ pv := fun x hx => by
          obtain ⟨i, hi, e'⟩ := List.mem_iff_getElem.mp hx
          have h1 := hw8.row i x (by rw [List.getElem?_eq_getElem hi, e'])
          exact ne_of_none h1 npv
        refine ⟨_, rfl, (n : Int), rfl, by omega, by omega, ?_⟩
        refine for_range (n := (n : Int).toNat) (fun i σ H10 => ∃ (F1 : List (List Nat)) (row : List Nat) (ts' : List Addr) (y7 y8 y9 : Option V), σ = [some (nV n), some (.ref b), some (.ref m), some (.ref e), some (.ref pf), some (.ref pw), some (.ref pv), y7, y8, y9, none, none, none, none] ∧ Same H H10 ∧ H10 pf = some (.lst (ts'.map V.ref)) ∧ TupsAt H10 ts' F1 ∧ RowsAt H10 pw xs R ∧ H10 pv = some (.lst (nVs row)) ∧
            (∃ Z, F1 = F ++ Z) ∧ F1.Nodup ∧ (∀ S ∈ F1, S ∈ subs B) ∧ row.length = i ∧ ∀ c, c < i → F1[row.getD c 0]? = some (nxS mv T c))
          ⟨F, [], ts, y7, y8, y9, rfl, s8.trans s9, s9 _ _ hf8, hts8.same s9, hw8.same s9, hv9, ⟨[], by simp⟩, hW.nd, hW.sub, rfl, fun c hc => absurd hc (Nat.not_lt_zero c)⟩ ?_ ?_
        · rintro i σ H10 hi ⟨F1, row, ts', z7, z8, z9, rfl, s10, hf10, hts10, hw10, hv10, hpre, hnd, hsub, hrl, hrow⟩
          have hi' : i < n := by omega
          have hT1 : F1[R.length]? = some T := by
            obtain ⟨Z, rfl⟩ := hpre
            rw [List.getElem?_append_left hlt]
            exact hT
          obtain ⟨tT, htT, hTt⟩ := hts10.get hT1
          have hF1l : F1.length ≤ 32 := by
            have h1 := length_le_of_sub hnd hsub
            rw [subs_len] at h1
            have h2 : 2 ^ B.length ≤ 2 ^ 5 := Nat.pow_le_pow_right (by decide) hBl
            omega
          have htl1 := hts10.len
          -- led
          refine ⟨_, rfl, m, rfl, ⟨_, SqL.of (s10 _ _ hm.1)⟩, fun D1 nD1 => ?_⟩
          refine lc_list (K := K) (a := m) (xs := ms.map V.ref) (fun j H11 => Same H10 H11 ∧ H11 D1 = some (.lst (nVs (((mv.take j).filter fun x => decide (x.2.1 = (i : Int) ∧ x.1 ∈ T)).map fun x => x.2.2)))) ⟨same_new nD1, by rw [upd_same]; rfl⟩ (fun j H11 _ ⟨s11, _⟩ => SqL.of (s11 _ _ (s10 _ _ hm.1))) ?_ ?_
          · rintro j v H11 hj ⟨s11, hD1⟩
            rw [List.getElem?_map] at hj
            obtain ⟨t, ht, rfl⟩ := Option.map_eq_some_iff.mp hj
            obtain ⟨x, hx, htx⟩ := Rg.paired_get hm.2 ht
            have hjl := (List.getElem?_eq_some_iff.mp hx).1
            have hfl := List.length_filter_le (fun x : Mv => decide (x.2.1 = (i : Int) ∧ x.1 ∈ T)) (mv.take j)
            rw [List.length_take] at hfl
            refine ⟨t, _, rfl, SqT.of (s11 _ _ (s10 _ _ htx)), rfl, _, _, rfl, _, _, rfl, _, _, rfl, rfl, rfl, ?_⟩
            rw [take_snoc hx, filter_snoc, List.map_append]
            refine ⟨_, rfl, _, rfl, rfl, _, rfl, ?_⟩
            by_cases h1 : x.2.1 = (i : Int)
            · have e1 : decide (V.int x.2.1 = V.int (0 + (i : Int))) = true := decide_eq_true (by rw [h1, Int.zero_add])
              rw [e1]
              refine ⟨_, rfl, _, rfl, _, rfl, pw, _, rfl, .inl (SqL.of (s11 _ _ hw10.at_)), pf, _, _, _, rfl, rfl, SqL.of (s11 _ _ hf10), atI_nat (by rw [List.length_map, hxl, List.getElem?_map, htT]; rfl), tT, _, rfl, .inr (SqT.of (s11 _ _ hTt)), rfl, flat_nVs _, _, rfl, ?_⟩
              rw [if_neg Bool.false_ne_true, inV_nVs]
              by_cases h2 : x.1 ∈ T
              · rw [decide_eq_true h2, decide_eq_true ⟨h1, h2⟩]
                refine ⟨_, rfl, _, hD1, by rw [nVs_len, List.length_map]; exact szBig (by omega), ?_, ?_⟩
                · intro c o ec
                  rw [upd_ne (ne_of_none ec nD1)]
                  exact s11 _ _ ec
                · rw [upd_same, if_pos rfl]
                  exact congrArg (fun z => some (HO.lst z)) (nVs_snoc _ _).symm
              · rw [decide_eq_false h2, decide_eq_false (fun z => h2 z.2)]
                refine ⟨s11, ?_⟩
                rw [if_neg Bool.false_ne_true, List.map_nil, List.append_nil]
                exact hD1
            · have e1 : decide (V.int x.2.1 = V.int (0 + (i : Int))) = false := decide_eq_false (fun z => h1 (by rw [Int.zero_add] at z; exact V.int.inj z))
              rw [e1, decide_eq_false (fun z => h1 z.1)]
              refine ⟨s11, ?_⟩
              rw [if_neg Bool.false_ne_true, List.map_nil, List.append_nil]
              exact hD1
          rintro H11 ⟨s11, hD1⟩
          rw [List.length_map, paired_length hm.2, List.take_length] at hD1
          have hXl := List.length_filter_le (fun x : Mv => decide (x.2.1 = (i : Int) ∧ x.1 ∈ T)) mv
          have hXm : ∀ z, z ∈ ((mv.filter fun x => decide (x.2.1 = (i : Int) ∧ x.1 ∈ T)).map fun x => x.2.2) ↔ Led mv T i z := fun z => by
            rw [List.mem_map]
            constructor
            · rintro ⟨x, hx, rfl⟩
              obtain ⟨h1, h2⟩ := List.mem_filter.mp hx
              obtain ⟨h3, h4⟩ := of_decide_eq_true h2
              exact ⟨x.1, h4, by rw [← h3]; exact h1⟩
            · rintro ⟨y, hy, hz⟩
              exact ⟨_, List.mem_filter.mpr ⟨hz, decide_eq_true ⟨rfl, hy⟩⟩, rfl⟩
          -- later
          refine ⟨_, rfl, _, rfl, D1, m, ms, _, mv, rfl, hD1, (hm.same s10).same s11, by rw [List.length_map]; omega, by omega, fun H12 t U s12 nt ht hU => ?_⟩
          have eU : U = nxS mv T i := hU.eq' hXm
          have hUs : U ∈ subs B := sil_subs hBp (fun x hx => by
            obtain ⟨y, _, hy⟩ := (hXm x).mp hx
            exact hmB _ hy) hmB hU
          have s1012 := s11.trans s12
          have hf12 := s1012 _ _ hf10
          have hts12 := hts10.same s1012
          have hw12 := hw10.same s1012
          have hv12 := s1012 _ _ hv10
          have s012 := s10.trans s1012
          clear hD1 hXm hXl
          have fin : ∀ (F2 : List (List Nat)) (ts2 : List Addr) (H13 : Hp), Same H H13 → H13 pf = some (.lst (ts2.map V.ref)) → TupsAt H13 ts2 F2 → RowsAt H13 pw xs R → H13 pv = some (.lst (nVs row)) → H13 t = some (.tup (nVs U)) → (∃ Z, F2 = F1 ++ Z) → F2.Nodup → (∀ S ∈ F2, S ∈ subs B) → U ∈ F2 →
              (∃ Z, F2 = F ++ Z) ∧ F2.Nodup ∧ (∀ S ∈ F2, S ∈ subs B) ∧ (row ++ [F2.idxOf U]).length = i + 1 ∧ ∀ c, c < i + 1 → F2[(row ++ [F2.idxOf U]).getD c 0]? = some (nxS mv T c) := by
            intro F2 ts2 H13 _ _ _ _ _ _ hpre2 hnd2 hsub2 hUF
            obtain ⟨Z1, rfl⟩ := hpre
            obtain ⟨Z2, rfl⟩ := hpre2
            refine ⟨⟨Z1 ++ Z2, by rw [List.append_assoc]⟩, hnd2, hsub2, by rw [List.length_append, List.length_singleton, hrl], fun c hc => ?_⟩
            by_cases ec : c < i
            · have h1 := hrow c ec
              have e2 : (row ++ [List.idxOf U (F ++ Z1 ++ Z2)]).getD c 0 = row.getD c 0 := by
                rw [List.getD_eq_getElem?_getD, List.getD_eq_getElem?_getD, List.getElem?_append_left (by omega)]
              rw [e2, List.getElem?_append_left (List.getElem?_eq_some_iff.mp h1).1]
              exact h1
            · have e3 : c = row.length := by omega
              have e2 : (row ++ [List.idxOf U (F ++ Z1 ++ Z2)]).getD c 0 = List.idxOf U (F ++ Z1 ++ Z2) := by
                rw [e3, List.getD_eq_getElem?_getD, List.getElem?_concat_length]
                rfl
              have e4 : c = i := by omega
              rw [e2, List.getElem?_eq_getElem (List.idxOf_lt_length_iff.mpr hUF), List.getElem_idxOf, e4, eU]
          refine ⟨_, rfl, _, rfl, dTu U, F1.map dTu, dp_tup ht, .lst (SqL.of hf12) (dpAll_tups hts12), shp_dTu U, shp_dTus F1, _, rfl, ?_⟩
          rw [any_dTu]
          by_cases hin : U ∈ F1
          · rw [decide_eq_true hin]
            obtain ⟨g1, g2, g3, g4, g5⟩ := fin F1 ts' H12 s012 hf12 hts12 hw12 hv12 ht ⟨[], by simp⟩ hnd hsub hin
            have hidx := List.idxOf_lt_length_iff.mpr hin
            have hno : ∀ (m' : Nat) (z' : PyData), m' < F1.idxOf U → (F1.map dTu)[m']? = some z' → PyData.eqv z' (dTu U) = false := fun m' z' hm' hz' => by
              rw [List.getElem?_map, List.getElem?_eq_getElem (by omega)] at hz'
              cases hz'
              rw [eqv_dTu]
              refine decide_eq_false fun z => ?_
              have h1 := idxOf_nodup hnd (show m' < F1.length by omega)
              rw [z] at h1
              omega
            refine ⟨_, rfl, .inl ⟨rfl, _, SqL.of hv12⟩, _, rfl, .inl ⟨rfl, _, SqL.of hf12⟩, _, rfl, pf, .ref t, dTu U, F1.map dTu, F1.idxOf U, dTu U, rfl, rfl, .lst (SqL.of hf12) (dpAll_tups hts12), dp_tup ht, shp_dTus _, shp_dTu U, by rw [List.getElem?_map, List.getElem?_eq_getElem hidx, List.getElem_idxOf]; rfl, by rw [eqv_dTu]; exact decide_eq_true rfl, hno, pv, _, _, rfl, rfl, hv12, by rw [nVs_len]; exact szBig (by omega), ?_⟩
            refine ⟨F1, row ++ [F1.idxOf U], ts', _, _, _, rfl, ?_, ?_, ?_, ?_, ?_, g1, g2, g3, g4, g5⟩
            · intro c o ec
              rw [upd_ne (ne_of_none ec nv0)]
              exact s012 _ _ ec
            · rw [upd_ne nvf.symm]
              exact hf12
            · exact TupsAt.upd_lst hts12 (fun xs z => by rw [hv12] at z; cases z)
            · exact ⟨by rw [upd_ne nvw.symm]; exact hw12.at_, hw12.len, fun i x hx => by rw [upd_ne (nvx x (List.mem_of_getElem? hx))]; exact hw12.row i x hx⟩
            · rw [upd_same, nVs_snoc]
              rfl
          · rw [decide_eq_false hin]
            have hf13 : (upd H12 pf (.lst (ts'.map V.ref ++ [.ref t]))) pf = some (.lst ((ts' ++ [t]).map V.ref)) := by
              rw [upd_same, List.map_append]
              rfl
            have hts13 : TupsAt (upd H12 pf (.lst (ts'.map V.ref ++ [.ref t]))) (ts' ++ [t]) (F1 ++ [U]) := TupsAt.upd_lst (paired_snoc hts12 ht) (fun xs z => by rw [hf12] at z; cases z)
            have hw13 : RowsAt (upd H12 pf (.lst (ts'.map V.ref ++ [.ref t]))) pw xs R := ⟨by rw [upd_ne nfw.symm]; exact hw12.at_, hw12.len, fun i x hx => by rw [upd_ne (hxn x (List.mem_of_getElem? hx)).1]; exact hw12.row i x hx⟩
            have hv13 : (upd H12 pf (.lst (ts'.map V.ref ++ [.ref t]))) pv = some (.lst (nVs row)) := by
              rw [upd_ne nvf]
              exact hv12
            have ht13 : (upd H12 pf (.lst (ts'.map V.ref ++ [.ref t]))) t = some (.tup (nVs U)) := by
              rw [upd_ne (ne_of ht hf12 (fun z => by cases z))]
              exact ht
            have s013 : Same H (upd H12 pf (.lst (ts'.map V.ref ++ [.ref t]))) := fun c o ec => by
              rw [upd_ne (ne_of_none ec npf0)]
              exact s012 _ _ ec
            refine ⟨_, rfl, .inl ⟨rfl, _, SqL.of hf12⟩, _, rfl, pf, _, _, rfl, rfl, hf12, by rw [List.length_map]; exact szBig (by omega), ?_⟩
            generalize (upd H12 pf (.lst (ts'.map V.ref ++ [.ref t]))) = H13 at hf13 hts13 hw13 hv13 ht13 s013
            have hnd2 : (F1 ++ [U]).Nodup := by
              have := push_nodup (s := U) hnd
              rwa [push_new hin] at this
            have hsub2 : ∀ S ∈ F1 ++ [U], S ∈ subs B := fun S hS => by
              rcases List.mem_append.mp hS with z | z
              · exact hsub S z
              · rw [List.mem_singleton] at z
                rw [z]
                exact hUs
            have hUF : U ∈ F1 ++ [U] := List.mem_append_right _ (List.mem_singleton.mpr rfl)
            obtain ⟨g1, g2, g3, g4, g5⟩ := fin (F1 ++ [U]) (ts' ++ [t]) H13 s013 hf13 hts13 hw13 hv13 ht13 ⟨[U], rfl⟩ hnd2 hsub2 hUF
            have hidx := List.idxOf_lt_length_iff.mpr hUF
            have hno : ∀ (m' : Nat) (z' : PyData), m' < (F1 ++ [U]).idxOf U → ((F1 ++ [U]).map dTu)[m']? = some z' → PyData.eqv z' (dTu U) = false := fun m' z' hm' hz' => by
              rw [List.getElem?_map, List.getElem?_eq_getElem (by omega)] at hz'
              cases hz'
              rw [eqv_dTu]
              refine decide_eq_false fun z => ?_
              have h1 := idxOf_nodup hnd2 (show m' < (F1 ++ [U]).length by omega)
              rw [z] at h1
              omega
            refine ⟨_, rfl, .inl ⟨rfl, _, SqL.of hv13⟩, _, rfl, .inl ⟨rfl, _, SqL.of hf13⟩, _, rfl, pf, .ref t, dTu U, (F1 ++ [U]).map dTu, (F1 ++ [U]).idxOf U, dTu U, rfl, rfl, .lst (SqL.of hf13) (dpAll_tups hts13), dp_tup ht13, shp_dTus _, shp_dTu U, by rw [List.getElem?_map, List.getElem?_eq_getElem hidx, List.getElem_idxOf]; rfl, by rw [eqv_dTu]; exact decide_eq_true rfl, hno, pv, _, _, rfl, rfl, hv13, by rw [nVs_len]; exact szBig (by omega), ?_⟩
            refine ⟨(F1 ++ [U]), row ++ [(F1 ++ [U]).idxOf U], (ts' ++ [t]), _, _, _, rfl, ?_, ?_, ?_, ?_, ?_, g1, g2, g3, g4, g5⟩
            · intro c o ec
              rw [upd_ne (ne_of_none ec nv0)]
              exact s013 _ _ ec
            · rw [upd_ne nvf.symm]
              exact hf13
            · exact TupsAt.upd_lst hts13 (fun xs z => by rw [hv13] at z; cases z)
            · exact ⟨by rw [upd_ne nvw.symm]; exact hw13.at_, hw13.len, fun i x hx => by rw [upd_ne (nvx x (List.mem_of_getElem? hx))]; exact hw13.row i x hx⟩
            · rw [upd_same, nVs_snoc]
              rfl
        · rintro σ H10 ⟨F1, row, ts', z7, z8, z9, rfl, s10, hf10, hts10, hw10, hv10, hpre, hnd, hsub, hrl, hrow⟩
          rw [Int.toNat_natCast] at hrl hrow
          refine ⟨_, rfl, .inl ⟨rfl, _, SqL.of hw10.at_⟩, _, rfl, pw, _, _, rfl, rfl, hw10.at_, by rw [List.length_map]; exact szBig (by omega), ?_⟩
          refine ⟨F1, R ++ [row], ts', xs ++ [pv], _, _, _, _, by rw [List.length_append, List.length_singleton], rfl, ?_, ?_, ?_, ?_, ?_, hW.step hT hpre hnd hsub hrl hrow⟩
          · intro c o ec
            rw [upd_ne (ne_of_none ec npw0)]
            exact s10 _ _ ec
          · rw [upd_ne nfw]
            exact hf10
          · exact TupsAt.upd_lst hts10 (fun xs z => by rw [hw10.at_] at z; cases z)
          · refine RowsAt.snoc hw10 upd_same (by rw [upd_ne nvw]; exact hv10) (fun x hx o ex => ?_)
            rw [upd_ne (hxn x hx).2]
            exact ex
          · intro x hx
            rcases List.mem_append.mp hx with z | z
            · exact hxn x z
            · rw [List.mem_singleton] at z
              rw [z]
              exact ⟨nvf, nvw⟩
    · have hle : F.length ≤ R.length := by
        have := of_decide_eq_false (Bool.eq_false_iff.mpr ei)
        rw [List.length_map, List.length_map] at this
        omega
      clear ei
      have he8 := s8 _ _ he
      -- return
      refine ⟨_, rfl, _, rfl, pf, _, rfl, .inl (SqL.of hf8), _, rfl, ?_, ?_, fun D3 nD3 => ?_⟩
      · rw [List.length_map]
        omega
      · rw [List.length_map]
        omega
      refine lc_range (n := ((ts.map V.ref).length : Int).toNat) (fun i H10 => Same H8 H10 ∧ H10 D3 = some (.lst (nVs ((List.range i).filter fun j => (F.getD j []).any fun s => decide (s ∈ ends))))) ⟨same_new nD3, by rw [upd_same]; rfl⟩ ?_ ?_
      · rintro i H10 hi ⟨s10, hD3⟩
        have hil : i < F.length := by
          rw [List.length_map] at hi
          omega
        have hT : F[i]? = some F[i] := List.getElem?_eq_getElem hil
        generalize F[i] = T at hT
        obtain ⟨t, ht, hTt⟩ := hts8.get hT
        have hTl : T.length ≤ 10 := by
          have := subs_short (hW.sub T (List.mem_of_getElem? hT))
          omega
        refine ⟨rfl, ?_⟩
        refine ⟨_, rfl, _, rfl, pf, _, _, _, rfl, rfl, SqL.of (s10 _ _ hf8), atI_zero_add (by rw [List.getElem?_map, ht]; rfl), t, rfl, ⟨_, SqT.of (s10 _ _ hTt)⟩, fun D4 nD4 => ?_⟩
        refine lc_tup (K := K) (a := t) (xs := nVs T) (fun l H11 => Same H10 H11 ∧ H11 D4 = some (.lst (nVs ((T.take l).filter fun s => decide (s ∈ ends))))) ⟨same_new nD4, by rw [upd_same]; rfl⟩ (fun l H11 _ ⟨s11, _⟩ => SqT.of (s11 _ _ (s10 _ _ hTt))) ?_ ?_
        · rintro l v H11 hl ⟨s11, hD4⟩
          obtain ⟨x, rfl, hx⟩ := nVs_at hl
          have hll := (List.getElem?_eq_some_iff.mp hx).1
          refine ⟨rfl, ?_⟩
          refine ⟨_, rfl, _, rfl, e, _, rfl, .inl (SqL.of (s11 _ _ (s10 _ _ he8))), rfl, flat_nVs _, _, rfl, ?_⟩
          rw [if_neg Bool.false_ne_true, inV_nVs, take_snoc hx, filter_snoc]
          have hfl := List.length_filter_le (fun s => decide (s ∈ ends)) (T.take l)
          rw [List.length_take] at hfl
          by_cases h2 : x ∈ ends
          · rw [decide_eq_true h2]
            refine ⟨_, rfl, _, hD4, by rw [nVs_len]; exact szBig (by omega), ?_, ?_⟩
            · intro c o ec
              rw [upd_ne (ne_of_none ec nD4)]
              exact s11 _ _ ec
            · rw [upd_same, if_pos rfl, nVs_snoc]
          · rw [decide_eq_false h2]
            refine ⟨s11, ?_⟩
            rw [if_neg Bool.false_ne_true, List.append_nil]
            exact hD4
        rintro H11 ⟨s11, hD4⟩
        rw [nVs_len, List.take_length] at hD4
        refine ⟨by show 0 ≤ sizeLine; decide, fun e0 ne0 => ?_⟩
        have s12 : Same H11 (upd H11 e0 (.lst [])) := same_new ne0
        have he12 : (upd H11 e0 (.lst [])) e0 = some (.lst []) := upd_same
        generalize (upd H11 e0 (.lst [])) = H12 at s12 he12
        refine ⟨dNs (T.filter fun s => decide (s ∈ ends)), .list [], dp_nVs (s12 _ _ hD4), .lst (SqL.of he12) .nil, shp_dNs _, shp_nil, _, rfl, ?_⟩
        have eA : (!PyData.eqv (dNs (T.filter fun s => decide (s ∈ ends))) (.list [])) = (F.getD i []).any fun s => decide (s ∈ ends) := by
          rw [eqv_dNs_nil, List.getD_eq_getElem?_getD, hT]
          show (!decide (T.filter (fun s => decide (s ∈ ends)) = [])) = T.any fun s => decide (s ∈ ends)
          cases hA : T.any fun s => decide (s ∈ ends) with
          | true =>
            obtain ⟨x, hx, h3⟩ := List.any_eq_true.mp hA
            rw [decide_eq_false]
            · rfl
            · intro z
              have := List.mem_filter (p := fun s => decide (s ∈ ends)).mpr ⟨hx, h3⟩
              rw [z] at this
              cases this
          | false =>
            rw [decide_eq_true]
            · rfl
            · refine List.filter_eq_nil_iff.mpr fun x hx h3 => ?_
              have := List.any_eq_true (p := fun s => decide (s ∈ ends)).mpr ⟨x, hx, h3⟩
              rw [hA] at this
              cases this
        rw [eA, List.range_succ, filter_snoc]
        have hfl := List.length_filter_le (fun j => (F.getD j []).any fun s => decide (s ∈ ends)) (List.range i)
        rw [List.length_range] at hfl
        have s1012 := s11.trans s12
        cases hA : (F.getD i []).any fun s => decide (s ∈ ends) with
        | true =>
          refine ⟨_, rfl, _, s1012 _ _ hD3, by rw [nVs_len]; exact szBig (by omega), ?_, ?_⟩
          · intro c o ec
            rw [upd_ne (ne_of_none ec nD3)]
            exact s1012 _ _ (s10 _ _ ec)
          · rw [upd_same, if_pos rfl, nVs_snoc, Int.zero_add]
            rfl
        | false =>
          refine ⟨s10.trans s1012, ?_⟩
          rw [if_neg Bool.false_ne_true, List.append_nil]
          exact s1012 _ _ hD3
      rintro H10 ⟨s10, hD3⟩
      rw [List.length_map, Int.toNat_natCast, htl] at hD3
      have hEm : ∀ j T, F[j]? = some T → (j ∈ ((List.range F.length).filter fun j => (F.getD j []).any fun s => decide (s ∈ ends)) ↔ Meets T ends) := fun j T hT => by
        rw [List.mem_filter, List.mem_range, List.getD_eq_getElem?_getD, hT]
        constructor
        · rintro ⟨_, h2⟩
          obtain ⟨x, hx, h3⟩ := List.any_eq_true.mp h2
          exact ⟨x, hx, of_decide_eq_true h3⟩
        · rintro ⟨x, hx, h3⟩
          exact ⟨(List.getElem?_eq_some_iff.mp hT).1, List.any_eq_true.mpr ⟨x, hx, decide_eq_true h3⟩⟩
      have hEl := List.length_filter_le (fun j => (F.getD j []).any fun s => decide (s ∈ ends)) (List.range F.length)
      rw [List.length_range] at hEl
      have hacc := hW.acc hle hEm
      have hF0 : 0 < F.length := (List.getElem?_eq_some_iff.mp hW.zero).1
      generalize ((List.range F.length).filter fun j => (F.getD j []).any fun s => decide (s ∈ ends)) = EE at hD3 hEl hacc
      refine ⟨by show 2 ≤ sizeLine; decide, fun pt nt => ?_⟩
      have s11 : Same H10 (upd H10 pt (.tup [.ref pw, .ref D3])) := same_new nt
      refine q _ pt pw D3 xs R EE ((s8.trans s10).trans s11) upd_same ((hw8.same s10).same s11) (s11 _ _ hD3) (hW.mok hle) (by omega) (by omega) (by omega) (fun w' hw' => ?_)
      rw [← eT0]
      exact hacc w' hw'
end
end K13

namespace Rg
open PySem PySem.Spec PyProof.Rows L2 Mach
/-- some of the things -/
def spSome : Sp := fun vs H Q _ => ∃ (g c a : Addr) (S : List Nat) (r : Nat), vs = [.ref g, .ref a, nV r] ∧ Bag H g c ∧ H a = some (.lst (nVs S)) ∧ a ≠ g ∧ S.length ≤ 100 ∧ 1 ≤ r ∧ r ≤ 100 ∧
  ∀ (H' : Hp) (p : Addr) (S' : List Nat), Bag H' g c → But g H H' → H p = none → H' p = some (.lst (nVs S')) → (∀ x ∈ S', x ∈ S) → S'.length ≤ S.length → Q (.ref p) H'
/-- the machine has the word -/
def spHas : Sp := fun vs H Q _ => ∃ (t p e a : Addr) (ys : List Addr) (R : List (List Nat)) (E w : List Nat) (n : Nat), vs = [.ref t, .ref a] ∧ H t = some (.tup [.ref p, .ref e]) ∧ RowsAt H p ys R ∧ H e = some (.lst (nVs E)) ∧ H a = some (.lst (nVs w)) ∧ Mok n R ∧ 0 < R.length ∧ Wd n w ∧
  Q (.bl (decide (runM R 0 w ∈ E))) H
end Rg
namespace K13
open PySem PySem.Spec PyProof.Rows L2 Rg Mach
abbrev sSome : Stmt := topS 14
abbrev sHas : Stmt := topS 20
def nSome : List Str := ["_law_bag_here", "_law_things", "_law_rare", "_law_thing"]
theorem scSome : FnScope nSome ["_law_bag_here", "_law_things", "_law_rare"] (defScope sSome) := ⟨rfl, rfl, rfl, by decide +kernel, rfl, by decide +kernel, by decide +kernel⟩
def nHas : List Str := ["_law_machine", "_law_word", "_law_state", "_law_k"]
theorem scHas : FnScope nHas ["_law_machine", "_law_word"] (defScope sHas) := ⟨rfl, rfl, rfl, by decide +kernel, rfl, by decide +kernel, by decide +kernel⟩
section
variable {P : Program} {w : World} {K : PySem.W.Frag} {mg : Str → Option Value} {base : Heap}
theorem ok_some {f fT : Addr} {fd fdT : FuncData} {k : Nat} (F : Fun K "_law_some" "_law_some" sSome f fd)
    (FT : Fun K "_law_take" "_law_take" sTake fT fdT) (bT : Binds K fdT ["_law_bag_here", "_law_many"] []) (gT : mg "_law_take" = some (.ref fT)) (mi : mg "int" = none) :
    FnOk P w K mg base CX0 (k + 2) f fd ["_law_bag_here", "_law_things", "_law_rare"] spSome := by
  have GT : FnOk P w K mg base CX0 (k + 1) fT fdT ["_law_bag_here", "_law_many"] spTake := ok_take FT mi
  refine F.ok scSome (fun vs H Q E h => ?_) (fun cdv A outer s H vs Q E hr h => ?_)
  · obtain ⟨g, c, a, S, r, rfl, _⟩ := h
    rfl
  · obtain ⟨g, c, a, S, r, rfl, hB, ha, nag, hSl, hr1, hr2, q⟩ := h
    refine ⟨_, pss_one (ps_ret (pe_lc (own := [("_law_thing", 3)]) (g := gName 3) (tt := tTest (tOp rEq (tCall spTake [] E0 (tCons (tVar 0) (tCons (tVar 2) tNil))) (tC (.int 0)))) (te := tVar 3) rfl scSome.nd (pi_list (pv 1)) (blkOk_by (own := [("_law_thing", 3)]) (N := nSome) (sc := defScope sSome) (by decide +kernel))
      (fun _ _ _ _ _ => pg_name (i := 3) scSome.nd rfl (Or.inl rfl)) (fun _ _ _ _ _ => pts_one (pt_cmpR op_eq (pe_call GT hr (by rfl) gT FT.kp bT .nil pass0 (pa_cons (pv 0) (pa_cons (pv 2) pa_nil))) pe_int (nomark _))) (fun _ _ _ _ _ => pv 3))), ?_⟩
    refine ⟨_, rfl, a, rfl, ⟨_, SqL.of ha⟩, fun D1 nD1 => ?_⟩
    have nD1g : D1 ≠ g := hB.ne nD1
    have nD1c : D1 ≠ c := hB.ne2 nD1
    refine lc_list (K := K) (a := a) (xs := nVs S) (fun i H1 => Dr g c H H1 ∧ ∃ S' : List Nat, H1 D1 = some (.lst (nVs S')) ∧ (∀ x ∈ S', x ∈ S) ∧ S'.length ≤ i) ⟨(Dr.refl hB).same (same_new nD1), [], by rw [upd_same]; rfl, (fun x hx => nomatch hx), Nat.le_refl _⟩ (fun i H1 _ ⟨d1, _⟩ => SqL.of (d1.keep ha nag)) ?_ ?_
    · rintro i v H1 hi ⟨d1, S', hD1, hS', hl'⟩
      obtain ⟨x, rfl, hx⟩ := nVs_at hi
      have hil := (List.getElem?_eq_some_iff.mp hx).1
      refine ⟨rfl, ?_⟩
      refine ⟨_, rfl, _, rfl, g, c, _, rfl, d1.bag, by omega, by omega, fun H2 r2 hr2' hB2 b2 => ?_⟩
      have d12 : Dr g c H1 H2 := ⟨hB2, b2⟩
      have d2 := d1.trans d12
      have hD2 := d12.keep hD1 nD1g
      refine ⟨rfl, _, rfl, ite2 (fun _ => ?_) (fun _ => ?_)⟩
      · refine ⟨_, rfl, _, hD2, by rw [nVs_len]; exact szBig (by omega), d2.upd_own nD1 nD1g nD1c, S' ++ [x], ?_, ?_, ?_⟩
        · rw [upd_same, nVs_snoc]
        · intro y hy
          rcases List.mem_append.mp hy with z | z
          · exact hS' y z
          · rw [List.mem_singleton] at z
            rw [z]
            exact List.mem_of_getElem? hx
        · rw [List.length_append, List.length_singleton]
          omega
      · exact ⟨d2, S', hD2, hS', by omega⟩
    · rintro H1 ⟨d1, S', hD1, hS', hl'⟩
      rw [nVs_len] at hl'
      exact q H1 D1 S' d1.bag d1.but nD1 hD1 hS' hl'
theorem ok_has {f : Addr} {fd : FuncData} {k : Nat} (F : Fun K "_law_machine_has" "_law_machine_has" sHas f fd) :
    FnOk P w K mg base CX0 (k + 1) f fd ["_law_machine", "_law_word"] spHas := by
  refine F.ok scHas (fun vs H Q E h => ?_) (fun cdv A outer s H vs Q E hr h => ?_)
  · obtain ⟨t, p, e, a, ys, R, E', w', n, rfl, _⟩ := h
    rfl
  · obtain ⟨t, p, e, a, ys, R, E', w', n, rfl, ht, hR, he, ha, hM, h0, hw, q⟩ := h
    refine ⟨_, pss_cons (ps_set (i := 2) scHas.nd rfl (.inl rfl) pe_int)
      (pss_cons (ps_for PassesOwn.never rfl (pi_list (pv 1)) (pg_name (i := 3) scHas.nd rfl (.inl rfl)) (pss_one (ps_set (i := 2) scHas.nd rfl (.inl rfl) (pe_ix ix_list (pe_ix ix_list (pe_ix ix_tup (pv 0) pe_int (fun _ _ => rfl)) (pv 2) (fun _ _ => rfl)) (pv 3) (fun _ _ => rfl)))))
      (pss_one (ps_ret (pe_cmpR op_in_seq (pv 2) (pe_ix ix_tup (pv 0) pe_int (fun _ _ => rfl)) rfl)))), ?_⟩
    have t0 : atI [V.ref p, V.ref e] 0 = some (.ref p) := rfl
    have t1 : atI [V.ref p, V.ref e] 1 = some (.ref e) := rfl
    refine ⟨_, rfl, a, rfl, ⟨_, SqL.of ha⟩, ?_⟩
    refine for_list (K := K) (a := a) (xs := nVs w') (fun j σ H1 => ∃ (y : Option V), H1 = H ∧ σ = [some (.ref t), some (.ref a), some (nV (runM R 0 (w'.take j))), y] ∧ runM R 0 (w'.take j) < R.length) ⟨none, rfl, rfl, h0⟩ (fun j σ H1 _ ⟨_, e', _⟩ => by rw [e']; exact SqL.of ha) ?_ ?_
    · rintro j v σ H1 hj ⟨y, rfl, rfl, hlt⟩
      obtain ⟨x, rfl, hx⟩ := nVs_at hj
      have hxn : x < n := hw x (List.mem_of_getElem? hx)
      have hnext : runM R 0 (w'.take (j + 1)) = Mach.dl R (runM R 0 (w'.take j)) x := by
        rw [take_snoc hx]
        unfold runM
        rw [List.foldl_append]
        rfl
      rw [hnext]
      generalize runM R 0 (w'.take j) = s0 at hlt
      obtain ⟨z, hz1, hz2⟩ := hR.get hlt
      have hwd := hM.wide s0 hlt
      have hg : (nVs (rowOf R s0))[x]? = some (nV (Mach.dl R s0 x)) := nVs_get (by
        unfold Mach.dl
        rw [List.getD_eq_getElem?_getD, List.getElem?_eq_getElem (by omega)]
        rfl)
      refine ⟨_, rfl, t, _, _, _, rfl, rfl, SqT.of ht, t0, _, rfl, p, _, _, _, rfl, rfl, SqL.of hR.at_, atI_nat hz1, _, rfl, z, _, _, _, rfl, rfl, SqL.of hz2, atI_nat hg, ?_⟩
      exact ⟨_, rfl, rfl, hM.lt s0 hlt _ (dl_mem hM hlt hxn)⟩
    · rintro σ H1 ⟨y, rfl, rfl, hlt⟩
      rw [nVs_len, List.take_length] at hlt ⊢
      refine ⟨_, rfl, _, rfl, t, _, _, _, rfl, rfl, SqT.of ht, t1, e, _, rfl, .inl (SqL.of he), rfl, flat_nVs _, ?_⟩
      rw [if_neg Bool.false_ne_true, inV_nVs]
      exact q
end
end K13

namespace Rg
open PySem PySem.Spec PyProof.Rows L2 Mach
def meetB (T ends : List Nat) : Bool := T.any fun s => decide (s ∈ ends)
theorem meetB_iff {T ends : List Nat} : meetB T ends = true ↔ Meets T ends := by
  unfold meetB
  constructor
  · intro h
    obtain ⟨x, hx, h3⟩ := List.any_eq_true.mp h
    exact ⟨x, hx, of_decide_eq_true h3⟩
  · rintro ⟨x, hx, h3⟩
    exact List.any_eq_true.mpr ⟨x, hx, decide_eq_true h3⟩
/-- going along the moves -/
def spGoes : Sp := fun vs H Q _ => ∃ (a b m e : Addr) (ms : List Addr) (mv : List Mv) (n : Nat) (w S0 ends B : List Nat), vs = [.ref a, .ref b, .ref m, .ref e] ∧ H a = some (.lst (nVs w)) ∧ H b = some (.lst (nVs S0)) ∧ MvAt H m ms mv ∧ H e = some (.lst (nVs ends)) ∧
  mv.length ≤ 50 ∧ S0.length ≤ 50 ∧ ends.length ≤ 100 ∧ B.Pairwise (· < ·) ∧ B.length ≤ 5 ∧ (∀ x ∈ S0, x ∈ B) ∧ (∀ x ∈ mv, x.2.2 ∈ B) ∧
  ∀ (H' : Hp), Same H H' → Q (.bl (meetB (w.foldl (nxS mv) (silF mv fun x => x ∈ S0)) ends)) H'
end Rg
namespace K13
open PySem PySem.Spec PyProof.Rows L2 Rg Mach
abbrev sGo : Stmt := topS 18
def nGo : List Str := ["_law_word", "_law_begins", "_law_moves", "_law_ends", "_law_some_here", "_law_k", "_law_one", "_law_place", "_law_there", "_law_state"]
theorem scGo : FnScope nGo ["_law_word", "_law_begins", "_law_moves", "_law_ends"] (defScope sGo) := ⟨rfl, rfl, rfl, by decide +kernel, rfl, by decide +kernel, by decide +kernel⟩
section
variable {P : Program} {w : World} {K : PySem.W.Frag} {mg : Str → Option Value} {base : Heap}
theorem ok_go {f fS : Addr} {fd fdS : FuncData} {k : Nat} (F : Fun K "_law_goes" "_law_goes" sGo f fd)
    (FS : Fun K "_law_silent" "_law_silent" sSl fS fdS) (bS : Binds K fdS ["_law_states", "_law_moves"] []) (gS : mg "_law_silent" = some (.ref fS))
    (ml : mg "len" = none) (mt : mg "tuple" = none) (ms' : mg "set" = none) (mso : mg "sorted" = none) :
    FnOk P w K mg base CX0 (k + 2) f fd ["_law_word", "_law_begins", "_law_moves", "_law_ends"] spGoes := by
  have GS : FnOk P w K mg base CX0 (k + 1) fS fdS ["_law_states", "_law_moves"] spSilL := ok_sl FS ml mt ms' mso
  refine F.ok scGo (fun vs H Q E h => ?_) (fun cdv A outer s H vs Q E hr h => ?_)
  · obtain ⟨a, b, m, e, ms, mv, n, w', S0, ends, B, rfl, _⟩ := h
    rfl
  · obtain ⟨a, b, m, e, ms, mv, n, w', S0, ends, B, rfl, ha, hb, hm, he, hml, hSl, hel, hBp, hBl, hSB, hmB, q⟩ := h
    refine ⟨_, pss_cons (ps_set (i := 4) scGo.nd rfl (.inr rfl) (pe_call GS hr (by rfl) gS FS.kp bS .nil pass0 (pa_cons (pv 1) (pa_cons (pv 2) pa_nil))))
      (pss_cons (ps_for PassesOwn.never rfl (pi_list (pv 0)) (pg_name (i := 5) scGo.nd rfl (.inr rfl))
        (pss_one (ps_set (i := 4) scGo.nd rfl (.inr rfl) (pe_call GS hr (by rfl) gS FS.kp bS .nil pass0 (pa_cons (pe_lc (own := [("_law_one", 6), ("_law_place", 7), ("_law_there", 8)]) (g := gTup K 3 (gCons (gName 6) (gCons (gName 7) (gCons (gName 8) gNil))))
              (tt := tAnd (tTest (tOp rEq (tVar 7) (tVar 5))) (tTest (tOp (rIn K false) (tVar 6) (tVar 4)))) (te := tVar 8) rfl scGo.nd
              (pi_list (pv 2)) (blkOk_by (own := [("_law_one", 6), ("_law_place", 7), ("_law_there", 8)]) (N := nGo) (sc := defScope sGo) (by decide +kernel))
              (fun _ _ _ _ _ => pg_tup rfl (pgs_cons (pg_name (i := 6) scGo.nd rfl (Or.inl rfl)) (pgs_cons (pg_name (i := 7) scGo.nd rfl (Or.inl rfl)) (pgs_cons (pg_name (i := 8) scGo.nd rfl (Or.inl rfl)) pgs_nil))))
              (fun _ _ _ _ _ => pts_one (pw_and (pt_cmpR op_eq (pv 7) (pv 5) (nomark _)) (pw_and1 (pt_cmpR op_in_seq (pv 6) (pv 4) rfl))).pt) (fun _ _ _ _ _ => pv 8)) (pa_cons (pv 2) pa_nil))))))
      (pss_one (ps_ret (pe_cmpR (op_neD hr.units) (pe_lc (own := [("_law_state", 9)]) (g := gName 9) (tt := tTest (tOp (rIn K false) (tVar 9) (tVar 3))) (te := tVar 9) rfl scGo.nd (pi_tup (pv 4)) (blkOk_by (own := [("_law_state", 9)]) (N := nGo) (sc := defScope sGo) (by decide +kernel))
            (fun _ _ _ _ _ => pg_name (i := 9) scGo.nd rfl (Or.inl rfl)) (fun _ _ _ _ _ => pts_one (pt_cmpR op_in_seq (pv 9) (pv 3) rfl)) (fun _ _ _ _ _ => pv 9)) (pe_lst pa_nil) (nomark _))))), ?_⟩
    -- the first set
    refine ⟨_, rfl, _, rfl, b, m, ms, S0, mv, rfl, hb, hm, by omega, by omega, fun H1 t0 T0 s1 nt0 ht0 hT0 => ?_⟩
    have eT0 : T0 = silF mv fun x => x ∈ S0 := hT0.eq
    have hT0l : T0.length ≤ 10 := by
      have := subs_short (sil_subs hBp hSB hmB hT0)
      omega
    refine ⟨_, rfl, a, rfl, ⟨_, SqL.of (s1 _ _ ha)⟩, ?_⟩
    refine for_list (K := K) (a := a) (xs := nVs w') (fun j σ H2 => ∃ (t : Addr) (y : Option V), σ = [some (.ref a), some (.ref b), some (.ref m), some (.ref e), some (.ref t), y, none, none, none, none] ∧ Same H H2 ∧ H2 t = some (.tup (nVs ((w'.take j).foldl (nxS mv) T0))) ∧ ((w'.take j).foldl (nxS mv) T0).length ≤ 10) ⟨t0, none, rfl, s1, ht0, hT0l⟩ (fun j σ H2 _ ⟨_, _, _, s2, _⟩ => SqL.of (s2 _ _ ha)) ?_ ?_
    · rintro j v σ H2 hj ⟨t, y, rfl, s2, ht2, hTl⟩
      obtain ⟨c, rfl, hc⟩ := nVs_at hj
      have hnext : (w'.take (j + 1)).foldl (nxS mv) T0 = nxS mv ((w'.take j).foldl (nxS mv) T0) c := by
        rw [take_snoc hc, List.foldl_append]
        rfl
      rw [hnext]
      generalize (w'.take j).foldl (nxS mv) T0 = T at ht2 hTl
      refine ⟨_, rfl, m, rfl, ⟨_, SqL.of (s2 _ _ hm.1)⟩, fun D1 nD1 => ?_⟩
      refine lc_list (K := K) (a := m) (xs := ms.map V.ref) (fun j H11 => Same H2 H11 ∧ H11 D1 = some (.lst (nVs (((mv.take j).filter fun x => decide (x.2.1 = (c : Int) ∧ x.1 ∈ T)).map fun x => x.2.2)))) ⟨same_new nD1, by rw [upd_same]; rfl⟩ (fun j H11 _ ⟨s11, _⟩ => SqL.of (s11 _ _ (s2 _ _ hm.1))) ?_ ?_
      · rintro j v H11 hj ⟨s11, hD1⟩
        rw [List.getElem?_map] at hj
        obtain ⟨t', ht', rfl⟩ := Option.map_eq_some_iff.mp hj
        obtain ⟨x, hx, htx⟩ := Rg.paired_get hm.2 ht'
        have hjl := (List.getElem?_eq_some_iff.mp hx).1
        have hfl := List.length_filter_le (fun x : Mv => decide (x.2.1 = (c : Int) ∧ x.1 ∈ T)) (mv.take j)
        rw [List.length_take] at hfl
        refine ⟨t', _, rfl, SqT.of (s11 _ _ (s2 _ _ htx)), rfl, _, _, rfl, _, _, rfl, _, _, rfl, rfl, rfl, ?_⟩
        rw [take_snoc hx, filter_snoc, List.map_append]
        refine ⟨_, rfl, _, rfl, rfl, _, rfl, ?_⟩
        by_cases h1 : x.2.1 = (c : Int)
        · have e1 : decide (V.int x.2.1 = nV c) = true := decide_eq_true (by rw [h1]; rfl)
          rw [e1]
          refine ⟨_, rfl, _, rfl, t, _, rfl, .inr (SqT.of (s11 _ _ ht2)), rfl, flat_nVs _, _, rfl, ?_⟩
          rw [if_neg Bool.false_ne_true, inV_nVs]
          by_cases h2 : x.1 ∈ T
          · rw [decide_eq_true h2, decide_eq_true ⟨h1, h2⟩]
            refine ⟨_, rfl, _, hD1, by rw [nVs_len, List.length_map]; exact szBig (by omega), ?_, ?_⟩
            · intro c' o ec
              rw [upd_ne (ne_of_none ec nD1)]
              exact s11 _ _ ec
            · rw [upd_same, if_pos rfl]
              exact congrArg (fun z => some (HO.lst z)) (nVs_snoc _ _).symm
          · rw [decide_eq_false h2, decide_eq_false (fun z => h2 z.2)]
            refine ⟨s11, ?_⟩
            rw [if_neg Bool.false_ne_true, List.map_nil, List.append_nil]
            exact hD1
        · have e1 : decide (V.int x.2.1 = nV c) = false := decide_eq_false (fun z => h1 (V.int.inj z))
          rw [e1, decide_eq_false (fun z => h1 z.1)]
          refine ⟨s11, ?_⟩
          rw [if_neg Bool.false_ne_true, List.map_nil, List.append_nil]
          exact hD1
      rintro H11 ⟨s11, hD1⟩
      rw [List.length_map, paired_length hm.2, List.take_length] at hD1
      have hXl := List.length_filter_le (fun x : Mv => decide (x.2.1 = (c : Int) ∧ x.1 ∈ T)) mv
      have hXm : ∀ z, z ∈ ((mv.filter fun x => decide (x.2.1 = (c : Int) ∧ x.1 ∈ T)).map fun x => x.2.2) ↔ Led mv T c z := fun z => by
        rw [List.mem_map]
        constructor
        · rintro ⟨x, hx, rfl⟩
          obtain ⟨h1, h2⟩ := List.mem_filter.mp hx
          obtain ⟨h3, h4⟩ := of_decide_eq_true h2
          exact ⟨x.1, h4, by rw [← h3]; exact h1⟩
        · rintro ⟨y, hy, hz⟩
          exact ⟨_, List.mem_filter.mpr ⟨hz, decide_eq_true ⟨rfl, hy⟩⟩, rfl⟩
      refine ⟨_, rfl, D1, m, ms, _, mv, rfl, hD1, (hm.same s2).same s11, by rw [List.length_map]; omega, by omega, fun H12 t2 U s12 nt ht hU => ?_⟩
      have eU : U = nxS mv T c := hU.eq' hXm
      have hUl := subs_short (sil_subs hBp (fun x hx => by
        obtain ⟨y, _, hy⟩ := (hXm x).mp hx
        exact hmB _ hy) hmB hU)
      rw [← eU]
      exact ⟨t2, _, rfl, (s2.trans s11).trans s12, ht, by omega⟩
    · rintro σ H2 ⟨t, y, rfl, s2, ht2, hTl⟩
      rw [nVs_len, List.take_length, eT0] at ht2 hTl
      have hq := q
      generalize w'.foldl (nxS mv) (silF mv fun x => x ∈ S0) = T at ht2 hTl hq
      refine ⟨_, rfl, t, rfl, ⟨_, SqT.of ht2⟩, fun D4 nD4 => ?_⟩
      refine lc_tup (K := K) (a := t) (xs := nVs T) (fun l H11 => Same H2 H11 ∧ H11 D4 = some (.lst (nVs ((T.take l).filter fun s => decide (s ∈ ends))))) ⟨same_new nD4, by rw [upd_same]; rfl⟩ (fun l H11 _ ⟨s11, _⟩ => SqT.of (s11 _ _ ht2)) ?_ ?_
      · rintro l v H11 hl ⟨s11, hD4⟩
        obtain ⟨x, rfl, hx⟩ := nVs_at hl
        have hll := (List.getElem?_eq_some_iff.mp hx).1
        refine ⟨rfl, ?_⟩
        refine ⟨_, rfl, _, rfl, e, _, rfl, .inl (SqL.of (s11 _ _ (s2 _ _ he))), rfl, flat_nVs _, _, rfl, ?_⟩
        rw [if_neg Bool.false_ne_true, inV_nVs, take_snoc hx, filter_snoc]
        have hfl := List.length_filter_le (fun s => decide (s ∈ ends)) (T.take l)
        rw [List.length_take] at hfl
        by_cases h2 : x ∈ ends
        · rw [decide_eq_true h2]
          refine ⟨_, rfl, _, hD4, by rw [nVs_len]; exact szBig (by omega), ?_, ?_⟩
          · intro c o ec
            rw [upd_ne (ne_of_none ec nD4)]
            exact s11 _ _ ec
          · rw [upd_same, if_pos rfl, nVs_snoc]
        · rw [decide_eq_false h2]
          refine ⟨s11, ?_⟩
          rw [if_neg Bool.false_ne_true, List.append_nil]
          exact hD4
      rintro H11 ⟨s11, hD4⟩
      rw [nVs_len, List.take_length] at hD4
      refine ⟨by show 0 ≤ sizeLine; decide, fun e0 ne0 => ?_⟩
      have s12 : Same H11 (upd H11 e0 (.lst [])) := same_new ne0
      have he12 : (upd H11 e0 (.lst [])) e0 = some (.lst []) := upd_same
      generalize (upd H11 e0 (.lst [])) = H12 at s12 he12
      refine ⟨dNs (T.filter fun s => decide (s ∈ ends)), .list [], dp_nVs (s12 _ _ hD4), .lst (SqL.of he12) .nil, shp_dNs _, shp_nil, ?_⟩
      have eA : (!PyData.eqv (dNs (T.filter fun s => decide (s ∈ ends))) (.list [])) = meetB T ends := by
        rw [eqv_dNs_nil]
        cases hA : meetB T ends with
        | true =>
          obtain ⟨x, hx, h3⟩ := meetB_iff.mp hA
          rw [decide_eq_false]
          · rfl
          · intro z
            have := List.mem_filter (p := fun s => decide (s ∈ ends)).mpr ⟨hx, decide_eq_true h3⟩
            rw [z] at this
            cases this
        | false =>
          rw [decide_eq_true]
          · rfl
          · refine List.filter_eq_nil_iff.mpr fun x hx h3 => ?_
            have := meetB_iff.mpr ⟨x, hx, of_decide_eq_true h3⟩
            rw [hA] at this
            cases this
      rw [eA]
      exact hq _ ((s2.trans s11).trans s12)
end
end K13

namespace Rg
open PySem PySem.Spec PyProof.Rows L2 Mach
theorem paired_append {α β : Type} {G : α → β → Prop} : ∀ {xs xs' : List α} {ys ys' : List β}, Paired G xs ys → Paired G xs' ys' → Paired G (xs ++ xs') (ys ++ ys')
  | _, _, _, _, .nil, h => h
  | _, _, _, _, .cons h t, k => .cons h (paired_append t k)
/-- words in the heap, one behind another -/
def WdsAt (H : Hp) (us : List Addr) (ws : List (List Nat)) : Prop := Paired (fun (u : Addr) (w : List Nat) => H u = some (.lst (nVs w))) us ws
/-- all short words -/
def spWords : Sp := fun vs H Q _ => ∃ (n : Nat), vs = [nV n, nV 3] ∧ n ≤ 4 ∧
  ∀ (H' : Hp) (p : Addr) (us : List Addr) (ws : List (List Nat)), Same H H' → H' p = some (.lst (us.map V.ref)) → WdsAt H' us ws → (∀ w ∈ ws, Wd n w) → Q (.ref p) H'
end Rg
namespace K13
open PySem PySem.Spec PyProof.Rows L2 Rg Mach
abbrev sWo : Stmt := topS 19
def nWo : List Str := ["_law_wide", "_law_longest", "_law_found", "_law_last", "_law_k", "_law_longer", "_law_word", "_law_place"]
theorem scWo : FnScope nWo ["_law_wide", "_law_longest"] (defScope sWo) := ⟨rfl, rfl, rfl, by decide +kernel, rfl, by decide +kernel, by decide +kernel⟩
section
variable {P : Program} {w : World} {K : PySem.W.Frag} {mg : Str → Option Value} {base : Heap}
theorem ok_wo {f : Addr} {fd : FuncData} {k : Nat} (F : Fun K "_law_words" "_law_words" sWo f fd) (mr : mg "range" = none) :
    FnOk P w K mg base CX0 (k + 1) f fd ["_law_wide", "_law_longest"] spWords := by
  refine F.ok scWo (fun vs H Q E h => ?_) (fun cdv A outer s H vs Q E hr h => ?_)
  · obtain ⟨n, rfl, _⟩ := h
    rfl
  · obtain ⟨n, rfl, hn, q⟩ := h
    refine ⟨_, pss_cons (ps_par (by rfl) scWo.nd (i := 2) (j := 3) rfl rfl (by decide) rfl rfl (pa_cons (pe_lst (pa_cons (pe_lst pa_nil) pa_nil)) (pa_cons (pe_lst (pa_cons (pe_lst pa_nil) pa_nil)) pa_nil)) (by rfl))
      (pss_cons (ps_for PassesOwn.never rfl (pi_range1 (by rfl) mr (pa_cons (pv 1) pa_nil)) (pg_name (i := 4) scWo.nd rfl (.inl rfl))
        (pss_cons (ps_set (i := 5) scWo.nd rfl (.inl rfl) (pe_lst pa_nil))
        (pss_cons (ps_for PassesOwn.never rfl (pi_list (pv 3)) (pg_name (i := 6) scWo.nd rfl (.inr rfl))
          (pss_one (ps_expr (pe_bm PySem.F.plainAttrs_list PySem.F.slot_list_extend PySem.F.type_list_extend mt_extend (pv 5) (pa_cons (pe_lc (own := [("_law_place", 7)]) (g := gName 7) (tt := tYes) rfl scWo.nd (pi_range1 (by rfl) mr (pa_cons (pv 0) pa_nil)) (blkOk_by (own := [("_law_place", 7)]) (N := nWo) (sc := defScope sWo) (by decide +kernel))
            (fun _ _ _ _ _ => pg_name (i := 7) scWo.nd rfl (Or.inl rfl)) (fun _ _ _ _ _ => pts_nil) (fun _ _ _ _ _ => pe_op op_cat (pv 6) (pe_lst (pa_cons (pv 7) pa_nil)))) pa_nil)))))
        (pss_one (ps_par (by rfl) scWo.nd (i := 2) (j := 3) rfl rfl (by decide) rfl rfl (pa_cons (pe_op op_cat (pv 2) (pv 5)) (pa_cons (pv 5) pa_nil)) (by rfl))))))
      (pss_one (ps_ret (pv 2)))), ?_⟩
    refine ⟨by show 0 ≤ sizeLine; decide, fun w0 nw0 => ?_⟩
    refine ⟨by show 1 ≤ sizeLine; decide, fun pf0 npf => ?_⟩
    refine ⟨by show 0 ≤ sizeLine; decide, fun w1 nw1 => ?_⟩
    refine ⟨by show 1 ≤ sizeLine; decide, fun pl0 npl => ?_⟩
    refine ⟨_, _, rfl, ?_⟩
    have k1 : Same H (upd H w0 (.lst [])) := same_new nw0
    have k2 := k1.trans (same_new (o := .lst [.ref w0]) npf)
    have k3 := k2.trans (same_new (o := .lst []) nw1)
    have k4 := k3.trans (same_new (o := .lst [.ref w1]) npl)
    have hw0 : (upd (upd (upd (upd H w0 (.lst [])) pf0 (.lst [.ref w0])) w1 (.lst [])) pl0 (.lst [.ref w1])) w0 = some (.lst (nVs [])) := same_new npl _ _ (same_new nw1 _ _ (same_new npf _ _ upd_same))
    have hpf0 : (upd (upd (upd (upd H w0 (.lst [])) pf0 (.lst [.ref w0])) w1 (.lst [])) pl0 (.lst [.ref w1])) pf0 = some (.lst ([w0].map V.ref)) := same_new npl _ _ (same_new nw1 _ _ upd_same)
    have hw1 : (upd (upd (upd (upd H w0 (.lst [])) pf0 (.lst [.ref w0])) w1 (.lst [])) pl0 (.lst [.ref w1])) w1 = some (.lst (nVs [])) := same_new npl _ _ upd_same
    have hpl0 : (upd (upd (upd (upd H w0 (.lst [])) pf0 (.lst [.ref w0])) w1 (.lst [])) pl0 (.lst [.ref w1])) pl0 = some (.lst ([w1].map V.ref)) := upd_same
    generalize (upd (upd (upd (upd H w0 (.lst [])) pf0 (.lst [.ref w0])) w1 (.lst [])) pl0 (.lst [.ref w1])) = H0 at k4 hw0 hpf0 hw1 hpl0
    clear k1 k2 k3 npl nw1 npf nw0
    refine ⟨_, rfl, 3, rfl, by decide, by decide, ?_⟩
    refine for_range (n := 3) (fun i σ H1 => ∃ (pf pl : Addr) (us vs : List Addr) (ws ls : List (List Nat)) (y4 y5 y6 : Option V), σ = [some (nV n), some (nV 3), some (.ref pf), some (.ref pl), y4, y5, y6, none] ∧ Same H H1 ∧ H1 pf = some (.lst (us.map V.ref)) ∧ WdsAt H1 us ws ∧ H1 pl = some (.lst (vs.map V.ref)) ∧ WdsAt H1 vs ls ∧ (∀ w ∈ ws, Wd n w) ∧ (∀ w ∈ ls, Wd n w ∧ w.length ≤ i) ∧ ls.length ≤ 4 ^ i ∧ ws.length ≤ 1 + 64 * i)
      ⟨pf0, pl0, [w0], [w1], [[]], [[]], none, none, none, rfl, k4, hpf0, .cons hw0 .nil, hpl0, .cons hw1 .nil, (fun w hw k hk => by rw [List.mem_singleton] at hw; rw [hw] at hk; cases hk), (fun w hw => by rw [List.mem_singleton] at hw; rw [hw]; exact ⟨fun k hk => (nomatch hk), Nat.le_refl _⟩), by decide, by decide⟩ ?_ ?_
    · clear hw0 hpf0 hw1 hpl0 k4 H0
      rintro i σ H1 hi ⟨pf, pl, us, vs, ws, ls, y4, y5, y6, rfl, s1, hpf, hus, hpl, hvs, hWw, hWl, hll, hwl⟩
      have hll' : ls.length ≤ 64 := Nat.le_trans hll (Nat.le_trans (Nat.pow_le_pow_right (by decide) (show i ≤ 3 by omega)) (by decide))
      refine ⟨by show 0 ≤ sizeLine; decide, fun pg npg => ?_⟩
      have s2 : Same H1 (upd H1 pg (.lst [])) := same_new npg
      have hg2 : (upd H1 pg (.lst [])) pg = some (.lst []) := upd_same
      generalize (upd H1 pg (.lst [])) = H2 at s2 hg2
      refine ⟨_, rfl, pl, rfl, ⟨_, SqL.of (s2 _ _ hpl)⟩, ?_⟩
      refine for_list (K := K) (a := pl) (xs := vs.map V.ref) (fun j σ H3 => ∃ (gs : List Addr) (gl : List (List Nat)) (y6 : Option V), σ = [some (nV n), some (nV 3), some (.ref pf), some (.ref pl), some (.int (0 + (i : Int))), some (.ref pg), y6, none] ∧ Same H1 H3 ∧ H3 pg = some (.lst (gs.map V.ref)) ∧ WdsAt H3 gs gl ∧ (∀ g ∈ gs, g ≠ pg) ∧ (∀ w ∈ gl, Wd n w ∧ w.length ≤ i + 1) ∧ gl.length ≤ 4 * j)
        ⟨[], [], y6, rfl, s2, hg2, .nil, (fun g hg => nomatch hg), (fun w hw => nomatch hw), Nat.le_refl _⟩ (fun j σ H3 _ ⟨_, _, _, _, s3, _⟩ => SqL.of (s3 _ _ hpl)) ?_ ?_
      · rintro j v σ H3 hj ⟨gs, gl, z6, rfl, s3, hg3, hgs, hgn, hgw, hgl⟩
        rw [List.getElem?_map] at hj
        obtain ⟨u, hu', rfl⟩ := Option.map_eq_some_iff.mp hj
        obtain ⟨x, hx, hux⟩ := Rg.paired_get hvs hu'
        obtain ⟨hxW, hxl⟩ := hWl x (List.mem_of_getElem? hx)
        have hjl := (List.getElem?_eq_some_iff.mp hx).1
        have hgll := paired_length hgs
        refine ⟨_, rfl, .inl ⟨rfl, _, SqL.of hg3⟩, _, rfl, (n : Int), rfl, by omega, by omega, fun D1 nD1 => ?_⟩
        refine lc_range (n := (n : Int).toNat) (fun l H4 => Same H3 H4 ∧ ∃ ds : List Addr, ds.length = l ∧ H4 D1 = some (.lst (ds.map V.ref)) ∧ WdsAt H4 ds ((List.range l).map fun c => x ++ [c]) ∧ ∀ d ∈ ds, d ≠ D1 ∧ H3 d = none) ⟨same_new nD1, [], rfl, by rw [upd_same]; rfl, .nil, (fun d hd => nomatch hd)⟩ ?_ ?_
        · rintro l H4 hl ⟨s4, ds, dl', hD1, hds, hdn⟩
          refine ⟨rfl, ?_⟩
          refine ⟨_, rfl, _, rfl, by show 1 ≤ sizeLine; decide, fun e1 ne1 => ?_⟩
          have s5 : Same H4 (upd H4 e1 (.lst [.int (0 + (l : Int))])) := same_new ne1
          have he5 : (upd H4 e1 (.lst [.int (0 + (l : Int))])) e1 = some (.lst [.int (0 + (l : Int))]) := upd_same
          generalize (upd H4 e1 (.lst [.int (0 + (l : Int))])) = H5 at s5 he5
          refine ⟨u, e1, _, _, rfl, rfl, s5 _ _ (s4 _ _ (s3 _ _ hux)), he5, by rw [nVs_len]; exact szBigLe (by show _ + 1 ≤ _; omega), fun p np => ?_⟩
          rw [Int.zero_add, show nVs x ++ [V.int (l : Int)] = nVs (x ++ [l]) from (nVs_snoc _ _).symm]
          have hD5 := s5 _ _ hD1
          have npD : p ≠ D1 := (ne_of_none hD5 np).symm
          refine ⟨_, by rw [upd_ne npD.symm]; exact hD5, by rw [List.length_map]; exact szBig (by omega), ?_, ds ++ [p], by rw [List.length_append, List.length_singleton, dl'], ?_, ?_, ?_⟩
          · intro c o ec
            rw [upd_ne (ne_of_none ec nD1), upd_ne (ne_of_none (s5 _ _ (s4 _ _ ec)) np)]
            exact s5 _ _ (s4 _ _ ec)
          · rw [upd_same, List.map_append]
            rfl
          · rw [List.range_succ, List.map_append]
            refine paired_snoc (paired_keep hds fun d hd r hdr => ?_) ?_
            · rw [upd_ne (hdn d hd).1, upd_ne (ne_of_none (s5 _ _ hdr) np)]
              exact s5 _ _ hdr
            · rw [upd_ne npD, upd_same]
          · intro d hd
            rcases List.mem_append.mp hd with z | z
            · exact hdn d z
            · rw [List.mem_singleton] at z
              rw [z]
              exact ⟨npD, (s4.trans s5).free np⟩
        rintro H4 ⟨s4, ds, dl', hD1, hds, hdn⟩
        rw [Int.toNat_natCast] at dl' hds
        refine ⟨pg, D1, _, _, rfl, rfl, s4 _ _ hg3, hD1, by rw [List.length_map, List.length_map]; exact szBigLe (by omega), ?_⟩
        refine ⟨gs ++ ds, gl ++ (List.range n).map (fun c => x ++ [c]), _, rfl, ?_, ?_, ?_, ?_, ?_, ?_⟩
        · intro c o ec
          rw [upd_ne (ne_of_none ec npg)]
          exact s4 _ _ (s3 _ _ ec)
        · rw [upd_same, List.map_append]
        · refine paired_append (paired_keep hgs fun d hd r hdr => ?_) (paired_keep hds fun d hd r hdr => ?_)
          · rw [upd_ne (hgn d hd)]
            exact s4 _ _ hdr
          · rw [upd_ne (ne_of_none hg3 (hdn d hd).2).symm]
            exact hdr
        · intro g hg
          rcases List.mem_append.mp hg with z | z
          · exact hgn g z
          · exact (ne_of_none hg3 (hdn g z).2).symm
        · intro w' hw'
          rcases List.mem_append.mp hw' with z | z
          · exact hgw w' z
          · obtain ⟨c, hc, rfl⟩ := List.mem_map.mp z
            refine ⟨fun k' hk' => ?_, by rw [List.length_append, List.length_singleton]; omega⟩
            rcases List.mem_append.mp hk' with y | y
            · exact hxW k' y
            · rw [List.mem_singleton] at y
              rw [y]
              exact List.mem_range.mp hc
        · rw [List.length_append, List.length_map, List.length_range]
          omega
      · rintro σ H3 ⟨gs, gl, z6, rfl, s3, hg3, hgs, hgn, hgw, hgl⟩
        rw [List.length_map, paired_length hvs] at hgl
        have h1 := paired_length hgs
        have h2 := paired_length hus
        refine ⟨_, rfl, _, rfl, pf, pg, _, _, rfl, rfl, s3 _ _ hpf, hg3, by rw [List.length_map, List.length_map]; exact szBigLe (by omega), fun p np => ?_⟩
        have s4 : Same H3 (upd H3 p (.lst (us.map V.ref ++ gs.map V.ref))) := same_new np
        refine ⟨_, rfl, _, _, rfl, p, pg, us ++ gs, gs, ws ++ gl, gl, _, _, _, rfl, (s1.trans s3).trans s4, by rw [upd_same, List.map_append], ?_, s4 _ _ hg3, ?_, ?_, hgw, ?_, ?_⟩
        · exact paired_append (paired_keep hus fun _ _ _ z => s4 _ _ (s3 _ _ z)) (paired_keep hgs fun _ _ _ z => s4 _ _ z)
        · exact paired_keep hgs fun _ _ _ z => s4 _ _ z
        · intro w' hw'
          rcases List.mem_append.mp hw' with z | z
          · exact hWw w' z
          · exact (hgw w' z).1
        · rw [Nat.pow_succ]
          omega
        · rw [List.length_append]
          have : gl.length ≤ 64 := by
            have h5 : 4 * 4 ^ i ≤ 4 * 4 ^ 2 := Nat.mul_le_mul_left _ (Nat.pow_le_pow_right (by decide) (by omega))
            have h6 : 4 * 4 ^ 2 = 64 := by decide
            omega
          omega
    · rintro σ H1 ⟨pf, pl, us, vs, ws, ls, y4, y5, y6, rfl, s1, hpf, hus, hpl, hvs, hWw, hWl, hll, hwl⟩
      exact ⟨_, rfl, q H1 pf us ws s1 hpf hus hWw⟩
end
end K13

/-! moves as data; the numbers that states may have -/
namespace Rg
open PySem PySem.Spec PyProof.Rows L2 Mach
def dMv (x : Mv) : PyData := .tuple [.int (x.1 : Int), .int x.2.1, .int (x.2.2 : Int)]
def dMvs (mv : List Mv) : PyData := .list (mv.map dMv)
theorem dp_mv {K : PySem.W.Frag} {H : Hp} {t : Addr} {x : Mv} (h : H t = some (.tup [nV x.1, .int x.2.1, nV x.2.2])) : Dp K H (.ref t) (dMv x) :=
  .tup (SqT.of h) (.cons (.int _) (.cons (.int _) (.cons (.int _) .nil)))
theorem dpAll_mvs {K : PySem.W.Frag} {H : Hp} : ∀ {ms : List Addr} {mv : List Mv}, Paired (fun (t : Addr) (x : Mv) => H t = some (.tup [nV x.1, .int x.2.1, nV x.2.2])) ms mv → DpAll K H (ms.map V.ref) (mv.map dMv)
  | _, _, .nil => .nil
  | _, _, .cons h t => .cons (dp_mv h) (dpAll_mvs t)
theorem dp_moves {K : PySem.W.Frag} {H : Hp} {m : Addr} {ms : List Addr} {mv : List Mv} (h : MvAt H m ms mv) : Dp K H (.ref m) (dMvs mv) := .lst (SqL.of h.1) (dpAll_mvs h.2)
/-- the numbers of states and places -/
def okInts : List Int := [-1, 0, 1, 2, 3, 4, 5, 6, 7, 8, 9, 1000000000000, 1000000000001, 1000000000002, 1000000000003, 1000000000004]
theorem gd_okI {i : Int} (h : i ∈ okInts) : Gd 0 60 (.int i) := by
  have key : okInts.all (fun i => PyData.showable (.int i) && PyData.intsShort 13 (.int i) && decide (PyData.weight (.int i) ≤ 60)) = true := by decide +kernel
  have hk := List.all_eq_true.mp key i h
  simp only [Bool.and_eq_true, decide_eq_true_eq] at hk
  exact ⟨rfl, hk.1.1, hk.1.2, Nat.le_refl _, hk.2⟩
theorem gd_okNs {ns : List Nat} (h : ∀ n ∈ ns, (n : Int) ∈ okInts) : Gd 1 (61 * ns.length) (dNs ns) := by
  have h1 : GdAll 0 ((60 + 1) * (ns.map fun n : Nat => PyData.int (n : Int)).length) (ns.map fun n : Nat => PyData.int (n : Int)) := gdAll_const fun d hd => by
    obtain ⟨n, hn, rfl⟩ := List.mem_map.mp hd
    exact gd_okI (h n hn)
  rw [List.length_map] at h1
  exact gd_list h1
theorem gd_dMvs {mv : List Mv} (h : ∀ x ∈ mv, (x.1 : Int) ∈ okInts ∧ x.2.1 ∈ okInts ∧ (x.2.2 : Int) ∈ okInts) : Gd 2 (184 * mv.length) (dMvs mv) := by
  have h1 : GdAll 1 ((183 + 1) * (mv.map dMv).length) (mv.map dMv) := gdAll_const fun d hd => by
    obtain ⟨x, hx, rfl⟩ := List.mem_map.mp hd
    obtain ⟨h1, h2, h3⟩ := h x hx
    exact gd_tuple (gdAll_cons (gd_okI h1) (gdAll_cons (gd_okI h2) (gdAll_cons (gd_okI h3) gdAll_nil)))
  rw [List.length_map] at h1
  exact gd_list h1
def fars : List Nat := [0, 5, 1000000000000]
theorem okB {f k : Nat} (hf : f ∈ fars) (hk : k < 5) : ((f + k : Nat) : Int) ∈ okInts := by
  have key : ∀ f ∈ fars, ∀ k : Fin 5, ((f + k.val : Nat) : Int) ∈ okInts := by decide +kernel
  exact key f hf ⟨k, hk⟩
theorem okPl {r : Nat} (h : r < 5) : (r : Int) - 1 ∈ okInts := by
  have key : ∀ k : Fin 5, ((k.val : Nat) : Int) - 1 ∈ okInts := by decide +kernel
  exact key ⟨r, h⟩
/-- the states -/
def sts (f m : Nat) : List Nat := (List.range m).map (f + ·)
theorem sts_len (f m : Nat) : (sts f m).length = m := by rw [sts, List.length_map, List.length_range]
theorem sts_up (f m : Nat) : (sts f m).Pairwise (· < ·) := by
  unfold sts
  rw [List.pairwise_map]
  exact List.pairwise_lt_range.imp fun h => by omega
theorem sts_ok {f m x : Nat} (hf : f ∈ fars) (hm : m ≤ 5) (h : x ∈ sts f m) : (x : Int) ∈ okInts := by
  unfold sts at h
  obtain ⟨k, hk, rfl⟩ := List.mem_map.mp h
  exact okB hf (by have := List.mem_range.mp hk; omega)
theorem paired_take {α β : Type} {F : α → β → Prop} : ∀ {xs : List α} {ys : List β}, Paired F xs ys → ∀ n, Paired F (xs.take n) (ys.take n)
  | _, _, .nil, n => by rw [List.take_nil, List.take_nil]; exact .nil
  | _, _, .cons h t, 0 => .nil
  | _, _, .cons h t, n + 1 => .cons h (paired_take t n)
theorem paired_drop {α β : Type} {F : α → β → Prop} : ∀ {xs : List α} {ys : List β}, Paired F xs ys → ∀ n, Paired F (xs.drop n) (ys.drop n)
  | _, _, .nil, n => by rw [List.drop_nil, List.drop_nil]; exact .nil
  | _, _, .cons h t, 0 => .cons h t
  | _, _, .cons h t, n + 1 => paired_drop t n
theorem cut_paired {β : Type} {F : Addr → β → Prop} {xs : List Addr} {ys : List β} (h : Paired F xs ys) (lo hi : Option Int) : ∃ (xs' : List Addr) (ys' : List β), cutV (xs.map V.ref) lo hi = xs'.map V.ref ∧ Paired F xs' ys' ∧ (∀ x ∈ xs', x ∈ xs) ∧ (∀ y ∈ ys', y ∈ ys) ∧ ys'.length ≤ ys.length := by
  unfold cutV
  rw [← List.map_drop, ← List.map_take]
  refine ⟨_, _, rfl, paired_take (paired_drop h _) _, fun z hz => ?_, fun z hz => ?_, ?_⟩
  · exact List.mem_of_mem_drop (List.mem_of_mem_take hz)
  · exact List.mem_of_mem_drop (List.mem_of_mem_take hz)
  · rw [List.length_take, List.length_drop]
    omega
end Rg

namespace K13
open PySem PySem.Spec PyProof.Rows L2 Rg Mach
theorem lm_binds {K : PySem.W.Frag} {f : Addr} {fd : FuncData} (F : FunD K "least_machine" "least_machine" (defArgs sLm) (defBody sLm) (defScope sLm) [] [("begin", .int 0)] f fd) : ∃ ds, Vals [.int 0] ds ∧ Binds K fd ["rows", "ends", "begin"] ds :=
  F.binds0 (ps := ["rows", "ends", "begin"]) 2 (by simp) rfl fun D doc pm an cdv ct us ks h1 h2 => match us, h1, ks, h2 with
    | [_, _], _, [_], _ => ⟨_, _, _, _, _, _, rfl, rfl, rfl⟩
theorem cut_nVs (ns : List Nat) (lo hi : Option Int) : ∃ zs : List Nat, cutV (nVs ns) lo hi = nVs zs ∧ (∀ z ∈ zs, z ∈ ns) ∧ zs.length ≤ ns.length := by
  unfold cutV nVs
  rw [← List.map_drop, ← List.map_take]
  refine ⟨_, rfl, fun z hz => ?_, ?_⟩
  · exact List.mem_of_mem_drop (List.mem_of_mem_take hz)
  · rw [List.length_take, List.length_drop]
    omega
theorem cut_one (xs : List V) : cutV xs (some 1) none = xs.drop 1 := by
  unfold cutV
  rw [HT.sIx_none, show (some (1 : Int)) = some ((1 : Nat) : Int) from rfl, HT.sIx_nat]
  cases xs with
  | nil => rfl
  | cons x xs =>
    rw [Nat.min_eq_left (by rw [List.length_cons]; omega)]
    apply List.take_of_length_le
    rw [List.length_drop]
    exact Nat.le_refl _
theorem row_mem {R : List (List Nat)} {r : List Nat} (hr : r ∈ R) : ∃ i, i < R.length ∧ rowOf R i = r := by
  obtain ⟨i, hi, rfl⟩ := List.mem_iff_getElem.mp hr
  refine ⟨i, hi, ?_⟩
  unfold rowOf
  rw [List.getD_eq_getElem?_getD, List.getElem?_eq_getElem hi]
  rfl
theorem least_lt {n : Nat} {R : List (List Nat)} {E : List Nat} (h : Least n R E) : ∀ x ∈ E, x < R.length := fun x hx => by
  rw [h.ends] at hx
  exact List.mem_range.mp (List.mem_filter.mp hx).1
theorem least_ends {n : Nat} {R : List (List Nat)} {E : List Nat} (h : Least n R E) : E.length ≤ R.length := by
  have h1 := congrArg List.length h.ends
  have h2 := List.length_filter_le (fun q => decide (q ∈ E)) (List.range R.length)
  rw [List.length_range] at h2
  omega
theorem gd_mach {n : Nat} {R : List (List Nat)} {E : List Nat} (h : Least n R E) (hn : n ≤ 4) (hl : R.length ≤ 32) : Gd 3 10000 (dMa R E) := by
  have hE := least_lt h
  have hEl := least_ends h
  refine (gd_dMa (L := 4) (fun r hr => ?_) fun x hx => ?_).le (Nat.le_refl _) (by omega)
  · obtain ⟨i, hi, rfl⟩ := row_mem hr
    exact ⟨by rw [h.ok.wide i hi]; exact hn, fun x hx => by have := h.ok.lt i hi x hx; omega⟩
  · have := hE x hx
    omega
theorem sts_succ (f i : Nat) : sts f (i + 1) = sts f i ++ [f + i] := by
  unfold sts
  rw [List.range_succ, List.map_append]
  rfl
/-- moves between some states, over n signs -/
def OkMv (n : Nat) (B : List Nat) (mv : List Mv) : Prop := ∀ x ∈ mv, x.1 ∈ B ∧ x.2.2 ∈ B ∧ ∃ r : Nat, r < n + 1 ∧ x.2.1 = (r : Int) - 1
abbrev sLaw : Stmt := topS 21
def nLaw : List Str := ["_law_script", "_law_bag_here", "_law_turn", "_law_wide", "_law_far", "_law_k", "_law_states", "_law_begins", "_law_ends", "_law_moves", "_law_one", "_law_there", "_law_before", "_law_own", "_law_due", "_law_again", "_law_found", "_law_word", "_law_kept", "_law_row"]
theorem scLaw : FnScope nLaw ["_law_script"] (defScope sLaw) := ⟨rfl, rfl, rfl, by decide +kernel, rfl, by decide +kernel, by decide +kernel⟩
def spLaw (K : PySem.W.Frag) : Sp := fun vs H Q _ => ∃ (a : Addr) (ns : List Int), vs = [.ref a] ∧ SqL K H a (ns.map V.int) ∧ ns.length ≤ 63 ∧ ∀ H' : Hp, Q (.bl true) H'
structure Txt (K : PySem.W.Frag) (mg : Str → Option Value) (f1 f2 f3 f4 f5 f6 f7 f8 f10 f11 f12 f13 f14 f15 f16 f17 f18 f19 f20 : Addr) (fd1 fd2 fd3 fd4 fd5 fd6 fd7 fd8 fd10 fd11 fd12 fd13 fd14 fd15 fd16 fd17 fd18 fd19 fd20 : FuncData) : Prop where
  F1 : Fun K "reached_from" "reached_from" sReach f1 fd1
  b1 : Binds K fd1 ["rows", "begin"] []
  g1 : mg "reached_from" = some (.ref f1)
  F2 : Fun K "parted_once" "parted_once" sPart f2 fd2
  b2 : Binds K fd2 ["rows", "classes", "states"] []
  g2 : mg "parted_once" = some (.ref f2)
  F3 : Fun K "how_many" "how_many" sHow f3 fd3
  b3 : Binds K fd3 ["classes"] []
  g3 : mg "how_many" = some (.ref f3)
  F4 : Fun K "classes_of" "classes_of" sCls f4 fd4
  b4 : Binds K fd4 ["rows", "ends", "states"] []
  g4 : mg "classes_of" = some (.ref f4)
  F5 : FunD K "least_machine" "least_machine" (defArgs sLm) (defBody sLm) (defScope sLm) [] [("begin", .int 0)] f5 fd5
  b5 : ∃ ds, Vals [.int 0] ds ∧ Binds K fd5 ["rows", "ends", "begin"] ds
  g5 : mg "least_machine" = some (.ref f5)
  F6 : Fun K "silent_from" "silent_from" sSil f6 fd6
  b6 : Binds K fd6 ["states", "silent"] []
  g6 : mg "silent_from" = some (.ref f6)
  F7 : Fun K "led_to" "led_to" sLed f7 fd7
  b7 : Binds K fd7 ["states", "place", "reading"] []
  g7 : mg "led_to" = some (.ref f7)
  F8 : Fun K "determined" "determined" sDet f8 fd8
  b8 : Binds K fd8 ["wide", "begins", "moves", "ends"] []
  g8 : mg "determined" = some (.ref f8)
  F10 : Fun K "_law_bag" "_law_bag" sBag f10 fd10
  b10 : Binds K fd10 ["_law_script"] []
  g10 : mg "_law_bag" = some (.ref f10)
  F11 : Fun K "_law_take" "_law_take" sTake f11 fd11
  b11 : Binds K fd11 ["_law_bag_here", "_law_many"] []
  g11 : mg "_law_take" = some (.ref f11)
  F12 : Fun K "_law_alike" "_law_alike" sAlk f12 fd12
  b12 : Binds K fd12 ["_law_found", "_law_due"] []
  g12 : mg "_law_alike" = some (.ref f12)
  F13 : Fun K "_law_mixed" "_law_mixed" sMixed f13 fd13
  b13 : Binds K fd13 ["_law_bag_here", "_law_things"] []
  g13 : mg "_law_mixed" = some (.ref f13)
  F14 : Fun K "_law_some" "_law_some" sSome f14 fd14
  b14 : Binds K fd14 ["_law_bag_here", "_law_things", "_law_rare"] []
  g14 : mg "_law_some" = some (.ref f14)
  F15 : Fun K "_law_least" "_law_least" sLs f15 fd15
  b15 : Binds K fd15 ["_law_rows", "_law_ends"] []
  g15 : mg "_law_least" = some (.ref f15)
  F16 : Fun K "_law_silent" "_law_silent" sSl f16 fd16
  b16 : Binds K fd16 ["_law_states", "_law_moves"] []
  g16 : mg "_law_silent" = some (.ref f16)
  F17 : Fun K "_law_determined" "_law_determined" sDl f17 fd17
  b17 : Binds K fd17 ["_law_wide", "_law_begins", "_law_moves", "_law_ends"] []
  g17 : mg "_law_determined" = some (.ref f17)
  F18 : Fun K "_law_goes" "_law_goes" sGo f18 fd18
  b18 : Binds K fd18 ["_law_word", "_law_begins", "_law_moves", "_law_ends"] []
  g18 : mg "_law_goes" = some (.ref f18)
  F19 : Fun K "_law_words" "_law_words" sWo f19 fd19
  b19 : Binds K fd19 ["_law_wide", "_law_longest"] []
  g19 : mg "_law_words" = some (.ref f19)
  F20 : Fun K "_law_machine_has" "_law_machine_has" sHas f20 fd20
  b20 : Binds K fd20 ["_law_machine", "_law_word"] []
  g20 : mg "_law_machine_has" = some (.ref f20)
  m_len : mg "len" = none
  m_dict : mg "dict" = none
  m_range : mg "range" = none
  m_list : mg "list" = none
  m_set : mg "set" = none
  m_tuple : mg "tuple" = none
  m_int : mg "int" = none
  m_abs : mg "abs" = none
  m_repr : mg "repr" = none
  m_sorted : mg "sorted" = none
  m_any : mg "any" = none
section
variable {P : Program} {w : World} {K : PySem.W.Frag} {mg : Str → Option Value} {base : Heap}
theorem ok_law {f f1 f2 f3 f4 f5 f6 f7 f8 f10 f11 f12 f13 f14 f15 f16 f17 f18 f19 f20 : Addr} {fd fd1 fd2 fd3 fd4 fd5 fd6 fd7 fd8 fd10 fd11 fd12 fd13 fd14 fd15 fd16 fd17 fd18 fd19 fd20 : FuncData} (F : Fun K "law" "law" sLaw f fd)
    (T : Txt K mg f1 f2 f3 f4 f5 f6 f7 f8 f10 f11 f12 f13 f14 f15 f16 f17 f18 f19 f20 fd1 fd2 fd3 fd4 fd5 fd6 fd7 fd8 fd10 fd11 fd12 fd13 fd14 fd15 fd16 fd17 fd18 fd19 fd20) :
    GFn P w K mg base CX0 6 f fd ["_law_script"] (spLaw K) := by
  have GD : FnOk P w K mg base CX0 5 f8 fd8 ["wide", "begins", "moves", "ends"] spDet := ok_det T.F8 T.F6 T.b6 T.g6 T.F7 T.b7 T.g7 T.F5 T.b5 T.g5 T.F1 T.b1 T.g1 T.F4 T.b4 T.g4 T.F2 T.b2 T.g2 T.F3 T.b3 T.g3 T.m_len T.m_tuple T.m_set T.m_list T.m_int T.m_range T.m_dict T.m_sorted T.m_any
  have GB : FnOk P w K mg base CX0 5 f10 fd10 ["_law_script"] (spBag K) := ok_bag T.F10 T.m_abs
  have GT : FnOk P w K mg base CX0 5 f11 fd11 ["_law_bag_here", "_law_many"] spTake := ok_take T.F11 T.m_int
  have GA : GFn P w K mg base CX0 5 f12 fd12 ["_law_found", "_law_due"] (spAlk K) := ok_alk T.F12 T.m_repr
  have GX : FnOk P w K mg base CX0 5 f13 fd13 ["_law_bag_here", "_law_things"] spMixed := ok_mixed T.F13 T.F11 T.b11 T.g11 T.m_int T.m_len
  have GO : FnOk P w K mg base CX0 5 f14 fd14 ["_law_bag_here", "_law_things", "_law_rare"] spSome := ok_some T.F14 T.F11 T.b11 T.g11 T.m_int
  have GL : FnOk P w K mg base CX0 5 f15 fd15 ["_law_rows", "_law_ends"] spLeast := ok_least T.F15 T.m_len T.m_dict T.m_range
  have GDL : FnOk P w K mg base CX0 5 f17 fd17 ["_law_wide", "_law_begins", "_law_moves", "_law_ends"] spDetL := ok_dl T.F17 T.F16 T.b16 T.g16 T.m_len T.m_tuple T.m_set T.m_sorted T.m_range
  have GG : FnOk P w K mg base CX0 5 f18 fd18 ["_law_word", "_law_begins", "_law_moves", "_law_ends"] spGoes := ok_go T.F18 T.F16 T.b16 T.g16 T.m_len T.m_tuple T.m_set T.m_sorted
  have GW : FnOk P w K mg base CX0 5 f19 fd19 ["_law_wide", "_law_longest"] spWords := ok_wo T.F19 T.m_range
  have GH : FnOk P w K mg base CX0 5 f20 fd20 ["_law_machine", "_law_word"] spHas := ok_has T.F20
  refine fun_okG F scLaw (fun vs H Q E h => ?_) (fun cdv A outer s H vs Q E hr hg h => ?_)
  · obtain ⟨a, ns, rfl, _⟩ := h
    rfl
  · obtain ⟨a, ns, rfl, hS, hns, q⟩ := h
    refine ⟨_, (pss_cons (ps_set (i := 1) scLaw.nd rfl (.inl rfl) (pe_call GB hr (by rfl) T.g10 T.F10.kp T.b10 .nil pass0 (pa_cons (pv 0) pa_nil)))
      (pss_cons (ps_for PassesOwn.never rfl (pi_range1 (by rfl) T.m_range (pa_cons pe_int pa_nil)) (pg_name (i := 2) scLaw.nd rfl (.inl rfl))
        (pss_cons (ps_asg (pe_tup (pa_cons (pe_op op_add pe_int (pe_call GT hr (by rfl) T.g11 T.F11.kp T.b11 .nil pass0 (pa_cons (pv 1) (pa_cons pe_int pa_nil)))) (pa_cons (pe_ix ix_list (pe_lst (pa_cons pe_int (pa_cons pe_int (pa_cons (pe_op op_pow pe_int pe_int) pa_nil)))) (pe_call GT hr (by rfl) T.g11 T.F11.kp T.b11 .nil pass0 (pa_cons (pv 1) (pa_cons pe_int pa_nil))) (fun _ _ => rfl)) pa_nil))) (pg_tup rfl (pgs_cons (pg_name (i := 3) scLaw.nd rfl (.inl rfl)) (pgs_cons (pg_name (i := 4) scLaw.nd rfl (.inr rfl)) pgs_nil))))
      (pss_cons (ps_setLc (i := 6) (own := [("_law_k", 5)]) (g := gName 5) (tt := tYes) (te := tOp (rI0 fun i j => .int (i + j)) (tVar 4) (tVar 5)) rfl scLaw.nd rfl rfl (sw_true rfl rfl rfl (by decide +kernel)) (pi_range1 (by rfl) T.m_range (pa_cons (pe_op op_add pe_int (pe_call GT hr (by rfl) T.g11 T.F11.kp T.b11 .nil pass0 (pa_cons (pv 1) (pa_cons pe_int pa_nil)))) pa_nil)) (blkOk_by (own := [("_law_k", 5)]) (N := nLaw) (sc := defScope sLaw) (by decide +kernel)) (fun _ _ _ _ _ => pg_name (i := 5) scLaw.nd rfl (Or.inl rfl)) (fun _ _ _ _ _ => pts_nil) (fun _ _ _ _ _ => pe_op op_add (pv 4) (pv 5)))
      (pss_cons (ps_par3 rfl scLaw.nd (i := 7) (j := 8) (l := 9) rfl rfl rfl (by decide) (by decide) (by decide) rfl rfl rfl (pa_cons (pe_call GO hr (by rfl) T.g14 T.F14.kp T.b14 .nil pass0 (pa_cons (pv 1) (pa_cons (pv 6) (pa_cons pe_int pa_nil)))) (pa_cons (pe_call GO hr (by rfl) T.g14 T.F14.kp T.b14 .nil pass0 (pa_cons (pv 1) (pa_cons (pv 6) (pa_cons pe_int pa_nil)))) (pa_cons (pe_lst pa_nil) pa_nil))) (by rfl))
      (pss_cons (ps_for PassesOwn.never rfl (pi_range1 (by rfl) T.m_range (pa_cons (pe_call GT hr (by rfl) T.g11 T.F11.kp T.b11 .nil pass0 (pa_cons (pv 1) (pa_cons pe_int pa_nil))) pa_nil)) (pg_name (i := 5) scLaw.nd rfl (.inl rfl))
        (pss_cons (ps_par rfl scLaw.nd (i := 10) (j := 11) rfl rfl (by decide) rfl rfl (pa_cons (pe_ix ix_list (pv 6) (pe_call GT hr (by rfl) T.g11 T.F11.kp T.b11 .nil pass0 (pa_cons (pv 1) (pa_cons (pe_callB call_len_seq (by rfl) T.m_len bLen (pa_cons (pv 6) pa_nil)) pa_nil))) (fun _ _ => rfl)) (pa_cons (pe_ix ix_list (pv 6) (pe_call GT hr (by rfl) T.g11 T.F11.kp T.b11 .nil pass0 (pa_cons (pv 1) (pa_cons (pe_callB call_len_seq (by rfl) T.m_len bLen (pa_cons (pv 6) pa_nil)) pa_nil))) (fun _ _ => rfl)) pa_nil)) (by rfl))
      (pss_one (ps_expr (pe_bm PySem.F.plainAttrs_list PySem.F.slot_list_append PySem.F.type_list_append mt_append (pv 9) (pa_cons (pe_tup (pa_cons (pv 10) (pa_cons (pe_op op_sub (pe_call GT hr (by rfl) T.g11 T.F11.kp T.b11 .nil pass0 (pa_cons (pv 1) (pa_cons (pe_op op_add (pv 3) pe_int) pa_nil))) pe_int) (pa_cons (pv 11) pa_nil)))) pa_nil))))))
      (pss_cons (ps_par rfl scLaw.nd (i := 7) (j := 9) rfl rfl (by decide) rfl rfl (pa_cons (pe_op op_cat (pv 7) (pe_slice sl_list (pv 7) po_none (po_some pe_int))) (pa_cons (pe_op op_cat (pv 9) (pe_slice sl_list (pv 9) po_none (po_some (pe_call GT hr (by rfl) T.g11 T.F11.kp T.b11 .nil pass0 (pa_cons (pv 1) (pa_cons pe_int pa_nil)))))) pa_nil)) (by rfl))
      (pss_cons (ps_set (i := 8) scLaw.nd rfl (.inl rfl) (pe_call GX hr (by rfl) T.g13 T.F13.kp T.b13 .nil pass0 (pa_cons (pv 1) (pa_cons (pe_op op_cat (pv 8) (pe_slice sl_list (pv 8) po_none (po_some pe_int))) pa_nil))))
      (pss_cons (ps_par rfl scLaw.nd (i := 12) (j := 13) rfl rfl (by decide) rfl rfl (pa_cons (pe_callB (call_repr_data hg hr.units) (by rfl) T.m_repr bRepr (pa_cons (pe_lst (pa_cons (pv 7) (pa_cons (pv 9) (pa_cons (pv 8) pa_nil)))) pa_nil)) (pa_cons (pe_call GDL hr (by rfl) T.g17 T.F17.kp T.b17 .nil pass0 (pa_cons (pv 3) (pa_cons (pv 7) (pa_cons (pv 9) (pa_cons (pv 8) pa_nil))))) pa_nil)) (by rfl))
      (pss_cons (ps_set (i := 14) scLaw.nd rfl (.inl rfl) (pe_call GL hr (by rfl) T.g15 T.F15.kp T.b15 .nil pass0 (pa_cons (pe_ix ix_tup (pv 13) pe_int (fun _ _ => rfl)) (pa_cons (pe_ix ix_tup (pv 13) pe_int (fun _ _ => rfl)) pa_nil))))
      (pss_one (ps_for PassesOwn.never rfl (pi_range1 (by rfl) T.m_range (pa_cons pe_int pa_nil)) (pg_name (i := 15) scLaw.nd rfl (.inl rfl))
        (pss_cons (ps_set (i := 16) scLaw.nd rfl (.inl rfl) (pe_call GD hr (by rfl) T.g8 T.F8.kp T.b8 .nil pass0 (pa_cons (pv 3) (pa_cons (pv 7) (pa_cons (pv 9) (pa_cons (pv 8) pa_nil))))))
      (pss_cons (ps_if (pw_or (pt_not (pt_val (pe_callG GA hr hg (by rfl) T.g12 T.F12.kp T.b12 .nil pass0 (pa_cons (pv 16) (pa_cons (pv 14) pa_nil))))) (pw_or1 (pt_cmpR op_ne (pe_callB (call_repr_data hg hr.units) (by rfl) T.m_repr bRepr (pa_cons (pe_lst (pa_cons (pv 7) (pa_cons (pv 9) (pa_cons (pv 8) pa_nil)))) pa_nil)) (pv 12) (nomark _)))).pt (pss_one (ps_ret pe_bl)) pss_nil)
      (pss_cons (ps_for PassesOwn.never rfl (pi_list (pe_call GW hr (by rfl) T.g19 T.F19.kp T.b19 .nil pass0 (pa_cons (pv 3) (pa_cons pe_int pa_nil)))) (pg_name (i := 17) scLaw.nd rfl (.inl rfl))
        (pss_one (ps_if (pt_cmpR op_ne (pe_call GH hr (by rfl) T.g20 T.F20.kp T.b20 .nil pass0 (pa_cons (pv 16) (pa_cons (pv 17) pa_nil))) (pe_call GG hr (by rfl) T.g18 T.F18.kp T.b18 .nil pass0 (pa_cons (pv 17) (pa_cons (pv 7) (pa_cons (pv 9) (pa_cons (pv 8) pa_nil))))) (nomark _)) (pss_one (ps_ret pe_bl)) pss_nil)))
      (pss_cons (ps_setLc (i := 18) (own := [("_law_row", 19)]) (g := gName 19) (tt := tYes) (te := tCB (fun xs H Q => ∃ p ys, xs = [V.ref p] ∧ (SqL K H p ys ∨ SqT K H p ys) ∧ ∀ l, H l = none → Q (.ref l) (upd H l (.lst ys))) (tCons (tVar 19) tNil)) rfl scLaw.nd rfl rfl (sw_true rfl rfl rfl (by decide +kernel)) (pi_list (pe_ix ix_tup (pv 16) pe_int (fun _ _ => rfl))) (blkOk_by (own := [("_law_row", 19)]) (N := nLaw) (sc := defScope sLaw) (by decide +kernel)) (fun _ _ _ _ _ => pg_name (i := 19) scLaw.nd rfl (Or.inl rfl)) (fun _ _ _ _ _ => pts_nil) (fun _ _ _ _ _ => pe_callTy call_list_of (by rfl) T.m_list bList (pa_cons (pv 19) pa_nil)))
      (pss_cons (ps_expr (pe_bm0 PySem.F.plainAttrs_list PySem.F.slot_list_clear PySem.F.type_list_clear mt_clear (pe_ix ix_list (pe_ix ix_tup (pv 16) pe_int (fun _ _ => rfl)) pe_int (fun _ _ => rfl))))
      (pss_cons (ps_if (pt_cmpR (op_neD hr.units) (pe_slice sl_list (pe_ix ix_tup (pv 16) pe_int (fun _ _ => rfl)) (po_some pe_int) po_none) (pe_slice sl_list (pv 18) (po_some pe_int) po_none) (nomark _)) (pss_one (ps_ret pe_bl)) pss_nil)
      (pss_one (ps_expr (pe_bm PySem.F.plainAttrs_list PySem.F.slot_list_append PySem.F.type_list_append mt_append (pe_ix ix_tup (pv 16) pe_int (fun _ _ => rfl)) (pa_cons pe_non pa_nil)))))))))))))))))))))
      (pss_one (ps_ret pe_bl)))), ?_⟩
    -- bag
    refine ⟨_, rfl, a, ns, rfl, hS, hns, fun H0 g c s0 ng nc hB0 => ?_⟩
    refine ⟨4, rfl, by decide, by decide, ?_⟩
    refine for_range (n := 4) (fun i σ H => ∃ (y2 y3 y4 y5 y6 y7 y8 y9 y10 y11 y12 y13 y14 y15 y16 y17 y18 : Option V), σ = [some (.ref a), some (.ref g), y2, y3, y4, y5, y6, y7, y8, y9, y10, y11, y12, y13, y14, y15, y16, y17, y18, none] ∧ Bag H g c) ⟨none, none, none, none, none, none, none, none, none, none, none, none, none, none, none, none, none, rfl, hB0⟩ ?_ ?_
    · clear hB0 s0 ng nc H0 hS hns ns q
      rintro i σ H0 hi ⟨y2, y3, y4, y5, y6, y7, y8, y9, y10, y11, y12, y13, y14, y15, y16, y17, y18, rfl, hB0⟩
      -- wide, far
      refine ⟨_, rfl, g, c, 4, rfl, hB0, by decide, by decide, fun H1 r hr1 hB1 b1 => ?_⟩
      refine ⟨_, _, rfl, rfl, ?_⟩
      refine ⟨_, _, rfl, rfl, ⟨by decide, by decide, by decide⟩, ?_⟩
      refine ⟨by show 3 ≤ sizeLine; decide, fun l1 nl1 => ?_⟩
      refine ⟨_, rfl, g, c, 3, rfl, hB1.new nl1, by decide, by decide, fun H2 r2 hr2 hB2 b2 => ?_⟩
      have hl2 := b2 _ _ (hB1.ne nl1) upd_same
      obtain ⟨far, hfar, efar⟩ : ∃ far ∈ fars, atI [V.int 0, V.int 5, V.int (10 ^ (12 : Int).toNat)] (r2 : Int) = some (nV far) := by
        have h3 : r2 < 3 := by omega
        rcases (show r2 = 0 ∨ r2 = 1 ∨ r2 = 2 by omega) with rfl | rfl | rfl
        · exact ⟨0, by decide, rfl⟩
        · exact ⟨5, by decide, rfl⟩
        · exact ⟨1000000000000, by decide, rfl⟩
      refine ⟨l1, _, _, _, rfl, rfl, SqL.of hl2, efar, ?_⟩
      refine ⟨by show 2 ≤ sizeLine; decide, fun tq ntq => ?_⟩
      refine ⟨tq, [V.int (1 + (r : Int)), nV far], rfl, SqT.of upd_same, rfl, V.int (1 + (r : Int)), [nV far], rfl, nV far, [], rfl, rfl, ?_⟩
      have hB3 := hB2.new (o := .tup [.int (1 + (r : Int)), nV far]) ntq
      generalize (upd H2 tq (.tup [.int (1 + (r : Int)), nV far])) = H3 at hB3
      obtain ⟨n, en, hn1, hn4⟩ : ∃ n : Nat, (1 + (r : Int)) = (n : Int) ∧ 1 ≤ n ∧ n ≤ 4 := ⟨1 + r, by omega, by omega, by omega⟩
      rw [en]
      clear en hr1 b1 b2 nl1 hl2 efar ntq hr2 hB1 hB2 hB0
      -- states
      refine ⟨_, rfl, g, c, 5, rfl, hB3, by decide, by decide, fun H4 m1 hm1 hB4 b4 => ?_⟩
      refine ⟨_, _, rfl, rfl, _, rfl, by omega, by omega, fun pS npS => ?_⟩
      refine lc_range (n := (1 + (m1 : Int)).toNat) (fun i H5 => Same H4 H5 ∧ H5 pS = some (.lst (nVs (sts far i)))) ⟨same_new npS, upd_same⟩ ?_ ?_
      · rintro i H5 hi ⟨s5, h5⟩
        refine ⟨rfl, ?_⟩
        refine ⟨_, rfl, _, rfl, _, _, rfl, rfl, _, h5, by rw [nVs_len, sts_len]; exact szBig (by omega), fun b o e => ?_, ?_⟩
        · rw [upd_ne (ne_of_none e npS)]
          exact s5 _ _ e
        · rw [upd_same, sts_succ, nVs_snoc]
          refine congrArg (fun l => some (HO.lst (nVs (sts far i) ++ [V.int l]))) ?_
          omega
      rintro H5 ⟨s5, h5⟩
      obtain ⟨m, em, hm0, hm5⟩ : ∃ m : Nat, (1 + (m1 : Int)).toNat = m ∧ 1 ≤ m ∧ m ≤ 5 := ⟨1 + m1, by omega, by omega, by omega⟩
      rw [em] at h5
      have hB5 := hB4.same s5
      have pSg : pS ≠ g := hB4.ne npS
      clear em hm1 b4 s5 npS hB4 hB3 H3 H4
      have hBl : (sts far m).length ≤ 5 := by rw [sts_len]; exact hm5
      have hBp := sts_up far m
      have hBo : ∀ x ∈ sts far m, (x : Int) ∈ okInts := fun x hx => sts_ok hfar hm5 hx
      have hBlm := sts_len far m
      generalize sts far m = B at h5 hBl hBp hBo hBlm
      -- begins, ends, moves
      refine ⟨_, rfl, _, rfl, g, c, pS, B, 2, rfl, hB5, h5, pSg, by omega, by decide, by decide, fun H6 pb S1 hB6 b6 npb hpb hS1 hS1l => ?_⟩
      have pbg : pb ≠ g := hB5.ne npb
      have h6 := b6 _ _ pSg h5
      refine ⟨_, rfl, _, rfl, g, c, pS, B, 2, rfl, hB6, h6, pSg, by omega, by decide, by decide, fun H7 pe E1 hB7 b7 npe hpe hE1 hE1l => ?_⟩
      have peg : pe ≠ g := hB6.ne npe
      have h7 := b7 _ _ pSg h6
      have hpb7 := b7 _ _ pbg hpb
      refine ⟨by show 0 ≤ sizeLine; decide, fun pm npm => ?_⟩
      have s8 : Same H7 (upd H7 pm (.lst [])) := same_new npm
      have hpm8 : (upd H7 pm (.lst [])) pm = some (.lst []) := upd_same
      have nS : pS ≠ pm := ne_of_none h7 npm
      have nb : pb ≠ pm := ne_of_none hpb7 npm
      have ne : pe ≠ pm := ne_of_none hpe npm
      have pmg : pm ≠ g := hB7.ne npm
      have pmc : pm ≠ c := hB7.ne2 npm
      generalize (upd H7 pm (.lst [])) = H8 at s8 hpm8
      refine ⟨_, _, _, rfl, ?_⟩
      have hB8 := hB7.same s8
      have h8 := s8 _ _ h7
      have hpb8 := s8 _ _ hpb7
      have hpe8 := s8 _ _ hpe
      clear s8 hB7 h7 hpb7 hpe npm b7 npe hB6 h6 hpb b6 npb hB5 h5
      -- the moves are drawn
      refine ⟨_, rfl, g, c, 13, rfl, hB8, by decide, by decide, fun H9 r9 hr9 hB9 b9 => ?_⟩
      refine ⟨_, rfl, by omega, by omega, ?_⟩
      refine for_range (n := (r9 : Int).toNat) (fun i' σ H => ∃ (y5 y10 y11 : Option V) (ms : List Addr) (mv : List Mv), σ = [some (.ref a), some (.ref g), some (.int (0 + (i : Int))), some (nV n), some (nV far), y5, some (.ref pS), some (.ref pb), some (.ref pe), some (.ref pm), y10, y11, y12, y13, y14, y15, y16, y17, y18, none] ∧ Bag H g c ∧ H pS = some (.lst (nVs B)) ∧ H pb = some (.lst (nVs S1)) ∧ H pe = some (.lst (nVs E1)) ∧ MvAt H pm ms mv ∧ (∀ t ∈ ms, t ≠ g ∧ t ≠ pm) ∧ mv.length = i' ∧ OkMv n B mv)
        ⟨y5, y10, y11, [], [], rfl, hB9, b9 _ _ pSg h8, b9 _ _ pbg hpb8, b9 _ _ peg hpe8, ⟨b9 _ _ pmg hpm8, .nil⟩, (fun t ht => nomatch ht), rfl, (fun x hx => nomatch hx)⟩ ?_ ?_
      · clear hB8 h8 hpb8 hpe8 hpm8 hB9 b9 H8 H9 y5 y10 y11
        rintro i' σ H1 hi' ⟨y5, y10, y11, ms, mv, rfl, hB1, hS1', hb1, he1, hm1', hms, hmvl, hok⟩
        -- one
        refine ⟨_, rfl, _, rfl, _, rfl, pS, _, rfl, .inl (SqL.of hS1'), g, c, _, rfl, hB1, by rw [nVs_len]; omega, by rw [nVs_len]; omega, fun H2 k1 hk1 hB2 b2 => ?_⟩
        rw [nVs_len] at hk1
        have hS2 := b2 _ _ pSg hS1'
        have hk1' : k1 < B.length := by omega
        refine ⟨pS, _, _, _, rfl, rfl, SqL.of hS2, atI_nat (nVs_get (List.getElem?_eq_getElem hk1')), ?_⟩
        -- there
        refine ⟨_, rfl, _, rfl, _, rfl, pS, _, rfl, .inl (SqL.of hS2), g, c, _, rfl, hB2, by rw [nVs_len]; omega, by rw [nVs_len]; omega, fun H3 k2 hk2 hB3 b3 => ?_⟩
        rw [nVs_len] at hk2
        have hS3 := b3 _ _ pSg hS2
        have hk2' : k2 < B.length := by omega
        refine ⟨pS, _, _, _, rfl, rfl, SqL.of hS3, atI_nat (nVs_get (List.getElem?_eq_getElem hk2')), ?_⟩
        refine ⟨_, _, rfl, ?_⟩
        have b23 := b2.trans b3
        -- the move
        refine ⟨_, rfl, .inl ⟨rfl, _, SqL.of (b23 _ _ pmg hm1'.1)⟩, ?_⟩
        refine ⟨_, rfl, _, rfl, _, rfl, _, _, rfl, rfl, g, c, _, rfl, hB3, by omega, by omega, fun H4 k3 hk3 hB4 b4 => ?_⟩
        refine ⟨_, _, rfl, rfl, _, rfl, by show 3 ≤ sizeLine; decide, fun t nt => ?_⟩
        have b14 := b23.trans b4
        have hm4 := b14 _ _ pmg hm1'.1
        have ntm : pm ≠ t := ne_of_none hm4 nt
        have hml := paired_length hm1'.2
        refine ⟨pm, _, _, rfl, rfl, by rw [upd_ne ntm]; exact hm4, by rw [List.length_map]; exact szBig (by omega), ?_⟩
        have keep : ∀ b o, b ≠ g → b ≠ pm → H1 b = some o → (upd (upd H4 t (.tup [nV B[k1], .int ((k3 : Int) - 1), nV B[k2]])) pm (.lst (ms.map V.ref ++ [.ref t]))) b = some o := fun b o nbg nbm e => by
          rw [upd_ne nbm, upd_ne (ne_of_none (b14 _ _ nbg e) nt)]
          exact b14 _ _ nbg e
        refine ⟨_, _, _, ms ++ [t], mv ++ [(B[k1], (k3 : Int) - 1, B[k2])], rfl, (hB4.new nt).upd_other pmg pmc, keep _ _ pSg nS hS1', keep _ _ pbg nb hb1, keep _ _ peg ne he1, ⟨by rw [upd_same, List.map_append]; rfl, ?_⟩, ?_, by rw [List.length_append, List.length_singleton, hmvl], ?_⟩
        · refine paired_snoc (paired_keep hm1'.2 fun b hb y hy => ?_) ?_
          · exact keep _ _ (hms b hb).1 (hms b hb).2 hy
          · rw [upd_ne ntm.symm, upd_same]
        · intro b hb
          rcases List.mem_append.mp hb with z | z
          · exact hms b z
          · rw [List.mem_singleton] at z
            rw [z]
            exact ⟨hB4.ne nt, ntm.symm⟩
        · intro x hx
          rcases List.mem_append.mp hx with z | z
          · exact hok x z
          · rw [List.mem_singleton] at z
            rw [z]
            exact ⟨List.getElem_mem _, List.getElem_mem _, k3, by omega, rfl⟩
      · clear hB8 h8 hpb8 hpe8 hpm8 hB9 b9 H8 H9 y5 y10 y11
        rintro σ H1 ⟨y5, y10, y11, ms, mv, rfl, hB1, hS1', hb1, he1, hm1', hms, hmvl, hok⟩
        rw [Int.toNat_natCast] at hmvl
        -- begins + begins[:1], moves + moves[:..]
        refine ⟨_, rfl, _, rfl, 1, rfl, pb, _, rfl, SqL.of hb1, fun p1 n1 => ?_⟩
        obtain ⟨Z1, eZ1, hZ1, hZ1l⟩ := cut_nVs S1 none (some 1)
        rw [eZ1]
        have s2 : Same H1 (upd H1 p1 (.lst (nVs Z1))) := same_new n1
        have h12 : (upd H1 p1 (.lst (nVs Z1))) p1 = some (.lst (nVs Z1)) := upd_same
        generalize (upd H1 p1 (.lst (nVs Z1))) = H2 at s2 h12
        refine ⟨pb, p1, _, _, rfl, rfl, s2 _ _ hb1, h12, by rw [nVs_len, nVs_len]; exact szBigLe (by omega), fun pB nB => ?_⟩
        have s3 : Same H2 (upd H2 pB (.lst (nVs S1 ++ nVs Z1))) := same_new nB
        have hB3' : (upd H2 pB (.lst (nVs S1 ++ nVs Z1))) pB = some (.lst (nVs (S1 ++ Z1))) := by rw [upd_same]; unfold nVs; rw [List.map_append]
        generalize (upd H2 pB (.lst (nVs S1 ++ nVs Z1))) = H3 at s3 hB3'
        have s13 := s2.trans s3
        have hBg3 := hB1.same s13
        have pBg : pB ≠ g := (hB1.same s2).ne nB
        refine ⟨_, rfl, _, rfl, _, rfl, g, c, 2, rfl, hBg3, by decide, by decide, fun H4 r4 hr4 hB4 b4 => ?_⟩
        have hm4 : MvAt H4 pm ms mv := ⟨b4 _ _ pmg (s13 _ _ hm1'.1), paired_keep hm1'.2 fun b hb y hy => b4 _ _ (hms b hb).1 (s13 _ _ hy)⟩
        have hB4' := b4 _ _ pBg hB3'
        have he4 := b4 _ _ peg (s13 _ _ he1)
        refine ⟨_, rfl, pm, _, rfl, SqL.of hm4.1, fun p5 n5 => ?_⟩
        obtain ⟨zs, ZM, eZM, hzp, hzs, hZM, hZMl⟩ := cut_paired hm4.2 none (some (r4 : Int))
        rw [eZM]
        have s5 : Same H4 (upd H4 p5 (.lst (zs.map V.ref))) := same_new n5
        have h55 : (upd H4 p5 (.lst (zs.map V.ref))) p5 = some (.lst (zs.map V.ref)) := upd_same
        generalize (upd H4 p5 (.lst (zs.map V.ref))) = H5 at s5 h55
        have hml := paired_length hm4.2
        have hzl := paired_length hzp
        refine ⟨pm, p5, _, _, rfl, rfl, s5 _ _ hm4.1, h55, by rw [List.length_map, List.length_map]; exact szBigLe (by omega), fun pM nM => ?_⟩
        have s6 : Same H5 (upd H5 pM (.lst (ms.map V.ref ++ zs.map V.ref))) := same_new nM
        have hm6 : MvAt (upd H5 pM (.lst (ms.map V.ref ++ zs.map V.ref))) pM (ms ++ zs) (mv ++ ZM) := by
          refine ⟨by rw [upd_same, List.map_append], ?_⟩
          exact paired_append (paired_keep hm4.2 fun b hb y hy => s6 _ _ (s5 _ _ hy)) (paired_keep hzp fun b hb y hy => s6 _ _ (s5 _ _ hy))
        generalize (upd H5 pM (.lst (ms.map V.ref ++ zs.map V.ref))) = H6 at s6 hm6
        refine ⟨_, _, rfl, ?_⟩
        have s46 := s5.trans s6
        have hB6 := hB4.same s46
        have hb6 := s46 _ _ hB4'
        have he6 := s46 _ _ he4
        have pMg : pM ≠ g := (hB4.same s5).ne nM
        have hmsg : ∀ t ∈ ms ++ zs, t ≠ g := fun t ht => by
          rcases List.mem_append.mp ht with z | z
          · exact (hms t z).1
          · exact (hms t (hzs t z)).1
        have hok6 : OkMv n B (mv ++ ZM) := fun x hx => by
          rcases List.mem_append.mp hx with z | z
          · exact hok x z
          · exact hok x (hZM x z)
        have hmvl6 : (mv ++ ZM).length ≤ 24 := by rw [List.length_append]; omega
        have hSB6 : ∀ x ∈ S1 ++ Z1, x ∈ B := fun x hx => by
          rcases List.mem_append.mp hx with z | z
          · exact hS1 x z
          · exact hS1 x (hZ1 x z)
        have hSl6 : (S1 ++ Z1).length ≤ 10 := by rw [List.length_append]; omega
        clear s46 he4 hB4' hB4 b4 hm4 hzp h55 s5 s6 n5 nM hml hzl hZMl hzs hZM hok hmvl hms hm1' hb1 he1 hS1' hB1 n1 nB s2 s3 s13 h12 hBg3 hB3' eZ1 eZM H1 H2 H3 H4 H5
        generalize ms ++ zs = ms2 at hm6 hmsg
        generalize mv ++ ZM = mv2 at hm6 hok6 hmvl6
        generalize S1 ++ Z1 = S0 at hb6 hSB6 hSl6
        -- ends
        refine ⟨_, rfl, _, rfl, _, rfl, 1, rfl, pe, _, rfl, SqL.of he6, fun p1 n1 => ?_⟩
        obtain ⟨Z2, eZ2, hZ2, hZ2l⟩ := cut_nVs E1 none (some 1)
        rw [eZ2]
        have s7 : Same H6 (upd H6 p1 (.lst (nVs Z2))) := same_new n1
        have h17 : (upd H6 p1 (.lst (nVs Z2))) p1 = some (.lst (nVs Z2)) := upd_same
        generalize (upd H6 p1 (.lst (nVs Z2))) = H7 at s7 h17
        refine ⟨pe, p1, _, _, rfl, rfl, s7 _ _ he6, h17, by rw [nVs_len, nVs_len]; exact szBigLe (by omega), fun p2 n2 => ?_⟩
        have s8 : Same H7 (upd H7 p2 (.lst (nVs E1 ++ nVs Z2))) := same_new n2
        have h28 : (upd H7 p2 (.lst (nVs E1 ++ nVs Z2))) p2 = some (.lst (nVs (E1 ++ Z2))) := by rw [upd_same]; unfold nVs; rw [List.map_append]
        generalize (upd H7 p2 (.lst (nVs E1 ++ nVs Z2))) = H8 at s8 h28
        have s68 := s7.trans s8
        have p2g : p2 ≠ g := (hB6.same s7).ne n2
        refine ⟨g, c, p2, E1 ++ Z2, rfl, hB6.same s68, h28, p2g, by rw [List.length_append]; omega, fun H9 pE ends hB9 b9 nE hE9 hperm => ?_⟩
        have hendB : ∀ x ∈ ends, x ∈ B := fun x hx => by
          rcases List.mem_append.mp (hperm.mem_iff.mp hx) with z | z
          · exact hE1 x z
          · exact hE1 x (hZ2 x z)
        have hendl : ends.length ≤ 10 := by
          have := hperm.length_eq
          rw [List.length_append] at this
          omega
        have hb9 := b9 _ _ pBg (s68 _ _ hb6)
        have hm9 : MvAt H9 pM ms2 mv2 := ⟨b9 _ _ pMg (s68 _ _ hm6.1), paired_keep hm6.2 fun b hb y hy => b9 _ _ (hmsg b hb) (s68 _ _ hy)⟩
        clear b9 nE hperm h28 s68 s7 s8 n1 n2 h17 eZ2 hZ2 hZ2l hB6 hb6 he6 hm6 hmsg H6 H7 H8
        have gdI : Gd 3 6000 (.list [dNs S0, dMvs mv2, dNs ends]) := by
          refine (gd_list (e := 2) (gdAll_cons ((gd_okNs fun x hx => hBo x (hSB6 x hx)).le (by decide) (Nat.le_refl _)) (gdAll_cons (gd_dMvs fun x hx => ?_) (gdAll_cons ((gd_okNs fun x hx => hBo x (hendB x hx)).le (by decide) (Nat.le_refl _)) gdAll_nil)))).le (by decide) (by omega)
          obtain ⟨h1, h2, k, hk, e⟩ := hok6 x hx
          refine ⟨hBo _ h1, ?_, hBo _ h2⟩
          rw [e]
          exact okPl (by omega)
        -- before, own
        refine ⟨_, rfl, _, rfl, _, rfl, by show 3 ≤ sizeLine; decide, fun pl npl => ?_⟩
        have s10 : Same H9 (upd H9 pl (.lst [.ref pB, .ref pM, .ref pE])) := same_new npl
        have hpl : (upd H9 pl (.lst [.ref pB, .ref pM, .ref pE])) pl = some (.lst [.ref pB, .ref pM, .ref pE]) := upd_same
        generalize (upd H9 pl (.lst [.ref pB, .ref pM, .ref pE])) = H10 at s10 hpl
        have hb10 := s10 _ _ hb9
        have hm10 := hm9.same s10
        have he10 := s10 _ _ hE9
        refine ⟨pl, .list [dNs S0, dMvs mv2, dNs ends], rfl, .lst (SqL.of hpl) (.cons (dp_nVs hb10) (.cons (dp_moves hm10) (.cons (dp_nVs he10) .nil))), gdI.shw, gdI.nod, Nat.le_trans gdI.dep (by decide), gdI.short (by decide) (by decide), ?_⟩
        have hpl1 : ∀ x ∈ mv2, -1 ≤ x.2.1 := fun x hx => by
          obtain ⟨_, _, k, _, e⟩ := hok6 x hx
          omega
        have hmB : ∀ x ∈ mv2, x.2.2 ∈ B := fun x hx => (hok6 x hx).2.1
        refine ⟨_, rfl, _, rfl, _, rfl, _, rfl, pB, pM, pE, ms2, mv2, n, S0, ends, B, rfl, hb10, hm10, he10, hn4, by omega, by omega, by omega, hBp, hBl, hSB6, hmB, fun H11 to po eo yo Ro Eo s11 hto hRo hEo hMo h0o hlo hElo hacco => ?_⟩
        refine ⟨_, _, rfl, ?_⟩
        -- due
        refine ⟨_, rfl, to, _, _, _, rfl, rfl, SqT.of hto, (rfl : atI [V.ref po, V.ref eo] 0 = some (.ref po)), _, rfl, to, _, _, _, rfl, rfl, SqT.of hto, (rfl : atI [V.ref po, V.ref eo] 1 = some (.ref eo)), po, eo, yo, Ro, n, Eo, rfl, hRo, hMo, h0o, hlo, by omega, hEo, by omega, fun H12 d1 pd ed yd Rd Ed s12 _ _ _ _ hd1 hRd hEd hLd hAd hld => ?_⟩
        have s1012 := s11.trans s12
        have hBd := (hB9.same s10).same s1012
        have hbd := s1012 _ _ hb10
        have hmd := hm10.same s1012
        have hed := s1012 _ _ he10
        clear s1012 s12 s11 hto hRo hEo he10 hm10 hb10 hpl s10 npl hb9 hm9 hE9 hB9
        have hRd32 : Rd.length ≤ 32 := by omega
        have gdD := gd_mach hLd hn4 hRd32
        have hacc1 : ∀ w, Wd n w → (runM Rd 0 w ∈ Ed ↔ Meets (w.foldl (nxS mv2) (silF mv2 fun x => x ∈ S0)) ends) := fun w hw => (hAd w hw).trans (hacco w hw)
        clear hacco hAd hMo h0o hlo hElo hld
        -- again
        refine ⟨2, rfl, by decide, by decide, ?_⟩
        refine for_range (n := 2) (fun j σ H => ∃ (y15 y16 y17 y18 : Option V), σ = [some (.ref a), some (.ref g), some (.int (0 + (i : Int))), some (nV n), some (nV far), y5, some (.ref pS), some (.ref pB), some (.ref pE), some (.ref pM), y10, y11, some (.str (PyData.list [dNs S0, dMvs mv2, dNs ends]).shown), some (.ref to), some (.ref d1), y15, y16, y17, y18, none] ∧ Same H12 H) ⟨y15, y16, y17, y18, rfl, fun _ _ z => z⟩ ?_ ?_
        · clear y15 y16 y17 y18
          rintro j σ H hj ⟨y15, y16, y17, y18, rfl, sd⟩
          have hb := sd _ _ hbd
          have hm := hmd.same sd
          have he := sd _ _ hed
          -- found
          refine ⟨_, rfl, _, rfl, _, rfl, _, rfl, pB, pM, pE, ms2, mv2, n, S0, ends, B, rfl, hb, hm, he, hn4, by omega, by omega, by omega, hpl1, hBp, hBl, hSB6, hmB, fun H1 t q1 w1 zs1 Ra Ea s1 nt nq1 nw1 ne1 nz1 nd1 ht hq1 hw1 La acca la => ?_⟩
          obtain ⟨ea1, ea2⟩ := least_unique La hLd (fun w hw => (acca w hw).trans (hacc1 w hw).symm)
          subst ea1 ea2
          have sd1 := sd.trans s1
          -- alike
          refine ⟨_, rfl, _, rfl, t, d1, dMa Ra Ea, 3, 10000, rfl, dp_mach ht hq1 hw1, dp_mach (sd1 _ _ hd1) (hRd.same sd1) (sd1 _ _ hEd), gdD, by decide, by decide, true, rfl, ?_⟩
          refine ⟨_, rfl, _, rfl, _, rfl, by show 3 ≤ sizeLine; decide, fun pl nl => ?_⟩
          have s4 : Same H1 (upd H1 pl (.lst [.ref pB, .ref pM, .ref pE])) := same_new nl
          have hp4 : (upd H1 pl (.lst [.ref pB, .ref pM, .ref pE])) pl = some (.lst [.ref pB, .ref pM, .ref pE]) := upd_same
          generalize (upd H1 pl (.lst [.ref pB, .ref pM, .ref pE])) = H4 at s4 hp4
          have sd4 := sd1.trans s4
          have hb4 := sd4 _ _ hbd
          have hm4 := hmd.same sd4
          have he4 := sd4 _ _ hed
          refine ⟨pl, .list [dNs S0, dMvs mv2, dNs ends], rfl, .lst (SqL.of hp4) (.cons (dp_nVs hb4) (.cons (dp_moves hm4) (.cons (dp_nVs he4) .nil))), gdI.shw, gdI.nod, Nat.le_trans gdI.dep (by decide), gdI.short (by decide) (by decide), _, rfl, rfl, _, rfl, ?_⟩
          rw [decide_eq_true rfl]
          -- words
          refine ⟨_, rfl, n, rfl, hn4, fun H5 pw us ws s5 hpw hws hWd => ?_⟩
          have s15 := s4.trans s5
          have ht5 := s15 _ _ ht
          have hq5 := hq1.same s15
          have hw5 := s15 _ _ hw1
          have sd5 := sd4.trans s5
          refine ⟨pw, rfl, ⟨_, SqL.of hpw⟩, ?_⟩
          refine for_list (K := K) (a := pw) (xs := us.map V.ref) (fun l σ H => ∃ (y17 : Option V), σ = [some (.ref a), some (.ref g), some (.int (0 + (i : Int))), some (nV n), some (nV far), y5, some (.ref pS), some (.ref pB), some (.ref pE), some (.ref pM), y10, y11, some (.str (PyData.list [dNs S0, dMvs mv2, dNs ends]).shown), some (.ref to), some (.ref d1), some (.int (0 + (j : Int))), some (.ref t), y17, y18, none] ∧ Same H5 H) ⟨y17, rfl, fun _ _ z => z⟩ (fun l σ H _ ⟨_, _, s6⟩ => SqL.of (s6 _ _ hpw)) ?_ ?_
          · rintro l v σ H6 hl ⟨y17', rfl, s6⟩
            rw [List.getElem?_map] at hl
            obtain ⟨u, hu', rfl⟩ := Option.map_eq_some_iff.mp hl
            obtain ⟨x, hx, hux⟩ := Rg.paired_get hws hu'
            have hWx := hWd x (List.mem_of_getElem? hx)
            have sd6 := sd5.trans s6
            refine ⟨_, rfl, _, rfl, t, q1, w1, u, zs1, Ra, Ea, x, n, rfl, s6 _ _ ht5, hq5.same s6, s6 _ _ hw5, s6 _ _ hux, La.ok, La.ne, hWx, ?_⟩
            refine ⟨_, rfl, _, rfl, _, rfl, _, rfl, u, pB, pM, pE, ms2, mv2, n, x, S0, ends, B, rfl, s6 _ _ hux, sd6 _ _ hbd, hmd.same sd6, sd6 _ _ hed, by omega, by omega, by omega, hBp, hBl, hSB6, hmB, fun H7 s7 => ?_⟩
            have eb : decide (runM Ra 0 x ∈ Ea) = meetB (x.foldl (nxS mv2) (silF mv2 fun x => x ∈ S0)) ends := by
              rw [Bool.eq_iff_iff, decide_eq_true_iff, meetB_iff]
              exact acca x hWx
            rw [eb]
            refine ⟨rfl, _, rfl, ?_⟩
            rw [decide_eq_true rfl]
            exact ⟨_, rfl, s6.trans s7⟩
          rintro σ H6 ⟨y17', rfl, s6⟩
          have s16 := s15.trans s6
          have sd6 := sd5.trans s6
          have ht6 := s16 _ _ ht
          have hq6 := hq1.same s16
          have hw6 := s16 _ _ hw1
          clear ht5 hq5 hw5 s5 hpw hws hWd s4 hp4 nl hb4 hm4 he4 sd4 sd5 s15 s6 hb hm he
          have a0 : atI [V.ref q1, V.ref w1] 0 = some (.ref q1) := rfl
          have a1 : atI [V.ref q1, V.ref w1] 1 = some (.ref w1) := rfl
          -- kept
          refine ⟨_, rfl, t, _, _, _, rfl, rfl, SqT.of ht6, a0, q1, rfl, ⟨_, SqL.of hq6.at_⟩, fun D1 nD1 => ?_⟩
          refine lc_list (K := K) (a := q1) (xs := zs1.map V.ref) (fun i H7 => Same H6 H7 ∧ ∃ ks : List Addr, ks.length = i ∧ H7 D1 = some (.lst (ks.map V.ref)) ∧ (∀ y ∈ ks, H6 y = none ∧ y ≠ D1) ∧ ∀ (j : Nat) (y : Addr), ks[j]? = some y → H7 y = some (.lst (nVs (rowOf Ra j))))
            ⟨same_new nD1, [], rfl, by rw [upd_same]; rfl, fun y hy => (nomatch hy), fun j y hy => by simp at hy⟩ (fun i H7 _ ⟨s7, _⟩ => SqL.of (s7 _ _ hq6.at_)) ?_ ?_
          · rintro i v H7 hi ⟨s7, ks, kl, hD1, kn, hrow⟩
            rw [List.getElem?_map] at hi
            obtain ⟨x, hx, rfl⟩ := Option.map_eq_some_iff.mp hi
            have hx7 := s7 _ _ (hq6.row i x hx)
            have hil := (List.getElem?_eq_some_iff.mp hx).1
            have hl1' := hq6.len
            refine ⟨rfl, ?_⟩
            refine ⟨_, rfl, x, _, rfl, .inl (SqL.of hx7), fun y ny => ?_⟩
            have nyD : y ≠ D1 := fun z => by
              rw [z, hD1] at ny
              cases ny
            refine ⟨_, by rw [upd_ne nyD.symm]; exact hD1, by rw [List.length_map]; exact szBig (by omega), ?_, ks ++ [y], by rw [List.length_append, List.length_singleton, kl], ?_, ?_, ?_⟩
            · intro b' o eb
              rw [upd_ne (ne_of_none eb nD1), upd_ne (ne_of_none (s7 _ _ eb) ny)]
              exact s7 _ _ eb
            · rw [upd_same, List.map_append]
              rfl
            · intro y' hy'
              rcases List.mem_append.mp hy' with z | z
              · exact kn y' z
              · rw [List.mem_singleton] at z
                rw [z]
                exact ⟨s7.free ny, nyD⟩
            · intro j y' hy'
              by_cases hj : j < ks.length
              · rw [List.getElem?_append_left hj] at hy'
                have h1 := hrow j y' hy'
                rw [upd_ne (kn y' (List.mem_of_getElem? hy')).2, upd_ne (ne_of_none h1 ny)]
                exact h1
              · have hj2 : j = ks.length := by
                  have := (List.getElem?_eq_some_iff.mp hy').1
                  rw [List.length_append, List.length_singleton] at this
                  omega
                rw [hj2, List.getElem?_concat_length] at hy'
                cases hy'
                rw [upd_ne nyD, upd_same, hj2, kl]
          rintro H7 ⟨s7, ks, kl, hD1, kn, hrow⟩
          rw [List.length_map] at kl
          have sd7 := sd6.trans s7
          have ht7 := s7 _ _ ht6
          have hq7 := hq6.same s7
          have hw7 := s7 _ _ hw6
          -- found[0][0].clear()
          obtain ⟨x0, zs', rfl⟩ : ∃ x0 zs', zs1 = x0 :: zs' := by
            cases zs1 with
            | nil =>
              have h1 := hq1.len
              have h2 := La.ne
              rw [← h1] at h2
              cases h2
            | cons x0 zs' => exact ⟨x0, zs', rfl⟩
          have hx0 := hq7.row 0 x0 rfl
          obtain ⟨nx0, x0q, x0w⟩ := nz1 x0 List.mem_cons_self
          refine ⟨_, rfl, t, _, _, _, rfl, rfl, SqT.of ht7, a0, q1, _, _, _, rfl, rfl, SqL.of hq7.at_, atI_nat (j := 0) rfl, .inl ⟨rfl, _, SqL.of hx0⟩, x0, _, rfl, rfl, hx0, ?_⟩
          have hx06 := hq6.row 0 x0 rfl
          have nex6 : ∀ y, H6 y = none → y ≠ x0 := fun y hy => (ne_of_none hx06 hy).symm
          have sd8 : Same H12 (upd H7 x0 (.lst [])) := fun b' o eb => by
            rw [upd_ne (ne_of_none (sd _ _ eb) nx0)]
            exact sd7 _ _ eb
          have k8 : ∀ y o, H7 y = some o → y ≠ x0 → (upd H7 x0 (.lst [])) y = some o := fun y o ey ny => by
            rw [upd_ne ny]
            exact ey
          generalize (upd H7 x0 (.lst [])) = H8 at sd8 k8
          have ht8 := k8 _ _ ht7 (ne_of ht7 hx0 (fun z => by cases z))
          have hq8 := k8 _ _ hq7.at_ x0q.symm
          have hw8 := k8 _ _ hw7 x0w.symm
          have hD18 := k8 _ _ hD1 (nex6 _ nD1)
          have hks8 : ∀ (j : Nat) (y : Addr), ks[j]? = some y → H8 y = some (.lst (nVs (rowOf Ra j))) := fun j y hy => k8 _ _ (hrow j y hy) (nex6 _ (kn y (List.mem_of_getElem? hy)).1)
          have hzs8 : ∀ (j : Nat) (y : Addr), zs'[j]? = some y → H8 y = some (.lst (nVs (rowOf Ra (j + 1)))) := fun j y hy => by
            refine k8 _ _ (hq7.row (j + 1) y (by rw [List.getElem?_cons_succ]; exact hy)) ?_
            intro z
            rw [z] at hy
            exact (List.nodup_cons.mp nd1).1 (List.mem_of_getElem? hy)
          clear k8 ht7 hq7 hw7 hD1 hrow hx0
          -- the tails
          refine ⟨_, rfl, t, _, _, _, rfl, rfl, SqT.of ht8, a0, 1, rfl, q1, _, rfl, SqL.of hq8, fun c1 nc1 => ?_⟩
          rw [cut_one, show ((x0 :: zs').map V.ref).drop 1 = zs'.map V.ref from rfl]
          have s9 : Same H8 (upd H8 c1 (.lst (zs'.map V.ref))) := same_new nc1
          have hc9 : (upd H8 c1 (.lst (zs'.map V.ref))) c1 = some (.lst (zs'.map V.ref)) := upd_same
          generalize (upd H8 c1 (.lst (zs'.map V.ref))) = H9 at s9 hc9
          refine ⟨_, rfl, 1, rfl, D1, _, rfl, SqL.of (s9 _ _ hD18), fun c2 nc2 => ?_⟩
          rw [cut_one, ← List.map_drop]
          have s10 : Same H9 (upd H9 c2 (.lst ((ks.drop 1).map V.ref))) := same_new nc2
          have hc10 : (upd H9 c2 (.lst ((ks.drop 1).map V.ref))) c2 = some (.lst ((ks.drop 1).map V.ref)) := upd_same
          generalize (upd H9 c2 (.lst ((ks.drop 1).map V.ref))) = H10 at s10 hc10
          have s810 := s9.trans s10
          have hzl := hq1.len
          rw [List.length_cons] at hzl kl
          have erow : ∀ j, rowOf (Ra.drop 1) j = rowOf Ra (j + 1) := fun j => by
            unfold rowOf
            rw [List.getD_eq_getElem?_getD, List.getD_eq_getElem?_getD, List.getElem?_drop, Nat.add_comm]
          have gdT : Gd 2 10000 (dRs (Ra.drop 1)) := by
            refine (gd_dRs (L := 4) fun r hr => ?_).le (Nat.le_refl _) (by rw [List.length_drop]; omega)
            obtain ⟨i', hi', rfl⟩ := row_mem (List.mem_of_mem_drop hr)
            exact ⟨by rw [La.ok.wide i' hi']; exact hn4, fun x hx => by have := La.ok.lt i' hi' x hx; omega⟩
          refine ⟨dRs (Ra.drop 1), dRs (Ra.drop 1), dp_rows ⟨s10 _ _ hc9, by rw [List.length_drop]; omega, fun j y hy => ?_⟩, dp_rows ⟨hc10, by rw [List.length_drop, List.length_drop]; omega, fun j y hy => ?_⟩, gdT.shp (by decide), gdT.shp (by decide), _, rfl, ?_⟩
          · rw [erow]
            exact s810 _ _ (hzs8 j y hy)
          · rw [erow]
            rw [List.getElem?_drop, Nat.add_comm] at hy
            exact s810 _ _ (hks8 _ y hy)
          rw [eqv_same gdT.lay]
          -- found[1].append(None)
          refine ⟨_, rfl, t, _, _, _, rfl, rfl, SqT.of (s810 _ _ ht8), a1, .inl ⟨rfl, _, SqL.of (s810 _ _ hw8)⟩, w1, _, _, rfl, rfl, s810 _ _ hw8, ?_, ?_⟩
          · rw [nVs_len]
            exact szBig (by have := least_ends La; omega)
          · refine ⟨_, _, _, _, rfl, fun b' o eb => ?_⟩
            rw [upd_ne (ne_of_none (sd _ _ eb) nw1)]
            exact s810 _ _ (sd8 _ _ eb)
        · rintro σ H ⟨y15', y16', y17', y18', rfl, sd⟩
          exact ⟨_, _, _, _, _, _, _, _, _, _, _, _, _, _, _, _, _, rfl, hBd.same sd⟩
    · rintro σ H' _
      exact q H'
end
end K13

namespace K13
open PySem PySem.Spec PyProof.Rows L2 Rg Mach
theorem all_mk {l : PySem.W.OpenLaw} {w : World} {K : PySem.W.Frag} {h : Heap} {mg : Str → Option Value} {fa D5 f1 f2 f3 f4 f5 f6 f7 f8 f10 f11 f12 f13 f14 f15 f16 f17 f18 f19 f20 f21 : Addr} (X : K.In h) (G : h.Ns mainGlobals mg) (hfa : mg "law" = some (.ref fa))
    {od1 od2 od3 od4 od5 od6 od7 od8 od10 od11 od12 od13 od14 od15 od16 od17 od18 od19 od20 od21 an1 an2 an3 an4 an5 an6 an7 an8 an10 an11 an12 an13 an14 an15 an16 an17 an18 an19 an20 an21 : Option Addr} {sl1 sl2 sl3 sl4 sl5 sl6 sl7 sl8 sl10 sl11 sl12 sl13 sl14 sl15 sl16 sl17 sl18 sl19 sl20 sl21 : Array (Option Value)} {u5 oc1 oc2 oc3 oc4 oc5 oc6 oc7 oc8 oc10 oc11 oc12 oc13 oc14 oc15 oc16 oc17 oc18 oc19 oc20 oc21 kV1 kV2 kV3 kV4 kV6 kV7 kV8 kV10 kV11 kV12 kV13 kV14 kV15 kV16 kV17 kV18 kV19 kV20 kV21 dc1 dc2 dc3 dc4 dc5 dc6 dc7 dc8 dc10 dc11 dc12 dc13 dc14 dc15 dc16 dc17 dc18 dc19 dc20 dc21 pm1 pm2 pm3 pm4 pm5 pm6 pm7 pm8 pm10 pm11 pm12 pm13 pm14 pm15 pm16 pm17 pm18 pm19 pm20 pm21 cd1 cd2 cd3 cd4 cd5 cd6 cd7 cd8 cd10 cd11 cd12 cd13 cd14 cd15 cd16 cd17 cd18 cd19 cd20 cd21 ct1 ct2 ct3 ct4 ct5 ct6 ct7 ct8 ct10 ct11 ct12 ct13 ct14 ct15 ct16 ct17 ct18 ct19 ct20 ct21 : Value}
    (a1 : PySem.W.nsIn K mainGlobals "reached_from" = some (some (.ref f1))) (l1 : K.lookup f1 = some ⟨oc1, od1, .func (PySem.W.fnOf "reached_from" "reached_from" (defArgs sReach) (defBody sReach) (defScope sReach) .none kV1 dc1 pm1 an1 cd1 ct1), sl1⟩) (c1 : PySem.W.codeIn K cd1 "reached_from" = true) (k1 : PySem.W.keepIn K (.ref f1) = true)
    (a2 : PySem.W.nsIn K mainGlobals "parted_once" = some (some (.ref f2))) (l2 : K.lookup f2 = some ⟨oc2, od2, .func (PySem.W.fnOf "parted_once" "parted_once" (defArgs sPart) (defBody sPart) (defScope sPart) .none kV2 dc2 pm2 an2 cd2 ct2), sl2⟩) (c2 : PySem.W.codeIn K cd2 "parted_once" = true) (k2 : PySem.W.keepIn K (.ref f2) = true)
    (a3 : PySem.W.nsIn K mainGlobals "how_many" = some (some (.ref f3))) (l3 : K.lookup f3 = some ⟨oc3, od3, .func (PySem.W.fnOf "how_many" "how_many" (defArgs sHow) (defBody sHow) (defScope sHow) .none kV3 dc3 pm3 an3 cd3 ct3), sl3⟩) (c3 : PySem.W.codeIn K cd3 "how_many" = true) (k3 : PySem.W.keepIn K (.ref f3) = true)
    (a4 : PySem.W.nsIn K mainGlobals "classes_of" = some (some (.ref f4))) (l4 : K.lookup f4 = some ⟨oc4, od4, .func (PySem.W.fnOf "classes_of" "classes_of" (defArgs sCls) (defBody sCls) (defScope sCls) .none kV4 dc4 pm4 an4 cd4 ct4), sl4⟩) (c4 : PySem.W.codeIn K cd4 "classes_of" = true) (k4 : PySem.W.keepIn K (.ref f4) = true)
    (a5 : PySem.W.nsIn K mainGlobals "least_machine" = some (some (.ref f5))) (l5 : K.lookup f5 = some ⟨oc5, od5, .func (PySem.W.fnOf "least_machine" "least_machine" (defArgs sLm) (defBody sLm) (defScope sLm) .none (.ref D5) dc5 pm5 an5 cd5 ct5), sl5⟩) (c5 : PySem.W.codeIn K cd5 "least_machine" = true) (k5 : PySem.W.keepIn K (.ref f5) = true)
    (a6 : PySem.W.nsIn K mainGlobals "silent_from" = some (some (.ref f6))) (l6 : K.lookup f6 = some ⟨oc6, od6, .func (PySem.W.fnOf "silent_from" "silent_from" (defArgs sSil) (defBody sSil) (defScope sSil) .none kV6 dc6 pm6 an6 cd6 ct6), sl6⟩) (c6 : PySem.W.codeIn K cd6 "silent_from" = true) (k6 : PySem.W.keepIn K (.ref f6) = true)
    (a7 : PySem.W.nsIn K mainGlobals "led_to" = some (some (.ref f7))) (l7 : K.lookup f7 = some ⟨oc7, od7, .func (PySem.W.fnOf "led_to" "led_to" (defArgs sLed) (defBody sLed) (defScope sLed) .none kV7 dc7 pm7 an7 cd7 ct7), sl7⟩) (c7 : PySem.W.codeIn K cd7 "led_to" = true) (k7 : PySem.W.keepIn K (.ref f7) = true)
    (a8 : PySem.W.nsIn K mainGlobals "determined" = some (some (.ref f8))) (l8 : K.lookup f8 = some ⟨oc8, od8, .func (PySem.W.fnOf "determined" "determined" (defArgs sDet) (defBody sDet) (defScope sDet) .none kV8 dc8 pm8 an8 cd8 ct8), sl8⟩) (c8 : PySem.W.codeIn K cd8 "determined" = true) (k8 : PySem.W.keepIn K (.ref f8) = true)
    (a10 : PySem.W.nsIn K mainGlobals "_law_bag" = some (some (.ref f10))) (l10 : K.lookup f10 = some ⟨oc10, od10, .func (PySem.W.fnOf "_law_bag" "_law_bag" (defArgs sBag) (defBody sBag) (defScope sBag) .none kV10 dc10 pm10 an10 cd10 ct10), sl10⟩) (c10 : PySem.W.codeIn K cd10 "_law_bag" = true) (k10 : PySem.W.keepIn K (.ref f10) = true)
    (a11 : PySem.W.nsIn K mainGlobals "_law_take" = some (some (.ref f11))) (l11 : K.lookup f11 = some ⟨oc11, od11, .func (PySem.W.fnOf "_law_take" "_law_take" (defArgs sTake) (defBody sTake) (defScope sTake) .none kV11 dc11 pm11 an11 cd11 ct11), sl11⟩) (c11 : PySem.W.codeIn K cd11 "_law_take" = true) (k11 : PySem.W.keepIn K (.ref f11) = true)
    (a12 : PySem.W.nsIn K mainGlobals "_law_alike" = some (some (.ref f12))) (l12 : K.lookup f12 = some ⟨oc12, od12, .func (PySem.W.fnOf "_law_alike" "_law_alike" (defArgs sAlk) (defBody sAlk) (defScope sAlk) .none kV12 dc12 pm12 an12 cd12 ct12), sl12⟩) (c12 : PySem.W.codeIn K cd12 "_law_alike" = true) (k12 : PySem.W.keepIn K (.ref f12) = true)
    (a13 : PySem.W.nsIn K mainGlobals "_law_mixed" = some (some (.ref f13))) (l13 : K.lookup f13 = some ⟨oc13, od13, .func (PySem.W.fnOf "_law_mixed" "_law_mixed" (defArgs sMixed) (defBody sMixed) (defScope sMixed) .none kV13 dc13 pm13 an13 cd13 ct13), sl13⟩) (c13 : PySem.W.codeIn K cd13 "_law_mixed" = true) (k13 : PySem.W.keepIn K (.ref f13) = true)
    (a14 : PySem.W.nsIn K mainGlobals "_law_some" = some (some (.ref f14))) (l14 : K.lookup f14 = some ⟨oc14, od14, .func (PySem.W.fnOf "_law_some" "_law_some" (defArgs sSome) (defBody sSome) (defScope sSome) .none kV14 dc14 pm14 an14 cd14 ct14), sl14⟩) (c14 : PySem.W.codeIn K cd14 "_law_some" = true) (k14 : PySem.W.keepIn K (.ref f14) = true)
    (a15 : PySem.W.nsIn K mainGlobals "_law_least" = some (some (.ref f15))) (l15 : K.lookup f15 = some ⟨oc15, od15, .func (PySem.W.fnOf "_law_least" "_law_least" (defArgs sLs) (defBody sLs) (defScope sLs) .none kV15 dc15 pm15 an15 cd15 ct15), sl15⟩) (c15 : PySem.W.codeIn K cd15 "_law_least" = true) (k15 : PySem.W.keepIn K (.ref f15) = true)
    (a16 : PySem.W.nsIn K mainGlobals "_law_silent" = some (some (.ref f16))) (l16 : K.lookup f16 = some ⟨oc16, od16, .func (PySem.W.fnOf "_law_silent" "_law_silent" (defArgs sSl) (defBody sSl) (defScope sSl) .none kV16 dc16 pm16 an16 cd16 ct16), sl16⟩) (c16 : PySem.W.codeIn K cd16 "_law_silent" = true) (k16 : PySem.W.keepIn K (.ref f16) = true)
    (a17 : PySem.W.nsIn K mainGlobals "_law_determined" = some (some (.ref f17))) (l17 : K.lookup f17 = some ⟨oc17, od17, .func (PySem.W.fnOf "_law_determined" "_law_determined" (defArgs sDl) (defBody sDl) (defScope sDl) .none kV17 dc17 pm17 an17 cd17 ct17), sl17⟩) (c17 : PySem.W.codeIn K cd17 "_law_determined" = true) (k17 : PySem.W.keepIn K (.ref f17) = true)
    (a18 : PySem.W.nsIn K mainGlobals "_law_goes" = some (some (.ref f18))) (l18 : K.lookup f18 = some ⟨oc18, od18, .func (PySem.W.fnOf "_law_goes" "_law_goes" (defArgs sGo) (defBody sGo) (defScope sGo) .none kV18 dc18 pm18 an18 cd18 ct18), sl18⟩) (c18 : PySem.W.codeIn K cd18 "_law_goes" = true) (k18 : PySem.W.keepIn K (.ref f18) = true)
    (a19 : PySem.W.nsIn K mainGlobals "_law_words" = some (some (.ref f19))) (l19 : K.lookup f19 = some ⟨oc19, od19, .func (PySem.W.fnOf "_law_words" "_law_words" (defArgs sWo) (defBody sWo) (defScope sWo) .none kV19 dc19 pm19 an19 cd19 ct19), sl19⟩) (c19 : PySem.W.codeIn K cd19 "_law_words" = true) (k19 : PySem.W.keepIn K (.ref f19) = true)
    (a20 : PySem.W.nsIn K mainGlobals "_law_machine_has" = some (some (.ref f20))) (l20 : K.lookup f20 = some ⟨oc20, od20, .func (PySem.W.fnOf "_law_machine_has" "_law_machine_has" (defArgs sHas) (defBody sHas) (defScope sHas) .none kV20 dc20 pm20 an20 cd20 ct20), sl20⟩) (c20 : PySem.W.codeIn K cd20 "_law_machine_has" = true) (k20 : PySem.W.keepIn K (.ref f20) = true)
    (a21 : PySem.W.nsIn K mainGlobals "law" = some (some (.ref f21))) (l21 : K.lookup f21 = some ⟨oc21, od21, .func (PySem.W.fnOf "law" "law" (defArgs sLaw) (defBody sLaw) (defScope sLaw) .none kV21 dc21 pm21 an21 cd21 ct21), sl21⟩) (c21 : PySem.W.codeIn K cd21 "law" = true) (k21 : PySem.W.keepIn K (.ref f21) = true)
    (kw : PySem.W.nsIn K D5 "begin" = some (some u5)) (ru : RelV (.int 0) u5)
    (z_len : PySem.W.nsIn K mainGlobals "len" = some none)
    (z_dict : PySem.W.nsIn K mainGlobals "dict" = some none)
    (z_range : PySem.W.nsIn K mainGlobals "range" = some none)
    (z_list : PySem.W.nsIn K mainGlobals "list" = some none)
    (z_set : PySem.W.nsIn K mainGlobals "set" = some none)
    (z_tuple : PySem.W.nsIn K mainGlobals "tuple" = some none)
    (z_int : PySem.W.nsIn K mainGlobals "int" = some none)
    (z_abs : PySem.W.nsIn K mainGlobals "abs" = some none)
    (z_repr : PySem.W.nsIn K mainGlobals "repr" = some none)
    (z_sorted : PySem.W.nsIn K mainGlobals "sorted" = some none)
    (z_any : PySem.W.nsIn K mainGlobals "any" = some none) :
    ∃ fd : FuncData, (∀ (s : Shared) (v : Value), BindsTo s fd ⟨[v], []⟩ [("_law_script", v)]) ∧ ∀ base : Heap, K.In base → base.Ns mainGlobals mg → GFn l.prog w K mg base CX0 6 fa fd ["_law_script"] (spLaw K) := by
  have e := hfa.symm.trans (PySem.W.mg_of X G a21)
  cases e
  have F1 := fun_mk (st := sReach) l1 c1 k1
  have b1 := F1.binds (ps := ["rows", "begin"]) fun _ _ _ _ _ _ us hl => match us, hl with | [_, _], _ => rfl
  have g1 := PySem.W.mg_of X G a1
  have F2 := fun_mk (st := sPart) l2 c2 k2
  have b2 := F2.binds (ps := ["rows", "classes", "states"]) fun _ _ _ _ _ _ us hl => match us, hl with | [_, _, _], _ => rfl
  have g2 := PySem.W.mg_of X G a2
  have F3 := fun_mk (st := sHow) l3 c3 k3
  have b3 := F3.binds (ps := ["classes"]) fun _ _ _ _ _ _ us hl => match us, hl with | [_], _ => rfl
  have g3 := PySem.W.mg_of X G a3
  have F4 := fun_mk (st := sCls) l4 c4 k4
  have b4 := F4.binds (ps := ["rows", "ends", "states"]) fun _ _ _ _ _ _ us hl => match us, hl with | [_, _, _], _ => rfl
  have g4 := PySem.W.mg_of X G a4
  have F5 : FunD K "least_machine" "least_machine" (defArgs sLm) (defBody sLm) (defScope sLm) [] [("begin", .int 0)] f5 _ := ⟨⟨oc5, od5, .none, .ref D5, dc5, pm5, an5, cd5, ct5, sl5, rfl, l5, c5, .inl ⟨rfl, rfl⟩, .inr ⟨D5, rfl, fun q hq => by
    rw [List.mem_singleton] at hq
    rw [hq]
    exact ⟨u5, kw, ru⟩⟩⟩, k5⟩
  have b5 := lm_binds F5
  have g5 := PySem.W.mg_of X G a5
  have F6 := fun_mk (st := sSil) l6 c6 k6
  have b6 := F6.binds (ps := ["states", "silent"]) fun _ _ _ _ _ _ us hl => match us, hl with | [_, _], _ => rfl
  have g6 := PySem.W.mg_of X G a6
  have F7 := fun_mk (st := sLed) l7 c7 k7
  have b7 := F7.binds (ps := ["states", "place", "reading"]) fun _ _ _ _ _ _ us hl => match us, hl with | [_, _, _], _ => rfl
  have g7 := PySem.W.mg_of X G a7
  have F8 := fun_mk (st := sDet) l8 c8 k8
  have b8 := F8.binds (ps := ["wide", "begins", "moves", "ends"]) fun _ _ _ _ _ _ us hl => match us, hl with | [_, _, _, _], _ => rfl
  have g8 := PySem.W.mg_of X G a8
  have F10 := fun_mk (st := sBag) l10 c10 k10
  have b10 := F10.binds (ps := ["_law_script"]) fun _ _ _ _ _ _ us hl => match us, hl with | [_], _ => rfl
  have g10 := PySem.W.mg_of X G a10
  have F11 := fun_mk (st := sTake) l11 c11 k11
  have b11 := F11.binds (ps := ["_law_bag_here", "_law_many"]) fun _ _ _ _ _ _ us hl => match us, hl with | [_, _], _ => rfl
  have g11 := PySem.W.mg_of X G a11
  have F12 := fun_mk (st := sAlk) l12 c12 k12
  have b12 := F12.binds (ps := ["_law_found", "_law_due"]) fun _ _ _ _ _ _ us hl => match us, hl with | [_, _], _ => rfl
  have g12 := PySem.W.mg_of X G a12
  have F13 := fun_mk (st := sMixed) l13 c13 k13
  have b13 := F13.binds (ps := ["_law_bag_here", "_law_things"]) fun _ _ _ _ _ _ us hl => match us, hl with | [_, _], _ => rfl
  have g13 := PySem.W.mg_of X G a13
  have F14 := fun_mk (st := sSome) l14 c14 k14
  have b14 := F14.binds (ps := ["_law_bag_here", "_law_things", "_law_rare"]) fun _ _ _ _ _ _ us hl => match us, hl with | [_, _, _], _ => rfl
  have g14 := PySem.W.mg_of X G a14
  have F15 := fun_mk (st := sLs) l15 c15 k15
  have b15 := F15.binds (ps := ["_law_rows", "_law_ends"]) fun _ _ _ _ _ _ us hl => match us, hl with | [_, _], _ => rfl
  have g15 := PySem.W.mg_of X G a15
  have F16 := fun_mk (st := sSl) l16 c16 k16
  have b16 := F16.binds (ps := ["_law_states", "_law_moves"]) fun _ _ _ _ _ _ us hl => match us, hl with | [_, _], _ => rfl
  have g16 := PySem.W.mg_of X G a16
  have F17 := fun_mk (st := sDl) l17 c17 k17
  have b17 := F17.binds (ps := ["_law_wide", "_law_begins", "_law_moves", "_law_ends"]) fun _ _ _ _ _ _ us hl => match us, hl with | [_, _, _, _], _ => rfl
  have g17 := PySem.W.mg_of X G a17
  have F18 := fun_mk (st := sGo) l18 c18 k18
  have b18 := F18.binds (ps := ["_law_word", "_law_begins", "_law_moves", "_law_ends"]) fun _ _ _ _ _ _ us hl => match us, hl with | [_, _, _, _], _ => rfl
  have g18 := PySem.W.mg_of X G a18
  have F19 := fun_mk (st := sWo) l19 c19 k19
  have b19 := F19.binds (ps := ["_law_wide", "_law_longest"]) fun _ _ _ _ _ _ us hl => match us, hl with | [_, _], _ => rfl
  have g19 := PySem.W.mg_of X G a19
  have F20 := fun_mk (st := sHas) l20 c20 k20
  have b20 := F20.binds (ps := ["_law_machine", "_law_word"]) fun _ _ _ _ _ _ us hl => match us, hl with | [_, _], _ => rfl
  have g20 := PySem.W.mg_of X G a20
  have F21 := fun_mk (st := sLaw) l21 c21 k21
  have m_len := PySem.W.mg_none_of X G z_len
  have m_dict := PySem.W.mg_none_of X G z_dict
  have m_range := PySem.W.mg_none_of X G z_range
  have m_list := PySem.W.mg_none_of X G z_list
  have m_set := PySem.W.mg_none_of X G z_set
  have m_tuple := PySem.W.mg_none_of X G z_tuple
  have m_int := PySem.W.mg_none_of X G z_int
  have m_abs := PySem.W.mg_none_of X G z_abs
  have m_repr := PySem.W.mg_none_of X G z_repr
  have m_sorted := PySem.W.mg_none_of X G z_sorted
  have m_any := PySem.W.mg_none_of X G z_any
  refine ⟨PySem.W.fnOf "law" "law" (defArgs sLaw) (defBody sLaw) (defScope sLaw) .none kV21 dc21 pm21 an21 cd21 ct21, fun s v => .of_eq rfl, fun base _ _ => ?_⟩
  exact ok_law F21 ⟨F1, b1, g1, F2, b2, g2, F3, b3, g3, F4, b4, g4, F5, b5, g5, F6, b6, g6, F7, b7, g7, F8, b8, g8, F10, b10, g10, F11, b11, g11, F12, b12, g12, F13, b13, g13, F14, b14, g14, F15, b15, g15, F16, b16, g16, F17, b17, g17, F18, b18, g18, F19, b19, g19, F20, b20, g20, m_len, m_dict, m_range, m_list, m_set, m_tuple, m_int, m_abs, m_repr, m_sorted, m_any⟩
theorem walk {l : PySem.W.OpenLaw} {q : Program} {loose : List Str} {XP : (Str → Option Value) → Heap → Prop} {YP : World → Heap → Prop} {d : DefRec} {K : Params → PySem.W.Frag} (hn : l.most = some 63) (hdf : d.params.defaults = [])
    (hY : ∀ (w : World) (h : Heap), YP w h → (K w.params).In h)
    (F : ∀ (w : World) (mg : Str → Option Value) (fa : Addr) (h : Heap), (K w.params).In h → h.Ns mainGlobals mg → mg d.name = some (.ref fa) →
      ∃ fd : FuncData, (∀ (s : Shared) (u : Value), BindsTo s fd ⟨[u], []⟩ [("_law_script", u)]) ∧ ∀ base : Heap, (K w.params).In base → base.Ns mainGlobals mg → GFn l.prog w (K w.params) mg base CX0 6 fa fd ["_law_script"] (spLaw (K w.params))) :
    PySem.W.WalkO q loose XP YP l.row.toRowW d [] (fun f vs => PySem.call f vs) :=
  Rg.walk_ofG (n := 63) (k := 6) (x := "_law_script") (CX := fun _ => CX0) (sp := fun w => spLaw (K w.params)) hn (by decide) hdf ⟨rfl, by decide, by decide⟩ hY F (fun _ _ a ns hl _ hS => ⟨a, ns, rfl, hS, hl, fun _ => rfl⟩) fun _ _ _ _ _ z => z
end K13
open PySem PySem.W PyProof.Rows in
theorem PySem.Challenge.cw_builttexts_k13_machines_of_paths_holds : PySem.Challenge.rw_builttexts_k13_machines_of_paths.Holds := by
  w_on; o_law; k_head; (case hw => w_witness2)
  k_fill
  refine K13.walk (l := PySem.Challenge.rw_builttexts_k13_machines_of_paths) rfl rfl (fun w h Y => PySem.W.kIn_of Y) ?F
  case F =>
    intro w mg fa h KX G hmg
    refine' K13.all_mk KX G hmg ?a1 ?l1 ?c1 ?k1 ?a2 ?l2 ?c2 ?k2 ?a3 ?l3 ?c3 ?k3 ?a4 ?l4 ?c4 ?k4 ?a5 ?l5 ?c5 ?k5 ?a6 ?l6 ?c6 ?k6 ?a7 ?l7 ?c7 ?k7 ?a8 ?l8 ?c8 ?k8 ?a10 ?l10 ?c10 ?k10 ?a11 ?l11 ?c11 ?k11 ?a12 ?l12 ?c12 ?k12 ?a13 ?l13 ?c13 ?k13 ?a14 ?l14 ?c14 ?k14 ?a15 ?l15 ?c15 ?k15 ?a16 ?l16 ?c16 ?k16 ?a17 ?l17 ?c17 ?k17 ?a18 ?l18 ?c18 ?k18 ?a19 ?l19 ?c19 ?k19 ?a20 ?l20 ?c20 ?k20 ?a21 ?l21 ?c21 ?k21 ?kw ?ru ?z_len ?z_dict ?z_range ?z_list ?z_set ?z_tuple ?z_int ?z_abs ?z_repr ?z_sorted ?z_any
    (case a1 => k_is)
    (case l1 => k_is)
    (case c1 => k_is)
    (case k1 => k_is)
    (case a2 => k_is)
    (case l2 => k_is)
    (case c2 => k_is)
    (case k2 => k_is)
    (case a3 => k_is)
    (case l3 => k_is)
    (case c3 => k_is)
    (case k3 => k_is)
    (case a4 => k_is)
    (case l4 => k_is)
    (case c4 => k_is)
    (case k4 => k_is)
    (case a5 => k_is)
    (case l5 => k_is)
    (case c5 => k_is)
    (case k5 => k_is)
    (case a6 => k_is)
    (case l6 => k_is)
    (case c6 => k_is)
    (case k6 => k_is)
    (case a7 => k_is)
    (case l7 => k_is)
    (case c7 => k_is)
    (case k7 => k_is)
    (case a8 => k_is)
    (case l8 => k_is)
    (case c8 => k_is)
    (case k8 => k_is)
    (case a10 => k_is)
    (case l10 => k_is)
    (case c10 => k_is)
    (case k10 => k_is)
    (case a11 => k_is)
    (case l11 => k_is)
    (case c11 => k_is)
    (case k11 => k_is)
    (case a12 => k_is)
    (case l12 => k_is)
    (case c12 => k_is)
    (case k12 => k_is)
    (case a13 => k_is)
    (case l13 => k_is)
    (case c13 => k_is)
    (case k13 => k_is)
    (case a14 => k_is)
    (case l14 => k_is)
    (case c14 => k_is)
    (case k14 => k_is)
    (case a15 => k_is)
    (case l15 => k_is)
    (case c15 => k_is)
    (case k15 => k_is)
    (case a16 => k_is)
    (case l16 => k_is)
    (case c16 => k_is)
    (case k16 => k_is)
    (case a17 => k_is)
    (case l17 => k_is)
    (case c17 => k_is)
    (case k17 => k_is)
    (case a18 => k_is)
    (case l18 => k_is)
    (case c18 => k_is)
    (case k18 => k_is)
    (case a19 => k_is)
    (case l19 => k_is)
    (case c19 => k_is)
    (case k19 => k_is)
    (case a20 => k_is)
    (case l20 => k_is)
    (case c20 => k_is)
    (case k20 => k_is)
    (case a21 => k_is)
    (case l21 => k_is)
    (case c21 => k_is)
    (case k21 => k_is)
    (case kw => k_is)
    (case ru => exact ⟨_, rfl⟩)
    (case z_len => k_is)
    (case z_dict => k_is)
    (case z_range => k_is)
    (case z_list => k_is)
    (case z_set => k_is)
    (case z_tuple => k_is)
    (case z_int => k_is)
    (case z_abs => k_is)
    (case z_repr => k_is)
    (case z_sorted => k_is)
    (case z_any => k_is)
