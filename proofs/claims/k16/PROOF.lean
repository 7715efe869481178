import PyProof.Rows.All
import Wide.All
import OpenK.AllK
import Wide.FinOn
import HandS.ForMost
import PyProof.ReprReads
import PyProof.ReprRoads
import HandS.Codes
import HandS.DictComp
import HandS.Conv
import HandS.TupLen
import HandS.More
import HandS.Flow
import HandS.Defaults
import HandS.Zip
import KE.KDictList
import HandS.ListItems
import PyProof.Rows.RegFStrParts
import HandS.SetFor
import HandS.Strs
import HandS.Deep
import KE.KDictDisplayH
import KE.KDictKeyed
import HandS.SortInts
import KE.GoesEnum
import KE.GoesMore
import HandS.Property
import HandS.IsInst
import HandS.FStr
import KE.KOpsOwn
import OpenK.KMeth
import PyProof.InstNe
import HandS.Exc
import HandS.ExcOwn
import HandS.ExcIs
import HandS.WordsExc
import HandS.OwnEq
import PyProof.NeKinds
import PySem.Challenge.RW_builttexts_k16_sets_joined
import HandS.Walk
import HandS.Replace
import HandS.Small
import HandS.Style
set_option Elab.async false
set_option linter.all false
set_option maxRecDepth 100000
set_option maxHeartbeats 16000000
/-! Plain mathematics of machines: ordered lists without doubles, languages, least machines. -/
namespace Mach

/-! ### lists in which each thing stands once, in the order of its first coming -/
section
variable {α β : Type} [DecidableEq α] [DecidableEq β]

def push (L : List α) (s : α) : List α := if s ∈ L then L else L ++ [s]
def pushAll (L X : List α) : List α := X.foldl push L
def D (X : List α) : List α := pushAll [] X

theorem push_mem {L : List α} {s : α} (h : s ∈ L) : push L s = L := if_pos h
theorem push_new {L : List α} {s : α} (h : s ∉ L) : push L s = L ++ [s] := if_neg h
theorem mem_push {L : List α} {s x : α} : x ∈ push L s ↔ x ∈ L ∨ x = s := by
  unfold push
  split
  · constructor
    · exact Or.inl
    · rintro (h | h)
      · exact h
      · rw [h]; assumption
  · simp
theorem pushAll_nil (L : List α) : pushAll L [] = L := rfl
theorem pushAll_cons (L : List α) (x : α) (X : List α) : pushAll L (x :: X) = pushAll (push L x) X := rfl
theorem pushAll_append (L X Y : List α) : pushAll L (X ++ Y) = pushAll (pushAll L X) Y := List.foldl_append
theorem mem_pushAll {L X : List α} {x : α} : x ∈ pushAll L X ↔ x ∈ L ∨ x ∈ X := by
  induction X generalizing L with
  | nil => simp [pushAll_nil]
  | cons y X ih =>
    rw [pushAll_cons, ih, mem_push, List.mem_cons]
    constructor
    · rintro ((h | h) | h)
      · exact .inl h
      · exact .inr (.inl h)
      · exact .inr (.inr h)
    · rintro (h | h | h)
      · exact .inl (.inl h)
      · exact .inl (.inr h)
      · exact .inr h
theorem mem_D {X : List α} {x : α} : x ∈ D X ↔ x ∈ X := by
  unfold D
  rw [mem_pushAll]
  simp
theorem pushAll_of_sub {L X : List α} (h : ∀ x ∈ X, x ∈ L) : pushAll L X = L := by
  induction X generalizing L with
  | nil => rfl
  | cons y X ih =>
    rw [pushAll_cons, push_mem (h y List.mem_cons_self)]
    exact ih fun x hx => h x (List.mem_cons_of_mem _ hx)
theorem push_pre (L : List α) (s : α) : ∃ Z, push L s = L ++ Z := by
  unfold push
  split
  · exact ⟨[], by simp⟩
  · exact ⟨[s], rfl⟩
theorem pushAll_pre (L X : List α) : ∃ Z, pushAll L X = L ++ Z := by
  induction X generalizing L with
  | nil => exact ⟨[], by simp [pushAll_nil]⟩
  | cons y X ih =>
    obtain ⟨Z1, h1⟩ := push_pre L y
    obtain ⟨Z2, h2⟩ := ih (push L y)
    exact ⟨Z1 ++ Z2, by rw [pushAll_cons, h2, h1, List.append_assoc]⟩
theorem push_nodup {L : List α} {s : α} (h : L.Nodup) : (push L s).Nodup := by
  unfold push
  split
  · exact h
  · rename_i hs
    rw [List.nodup_append]
    refine ⟨h, by simp, ?_⟩
    intro a ha b hb
    rw [List.mem_singleton] at hb
    intro e
    exact hs (by rw [← hb, ← e]; exact ha)
theorem pushAll_nodup {L X : List α} (h : L.Nodup) : (pushAll L X).Nodup := by
  induction X generalizing L with
  | nil => exact h
  | cons y X ih => exact ih (push_nodup h)
theorem D_nodup (X : List α) : (D X).Nodup := pushAll_nodup List.nodup_nil
theorem D_cons (x : α) (X : List α) : D (x :: X) = pushAll [x] X := rfl
theorem D_append (X Y : List α) : D (X ++ Y) = pushAll (D X) Y := pushAll_append _ _ _
theorem D_of_nodup {X : List α} (h : X.Nodup) : D X = X := by
  have gen : ∀ (X L : List α), (L ++ X).Nodup → pushAll L X = L ++ X := by
    intro X
    induction X with
    | nil => intro L _; simp [pushAll_nil]
    | cons y X ih =>
      intro L hn
      have hy : y ∉ L := by
        intro hy
        rw [List.nodup_append] at hn
        exact hn.2.2 y hy y List.mem_cons_self rfl
      rw [pushAll_cons, push_new hy, ih (L ++ [y]) (by rw [List.append_assoc]; exact hn), List.append_assoc]
      rfl
  have := gen X [] (by simpa using h)
  simpa [D] using this
theorem pushAll_sup {L M X : List α} : pushAll (pushAll L M) X = pushAll L (M ++ X) := (pushAll_append L M X).symm
/-- pushing what D left -/
theorem pushAll_D (L X : List α) : pushAll L (D X) = pushAll L X := by
  have gen : ∀ (X Y : List α), pushAll L (pushAll Y X) = pushAll (pushAll L Y) X := by
    intro X
    induction X with
    | nil => intro Y; rfl
    | cons x X ih =>
      intro Y
      rw [pushAll_cons, ih, pushAll_cons]
      congr 1
      by_cases hx : x ∈ Y
      · rw [push_mem hx, push_mem (mem_pushAll.mpr (.inr hx))]
      · rw [push_new hx, pushAll_append]
        rfl
  have := gen X []
  simpa [D, pushAll_nil] using this
theorem D_D (X : List α) : D (D X) = D X := D_of_nodup (D_nodup X)
/-- maps -/
theorem push_map_D (f : α → β) (L : List α) (s : α) (B : List β) : pushAll B ((push L s).map f) = pushAll B (L.map f ++ [f s]) := by
  by_cases h : s ∈ L
  · rw [push_mem h, pushAll_append, pushAll_of_sub (X := [f s])]
    intro x hx
    rw [List.mem_singleton] at hx
    rw [hx]
    exact mem_pushAll.mpr (.inr (List.mem_map_of_mem h))
  · rw [push_new h, List.map_append]
    rfl
theorem pushAll_map (f : α → β) (B : List β) (X L : List α) : pushAll B ((pushAll L X).map f) = pushAll B (L.map f ++ X.map f) := by
  induction X generalizing L with
  | nil => simp [pushAll_nil]
  | cons x X ih =>
    rw [pushAll_cons, ih, pushAll_append, push_map_D, ← pushAll_append, List.append_assoc]
    rfl
theorem D_map_D (f : α → β) (X : List α) : D ((D X).map f) = D (X.map f) := by
  have := pushAll_map f [] X []
  simpa [D] using this
theorem map_push_inj {f : α → β} {L : List α} {s : α} (h : ∀ x ∈ L, f x = f s → x = s) : (push L s).map f = push (L.map f) (f s) := by
  by_cases hs : s ∈ L
  · rw [push_mem hs, push_mem (List.mem_map_of_mem hs)]
  · rw [push_new hs, push_new, List.map_append]
    · rfl
    · intro hm
      obtain ⟨x, hx, e⟩ := List.mem_map.mp hm
      exact hs (by rw [← h x hx e]; exact hx)
theorem map_pushAll_inj {f : α → β} (X : List α) : ∀ L : List α, (∀ x ∈ L ++ X, ∀ y ∈ L ++ X, f x = f y → x = y) → (pushAll L X).map f = pushAll (L.map f) (X.map f) := by
  induction X with
  | nil => intro L _; rfl
  | cons s X ih =>
    intro L h
    rw [pushAll_cons, ih (push L s), List.map_cons, pushAll_cons, map_push_inj]
    · intro x hx e
      exact h x (by simp [hx]) s (by simp) e
    · intro x hx y hy e
      refine h x ?_ y ?_ e
      · rcases List.mem_append.mp hx with hx | hx
        · rcases mem_push.mp hx with hx | hx
          · simp [hx]
          · simp [hx]
        · simp [hx]
      · rcases List.mem_append.mp hy with hx | hx
        · rcases mem_push.mp hx with hx | hx
          · simp [hx]
          · simp [hx]
        · simp [hx]
theorem D_map_inj {f : α → β} {X : List α} (h : ∀ x ∈ X, ∀ y ∈ X, f x = f y → x = y) : (D X).map f = D (X.map f) := by
  have := map_pushAll_inj (f := f) X [] (by simpa using h)
  simpa [D] using this
/-- what stands twice in the source of a flatMap adds nothing -/
theorem pushAll_flatMap_D (r : β → List α) (Y : List β) : ∀ (L : List α) (Z : List β), pushAll L ((pushAll Z Y).flatMap r) = pushAll (pushAll L (Z.flatMap r)) (Y.flatMap r) := by
  induction Y with
  | nil => intro L Z; rfl
  | cons y Y ih =>
    intro L Z
    rw [pushAll_cons, ih, List.flatMap_cons, pushAll_append]
    congr 1
    by_cases hy : y ∈ Z
    · rw [push_mem hy]
      refine (pushAll_of_sub ?_).symm
      intro x hx
      exact mem_pushAll.mpr (.inr (List.mem_flatMap.mpr ⟨y, hy, hx⟩))
    · rw [push_new hy, List.flatMap_append, pushAll_append]
      simp
theorem D_flatMap_D (x : α) (r : β → List α) (Y : List β) : D (x :: (D Y).flatMap r) = D (x :: Y.flatMap r) := by
  rw [D_cons, D_cons]
  have := pushAll_flatMap_D r Y [x] []
  simpa [D, pushAll_nil] using this

/-! ### counting -/
theorem length_le_of_sub {L M : List α} (hn : L.Nodup) (h : ∀ x ∈ L, x ∈ M) : L.length ≤ M.length := by
  induction L generalizing M with
  | nil => exact Nat.zero_le _
  | cons a L ih =>
    have ha : a ∈ M := h a List.mem_cons_self
    have h1 := ih (M := M.erase a) (List.nodup_cons.mp hn).2 (by
      intro x hx
      have hne : x ≠ a := by
        intro e
        rw [e] at hx
        exact (List.nodup_cons.mp hn).1 hx
      exact (List.mem_erase_of_ne hne).mpr (h x (List.mem_cons_of_mem _ hx)))
    rw [List.length_erase_of_mem ha] at h1
    have : 0 < M.length := List.length_pos_of_mem ha
    rw [List.length_cons]
    omega
end

theorem nodup_lt_length {L : List Nat} {n : Nat} (hn : L.Nodup) (h : ∀ x ∈ L, x < n) : L.length ≤ n := by
  have := length_le_of_sub (M := List.range n) hn (fun x hx => List.mem_range.mpr (h x hx))
  rwa [List.length_range] at this

/-! ### machines -/
def rowOf (R : List (List Nat)) (q : Nat) : List Nat := R.getD q []
def dl (R : List (List Nat)) (q k : Nat) : Nat := (rowOf R q).getD k 0
def runM (R : List (List Nat)) (q : Nat) (w : List Nat) : Nat := w.foldl (dl R) q
def Wd (n : Nat) (w : List Nat) : Prop := ∀ k ∈ w, k < n
structure Mok (n : Nat) (R : List (List Nat)) : Prop where
  wide : ∀ q, q < R.length → (rowOf R q).length = n
  lt : ∀ q, q < R.length → ∀ x ∈ rowOf R q, x < R.length
def Alk (n : Nat) (R : List (List Nat)) (E : List Nat) (q : Nat) (R' : List (List Nat)) (E' : List Nat) (q' : Nat) : Prop :=
  ∀ w, Wd n w → (runM R q w ∈ E ↔ runM R' q' w ∈ E')

section
variable {n : Nat} {R R' R1 : List (List Nat)} {E E' E1 : List Nat} {q q' q1 : Nat}
theorem Alk.refl (n : Nat) (R : List (List Nat)) (E : List Nat) (q : Nat) : Alk n R E q R E q := fun _ _ => Iff.rfl
theorem Alk.symm (h : Alk n R E q R' E' q') : Alk n R' E' q' R E q := fun w hw => (h w hw).symm
theorem Alk.trans (h : Alk n R E q R' E' q') (h' : Alk n R' E' q' R1 E1 q1) : Alk n R E q R1 E1 q1 := fun w hw => (h w hw).trans (h' w hw)
theorem Alk.step (h : Alk n R E q R' E' q') {k : Nat} (hk : k < n) : Alk n R E (dl R q k) R' E' (dl R' q' k) := fun w hw =>
  h (k :: w) (fun j hj => by
    rcases List.mem_cons.mp hj with e | hj
    · rw [e]; exact hk
    · exact hw j hj)
theorem Alk.nil (h : Alk n R E q R' E' q') : q ∈ E ↔ q' ∈ E' := h [] (fun _ z => by cases z)
theorem dl_mem (hM : Mok n R) (hq : q < R.length) {k : Nat} (hk : k < n) : dl R q k ∈ rowOf R q := by
  have hl : k < (rowOf R q).length := by rw [hM.wide q hq]; exact hk
  unfold dl
  rw [List.getD_eq_getElem?_getD, List.getElem?_eq_getElem hl]
  exact List.getElem_mem hl
theorem dl_lt (hM : Mok n R) (hq : q < R.length) {k : Nat} (hk : k < n) : dl R q k < R.length := hM.lt q hq _ (dl_mem hM hq hk)
theorem runM_nil (R : List (List Nat)) (q : Nat) : runM R q [] = q := rfl
theorem runM_cons (R : List (List Nat)) (q k : Nat) (w : List Nat) : runM R q (k :: w) = runM R (dl R q k) w := rfl
theorem runM_append (R : List (List Nat)) (q : Nat) (v w : List Nat) : runM R q (v ++ w) = runM R (runM R q v) w := List.foldl_append
theorem runM_lt (hM : Mok n R) {w : List Nat} : ∀ {q : Nat}, q < R.length → Wd n w → runM R q w < R.length := by
  induction w with
  | nil => intro q hq _; exact hq
  | cons k w ih =>
    intro q hq hw
    exact ih (dl_lt hM hq (hw k List.mem_cons_self)) (fun j hj => hw j (List.mem_cons_of_mem _ hj))
theorem Alk.run (h : Alk n R E q R' E' q') {w : List Nat} (hw : Wd n w) : Alk n R E (runM R q w) R' E' (runM R' q' w) := by
  intro v hv
  have := h (w ++ v) (fun k hk => by
    rcases List.mem_append.mp hk with z | z
    · exact hw k z
    · exact hv k z)
  rwa [runM_append, runM_append] at this
end

/-- the least machine of its texts -/
structure Least (n : Nat) (R : List (List Nat)) (E : List Nat) : Prop where
  ok : Mok n R
  ne : 0 < R.length
  grow : D (0 :: R.flatten) = List.range R.length
  acc : ∀ q, q < R.length → ∃ w, Wd n w ∧ runM R 0 w = q
  red : ∀ p q, p < R.length → q < R.length → Alk n R E p R E q → p = q
  ends : E = (List.range R.length).filter (fun q => decide (q ∈ E))

theorem flatMap_range_rows (R : List (List Nat)) : (List.range R.length).flatMap (rowOf R) = R.flatten := by
  rw [List.flatMap_def]
  congr 1
  apply List.ext_getElem?
  intro i
  rw [List.getElem?_map]
  by_cases h : i < R.length
  · rw [List.getElem?_range h, List.getElem?_eq_getElem h]
    simp [rowOf, List.getD_eq_getElem?_getD, h]
  · have h' : R.length ≤ i := by omega
    rw [List.getElem?_eq_none_iff.mpr (by simpa using h'), List.getElem?_eq_none_iff.mpr h']
    rfl

theorem flatMap_congr {α β : Type} {f g : α → List β} : ∀ (L : List α), (∀ x ∈ L, f x = g x) → L.flatMap f = L.flatMap g
  | [], _ => rfl
  | a :: L, h => by
    rw [List.flatMap_cons, List.flatMap_cons, h a List.mem_cons_self, flatMap_congr L fun x hx => h x (List.mem_cons_of_mem _ hx)]

theorem range_pre {m n : Nat} {Z : List Nat} {L : List Nat} (h : List.range n = L ++ Z) (hl : L.length = m) : L = List.range m := by
  have h1 : L = (List.range n).take m := by
    rw [h, ← hl]
    simp
  have h2 : m ≤ n := by
    have := congrArg List.length h
    rw [List.length_range, List.length_append] at this
    omega
  rw [h1, List.take_range, Nat.min_eq_left h2]

/-- both least, of the same texts: the one is not longer, state by state the same -/
theorem least_half {n : Nat} {R R' : List (List Nat)} {E E' : List Nat} (h : Least n R E) (h' : Least n R' E') (al : Alk n R E 0 R' E' 0) :
    R.length ≤ R'.length ∧ ∀ q, q < R.length → Alk n R E q R' E' q := by
  have hex : ∀ q, ∃ c, q < R.length → c < R'.length ∧ Alk n R E q R' E' c := by
    intro q
    by_cases hq : q < R.length
    · obtain ⟨w, hw, e⟩ := h.acc q hq
      refine ⟨runM R' 0 w, fun _ => ⟨runM_lt h'.ok h'.ne hw, ?_⟩⟩
      have := al.run hw
      rwa [e] at this
    · exact ⟨0, fun z => absurd z hq⟩
  let c : Nat → Nat := fun q => Classical.choose (hex q)
  have hc : ∀ q, q < R.length → c q < R'.length ∧ Alk n R E q R' E' (c q) := fun q => Classical.choose_spec (hex q)
  have uniq : ∀ p p', p < R'.length → p' < R'.length → ∀ q, Alk n R E q R' E' p → Alk n R E q R' E' p' → p = p' := fun p p' hp hp' q a b => h'.red p p' hp hp' (a.symm.trans b)
  have c0 : c 0 = 0 := uniq _ _ (hc 0 h.ne).1 h'.ne 0 (hc 0 h.ne).2 al
  have cinj : ∀ p q, p < R.length → q < R.length → c p = c q → p = q := by
    intro p q hp hq e
    have a := (hc p hp).2
    rw [e] at a
    exact h.red p q hp hq (a.trans (hc q hq).2.symm)
  have crow : ∀ q, q < R.length → rowOf R' (c q) = (rowOf R q).map c := by
    intro q hq
    have hl := h.ok.wide q hq
    have hl' := h'.ok.wide (c q) (hc q hq).1
    apply List.ext_getElem
    · rw [hl', List.length_map, hl]
    · intro k h1 h2
      have hk : k < n := by rw [← hl']; exact h1
      have hk2 : k < (rowOf R q).length := by rw [hl]; exact hk
      have e1 : (rowOf R' (c q))[k] = dl R' (c q) k := by
        unfold dl
        rw [List.getD_eq_getElem?_getD, List.getElem?_eq_getElem h1]
        rfl
      have e2 : (rowOf R q)[k] = dl R q k := by
        unfold dl
        rw [List.getD_eq_getElem?_getD, List.getElem?_eq_getElem hk2]
        rfl
      rw [List.getElem_map, e1, e2]
      have hd := dl_lt h.ok hq hk
      exact uniq _ _ (dl_lt h'.ok (hc q hq).1 hk) (hc _ hd).1 (dl R q k) ((hc q hq).2.step hk) (hc _ hd).2
  have main : ∀ j, j ≤ R.length → ∀ i, i < j → c i = i := by
    intro j
    induction j with
    | zero => intro _ i hi; omega
    | succ j ih =>
      intro hj i hi
      by_cases hij : i < j
      · exact ih (by omega) i hij
      · have ei : i = j := by omega
        subst ei
        have fix := ih (by omega)
        by_cases hi0 : i = 0
        · rw [hi0]; exact c0
        · -- the stream of the rows ahead of i
          have hsub : ∀ x ∈ 0 :: (List.range i).flatMap (rowOf R), x < R.length := by
            intro x hx
            rcases List.mem_cons.mp hx with e | hx
            · rw [e]; exact h.ne
            · obtain ⟨q, hq, hx⟩ := List.mem_flatMap.mp hx
              exact h.ok.lt q (by have := List.mem_range.mp hq; omega) x hx
          have eS : (0 :: (List.range i).flatMap (rowOf R)).map c = 0 :: (List.range i).flatMap (rowOf R') := by
            rw [List.map_cons, c0, List.map_flatMap]
            congr 1
            apply flatMap_congr
            intro q hq
            have hq' := List.mem_range.mp hq
            rw [← crow q (by omega), fix q hq']
          have pre : ∀ (S : List (List Nat)), i ≤ S.length → D (0 :: S.flatten) = List.range S.length → ∃ m, D (0 :: (List.range i).flatMap (rowOf S)) = List.range m := by
            intro S hS hg
            have e1 : List.range S.length = List.range i ++ (List.range (S.length - i)).map (i + ·) := by
              rw [← List.range_add]
              congr 1
              omega
            rw [← flatMap_range_rows S, e1, List.flatMap_append, ← List.cons_append, D_append] at hg
            obtain ⟨Z, hZ⟩ := pushAll_pre (D (0 :: (List.range i).flatMap (rowOf S))) (((List.range (S.length - i)).map (i + ·)).flatMap (rowOf S))
            rw [hZ, ← e1] at hg
            exact ⟨_, range_pre hg.symm rfl⟩
          have hiR' : i ≤ R'.length := by
            have : ∀ x ∈ List.range i, x ∈ List.range R'.length := by
              intro x hx
              have hx' := List.mem_range.mp hx
              have := (hc x (by omega)).1
              rw [fix x hx'] at this
              exact List.mem_range.mpr this
            have := length_le_of_sub (List.nodup_range) this
            rwa [List.length_range, List.length_range] at this
          obtain ⟨m, hm⟩ := pre R (by omega) h.grow
          obtain ⟨m', hm'⟩ := pre R' hiR' h'.grow
          -- i is among the states that the rows ahead lead to
          have him : i < m := by
            refine Nat.lt_of_not_le fun hmi => ?_
            have closed : ∀ w, Wd n w → runM R 0 w < i := by
              have gen : ∀ w : List Nat, Wd n w → ∀ q, q < i → runM R q w < i := by
                intro w
                induction w with
                | nil => intro _ q hq; exact hq
                | cons k w ihw =>
                  intro hw q hq
                  refine ihw (fun j hj => hw j (List.mem_cons_of_mem _ hj)) _ ?_
                  have hmem : dl R q k ∈ D (0 :: (List.range i).flatMap (rowOf R)) := mem_D.mpr (List.mem_cons_of_mem _ (List.mem_flatMap.mpr ⟨q, List.mem_range.mpr hq, dl_mem h.ok (by omega) (hw k List.mem_cons_self)⟩))
                  rw [hm] at hmem
                  have := List.mem_range.mp hmem
                  omega
              intro w hw
              exact gen w hw 0 (by omega)
            obtain ⟨w, hw, e⟩ := h.acc i (by omega)
            have := closed w hw
            omega
          have emap : (List.range m).map c = List.range m' := by
            rw [← hm, ← hm', D_map_inj, eS]
            intro x hx y hy e
            exact cinj x y (hsub x hx) (hsub y hy) e
          have hl : m = m' := by
            have := congrArg List.length emap
            simpa using this
          have := congrArg (fun L => L[i]?) emap
          simp only [List.getElem?_map] at this
          rw [List.getElem?_range him, List.getElem?_range (by omega)] at this
          simpa using this
  have fixed : ∀ q, q < R.length → c q = q := fun q hq => main R.length (Nat.le_refl _) q hq
  refine ⟨?_, fun q hq => ?_⟩
  · have : ∀ x ∈ List.range R.length, x ∈ List.range R'.length := by
      intro x hx
      have hx' := List.mem_range.mp hx
      have := (hc x hx').1
      rw [fixed x hx'] at this
      exact List.mem_range.mpr this
    have := length_le_of_sub (List.nodup_range) this
    rwa [List.length_range, List.length_range] at this
  · have := (hc q hq).2
    rwa [fixed q hq] at this

theorem least_unique {n : Nat} {R R' : List (List Nat)} {E E' : List Nat} (h : Least n R E) (h' : Least n R' E') (al : Alk n R E 0 R' E' 0) : R = R' ∧ E = E' := by
  obtain ⟨l1, a1⟩ := least_half h h' al
  obtain ⟨l2, a2⟩ := least_half h' h al.symm
  have hl : R.length = R'.length := Nat.le_antisymm l1 l2
  constructor
  · apply List.ext_getElem hl
    intro q h1 h2
    have r1 : R[q] = rowOf R q := by
      unfold rowOf
      rw [List.getD_eq_getElem?_getD, List.getElem?_eq_getElem h1]
      rfl
    have r2 : R'[q] = rowOf R' q := by
      unfold rowOf
      rw [List.getD_eq_getElem?_getD, List.getElem?_eq_getElem h2]
      rfl
    rw [r1, r2]
    have w1 := h.ok.wide q h1
    have w2 := h'.ok.wide q h2
    apply List.ext_getElem (w1.trans w2.symm)
    intro k k1 k2
    have hk : k < n := by rw [← w1]; exact k1
    have e1 : (rowOf R q)[k] = dl R q k := by
      unfold dl
      rw [List.getD_eq_getElem?_getD, List.getElem?_eq_getElem k1]
      rfl
    have e2 : (rowOf R' q)[k] = dl R' q k := by
      unfold dl
      rw [List.getD_eq_getElem?_getD, List.getElem?_eq_getElem k2]
      rfl
    rw [e1, e2]
    have b1 := dl_lt h.ok h1 hk
    have b2 := dl_lt h'.ok h2 hk
    have s1 := (a1 q h1).step hk
    have s2 := a1 (dl R q k) b1
    exact h'.red _ _ (by omega) b2 (s2.symm.trans s1)
  · rw [h.ends, h'.ends, hl]
    apply List.filter_congr
    intro q hq
    have hq' := List.mem_range.mp hq
    have := (a1 q (by omega)).nil
    simp [this]
end Mach

namespace Mach

/-! ### states in the order in which texts first lead to them -/
structure BfsAt (n : Nat) (R : List (List Nat)) (b : Nat) (L : List Nat) (i : Nat) : Prop where
  eq : L = D (b :: (L.take i).flatMap (rowOf R))
  lt : ∀ s ∈ L, s < R.length
  reach : ∀ s ∈ L, ∃ w, Wd n w ∧ runM R b w = s
  le : i ≤ L.length
structure Bfs (n : Nat) (R : List (List Nat)) (b : Nat) (L : List Nat) : Prop where
  eq : L = D (b :: L.flatMap (rowOf R))
  lt : ∀ s ∈ L, s < R.length
  reach : ∀ s ∈ L, ∃ w, Wd n w ∧ runM R b w = s

section
variable {n : Nat} {R : List (List Nat)} {b : Nat} {L : List Nat} {i : Nat}
theorem bfs_start (hb : b < R.length) : BfsAt n R b [b] 0 := by
  refine ⟨rfl, fun s hs => ?_, fun s hs => ?_, Nat.zero_le _⟩
  · rw [List.mem_singleton.mp hs]; exact hb
  · rw [List.mem_singleton.mp hs]; exact ⟨[], (fun _ z => nomatch z), rfl⟩
theorem BfsAt.nodup (h : BfsAt n R b L i) : L.Nodup := by
  rw [h.eq]
  exact D_nodup _
theorem BfsAt.len (h : BfsAt n R b L i) : L.length ≤ R.length := nodup_lt_length h.nodup h.lt
theorem mem_row_dl {q x : Nat} (hM : Mok n R) (hq : q < R.length) (hx : x ∈ rowOf R q) : ∃ k, k < n ∧ dl R q k = x := by
  obtain ⟨k, hk, e⟩ := List.mem_iff_getElem.mp hx
  refine ⟨k, by rw [← hM.wide q hq]; exact hk, ?_⟩
  unfold dl
  rw [List.getD_eq_getElem?_getD, List.getElem?_eq_getElem hk, ← e]
  rfl
theorem bfs_step (hM : Mok n R) (h : BfsAt n R b L i) {s : Nat} (hs : L[i]? = some s) : BfsAt n R b (pushAll L (rowOf R s)) (i + 1) := by
  have hi : i < L.length := (List.getElem?_eq_some_iff.mp hs).1
  have hsm : s ∈ L := List.mem_of_getElem? hs
  obtain ⟨Z, hZ⟩ := pushAll_pre L (rowOf R s)
  refine ⟨?_, ?_, ?_, ?_⟩
  · have ht : (pushAll L (rowOf R s)).take (i + 1) = L.take i ++ [s] := by
      rw [hZ, List.take_append_of_le_length (by omega), List.take_add_one, hs]
      rfl
    rw [ht, List.flatMap_append, ← List.cons_append, D_append, ← h.eq]
    simp
  · intro x hx
    rcases mem_pushAll.mp hx with z | z
    · exact h.lt x z
    · exact hM.lt s (h.lt s hsm) x z
  · intro x hx
    rcases mem_pushAll.mp hx with z | z
    · exact h.reach x z
    · obtain ⟨w, hw, e⟩ := h.reach s hsm
      obtain ⟨k, hk, ek⟩ := mem_row_dl hM (h.lt s hsm) z
      refine ⟨w ++ [k], fun j hj => ?_, ?_⟩
      · rcases List.mem_append.mp hj with q | q
        · exact hw j q
        · rw [List.mem_singleton.mp q]; exact hk
      · rw [runM_append, e]
        exact ek
  · rw [hZ, List.length_append]
    omega
theorem bfs_end (h : BfsAt n R b L i) (hi : L.length ≤ i) : Bfs n R b L := by
  refine ⟨?_, h.lt, h.reach⟩
  have := h.eq
  rwa [List.take_of_length_le hi] at this
theorem Bfs.nodup (h : Bfs n R b L) : L.Nodup := by
  rw [h.eq]
  exact D_nodup _
theorem Bfs.len (h : Bfs n R b L) : L.length ≤ R.length := nodup_lt_length h.nodup h.lt
theorem Bfs.begin_mem (h : Bfs n R b L) : b ∈ L := by
  rw [h.eq]
  exact mem_D.mpr List.mem_cons_self
theorem Bfs.closed (h : Bfs n R b L) {s x : Nat} (hs : s ∈ L) (hx : x ∈ rowOf R s) : x ∈ L := by
  rw [h.eq]
  exact mem_D.mpr (List.mem_cons_of_mem _ (List.mem_flatMap.mpr ⟨s, hs, hx⟩))
theorem Bfs.step (hM : Mok n R) (h : Bfs n R b L) {s k : Nat} (hs : s ∈ L) (hk : k < n) : dl R s k ∈ L := h.closed hs (dl_mem hM (h.lt s hs) hk)
theorem Bfs.run (hM : Mok n R) (h : Bfs n R b L) : ∀ {w : List Nat} {s : Nat}, s ∈ L → Wd n w → runM R s w ∈ L := by
  intro w
  induction w with
  | nil => intro s hs _; exact hs
  | cons k w ih =>
    intro s hs hw
    exact ih (h.step hM hs (hw k List.mem_cons_self)) (fun j hj => hw j (List.mem_cons_of_mem _ hj))
theorem Bfs.head (h : Bfs n R b L) : ∃ Z, L = b :: Z := by
  obtain ⟨Z, hZ⟩ := pushAll_pre [b] (L.flatMap (rowOf R))
  refine ⟨Z, ?_⟩
  have := h.eq
  rw [D_cons, hZ] at this
  exact this
end

/-! ### the machine of the classes -/
theorem range_head {m : Nat} {x : Nat} {Z : List Nat} (h : List.range m = x :: Z) : x = 0 ∧ 0 < m := by
  cases m with
  | zero => simp at h
  | succ m =>
    rw [List.range_succ_eq_map] at h
    exact ⟨(List.cons.inj h).1.symm, Nat.succ_pos _⟩

theorem quot_least {n : Nat} {R : List (List Nat)} {E : List Nat} {b : Nat} {L F : List Nat} {num : Nat → Nat} (hM : Mok n R) (hB : Bfs n R b L)
    (hal : ∀ s ∈ L, ∀ t ∈ L, num s = num t ↔ Alk n R E s R E t) (hF : ∀ s ∈ F, s ∈ L) (hFn : F.map num = List.range F.length)
    (hD : D (L.map num) = List.range F.length) :
    Least n (F.map fun s => (rowOf R s).map num) ((F.filter (fun s => decide (s ∈ E))).map num) ∧
    Alk n (F.map fun s => (rowOf R s).map num) ((F.filter (fun s => decide (s ∈ E))).map num) 0 R E b := by
  have hlen : (F.map fun s => (rowOf R s).map num).length = F.length := List.length_map _
  have numF : ∀ i (hi : i < F.length), num F[i] = i := by
    intro i hi
    have := congrArg (fun l => l[i]?) hFn
    simp only [List.getElem?_map] at this
    rw [List.getElem?_eq_getElem hi, List.getElem?_range hi] at this
    simpa using this
  have numlt : ∀ s ∈ L, num s < F.length := by
    intro s hs
    have : num s ∈ D (L.map num) := mem_D.mpr (List.mem_map_of_mem hs)
    rw [hD] at this
    exact List.mem_range.mp this
  obtain ⟨Zb, hZb⟩ := hB.head
  have hb0 : num b = 0 ∧ 0 < F.length := by
    obtain ⟨Z, hZ⟩ := pushAll_pre [num b] (Zb.map num)
    have h1 : D (L.map num) = num b :: Z := by
      rw [hZb, List.map_cons, D_cons, hZ]
      rfl
    rw [hD] at h1
    exact range_head h1
  have rowF : ∀ i (hi : i < F.length), rowOf (F.map fun s => (rowOf R s).map num) i = (rowOf R F[i]).map num := by
    intro i hi
    unfold rowOf
    rw [List.getD_eq_getElem?_getD, List.getElem?_map, List.getElem?_eq_getElem hi]
    rfl
  have FL : ∀ i (hi : i < F.length), F[i] ∈ L := fun i hi => hF _ (List.getElem_mem hi)
  have alF : ∀ s (hs : s ∈ L), Alk n R E s R E (F[num s]'(numlt s hs)) := by
    intro s hs
    exact (hal s hs _ (FL _ (numlt s hs))).mp (numF _ (numlt s hs)).symm
  have rowS : ∀ s ∈ L, rowOf (F.map fun s => (rowOf R s).map num) (num s) = (rowOf R s).map num := by
    intro s hs
    rw [rowF _ (numlt s hs)]
    have w1 := hM.wide s (hB.lt s hs)
    have w2 := hM.wide _ (hB.lt _ (FL _ (numlt s hs)))
    apply List.ext_getElem
    · rw [List.length_map, List.length_map, w1, w2]
    · intro k h1 h2
      rw [List.length_map] at h1 h2
      have hk : k < n := by omega
      rw [List.getElem_map, List.getElem_map]
      have e1 : (rowOf R s)[k] = dl R s k := by
        unfold dl
        rw [List.getD_eq_getElem?_getD, List.getElem?_eq_getElem h2]
        rfl
      have e2 : (rowOf R (F[num s]'(numlt s hs)))[k] = dl R (F[num s]'(numlt s hs)) k := by
        unfold dl
        rw [List.getD_eq_getElem?_getD, List.getElem?_eq_getElem h1]
        rfl
      rw [e1, e2]
      exact (hal _ (hB.step hM (FL _ (numlt s hs)) hk) _ (hB.step hM hs hk)).mpr ((alF s hs).step hk).symm
  have dlS : ∀ s ∈ L, ∀ k, k < n → dl (F.map fun s => (rowOf R s).map num) (num s) k = num (dl R s k) := by
    intro s hs k hk
    have hl : k < (rowOf R s).length := by rw [hM.wide s (hB.lt s hs)]; exact hk
    unfold dl
    rw [rowS s hs, List.getD_eq_getElem?_getD, List.getD_eq_getElem?_getD, List.getElem?_map, List.getElem?_eq_getElem hl]
    rfl
  have runS : ∀ w, Wd n w → ∀ s ∈ L, runM (F.map fun s => (rowOf R s).map num) (num s) w = num (runM R s w) := by
    intro w
    induction w with
    | nil => intro _ s _; rfl
    | cons k w ih =>
      intro hw s hs
      have hk := hw k List.mem_cons_self
      rw [runM_cons, runM_cons, dlS s hs k hk]
      exact ih (fun j hj => hw j (List.mem_cons_of_mem _ hj)) _ (hB.step hM hs hk)
  have endS : ∀ s ∈ L, num s ∈ (F.filter (fun s => decide (s ∈ E))).map num ↔ s ∈ E := by
    intro s hs
    constructor
    · intro h
      obtain ⟨t, ht, e⟩ := List.mem_map.mp h
      obtain ⟨h1, h2⟩ := List.mem_filter.mp ht
      exact ((hal t (hF t h1) s hs).mp e).nil.mp (of_decide_eq_true h2)
    · intro h
      refine List.mem_map.mpr ⟨F[num s]'(numlt s hs), List.mem_filter.mpr ⟨List.getElem_mem _, decide_eq_true ((alF s hs).nil.mp h)⟩, numF _ _⟩
  have alS : ∀ s ∈ L, Alk n (F.map fun s => (rowOf R s).map num) ((F.filter (fun s => decide (s ∈ E))).map num) (num s) R E s := by
    intro s hs w hw
    rw [runS w hw s hs]
    exact endS _ (hB.run hM hs hw)
  have al0 := alS b hB.begin_mem
  rw [hb0.1] at al0
  refine ⟨⟨⟨?_, ?_⟩, ?_, ?_, ?_, ?_, ?_⟩, al0⟩
  · intro q hq
    rw [hlen] at hq
    rw [rowF q hq, List.length_map]
    exact hM.wide _ (hB.lt _ (FL q hq))
  · intro q hq x hx
    rw [hlen] at hq ⊢
    rw [rowF q hq] at hx
    obtain ⟨y, hy, e⟩ := List.mem_map.mp hx
    rw [← e]
    exact numlt y (hB.closed (FL q hq) hy)
  · rw [hlen]; exact hb0.2
  · rw [← flatMap_range_rows, hlen, ← hD, D_flatMap_D, List.flatMap_map]
    have e1 : L.flatMap (fun s => rowOf (F.map fun s => (rowOf R s).map num) (num s)) = (L.flatMap (rowOf R)).map num := by
      rw [List.map_flatMap]
      exact flatMap_congr L fun s hs => rowS s hs
    rw [e1]
    have e2 : 0 :: (L.flatMap (rowOf R)).map num = (b :: L.flatMap (rowOf R)).map num := by
      rw [List.map_cons, hb0.1]
    rw [e2, ← D_map_D, ← hB.eq]
  · intro q hq
    rw [hlen] at hq
    obtain ⟨w, hw, e⟩ := hB.reach _ (FL q hq)
    refine ⟨w, hw, ?_⟩
    have := runS w hw b hB.begin_mem
    rw [hb0.1, e, numF q hq] at this
    exact this
  · intro p q hp hq a
    rw [hlen] at hp hq
    have a1 := alS _ (FL p hp)
    have a2 := alS _ (FL q hq)
    rw [numF p hp] at a1
    rw [numF q hq] at a2
    have := (hal _ (FL p hp) _ (FL q hq)).mpr (a1.symm.trans (a.trans a2))
    rwa [numF p hp, numF q hq] at this
  · rw [hlen, ← hFn, List.filter_map]
    congr 1
    apply List.filter_congr
    intro s hs
    have := endS s (hF s hs)
    simp only [Function.comp]
    rw [decide_eq_decide]
    exact this.symm

/-! ### classes: Moore's way -/
section
variable {α : Type} [BEq α] [LawfulBEq α]
theorem idxOf_inj {X : List α} {x y : α} (hx : x ∈ X) (h : X.idxOf x = X.idxOf y) : x = y := by
  have h1 : X.idxOf x < X.length := List.idxOf_lt_length_iff.mpr hx
  have h2 : X.idxOf y < X.length := by rw [← h]; exact h1
  have e1 : X[X.idxOf x] = x := List.getElem_idxOf h1
  have e2 : X[X.idxOf y] = y := List.getElem_idxOf h2
  have : X[X.idxOf x] = X[X.idxOf y] := by
    congr 1
  rw [e1, e2] at this
  exact this
theorem map_idxOf_self {X : List α} (h : X.Nodup) : X.map (fun x => X.idxOf x) = List.range X.length := by
  apply List.ext_getElem
  · simp
  · intro i h1 h2
    rw [List.getElem_map, List.getElem_range]
    rw [List.length_map] at h1
    exact List.Nodup.idxOf_getElem h i h1
end
def hm (L : List Nat) (c : Nat → Nat) : Nat := (D (L.map c)).length
theorem hm_le (L : List Nat) (c : Nat → Nat) : hm L c ≤ L.length := by
  unfold hm
  have := length_le_of_sub (D_nodup (L.map c)) (fun x hx => mem_D.mp hx)
  rwa [List.length_map] at this
theorem same_part {L : List Nat} {f g : Nat → Nat} (h : ∀ s ∈ L, ∀ t ∈ L, g s = g t → f s = f t) (hc : hm L g ≤ hm L f) : ∀ s ∈ L, ∀ t ∈ L, f s = f t → g s = g t := by
  intro s hs t ht e
  refine Classical.byContradiction fun hne => ?_
  let pre : Nat → Nat := fun v => (L.find? (fun u => decide (g u = v))).getD 0
  have hpre : ∀ u ∈ L, pre (g u) ∈ L ∧ g (pre (g u)) = g u := by
    intro u hu
    cases hf : L.find? (fun x => decide (g x = g u)) with
    | none =>
      have := List.find?_eq_none.mp hf u hu
      simp at this
    | some v =>
      have h1 := List.mem_of_find?_eq_some hf
      have h2 := List.find?_some hf
      have ev : pre (g u) = v := by
        show (L.find? (fun x => decide (g x = g u))).getD 0 = v
        rw [hf]
        rfl
      rw [ev]
      exact ⟨h1, of_decide_eq_true h2⟩
  have hsub : ∀ x ∈ D (L.map f), x ∈ ((D (L.map g)).erase (g t)).map (fun v => f (pre v)) := by
    intro x hx
    obtain ⟨u, hu, ex⟩ := List.mem_map.mp (mem_D.mp hx)
    have key : ∀ u ∈ L, g u ≠ g t → f u ∈ ((D (L.map g)).erase (g t)).map (fun v => f (pre v)) := by
      intro u hu hn
      refine List.mem_map.mpr ⟨g u, (List.mem_erase_of_ne hn).mpr (mem_D.mpr (List.mem_map_of_mem hu)), ?_⟩
      exact h _ (hpre u hu).1 u hu (hpre u hu).2
    by_cases hn : g u = g t
    · rw [← ex, h u hu t ht hn, ← e]
      exact key s hs hne
    · rw [← ex]
      exact key u hu hn
  have hlen := length_le_of_sub (D_nodup (L.map f)) hsub
  have hgt : g t ∈ D (L.map g) := mem_D.mpr (List.mem_map_of_mem ht)
  rw [List.length_map, List.length_erase_of_mem hgt] at hlen
  have : 0 < (D (L.map g)).length := List.length_pos_of_mem hgt
  unfold hm at hc
  omega

def sgn (R : List (List Nat)) (c : Nat → Nat) (s : Nat) : Nat × List Nat := (c s, (rowOf R s).map c)
def parted (R : List (List Nat)) (L : List Nat) (c : Nat → Nat) (s : Nat) : Nat := (D (L.map (sgn R c))).idxOf (sgn R c s)
theorem parted_iff {R : List (List Nat)} {L : List Nat} {c : Nat → Nat} {s t : Nat} (hs : s ∈ L) : parted R L c s = parted R L c t ↔ sgn R c s = sgn R c t := by
  constructor
  · intro e
    exact idxOf_inj (X := D (L.map (sgn R c))) (mem_D.mpr (List.mem_map_of_mem hs)) e
  · intro e
    unfold parted
    rw [e]
structure MooreAt (n : Nat) (R : List (List Nat)) (E L : List Nat) (c : Nat → Nat) : Prop where
  weak : ∀ s ∈ L, ∀ t ∈ L, Alk n R E s R E t → c s = c t
  ends : ∀ s ∈ L, ∀ t ∈ L, c s = c t → (s ∈ E ↔ t ∈ E)
theorem moore_start {n : Nat} {R : List (List Nat)} {E L : List Nat} : MooreAt n R E L (fun s => if s ∈ E then 1 else 0) := by
  constructor
  · intro s _ t _ a
    have := a.nil
    by_cases h : s ∈ E
    · simp [h, this.mp h]
    · have h' : t ∉ E := fun z => h (this.mpr z)
      simp [h, h']
  · intro s _ t _ e
    by_cases h : s ∈ E
    · by_cases h' : t ∈ E
      · simp [h, h']
      · simp [h, h'] at e
    · by_cases h' : t ∈ E
      · simp [h, h'] at e
      · simp [h, h']
section
variable {n : Nat} {R : List (List Nat)} {E L : List Nat} {b : Nat} {c : Nat → Nat}
theorem sgn_alk (hM : Mok n R) (hB : Bfs n R b L) (h : MooreAt n R E L c) {s t : Nat} (hs : s ∈ L) (ht : t ∈ L) (a : Alk n R E s R E t) : sgn R c s = sgn R c t := by
  unfold sgn
  rw [h.weak s hs t ht a]
  congr 1
  have w1 := hM.wide s (hB.lt s hs)
  have w2 := hM.wide t (hB.lt t ht)
  apply List.ext_getElem
  · rw [List.length_map, List.length_map, w1, w2]
  · intro k h1 h2
    rw [List.length_map] at h1 h2
    have hk : k < n := by omega
    have e1 : (rowOf R s)[k] = dl R s k := by
      unfold dl
      rw [List.getD_eq_getElem?_getD, List.getElem?_eq_getElem h1]
      rfl
    have e2 : (rowOf R t)[k] = dl R t k := by
      unfold dl
      rw [List.getD_eq_getElem?_getD, List.getElem?_eq_getElem h2]
      rfl
    rw [List.getElem_map, List.getElem_map, e1, e2]
    exact h.weak _ (hB.step hM hs hk) _ (hB.step hM ht hk) (a.step hk)
theorem moore_step (hM : Mok n R) (hB : Bfs n R b L) (h : MooreAt n R E L c) : MooreAt n R E L (parted R L c) := by
  constructor
  · intro s hs t ht a
    exact (parted_iff hs).mpr (sgn_alk hM hB h hs ht a)
  · intro s hs t ht e
    exact h.ends s hs t ht (congrArg Prod.fst ((parted_iff hs).mp e))
theorem moore_end (hM : Mok n R) (hB : Bfs n R b L) (h : MooreAt n R E L c) (hc : hm L (parted R L c) ≤ hm L c) : ∀ s ∈ L, ∀ t ∈ L, parted R L c s = parted R L c t ↔ Alk n R E s R E t := by
  have sp := same_part (f := c) (g := parted R L c) (fun s hs t ht e => congrArg Prod.fst ((parted_iff hs).mp e)) hc
  have stable : ∀ s ∈ L, ∀ t ∈ L, c s = c t → ∀ k, k < n → c (dl R s k) = c (dl R t k) := by
    intro s hs t ht e k hk
    have e1 := congrArg Prod.snd ((parted_iff hs).mp (sp s hs t ht e))
    have e2 := congrArg (fun l => l[k]?) e1
    simp only [sgn, List.getElem?_map] at e2
    have l1 : k < (rowOf R s).length := by rw [hM.wide s (hB.lt s hs)]; exact hk
    have l2 : k < (rowOf R t).length := by rw [hM.wide t (hB.lt t ht)]; exact hk
    rw [List.getElem?_eq_getElem l1, List.getElem?_eq_getElem l2] at e2
    have d1 : dl R s k = (rowOf R s)[k] := by
      unfold dl
      rw [List.getD_eq_getElem?_getD, List.getElem?_eq_getElem l1]
      rfl
    have d2 : dl R t k = (rowOf R t)[k] := by
      unfold dl
      rw [List.getD_eq_getElem?_getD, List.getElem?_eq_getElem l2]
      rfl
    rw [d1, d2]
    simpa using e2
  intro s hs t ht
  constructor
  · intro e
    have e0 : c s = c t := congrArg Prod.fst ((parted_iff hs).mp e)
    have gen : ∀ w, Wd n w → ∀ s ∈ L, ∀ t ∈ L, c s = c t → (runM R s w ∈ E ↔ runM R t w ∈ E) := by
      intro w
      induction w with
      | nil => intro _ s hs t ht e; exact h.ends s hs t ht e
      | cons k w ih =>
        intro hw s hs t ht e
        have hk := hw k List.mem_cons_self
        exact ih (fun j hj => hw j (List.mem_cons_of_mem _ hj)) _ (hB.step hM hs hk) _ (hB.step hM ht hk) (stable s hs t ht e k hk)
    exact fun w hw => gen w hw s hs t ht e0
  · intro a
    exact (parted_iff hs).mpr (sgn_alk hM hB h hs ht a)
/-! ### classes: pairs that are told apart -/
theorem table_done (hM : Mok n R) (hB : Bfs n R b L) {A : Nat → Nat → Prop} (h1 : ∀ p ∈ L, ∀ q ∈ L, A p q → ¬ Alk n R E p R E q)
    (h2 : ∀ p ∈ L, ∀ q ∈ L, ¬ (p ∈ E ↔ q ∈ E) → A p q) (h3 : ∀ p ∈ L, ∀ q ∈ L, ¬ A p q → ∀ k, k < n → ¬ A (dl R p k) (dl R q k)) :
    ∀ p ∈ L, ∀ q ∈ L, ¬ A p q ↔ Alk n R E p R E q := by
  intro p hp q hq
  constructor
  · intro na
    have gen : ∀ w, Wd n w → ∀ p ∈ L, ∀ q ∈ L, ¬ A p q → (runM R p w ∈ E ↔ runM R q w ∈ E) := by
      intro w
      induction w with
      | nil =>
        intro _ p hp q hq na
        exact Classical.byContradiction fun z => na (h2 p hp q hq z)
      | cons k w ih =>
        intro hw p hp q hq na
        have hk := hw k List.mem_cons_self
        exact ih (fun j hj => hw j (List.mem_cons_of_mem _ hj)) _ (hB.step hM hp hk) _ (hB.step hM hq hk) (h3 p hp q hq na k hk)
    exact fun w hw => gen w hw p hp q hq na
  · intro a na
    exact h1 p hp q hq na a
theorem apart_step (hM : Mok n R) (hB : Bfs n R b L) {p q k : Nat} (hp : p ∈ L) (hq : q ∈ L) (hk : k < n) (h : ¬ Alk n R E (dl R p k) R E (dl R q k)) : ¬ Alk n R E p R E q := fun a => h (a.step hk)
end

/-! ### numbers by classes: the program's way -/
def fsts (c : Nat → Nat) (L : List Nat) : List (Nat × Nat) := L.foldl (fun a s => if c s ∈ a.map Prod.fst then a else a ++ [(c s, s)]) []
theorem fsts_snoc (c : Nat → Nat) (L : List Nat) (s : Nat) : fsts c (L ++ [s]) = if c s ∈ (fsts c L).map Prod.fst then fsts c L else fsts c L ++ [(c s, s)] := by
  unfold fsts
  rw [List.foldl_append]
  rfl
theorem fsts_fst (c : Nat → Nat) (L : List Nat) : (fsts c L).map Prod.fst = D (L.map c) := by
  have gen : ∀ (k : Nat), (fsts c (L.take k)).map Prod.fst = D ((L.take k).map c) := by
    intro k
    induction k with
    | zero => rfl
    | succ k ih =>
      cases h : L[k]? with
      | none =>
        rw [List.take_add_one, h]
        simpa using ih
      | some s =>
        rw [List.take_add_one, h]
        show (fsts c (L.take k ++ [s])).map Prod.fst = D ((L.take k ++ [s]).map c)
        rw [fsts_snoc, List.map_append, D_append, ← ih]
        show _ = push ((fsts c (L.take k)).map Prod.fst) (c s)
        unfold push
        split
        · rfl
        · rw [List.map_append]
          rfl
  have := gen L.length
  rwa [List.take_length] at this
theorem fsts_mem (c : Nat → Nat) (L : List Nat) : ∀ p ∈ fsts c L, p.2 ∈ L ∧ c p.2 = p.1 := by
  have gen : ∀ (k : Nat), ∀ p ∈ fsts c (L.take k), p.2 ∈ L ∧ c p.2 = p.1 := by
    intro k
    induction k with
    | zero => intro p hp; simp [fsts] at hp
    | succ k ih =>
      cases h : L[k]? with
      | none =>
        rw [List.take_add_one, h]
        simpa using ih
      | some s =>
        rw [List.take_add_one, h]
        show ∀ p ∈ fsts c (L.take k ++ [s]), _
        rw [fsts_snoc]
        intro p hp
        split at hp
        · exact ih p hp
        · rcases List.mem_append.mp hp with z | z
          · exact ih p z
          · rw [List.mem_singleton.mp z]
            exact ⟨List.mem_of_getElem? h, rfl⟩
  have := gen L.length
  rwa [List.take_length] at this
/-- what the program makes of classes -/
def made (R : List (List Nat)) (E L : List Nat) (c : Nat → Nat) : List (List Nat) × List Nat :=
  (((fsts c L).map Prod.snd).map fun s => (rowOf R s).map fun t => (D (L.map c)).idxOf (c t),
   (((fsts c L).map Prod.snd).filter fun s => decide (s ∈ E)).map fun t => (D (L.map c)).idxOf (c t))
theorem made_least {n : Nat} {R : List (List Nat)} {E : List Nat} {b : Nat} {L : List Nat} {c : Nat → Nat} (hM : Mok n R) (hB : Bfs n R b L)
    (hal : ∀ s ∈ L, ∀ t ∈ L, c s = c t ↔ Alk n R E s R E t) : Least n (made R E L c).1 (made R E L c).2 ∧ Alk n (made R E L c).1 (made R E L c).2 0 R E b := by
  have hmapc : ((fsts c L).map Prod.snd).map c = D (L.map c) := by
    rw [← fsts_fst, List.map_map]
    apply List.map_congr_left
    intro p hp
    exact (fsts_mem c L p hp).2
  have hlen : ((fsts c L).map Prod.snd).length = (D (L.map c)).length := by
    rw [← hmapc, List.length_map (f := c)]
  refine quot_least (num := fun t => (D (L.map c)).idxOf (c t)) hM hB ?_ ?_ ?_ ?_
  · intro s hs t ht
    rw [← hal s hs t ht]
    constructor
    · exact idxOf_inj (mem_D.mpr (List.mem_map_of_mem hs))
    · intro e
      show (D (L.map c)).idxOf (c s) = (D (L.map c)).idxOf (c t)
      rw [e]
  · intro s hs
    obtain ⟨p, hp, e⟩ := List.mem_map.mp hs
    rw [← e]
    exact (fsts_mem c L p hp).1
  · rw [hlen, ← map_idxOf_self (D_nodup (L.map c))]
    have : ((fsts c L).map Prod.snd).map (fun t => (D (L.map c)).idxOf (c t)) = (((fsts c L).map Prod.snd).map c).map (fun x => (D (L.map c)).idxOf x) := by
      simp only [List.map_map]
      rfl
    rw [this, hmapc]
  · rw [hlen]
    have : L.map (fun t => (D (L.map c)).idxOf (c t)) = (L.map c).map (fun x => (D (L.map c)).idxOf x) := by
      rw [List.map_map]
      rfl
    rw [this, ← D_map_D, map_idxOf_self (D_nodup (L.map c)), D_of_nodup List.nodup_range]
end Mach

namespace Mach
/-! ### pushing by filtering -/
section
variable {α : Type} [DecidableEq α]
theorem pushAll_filter (L X : List α) : pushAll L X = L ++ (D X).filter (fun x => decide (x ∉ L)) := by
  rw [← pushAll_D]
  have gen : ∀ (Y L M : List α), Y.Nodup → (∀ y ∈ Y, y ∉ M) → pushAll (L ++ M) Y = L ++ M ++ Y.filter (fun x => decide (x ∉ L)) := by
    intro Y
    induction Y with
    | nil => intro L M _ _; simp [pushAll_nil]
    | cons y Y ih =>
      intro L M hn hM
      rw [List.nodup_cons] at hn
      rw [pushAll_cons]
      by_cases h : y ∈ L
      · rw [push_mem (List.mem_append_left _ h), ih L M hn.2 (fun z hz => hM z (List.mem_cons_of_mem _ hz)), List.filter_cons_of_neg (by simpa using h)]
      · have h' : y ∉ L ++ M := by
          intro z
          rcases List.mem_append.mp z with z | z
          · exact h z
          · exact hM y List.mem_cons_self z
        rw [push_new h', List.append_assoc, ih L (M ++ [y]) hn.2 ?_, List.filter_cons_of_pos (by simpa using h)]
        · simp
        · intro z hz hm
          rcases List.mem_append.mp hm with q | q
          · exact hM z (List.mem_cons_of_mem _ hz) q
          · rw [List.mem_singleton] at q
            rw [q] at hz
            exact hn.1 hz
  have := gen (D X) L [] (D_nodup X) (fun _ _ z => nomatch z)
  simpa using this
end
/-! ### pairs told apart, pass by pass -/
section
variable {n : Nat} {R : List (List Nat)} {E L : List Nat} {b : Nat}
structure Apart (n : Nat) (R : List (List Nat)) (E L : List Nat) (A : List (Nat × Nat)) : Prop where
  nd : A.Nodup
  mem : ∀ p ∈ A, p.1 ∈ L ∧ p.2 ∈ L
  no : ∀ p ∈ A, ¬ Alk n R E p.1 R E p.2
  ini : ∀ p ∈ L, ∀ q ∈ L, ¬ (p ∈ E ↔ q ∈ E) → (p, q) ∈ A
def prodL (L : List Nat) : List (Nat × Nat) := L.flatMap fun p => L.map fun q => (p, q)
theorem prodL_len (L : List Nat) : (prodL L).length = L.length * L.length := by
  have gen : ∀ (M : List Nat), (M.flatMap fun p => L.map fun q => (p, q)).length = M.length * L.length := by
    intro M
    induction M with
    | nil => simp
    | cons a M ih =>
      rw [List.flatMap_cons, List.length_append, ih, List.length_map, List.length_cons, Nat.add_mul, Nat.one_mul, Nat.add_comm]
  exact gen L
theorem Apart.len {A : List (Nat × Nat)} (h : Apart n R E L A) : A.length ≤ L.length * L.length := by
  rw [← prodL_len]
  refine length_le_of_sub h.nd fun p hp => ?_
  obtain ⟨h1, h2⟩ := h.mem p hp
  exact List.mem_flatMap.mpr ⟨p.1, h1, List.mem_map.mpr ⟨p.2, h2, rfl⟩⟩
def Cl (n : Nat) (R : List (List Nat)) (A : List (Nat × Nat)) (p q : Nat) : Prop := (p, q) ∉ A → ∀ k, k < n → (dl R p k, dl R q k) ∉ A
structure Pass (n : Nat) (R : List (List Nat)) (E L : List Nat) (A0 A : List (Nat × Nat)) (g : Bool) (don : Nat → Nat → Prop) : Prop where
  ap : Apart n R E L A
  f : g = false → A = A0 ∧ ∀ p q, don p q → Cl n R A p q
  t : g = true → A0.length < A.length
  le : A0.length ≤ A.length
theorem pass_start {A : List (Nat × Nat)} (h : Apart n R E L A) : Pass n R E L A A false (fun _ _ => False) :=
  ⟨h, fun _ => ⟨rfl, fun _ _ z => z.elim⟩, (fun z => nomatch z), Nat.le_refl _⟩
theorem pass_new (hM : Mok n R) (hB : Bfs n R b L) {A0 A : List (Nat × Nat)} {g : Bool} {don don' : Nat → Nat → Prop} (h : Pass n R E L A0 A g don) {p q k : Nat} (hp : p ∈ L) (hq : q ∈ L) (hk : k < n) (hn : (p, q) ∉ A) (hy : (dl R p k, dl R q k) ∈ A) :
    Pass n R E L A0 (A ++ [(p, q)]) true don' := by
  have hle := h.le
  refine ⟨⟨?_, ?_, ?_, ?_⟩, (fun z => nomatch z), fun _ => ?_, ?_⟩
  · have := push_nodup (s := (p, q)) h.ap.nd
    rwa [push_new hn] at this
  · intro x hx
    rcases List.mem_append.mp hx with z | z
    · exact h.ap.mem x z
    · rw [List.mem_singleton] at z
      rw [z]
      exact ⟨hp, hq⟩
  · intro x hx
    rcases List.mem_append.mp hx with z | z
    · exact h.ap.no x z
    · rw [List.mem_singleton] at z
      rw [z]
      exact apart_step hM hB hp hq hk (h.ap.no _ hy)
  · intro x hx y hy' hne
    exact List.mem_append_left _ (h.ap.ini x hx y hy' hne)
  · rw [List.length_append, List.length_singleton]
    omega
  · rw [List.length_append, List.length_singleton]
    omega
theorem pass_old {A0 A : List (Nat × Nat)} {g : Bool} {don don' : Nat → Nat → Prop} (h : Pass n R E L A0 A g don) (hd : ∀ p q, don' p q → don p q ∨ Cl n R A p q) : Pass n R E L A0 A g don' :=
  ⟨h.ap, fun z => ⟨(h.f z).1, fun p q e => (hd p q e).elim ((h.f z).2 p q) id⟩, h.t, h.le⟩
theorem pass_end (hM : Mok n R) (hB : Bfs n R b L) {A : List (Nat × Nat)} (h : Apart n R E L A) (hc : ∀ p ∈ L, ∀ q ∈ L, Cl n R A p q) : ∀ p ∈ L, ∀ q ∈ L, (p, q) ∉ A ↔ Alk n R E p R E q :=
  table_done (A := fun p q => (p, q) ∈ A) hM hB (fun p _ q _ z => h.no (p, q) z) h.ini (fun p hp q hq z => hc p hp q hq z)
end
/-! ### numbers by classes: the law's way -/
structure Num (A : Nat → Nat → Prop) (P F : List Nat) (num : Nat → Nat) : Prop where
  sub : ∀ s ∈ F, s ∈ P
  fn : F.map num = List.range F.length
  d : D (P.map num) = List.range F.length
  iff : ∀ s ∈ P, ∀ t ∈ P, num s = num t ↔ A s t
def put (num : Nat → Nat) (t v : Nat) : Nat → Nat := fun s => if s = t then v else num s
theorem put_same (num : Nat → Nat) (t v : Nat) : put num t v t = v := if_pos rfl
theorem put_ne {num : Nat → Nat} {t v s : Nat} (h : s ≠ t) : put num t v s = num s := if_neg h
section
variable {A : Nat → Nat → Prop} {P F : List Nat} {num : Nat → Nat} {t : Nat}
theorem Num.lt (h : Num A P F num) {s : Nat} (hs : s ∈ P) : num s < F.length := by
  have : num s ∈ D (P.map num) := mem_D.mpr (List.mem_map_of_mem hs)
  rw [h.d] at this
  exact List.mem_range.mp this
theorem Num.at (h : Num A P F num) {i : Nat} (hi : i < F.length) : num F[i] = i := by
  have := congrArg (fun l => l[i]?) h.fn
  simp only [List.getElem?_map] at this
  rw [List.getElem?_eq_getElem hi, List.getElem?_range hi] at this
  simpa using this
theorem map_put {num : Nat → Nat} {t v : Nat} : ∀ {P : List Nat}, t ∉ P → P.map (put num t v) = P.map num := by
  intro P h
  apply List.map_congr_left
  intro s hs
  exact put_ne fun e => h (by rw [← e]; exact hs)
theorem num_start (A : Nat → Nat → Prop) (num : Nat → Nat) : Num A [] [] num := ⟨(fun _ z => nomatch z), rfl, rfl, (fun _ z => nomatch z)⟩
theorem num_old (h : Num A P F num) (ht : t ∉ P) (rf : A t t) (sy : ∀ s ∈ P, A s t → A t s) (sy' : ∀ s ∈ P, A t s → A s t) (tr : ∀ s ∈ P, ∀ u ∈ P, A s u → A u t → A s t) (tr' : ∀ s ∈ P, ∀ u ∈ P, A s t → A t u → A s u) {k : Nat} (hk : k < F.length) (hA : A F[k] t) :
    Num A (P ++ [t]) F (put num t k) := by
  have hFk : F[k] ∈ P := h.sub _ (List.getElem_mem hk)
  have key : ∀ s ∈ P, num s = k ↔ A s t := by
    intro s hs
    constructor
    · intro e
      have : num s = num F[k] := by rw [h.at hk, e]
      exact tr s hs F[k] hFk ((h.iff s hs _ hFk).mp this) hA
    · intro e
      have := (h.iff s hs _ hFk).mpr (tr' s hs F[k] hFk e (sy _ hFk hA))
      rw [this, h.at hk]
  refine ⟨fun s hs => List.mem_append_left _ (h.sub s hs), ?_, ?_, ?_⟩
  · rw [map_put (fun z => ht (h.sub t z)), h.fn]
  · rw [List.map_append, map_put ht, D_append, h.d]
    show push (List.range F.length) (put num t k t) = _
    rw [put_same, push_mem (List.mem_range.mpr hk)]
  · intro s hs u hu
    rcases List.mem_append.mp hs with hs | hs
    · have hsn : s ≠ t := fun e => ht (by rw [← e]; exact hs)
      rcases List.mem_append.mp hu with hu | hu
      · have hun : u ≠ t := fun e => ht (by rw [← e]; exact hu)
        rw [put_ne hsn, put_ne hun]
        exact h.iff s hs u hu
      · rw [List.mem_singleton] at hu
        rw [hu, put_ne hsn, put_same]
        exact key s hs
    · rw [List.mem_singleton] at hs
      rw [hs]
      rcases List.mem_append.mp hu with hu | hu
      · have hun : u ≠ t := fun e => ht (by rw [← e]; exact hu)
        rw [put_ne hun, put_same]
        exact ⟨fun e => sy u hu ((key u hu).mp e.symm), fun e => ((key u hu).mpr (sy' u hu e)).symm⟩
      · rw [List.mem_singleton] at hu
        rw [hu]
        exact ⟨fun _ => rf, fun _ => rfl⟩
theorem num_new (h : Num A P F num) (ht : t ∉ P) (rf : A t t) (sy' : ∀ s ∈ P, A t s → A s t) (sP : ∀ s ∈ P, ∀ u ∈ P, A s u → A u s) (tr : ∀ s ∈ P, ∀ u ∈ P, A s u → A u t → A s t) (hno : ∀ k (hk : k < F.length), ¬ A F[k] t) :
    Num A (P ++ [t]) (F ++ [t]) (put num t F.length) := by
  have key : ∀ s ∈ P, ¬ A s t := by
    intro s hs e
    have hk := h.lt hs
    have hFk : F[num s] ∈ P := h.sub _ (List.getElem_mem hk)
    have e1 : A s F[num s] := (h.iff s hs _ hFk).mp (h.at hk).symm
    exact hno _ hk (tr _ hFk s hs (sP _ hs _ hFk e1) e)
  refine ⟨?_, ?_, ?_, ?_⟩
  · intro s hs
    rcases List.mem_append.mp hs with hs | hs
    · exact List.mem_append_left _ (h.sub s hs)
    · exact List.mem_append_right _ hs
  · rw [List.map_append, map_put (fun z => ht (h.sub t z)), h.fn, List.length_append, List.length_singleton, List.range_succ]
    show _ ++ [put num t F.length t] = _
    rw [put_same]
  · rw [List.map_append, map_put ht, D_append, h.d, List.length_append, List.length_singleton, List.range_succ]
    show push (List.range F.length) (put num t F.length t) = _
    rw [put_same, push_new (by simp)]
  · intro s hs u hu
    rcases List.mem_append.mp hs with hs | hs
    · have hsn : s ≠ t := fun e => ht (by rw [← e]; exact hs)
      rcases List.mem_append.mp hu with hu | hu
      · have hun : u ≠ t := fun e => ht (by rw [← e]; exact hu)
        rw [put_ne hsn, put_ne hun]
        exact h.iff s hs u hu
      · rw [List.mem_singleton] at hu
        rw [hu, put_ne hsn, put_same]
        constructor
        · intro e
          have := h.lt hs
          omega
        · exact fun e => absurd e (key s hs)
    · rw [List.mem_singleton] at hs
      rw [hs]
      rcases List.mem_append.mp hu with hu | hu
      · have hun : u ≠ t := fun e => ht (by rw [← e]; exact hu)
        rw [put_ne hun, put_same]
        constructor
        · intro e
          have := h.lt hu
          omega
        · exact fun e => absurd (sy' u hu e) (key u hu)
      · rw [List.mem_singleton] at hu
        rw [hu]
        exact ⟨fun _ => rf, fun _ => rfl⟩
end
end Mach
namespace Mach
/-- the pairs of p with those of the other kind -/
def prE (E L : List Nat) (p : Nat) : List (Nat × Nat) := (L.filter fun q => decide (decide (p ∈ E) ≠ decide (q ∈ E))).map fun q => (p, q)
theorem mem_prE {E L : List Nat} {p : Nat} {x : Nat × Nat} : x ∈ prE E L p ↔ x.1 = p ∧ x.2 ∈ L ∧ ¬ (p ∈ E ↔ x.2 ∈ E) := by
  unfold prE
  rw [List.mem_map]
  constructor
  · rintro ⟨q, hq, rfl⟩
    obtain ⟨h1, h2⟩ := List.mem_filter.mp hq
    refine ⟨rfl, h1, fun z => ?_⟩
    have h3 := of_decide_eq_true h2
    apply h3
    exact decide_eq_decide.mpr z
  · rintro ⟨h1, h2, h3⟩
    refine ⟨x.2, List.mem_filter.mpr ⟨h2, decide_eq_true fun z => h3 (decide_eq_decide.mp z)⟩, ?_⟩
    rw [← h1]
theorem prE_nodup {E L : List Nat} (h : L.Nodup) (p : Nat) : (prE E L p).Nodup := by
  have h1 : (L.filter fun q => decide (decide (p ∈ E) ≠ decide (q ∈ E))).Nodup := h.filter _
  unfold prE
  rw [List.Nodup, List.pairwise_map]
  exact h1.imp fun hab e => hab (Prod.mk.inj e).2
theorem apart_start {n : Nat} {R : List (List Nat)} {E L : List Nat} : Apart n R E L (D (L.flatMap (prE E L))) := by
  refine ⟨D_nodup _, fun x hx => ?_, fun x hx a => ?_, fun p hp q hq hne => ?_⟩
  · obtain ⟨p, hp, hx⟩ := List.mem_flatMap.mp (mem_D.mp hx)
    obtain ⟨h1, h2, _⟩ := mem_prE.mp hx
    rw [h1]
    exact ⟨hp, h2⟩
  · obtain ⟨p, hp, hx⟩ := List.mem_flatMap.mp (mem_D.mp hx)
    obtain ⟨h1, h2, h3⟩ := mem_prE.mp hx
    rw [h1] at a
    exact h3 a.nil
  · exact mem_D.mpr (List.mem_flatMap.mpr ⟨p, hp, mem_prE.mpr ⟨rfl, hq, hne⟩⟩)
end Mach

/-! the machine whose states 0 and b have changed their numbers -/
namespace Mach
def swp (b i : Nat) : Nat := if i = 0 then b else if i = b then 0 else i
theorem swp_swp (b i : Nat) : swp b (swp b i) = i := by
  unfold swp
  by_cases h0 : i = 0
  · rw [if_pos h0]
    by_cases hb : b = 0
    · rw [if_pos hb]
      omega
    · rw [if_neg hb, if_pos rfl]
      omega
  · rw [if_neg h0]
    by_cases hb : i = b
    · rw [if_pos hb, if_pos rfl]
      omega
    · rw [if_neg hb, if_neg h0, if_neg hb]
theorem swp_self (b : Nat) : swp b b = 0 := by
  unfold swp
  by_cases h0 : b = 0
  · rw [if_pos h0]
    exact h0
  · rw [if_neg h0, if_pos rfl]
theorem swp_inj {b i j : Nat} (h : swp b i = swp b j) : i = j := by
  have := congrArg (swp b) h
  rwa [swp_swp, swp_swp] at this
theorem swp_lt {b i N : Nat} (hb : b < N) (hi : i < N) : swp b i < N := by
  unfold swp
  split
  · exact hb
  · split
    · omega
    · exact hi
theorem swp_list {b N : Nat} (hb : b < N) : ((List.range N).set 0 b).set b 0 = (List.range N).map (swp b) := by
  apply List.ext_getElem
  · simp
  · intro i h1 h2
    rw [List.length_set, List.length_set, List.length_range] at h1
    rw [List.getElem_map, List.getElem_range, List.getElem_set, List.getElem_set, List.getElem_range]
    unfold swp
    by_cases h0 : i = 0
    · rw [if_pos h0]
      by_cases hbi : b = i
      · rw [if_pos hbi]
        omega
      · rw [if_neg hbi, if_pos h0.symm]
    · rw [if_neg h0]
      by_cases hbi : b = i
      · rw [if_pos hbi, if_pos hbi.symm]
      · rw [if_neg hbi, if_neg (fun z => h0 z.symm), if_neg (fun z => hbi z.symm)]
def turned (R : List (List Nat)) (b : Nat) : List (List Nat) := (List.range R.length).map fun i => (rowOf R (swp b i)).map (swp b)
section
variable {n b : Nat} {R : List (List Nat)} {E : List Nat}
theorem turned_len : (turned R b).length = R.length := by
  unfold turned
  rw [List.length_map, List.length_range]
theorem turned_row {i : Nat} (h : i < R.length) : rowOf (turned R b) i = (rowOf R (swp b i)).map (swp b) := by
  show (turned R b).getD i [] = _
  unfold turned
  rw [List.getD_eq_getElem?_getD, List.getElem?_map, List.getElem?_range h]
  rfl
theorem turned_mok (hM : Mok n R) (hb : b < R.length) : Mok n (turned R b) := by
  refine ⟨fun q hq => ?_, fun q hq x hx => ?_⟩
  · rw [turned_len] at hq
    rw [turned_row hq, List.length_map]
    exact hM.wide _ (swp_lt hb hq)
  · rw [turned_len] at hq ⊢
    rw [turned_row hq] at hx
    obtain ⟨y, hy, rfl⟩ := List.mem_map.mp hx
    exact swp_lt hb (hM.lt _ (swp_lt hb hq) y hy)
theorem dl_turned (hM : Mok n R) (hb : b < R.length) {q k : Nat} (hq : q < R.length) (hk : k < n) : dl (turned R b) (swp b q) k = swp b (dl R q k) := by
  unfold dl
  have hl := hM.wide q hq
  rw [turned_row (swp_lt hb hq), swp_swp, List.getD_eq_getElem?_getD, List.getD_eq_getElem?_getD, List.getElem?_map, List.getElem?_eq_getElem (by omega)]
  rfl
theorem run_turned (hM : Mok n R) (hb : b < R.length) : ∀ (w : List Nat) {q : Nat}, q < R.length → Wd n w → runM (turned R b) (swp b q) w = swp b (runM R q w)
  | [], _, _, _ => rfl
  | k :: w, q, hq, hw => by
    have hk : k < n := hw k List.mem_cons_self
    show runM (turned R b) (dl (turned R b) (swp b q) k) w = swp b (runM R (dl R q k) w)
    rw [dl_turned hM hb hq hk]
    exact run_turned hM hb w (hM.lt q hq _ (dl_mem hM hq hk)) fun j hj => hw j (List.mem_cons_of_mem _ hj)
theorem turned_alk (hM : Mok n R) (hb : b < R.length) (E : List Nat) : Alk n (turned R b) (E.map (swp b)) 0 R E b := by
  intro w hw
  have h1 := run_turned hM hb w hb hw
  rw [swp_self] at h1
  rw [h1]
  constructor
  · intro h
    obtain ⟨y, hy, e⟩ := List.mem_map.mp h
    rw [← swp_inj e]
    exact hy
  · exact fun h => List.mem_map_of_mem h
end
end Mach

/-! paths: moves between states, sets of states as rising lists -/
namespace Mach
abbrev Mv := Nat × Int × Nat
/-- led from P by moves that read nothing -/
inductive Rch (mv : List Mv) (P : Nat → Prop) : Nat → Prop
  | base {x : Nat} : P x → Rch mv P x
  | step {y x : Nat} : Rch mv P y → (y, (-1 : Int), x) ∈ mv → Rch mv P x
theorem Rch.mono {mv : List Mv} {P Q : Nat → Prop} (h : ∀ x, P x → Q x) {x : Nat} (r : Rch mv P x) : Rch mv Q x := by
  induction r with
  | base p => exact .base (h _ p)
  | step _ m ih => exact .step ih m
structure IsSil (mv : List Mv) (P : Nat → Prop) (T : List Nat) : Prop where
  up : T.Pairwise (· < ·)
  mem : ∀ x, x ∈ T ↔ Rch mv P x
theorem rising_ext : ∀ {S T : List Nat}, S.Pairwise (· < ·) → T.Pairwise (· < ·) → (∀ x, x ∈ S ↔ x ∈ T) → S = T
  | [], [], _, _, _ => rfl
  | [], b :: T, _, _, h => by
    have := (h b).mpr List.mem_cons_self
    cases this
  | a :: S, [], _, _, h => by
    have := (h a).mp List.mem_cons_self
    cases this
  | a :: S, b :: T, hs, ht, h => by
    rw [List.pairwise_cons] at hs ht
    have e : a = b := by
      have h1 := (h a).mp List.mem_cons_self
      have h2 := (h b).mpr List.mem_cons_self
      rcases List.mem_cons.mp h1 with z | z
      · exact z
      · rcases List.mem_cons.mp h2 with y | y
        · exact y.symm
        · have z1 := ht.1 a z
          have y1 := hs.1 b y
          omega
    subst e
    refine congrArg (a :: ·) (rising_ext hs.2 ht.2 fun x => ⟨fun hx => ?_, fun hx => ?_⟩)
    · have := (h x).mp (List.mem_cons_of_mem _ hx)
      rcases List.mem_cons.mp this with z | z
      · have := hs.1 x hx
        omega
      · exact z
    · have := (h x).mpr (List.mem_cons_of_mem _ hx)
      rcases List.mem_cons.mp this with z | z
      · have := ht.1 x hx
        omega
      · exact z
theorem IsSil.uniq {mv : List Mv} {P Q : Nat → Prop} {S T : List Nat} (h : IsSil mv P S) (h' : IsSil mv Q T) (hPQ : ∀ x, P x ↔ Q x) : S = T := by
  refine rising_ext h.up h'.up fun x => ?_
  rw [h.mem, h'.mem]
  exact ⟨fun r => r.mono fun y => (hPQ y).mp, fun r => r.mono fun y => (hPQ y).mpr⟩
open Classical in
/-- the set behind P, as a rising list -/
noncomputable def silF (mv : List Mv) (P : Nat → Prop) : List Nat := if h : ∃ T, IsSil mv P T then Classical.choose h else []
theorem IsSil.eq {mv : List Mv} {P : Nat → Prop} {T : List Nat} (h : IsSil mv P T) : T = silF mv P := by
  have he : ∃ T, IsSil mv P T := ⟨T, h⟩
  unfold silF
  rw [dif_pos he]
  exact h.uniq (Classical.choose_spec he) fun _ => Iff.rfl
theorem IsSil.eq' {mv : List Mv} {P Q : Nat → Prop} {T : List Nat} (h : IsSil mv P T) (hPQ : ∀ x, P x ↔ Q x) : T = silF mv Q := by
  have hQ : IsSil mv Q T := ⟨h.up, fun x => (h.mem x).trans ⟨fun r => r.mono fun y => (hPQ y).mp, fun r => r.mono fun y => (hPQ y).mpr⟩⟩
  exact hQ.eq
/-- by one sign on -/
def Led (mv : List Mv) (T : List Nat) (k : Nat) : Nat → Prop := fun x => ∃ y ∈ T, (y, (k : Int), x) ∈ mv
noncomputable def nxS (mv : List Mv) (T : List Nat) (k : Nat) : List Nat := silF mv (Led mv T k)
/-! ### a closure, step by step -/
structure Clo (mv : List Mv) (P : Nat → Prop) (L : List Nat) (i : Nat) : Prop where
  got : ∀ x, P x → x ∈ L
  all : ∀ x ∈ L, Rch mv P x
  done : ∀ j, j < i → ∀ (hj : j < L.length), ∀ x, (L[j], (-1 : Int), x) ∈ mv → x ∈ L
theorem Clo.fin {mv : List Mv} {P : Nat → Prop} {L : List Nat} {i : Nat} (h : Clo mv P L i) (hi : L.length ≤ i) : ∀ x, x ∈ L ↔ Rch mv P x := by
  intro x
  refine ⟨h.all x, fun r => ?_⟩
  induction r with
  | base p => exact h.got _ p
  | step _ m ih =>
    obtain ⟨j, hj, e⟩ := List.mem_iff_getElem.mp ih
    exact h.done j (by omega) hj _ (by rw [e]; exact m)
theorem Clo.step {mv : List Mv} {P : Nat → Prop} {L X : List Nat} {i : Nat} (h : Clo mv P L i) (hi : i < L.length) (hX : ∀ x ∈ X, (L[i], (-1 : Int), x) ∈ mv) (hA : ∀ x, (L[i], (-1 : Int), x) ∈ mv → x ∈ L ++ X) : Clo mv P (L ++ X) (i + 1) := by
  refine ⟨fun x p => List.mem_append_left _ (h.got x p), fun x hx => ?_, fun j hj hjl x hm => ?_⟩
  · rcases List.mem_append.mp hx with z | z
    · exact h.all x z
    · exact .step (h.all _ (List.getElem_mem hi)) (hX x z)
  · by_cases e : j = i
    · subst e
      rw [List.getElem_append_left hi] at hm
      exact hA x hm
    · have hji : j < i := by omega
      have hjl' : j < L.length := by omega
      rw [List.getElem_append_left hjl'] at hm
      exact List.mem_append_left _ (h.done j hji hjl' x hm)
/-! ### how many sets there are -/
def subs : List Nat → List (List Nat)
  | [] => [[]]
  | a :: l => subs l ++ (subs l).map (a :: ·)
theorem subs_len : ∀ l : List Nat, (subs l).length = 2 ^ l.length
  | [] => rfl
  | a :: l => by
    show (subs l ++ (subs l).map (a :: ·)).length = _
    rw [List.length_append, List.length_map, subs_len l, List.length_cons, Nat.pow_succ]
    omega
theorem mem_subs : ∀ {l T : List Nat}, l.Pairwise (· < ·) → T.Pairwise (· < ·) → (∀ x ∈ T, x ∈ l) → T ∈ subs l
  | [], [], _, _, _ => List.mem_singleton.mpr rfl
  | [], b :: T, _, _, h => by
    have := h b List.mem_cons_self
    cases this
  | a :: l, [], hl, ht, _ => by
    rw [List.pairwise_cons] at hl
    exact List.mem_append_left _ (mem_subs hl.2 ht (fun x hx => nomatch hx))
  | a :: l, b :: T, hl, ht, h => by
    have hl' := hl
    have ht' := ht
    rw [List.pairwise_cons] at hl' ht'
    by_cases e : b = a
    · subst e
      refine List.mem_append_right _ (List.mem_map.mpr ⟨T, mem_subs hl'.2 ht'.2 fun x hx => ?_, rfl⟩)
      rcases List.mem_cons.mp (h x (List.mem_cons_of_mem _ hx)) with z | z
      · have := ht'.1 x hx
        omega
      · exact z
    · refine List.mem_append_left _ (mem_subs hl'.2 ht fun x hx => ?_)
      rcases List.mem_cons.mp (h x hx) with z | z
      · rcases List.mem_cons.mp (h b List.mem_cons_self) with y | y
        · exact absurd y e
        · rcases List.mem_cons.mp hx with w | w
          · rw [w]
            exact y
          · have h1 := ht'.1 x w
            have h2 := hl'.1 b y
            omega
      · exact z
/-! ### the machine of sets -/
structure SetM (mv : List Mv) (n : Nat) (B : List Nat) (T0 : List Nat) (F : List (List Nat)) (R : List (List Nat)) : Prop where
  nd : F.Nodup
  sub : ∀ T ∈ F, T ∈ subs B
  zero : F[0]? = some T0
  len : R.length ≤ F.length
  wide : ∀ i, i < R.length → (rowOf R i).length = n
  to : ∀ i T, i < R.length → F[i]? = some T → ∀ k, k < n → F[dl R i k]? = some (nxS mv T k)
section
variable {mv : List Mv} {n : Nat} {B T0 : List Nat} {F R : List (List Nat)}
theorem SetM.le (h : SetM mv n B T0 F R) : F.length ≤ 2 ^ B.length := by
  rw [← subs_len]
  exact length_le_of_sub h.nd h.sub
theorem SetM.mok (h : SetM mv n B T0 F R) (he : F.length ≤ R.length) : Mok n R := by
  refine ⟨h.wide, fun q hq x hx => ?_⟩
  obtain ⟨k, hk, e⟩ := List.mem_iff_getElem.mp hx
  have hk' : k < n := by
    rw [← h.wide q hq]
    exact hk
  have hl := h.len
  have h1 := h.to q (F[q]'(by omega)) hq (List.getElem?_eq_getElem _) k hk'
  have h2 : dl R q k = x := by
    unfold dl
    rw [List.getD_eq_getElem?_getD, List.getElem?_eq_getElem hk, e]
    rfl
  rw [h2] at h1
  have := (List.getElem?_eq_some_iff.mp h1).1
  omega
theorem SetM.run (h : SetM mv n B T0 F R) (he : F.length ≤ R.length) : ∀ (w : List Nat), Wd n w → ∀ q T, F[q]? = some T → F[runM R q w]? = some (w.foldl (nxS mv) T)
  | [], _, _, _, e => e
  | k :: w, hw, q, T, e => by
    have hq := (List.getElem?_eq_some_iff.mp e).1
    show F[runM R (dl R q k) w]? = some (w.foldl (nxS mv) (nxS mv T k))
    exact SetM.run h he w (fun j hj => hw j (List.mem_cons_of_mem _ hj)) _ _ (h.to q T (by omega) e k (hw k List.mem_cons_self))
end
end Mach

/-! Plain mathematics: the machine of sets, all sets from a list UL that is closed -/
namespace Mach
/-- a list of sets in which the first one lies and that moves don't leave -/
structure Univ (mv : List Mv) (n : Nat) (T0 : List Nat) (UL : List (List Nat)) : Prop where
  zero : T0 ∈ UL
  step : ∀ T ∈ UL, ∀ k, k < n → nxS mv T k ∈ UL
structure SetU (mv : List Mv) (n : Nat) (UL : List (List Nat)) (T0 : List Nat) (F : List (List Nat)) (R : List (List Nat)) : Prop where
  nd : F.Nodup
  sub : ∀ T ∈ F, T ∈ UL
  zero : F[0]? = some T0
  len : R.length ≤ F.length
  wide : ∀ i, i < R.length → (rowOf R i).length = n
  to : ∀ i T, i < R.length → F[i]? = some T → ∀ k, k < n → F[dl R i k]? = some (nxS mv T k)
section
variable {mv : List Mv} {n : Nat} {T0 : List Nat} {UL F R : List (List Nat)}
theorem SetU.le (h : SetU mv n UL T0 F R) : F.length ≤ UL.length := length_le_of_sub h.nd h.sub
theorem SetU.mok (h : SetU mv n UL T0 F R) (he : F.length ≤ R.length) : Mok n R := by
  refine ⟨h.wide, fun q hq x hx => ?_⟩
  obtain ⟨k, hk, e⟩ := List.mem_iff_getElem.mp hx
  have hk' : k < n := by
    rw [← h.wide q hq]
    exact hk
  have hl := h.len
  have h1 := h.to q (F[q]'(by omega)) hq (List.getElem?_eq_getElem _) k hk'
  have h2 : dl R q k = x := by
    unfold dl
    rw [List.getD_eq_getElem?_getD, List.getElem?_eq_getElem hk, e]
    rfl
  rw [h2] at h1
  have := (List.getElem?_eq_some_iff.mp h1).1
  omega
theorem SetU.run (h : SetU mv n UL T0 F R) (he : F.length ≤ R.length) : ∀ (w : List Nat), Wd n w → ∀ q T, F[q]? = some T → F[runM R q w]? = some (w.foldl (nxS mv) T)
  | [], _, _, _, e => e
  | k :: w, hw, q, T, e => by
    have hq := (List.getElem?_eq_some_iff.mp e).1
    show F[runM R (dl R q k) w]? = some (w.foldl (nxS mv) (nxS mv T k))
    exact SetU.run h he w (fun j hj => hw j (List.mem_cons_of_mem _ hj)) _ _ (h.to q T (by omega) e k (hw k List.mem_cons_self))
end
end Mach

/-! Plain mathematics: pairs of machines, languages as truths of words -/
namespace Mach
def prow (m : Nat) (r s : List Nat) : List Nat := List.zipWith (fun a b => a * m + b) r s
def pr (R S : List (List Nat)) : List (List Nat) := R.flatMap fun r => S.map fun s => prow S.length r s
def prEnd (W : Bool → Bool → Bool) (E F : List Nat) (m p k : Nat) : List Nat := ((List.range k).filter fun q => W (decide (p ∈ E)) (decide (q ∈ F))).map fun q => p * m + q
def prEs (W : Bool → Bool → Bool) (E F : List Nat) (m N : Nat) : List Nat := (List.range N).flatMap fun p => prEnd W E F m p m
theorem flat_len {α β : Type} {f : α → List β} {m : Nat} : ∀ (R : List α), (∀ r ∈ R, (f r).length = m) → (R.flatMap f).length = R.length * m
  | [], _ => by simp
  | a :: R, h => by
    rw [List.flatMap_cons, List.length_append, flat_len R (fun r hr => h r (List.mem_cons_of_mem _ hr)), h a List.mem_cons_self, List.length_cons, Nat.succ_mul, Nat.add_comm]
theorem flat_at {α β : Type} {f : α → List β} {m : Nat} : ∀ (R : List α) (_ : ∀ r ∈ R, (f r).length = m) (p q : Nat) (_ : q < m), (R.flatMap f)[p * m + q]? = R[p]?.bind fun r => (f r)[q]?
  | [], _, p, q, _ => by simp
  | a :: R, h, 0, q, hq => by
    rw [List.flatMap_cons, Nat.zero_mul, Nat.zero_add, List.getElem?_append_left (by rw [h a List.mem_cons_self]; exact hq)]
    rfl
  | a :: R, h, p + 1, q, hq => by
    rw [List.flatMap_cons, List.getElem?_append_right (by rw [h a List.mem_cons_self, Nat.succ_mul]; omega), h a List.mem_cons_self,
      show (p + 1) * m + q - m = p * m + q from by rw [Nat.succ_mul]; omega, flat_at R (fun r hr => h r (List.mem_cons_of_mem _ hr)) p q hq]
    rfl
section
variable {n : Nat} {R S : List (List Nat)} {E F : List Nat}
theorem pr_len (R S : List (List Nat)) : (pr R S).length = R.length * S.length := flat_len R fun r _ => by rw [List.length_map]
theorem pr_row {p q : Nat} (hp : p < R.length) (hq : q < S.length) : rowOf (pr R S) (p * S.length + q) = prow S.length (rowOf R p) (rowOf S q) := by
  unfold rowOf
  rw [List.getD_eq_getElem?_getD, pr, flat_at R (fun r _ => by rw [List.length_map]) p q hq, List.getElem?_eq_getElem hp]
  show ((S.map _)[q]?).getD [] = _
  rw [List.getElem?_map, List.getElem?_eq_getElem hq]
  simp [List.getD_eq_getElem?_getD, hp, hq]
theorem pq_lt {p q N m : Nat} (hp : p < N) (hq : q < m) : p * m + q < N * m := by
  have : (p + 1) * m ≤ N * m := Nat.mul_le_mul_right m hp
  rw [Nat.succ_mul] at this
  omega
theorem pq_of {i N m : Nat} (h : i < N * m) : ∃ p q, p < N ∧ q < m ∧ i = p * m + q := by
  have hm : 0 < m := by
    rcases Nat.eq_zero_or_pos m with z | z
    · rw [z, Nat.mul_zero] at h
      omega
    · exact z
  refine ⟨i / m, i % m, Nat.div_lt_of_lt_mul (by rw [Nat.mul_comm]; exact h), Nat.mod_lt _ hm, ?_⟩
  have := Nat.div_add_mod i m
  rw [Nat.mul_comm] at this
  omega
theorem prow_len (m : Nat) {r s : List Nat} (h : r.length = n) (h' : s.length = n) : (prow m r s).length = n := by
  unfold prow
  rw [List.length_zipWith, h, h', Nat.min_self]
theorem pr_mok (hR : Mok n R) (hS : Mok n S) : Mok n (pr R S) := by
  constructor
  · intro i hi
    rw [pr_len] at hi
    obtain ⟨p, q, hp, hq, rfl⟩ := pq_of hi
    rw [pr_row hp hq]
    exact prow_len _ (hR.wide p hp) (hS.wide q hq)
  · intro i hi x hx
    rw [pr_len] at hi ⊢
    obtain ⟨p, q, hp, hq, rfl⟩ := pq_of hi
    rw [pr_row hp hq, prow] at hx
    obtain ⟨k, hk, rfl⟩ := List.getElem_of_mem hx
    rw [List.getElem_zipWith]
    rw [List.length_zipWith] at hk
    exact pq_lt (hR.lt p hp _ (List.getElem_mem _)) (hS.lt q hq _ (List.getElem_mem _))
theorem pr_dl (hR : Mok n R) (hS : Mok n S) {p q k : Nat} (hp : p < R.length) (hq : q < S.length) (hk : k < n) : dl (pr R S) (p * S.length + q) k = dl R p k * S.length + dl S q k := by
  unfold dl
  rw [pr_row hp hq, prow, List.getD_eq_getElem?_getD, List.getD_eq_getElem?_getD, List.getD_eq_getElem?_getD]
  have h1 : k < (rowOf R p).length := by rw [hR.wide p hp]; exact hk
  have h2 : k < (rowOf S q).length := by rw [hS.wide q hq]; exact hk
  rw [List.getElem?_zipWith, List.getElem?_eq_getElem h1, List.getElem?_eq_getElem h2]
  rfl
theorem pr_run (hR : Mok n R) (hS : Mok n S) : ∀ (w : List Nat) {p q : Nat}, p < R.length → q < S.length → Wd n w → runM (pr R S) (p * S.length + q) w = runM R p w * S.length + runM S q w
  | [], _, _, _, _, _ => rfl
  | k :: w, p, q, hp, hq, hw => by
    have hk := hw k List.mem_cons_self
    rw [runM_cons, runM_cons, runM_cons, pr_dl hR hS hp hq hk]
    exact pr_run hR hS w (dl_lt hR hp hk) (dl_lt hS hq hk) fun j hj => hw j (List.mem_cons_of_mem _ hj)
variable {W : Bool → Bool → Bool}
theorem mem_prEnd {m p k x : Nat} : x ∈ prEnd W E F m p k ↔ ∃ q, q < k ∧ x = p * m + q ∧ W (decide (p ∈ E)) (decide (q ∈ F)) = true := by
  unfold prEnd
  rw [List.mem_map]
  constructor
  · rintro ⟨q, h, rfl⟩
    rw [List.mem_filter, List.mem_range] at h
    exact ⟨q, h.1, rfl, h.2⟩
  · rintro ⟨q, h1, rfl, h2⟩
    exact ⟨q, List.mem_filter.mpr ⟨List.mem_range.mpr h1, h2⟩, rfl⟩
theorem mem_prEs {m N x : Nat} : x ∈ prEs W E F m N ↔ ∃ p q, p < N ∧ q < m ∧ x = p * m + q ∧ W (decide (p ∈ E)) (decide (q ∈ F)) = true := by
  unfold prEs
  rw [List.mem_flatMap]
  constructor
  · rintro ⟨p, h, h'⟩
    obtain ⟨q, a, b, c⟩ := mem_prEnd.mp h'
    exact ⟨p, q, List.mem_range.mp h, a, b, c⟩
  · rintro ⟨p, q, h, a, b, c⟩
    exact ⟨p, List.mem_range.mpr h, mem_prEnd.mpr ⟨q, a, b, c⟩⟩
theorem prEs_lt {m N x : Nat} (h : x ∈ prEs W E F m N) : x < N * m := by
  obtain ⟨p, q, a, b, rfl, _⟩ := mem_prEs.mp h
  exact pq_lt a b
theorem prEnd_len (m p k : Nat) : (prEnd W E F m p k).length ≤ k := by
  unfold prEnd
  rw [List.length_map]
  exact Nat.le_trans (List.length_filter_le _ _) (by rw [List.length_range]; exact Nat.le_refl _)
theorem prEs_succ (m N : Nat) : prEs W E F m (N + 1) = prEs W E F m N ++ prEnd W E F m N m := by
  unfold prEs
  rw [List.range_succ, List.flatMap_append, List.flatMap_cons, List.flatMap_nil, List.append_nil]
theorem prEs_len (m : Nat) : ∀ N, (prEs W E F m N).length ≤ N * m
  | 0 => by simp [prEs]
  | N + 1 => by
    rw [prEs_succ, List.length_append, Nat.succ_mul]
    exact Nat.add_le_add (prEs_len m N) (prEnd_len m N m)
theorem prEnd_succ (m p k : Nat) : prEnd W E F m p (k + 1) = prEnd W E F m p k ++ (if W (decide (p ∈ E)) (decide (k ∈ F)) = true then [p * m + k] else []) := by
  unfold prEnd
  rw [List.range_succ, List.filter_append, List.map_append]
  congr 1
  by_cases h : W (decide (p ∈ E)) (decide (k ∈ F)) = true
  · rw [if_pos h, List.filter_cons_of_pos (p := fun q => W (decide (p ∈ E)) (decide (q ∈ F))) h]
    rfl
  · rw [if_neg h, List.filter_cons_of_neg (p := fun q => W (decide (p ∈ E)) (decide (q ∈ F))) h]
    rfl
theorem pq_inj {p q p' q' m : Nat} (hq : q < m) (hq' : q' < m) (h : p * m + q = p' * m + q') : p = p' ∧ q = q' := by
  have h1 : (p * m + q) / m = p := by
    rw [Nat.mul_comm, Nat.mul_add_div (by omega), Nat.div_eq_of_lt hq, Nat.add_zero]
  have h2 : (p' * m + q') / m = p' := by
    rw [Nat.mul_comm, Nat.mul_add_div (by omega), Nat.div_eq_of_lt hq', Nat.add_zero]
  have h3 : p = p' := by rw [← h1, ← h2, h]
  subst h3
  exact ⟨rfl, by omega⟩
theorem pq_mem {m N p q : Nat} (hp : p < N) (hq : q < m) : p * m + q ∈ prEs W E F m N ↔ W (decide (p ∈ E)) (decide (q ∈ F)) = true := by
  rw [mem_prEs]
  constructor
  · rintro ⟨p', q', a, b, c, d⟩
    obtain ⟨rfl, rfl⟩ := pq_inj hq b c
    exact d
  · intro h
    exact ⟨p, q, hp, hq, rfl, h⟩
/-! ### languages -/
def Lg (n : Nat) (R : List (List Nat)) (E : List Nat) (L : List Nat → Bool) : Prop := ∀ w, Wd n w → decide (runM R 0 w ∈ E) = L w
variable {L M : List Nat → Bool}
theorem lg_pr (hR : Mok n R) (hS : Mok n S) (r0 : 0 < R.length) (s0 : 0 < S.length) (l : Lg n R E L) (m : Lg n S F M) : Lg n (pr R S) (prEs W E F S.length R.length) fun w => W (L w) (M w) := by
  intro w hw
  have e := pr_run hR hS w r0 s0 hw
  rw [Nat.zero_mul, Nat.zero_add] at e
  show _ = W (L w) (M w)
  rw [e, ← l w hw, ← m w hw]
  by_cases h : W (decide (runM R 0 w ∈ E)) (decide (runM S 0 w ∈ F)) = true
  · rw [h]
    exact decide_eq_true ((pq_mem (runM_lt hR r0 hw) (runM_lt hS s0 hw)).mpr h)
  · rw [Bool.eq_false_iff.mpr h]
    exact decide_eq_false fun z => h ((pq_mem (runM_lt hR r0 hw) (runM_lt hS s0 hw)).mp z)
theorem lg_alk {R' : List (List Nat)} {E' : List Nat} (l : Lg n R E L) (a : Alk n R' E' 0 R E 0) : Lg n R' E' L := fun w hw => by
  rw [← l w hw]
  exact decide_eq_decide.mpr (a w hw)
theorem alk_lg {R' : List (List Nat)} {E' : List Nat} {L' : List Nat → Bool} (l : Lg n R E L) (l' : Lg n R' E' L') (h : ∀ w, Wd n w → L w = L' w) : Alk n R E 0 R' E' 0 := fun w hw => by
  have := (l w hw).trans ((h w hw).trans (l' w hw).symm)
  exact decide_eq_decide.mp this
theorem lg_not (hR : Mok n R) (r0 : 0 < R.length) (l : Lg n R E L) : Lg n R ((List.range R.length).filter fun q => decide (q ∉ E)) fun w => !L w := by
  intro w hw
  show _ = !L w
  rw [← l w hw]
  have hl := runM_lt hR r0 hw
  by_cases h : runM R 0 w ∈ E
  · rw [decide_eq_true h]
    exact decide_eq_false fun z => (of_decide_eq_true (List.mem_filter.mp z).2) h
  · rw [decide_eq_false h]
    exact decide_eq_true (List.mem_filter.mpr ⟨List.mem_range.mpr hl, decide_eq_true h⟩)
theorem least_lt (h : Least n R E) {x : Nat} (hx : x ∈ E) : x < R.length := by
  have := h.ends
  rw [this] at hx
  exact List.mem_range.mp (List.mem_filter.mp hx).1
theorem least_len (h : Least n R E) : E.length ≤ R.length := by
  have := h.ends
  rw [this]
  exact Nat.le_trans (List.length_filter_le _ _) (by rw [List.length_range]; exact Nat.le_refl _)
theorem ends_nil (h : Least n R E) (l : Lg n R E L) : E = [] ↔ ∀ w, Wd n w → L w = false := by
  constructor
  · intro e w hw
    rw [← l w hw, e]
    rfl
  · intro hf
    cases E with
    | nil => rfl
    | cons x E =>
      obtain ⟨w, hw, e⟩ := h.acc x (least_lt h List.mem_cons_self)
      have := l w hw
      rw [hf w hw, e] at this
      exact absurd List.mem_cons_self (of_decide_eq_false this)
theorem lg_uniq {R' : List (List Nat)} {E' : List Nat} {L' : List Nat → Bool} (h : Least n R E) (h' : Least n R' E') (l : Lg n R E L) (l' : Lg n R' E' L') (e : ∀ w, Wd n w → L w = L' w) : R = R' ∧ E = E' :=
  least_unique h h' (alk_lg l l' e)
theorem every_mok (n : Nat) : Mok n [List.replicate n 0] := by
  constructor
  · intro q hq
    have : q = 0 := by simpa using hq
    rw [this]
    simp [rowOf]
  · intro q hq x hx
    have : q = 0 := by simpa using hq
    rw [this] at hx
    have : x = 0 := List.eq_of_mem_replicate (show x ∈ List.replicate n 0 by simpa [rowOf] using hx)
    rw [this]
    show 0 < 1
    decide
theorem every_run (n : Nat) {w : List Nat} (hw : Wd n w) : runM [List.replicate n 0] 0 w = 0 := by
  have := runM_lt (every_mok n) (show 0 < [List.replicate n 0].length by simp) hw
  simpa using this
theorem lg_every (n : Nat) : Lg n [List.replicate n 0] [0] fun _ => true := fun w hw => by
  rw [every_run n hw]
  rfl
theorem lg_none (n : Nat) : Lg n [List.replicate n 0] [] fun _ => false := fun w hw => rfl
end
end Mach

/-! Plain mathematics: machines joined and repeated, by moves between states -/
namespace Mach
theorem snoc_ind {α : Type} {M : List α → Prop} (h0 : M []) (hs : ∀ w k, M w → M (w ++ [k])) (w : List α) : M w := by
  have h : ∀ l : List α, M l.reverse := fun l => by
    induction l with
    | nil => exact h0
    | cons a l ih => rw [List.reverse_cons]; exact hs _ _ ih
  have := h w.reverse
  rwa [List.reverse_reverse] at this
theorem snoc_of {α : Type} {w : List α} (h : w ≠ []) : ∃ v k, w = v ++ [k] := ⟨w.dropLast, w.getLast h, (List.dropLast_concat_getLast h).symm⟩
theorem sil_of {mv : List Mv} {P : Nat → Prop} {N : Nat} (hP : ∀ x, P x → x < N) (hm : ∀ m ∈ mv, m.2.2 < N) : IsSil mv P (silF mv P) := by
  classical
  have hb : ∀ x, Rch mv P x → x < N := fun x r => by
    induction r with
    | base p => exact hP _ p
    | step _ m _ => exact hm _ m
  have h : IsSil mv P ((List.range N).filter fun x => decide (Rch mv P x)) := by
    refine ⟨List.Pairwise.filter _ List.pairwise_lt_range, fun x => ?_⟩
    rw [List.mem_filter, List.mem_range]
    exact ⟨fun z => of_decide_eq_true z.2, fun r => ⟨hb x r, decide_eq_true r⟩⟩
  rw [← h.eq]
  exact h
/-- S tells, word by word, in which states one can be -/
structure Des (mv : List Mv) (n N : Nat) (P0 : Nat → Prop) (S : List Nat → Nat → Prop) : Prop where
  lt : ∀ x, P0 x → x < N
  to : ∀ m ∈ mv, m.2.2 < N
  zero : ∀ x, Rch mv P0 x ↔ S [] x
  step : ∀ w k, Wd n w → k < n → ∀ x, Rch mv (fun x => ∃ y, S w y ∧ (y, (k : Int), x) ∈ mv) x ↔ S (w ++ [k]) x
theorem Wd.left {n : Nat} {u v : List Nat} (h : Wd n (u ++ v)) : Wd n u := fun k hk => h k (List.mem_append_left _ hk)
theorem Wd.right {n : Nat} {u v : List Nat} (h : Wd n (u ++ v)) : Wd n v := fun k hk => h k (List.mem_append_right _ hk)
theorem Wd.app {n : Nat} {u v : List Nat} (h : Wd n u) (h' : Wd n v) : Wd n (u ++ v) := fun k hk => (List.mem_append.mp hk).elim (h k) (h' k)
theorem Wd.nil (n : Nat) : Wd n [] := fun _ z => nomatch z
theorem Wd.one {n k : Nat} (h : k < n) : Wd n [k] := fun j z => by rw [List.mem_singleton.mp z]; exact h
theorem Des.fold {mv : List Mv} {n N : Nat} {P0 : Nat → Prop} {S : List Nat → Nat → Prop} (h : Des mv n N P0 S) : ∀ w, Wd n w → (w.foldl (nxS mv) (silF mv P0)).Pairwise (· < ·) ∧ ∀ x, x ∈ w.foldl (nxS mv) (silF mv P0) ↔ S w x := by
  refine snoc_ind (fun _ => ?_) (fun w k ih hw => ?_)
  · have := sil_of h.lt h.to
    exact ⟨this.up, fun x => (this.mem x).trans (h.zero x)⟩
  · obtain ⟨i1, i2⟩ := ih hw.left
    rw [List.foldl_append]
    show (nxS mv (w.foldl (nxS mv) (silF mv P0)) k).Pairwise _ ∧ _
    have hk : k < n := hw k (List.mem_append_right _ (List.mem_singleton.mpr rfl))
    have := sil_of (P := Led mv (w.foldl (nxS mv) (silF mv P0)) k) (N := N) (fun x ⟨y, _, hy⟩ => h.to _ hy) h.to
    refine ⟨this.up, fun x => (this.mem x).trans (Iff.trans ?_ (h.step w k hw.left hk x))⟩
    exact ⟨fun r => r.mono fun z ⟨y, hy, e⟩ => ⟨y, (i2 y).mp hy, e⟩, fun r => r.mono fun z ⟨y, hy, e⟩ => ⟨y, (i2 y).mpr hy, e⟩⟩
/-! ### the moves of a machine -/
def mvRow (b i : Nat) (row : List Nat) : List Mv := (List.range row.length).map fun k : Nat => (b + i, (k : Int), b + row.getD k 0)
def mvO (R : List (List Nat)) (b : Nat) : List Mv := (List.range R.length).flatMap fun i => mvRow b i (rowOf R i)
theorem mem_mvO {R : List (List Nat)} {b x y : Nat} {k : Int} : (x, k, y) ∈ mvO R b ↔ ∃ i j : Nat, i < R.length ∧ j < (rowOf R i).length ∧ x = b + i ∧ k = (j : Int) ∧ y = b + dl R i j := by
  unfold mvO mvRow
  rw [List.mem_flatMap]
  constructor
  · rintro ⟨i, hi, h⟩
    obtain ⟨j, hj, e⟩ := List.mem_map.mp h
    cases e
    exact ⟨i, j, List.mem_range.mp hi, List.mem_range.mp hj, rfl, rfl, rfl⟩
  · rintro ⟨i, j, hi, hj, rfl, rfl, rfl⟩
    exact ⟨i, List.mem_range.mpr hi, List.mem_map.mpr ⟨j, List.mem_range.mpr hj, rfl⟩⟩
theorem mvRow_len (b i : Nat) (row : List Nat) : (mvRow b i row).length = row.length := by
  unfold mvRow
  rw [List.length_map, List.length_range]
theorem mvO_len {n : Nat} {R : List (List Nat)} (hM : Mok n R) (b : Nat) : (mvO R b).length = R.length * n := by
  unfold mvO
  rw [flat_len (m := n) (List.range R.length) (fun i hi => by rw [mvRow_len, hM.wide i (List.mem_range.mp hi)]), List.length_range]
section
variable {n : Nat} {R R2 : List (List Nat)} {E E2 : List Nat}
theorem mvO_to (hM : Mok n R) {b : Nat} {m : Mv} (h : m ∈ mvO R b) : m.2.2 < b + R.length ∧ b ≤ m.1 ∧ m.1 < b + R.length ∧ 0 ≤ m.2.1 ∧ m.2.1 < n ∧ b ≤ m.2.2 := by
  obtain ⟨x, k, y⟩ := m
  obtain ⟨i, j, hi, hj, rfl, rfl, rfl⟩ := mem_mvO.mp h
  rw [hM.wide i hi] at hj
  have := dl_lt hM hi hj
  simp only
  omega
/-! ### joined -/
def mvJ (R : List (List Nat)) (E : List Nat) (R2 : List (List Nat)) : List Mv := mvO R 0 ++ mvO R2 R.length ++ E.map fun s => (s, (-1 : Int), R.length)
theorem mem_mvJ (hM : Mok n R) (hM2 : Mok n R2) {x y : Nat} {k : Nat} : (x, (k : Int), y) ∈ mvJ R E R2 ↔ k < n ∧ ((x < R.length ∧ y = dl R x k) ∨ ∃ i, i < R2.length ∧ x = R.length + i ∧ y = R.length + dl R2 i k) := by
  unfold mvJ
  rw [List.mem_append, List.mem_append, mem_mvO, mem_mvO]
  constructor
  · rintro ((⟨i, j, hi, hj, rfl, e, rfl⟩ | ⟨i, j, hi, hj, rfl, e, rfl⟩) | h)
    · have e' : k = j := by omega
      subst e'
      rw [hM.wide i hi] at hj
      refine ⟨hj, .inl ⟨by omega, by rw [Nat.zero_add, Nat.zero_add]⟩⟩
    · have e' : k = j := by omega
      subst e'
      rw [hM2.wide i hi] at hj
      exact ⟨hj, .inr ⟨i, hi, rfl, rfl⟩⟩
    · obtain ⟨s, _, e⟩ := List.mem_map.mp h
      have := congrArg (fun m : Mv => m.2.1) e
      simp only at this
      omega
  · rintro ⟨hk, ⟨hx, rfl⟩ | ⟨i, hi, rfl, rfl⟩⟩
    · exact .inl (.inl ⟨x, k, hx, by rw [hM.wide x hx]; exact hk, by omega, rfl, by omega⟩)
    · exact .inl (.inr ⟨i, k, hi, by rw [hM2.wide i hi]; exact hk, rfl, rfl, rfl⟩)
theorem mem_mvJ1 {x y : Nat} : (x, (-1 : Int), y) ∈ mvJ R E R2 ↔ x ∈ E ∧ y = R.length := by
  unfold mvJ
  rw [List.mem_append, List.mem_append, mem_mvO, mem_mvO, List.mem_map]
  constructor
  · rintro ((⟨i, j, _, _, _, e, _⟩ | ⟨i, j, _, _, _, e, _⟩) | ⟨s, hs, e⟩)
    · omega
    · omega
    · cases e
      exact ⟨hs, rfl⟩
  · rintro ⟨h, rfl⟩
    exact .inr ⟨x, h, rfl⟩
theorem mvJ_to (hM : Mok n R) (hM2 : Mok n R2) (r0 : 0 < R2.length) {m : Mv} (h : m ∈ mvJ R E R2) : m.2.2 < R.length + R2.length ∧ -1 ≤ m.2.1 := by
  unfold mvJ at h
  rcases List.mem_append.mp h with h | h
  · rcases List.mem_append.mp h with h | h
    · have := mvO_to hM h
      omega
    · have := mvO_to hM2 h
      omega
  · obtain ⟨s, _, rfl⟩ := List.mem_map.mp h
    simp only
    omega
theorem mvJ_len (hM : Mok n R) (hM2 : Mok n R2) : (mvJ R E R2).length = R.length * n + R2.length * n + E.length := by
  unfold mvJ
  rw [List.length_append, List.length_append, mvO_len hM, mvO_len hM2, List.length_map]
/-- where a word can lead in the joined machine -/
def JS (R : List (List Nat)) (E : List Nat) (R2 : List (List Nat)) (w : List Nat) (x : Nat) : Prop := x = runM R 0 w ∨ ∃ u v, w = u ++ v ∧ runM R 0 u ∈ E ∧ x = R.length + runM R2 0 v
theorem rchJ {P : Nat → Prop} {q : Nat} (hE : ∀ s ∈ E, s < R.length) (hq : P q) (hP : ∀ x, P x → x = q ∨ R.length ≤ x) (x : Nat) : Rch (mvJ R E R2) P x ↔ P x ∨ (q ∈ E ∧ x = R.length) := by
  constructor
  · intro r
    induction r with
    | base p => exact .inl p
    | step _ m ih =>
      obtain ⟨h1, h2⟩ := mem_mvJ1.mp m
      have h3 := hE _ h1
      rcases ih with p | ⟨_, e⟩
      · rcases hP _ p with e | e
        · rw [e] at h1
          exact .inr ⟨h1, h2⟩
        · omega
      · omega
  · rintro (p | ⟨h, rfl⟩)
    · exact .base p
    · exact .step (.base hq) (mem_mvJ1.mpr ⟨h, rfl⟩)
theorem app_snoc_cases {u v w : List Nat} {k : Nat} (h : w ++ [k] = u ++ v) : (v = [] ∧ u = w ++ [k]) ∨ ∃ v', v = v' ++ [k] ∧ w = u ++ v' := by
  by_cases hv : v = []
  · left
    subst hv
    rw [List.append_nil] at h
    exact ⟨rfl, h.symm⟩
  · right
    obtain ⟨v', j, rfl⟩ := snoc_of hv
    rw [← List.append_assoc] at h
    obtain ⟨h1, h2⟩ := List.append_inj' h rfl
    cases h2
    exact ⟨v', rfl, h1⟩
theorem run_snoc (R : List (List Nat)) (q : Nat) (w : List Nat) (k : Nat) : runM R q (w ++ [k]) = dl R (runM R q w) k := by
  rw [runM_append]
  rfl
theorem des_join (hM : Mok n R) (hM2 : Mok n R2) (r0 : 0 < R.length) (r2 : 0 < R2.length) (hE : ∀ s ∈ E, s < R.length) : Des (mvJ R E R2) n (R.length + R2.length) (fun x => x ∈ [0]) (JS R E R2) := by
  refine ⟨fun x hx => ?_, fun m hm => (mvJ_to hM hM2 r2 hm).1, fun x => ?_, fun w k hw hk x => ?_⟩
  · rw [List.mem_singleton.mp hx]
    omega
  · rw [rchJ (P := fun x => x ∈ [0]) (q := 0) hE (List.mem_singleton.mpr rfl) (fun x hx => .inl (List.mem_singleton.mp hx))]
    unfold JS
    rw [List.mem_singleton]
    constructor
    · rintro (h | ⟨h, rfl⟩)
      · exact .inl h
      · exact .inr ⟨[], [], rfl, h, rfl⟩
    · rintro (h | ⟨u, v, e, h, rfl⟩)
      · exact .inl h
      · obtain ⟨rfl, rfl⟩ := List.append_eq_nil_iff.mp e.symm
        exact .inr ⟨h, rfl⟩
  · have hrun := runM_lt hM r0 hw
    rw [rchJ (P := fun x => ∃ y, JS R E R2 w y ∧ (y, (k : Int), x) ∈ mvJ R E R2) (q := runM R 0 (w ++ [k])) hE ⟨_, .inl rfl, (mem_mvJ hM hM2).mpr ⟨hk, .inl ⟨hrun, run_snoc R 0 w k⟩⟩⟩ (fun x ⟨y, hy, hm⟩ => ?_)]
    · constructor
      · rintro (⟨y, hy, hm⟩ | ⟨h, rfl⟩)
        · obtain ⟨_, h⟩ := (mem_mvJ hM hM2).mp hm
          rcases hy with rfl | ⟨u, v, e, hu, rfl⟩
          · rcases h with ⟨_, rfl⟩ | ⟨i, _, e, _⟩
            · exact .inl (run_snoc R 0 w k).symm
            · omega
          · rcases h with ⟨e', _⟩ | ⟨i, _, e', rfl⟩
            · omega
            · have : i = runM R2 0 v := by omega
              subst this
              exact .inr ⟨u, v ++ [k], by rw [e, List.append_assoc], hu, by rw [run_snoc]⟩
        · exact .inr ⟨w ++ [k], [], (List.append_nil _).symm, h, rfl⟩
      · rintro (rfl | ⟨u, v, e, hu, rfl⟩)
        · exact .inl ⟨_, .inl rfl, (mem_mvJ hM hM2).mpr ⟨hk, .inl ⟨hrun, run_snoc R 0 w k⟩⟩⟩
        · rcases app_snoc_cases e with ⟨rfl, rfl⟩ | ⟨v', rfl, rfl⟩
          · exact .inr ⟨hu, rfl⟩
          · refine .inl ⟨_, .inr ⟨u, v', rfl, hu, rfl⟩, (mem_mvJ hM hM2).mpr ⟨hk, .inr ⟨_, runM_lt hM2 r2 hw.right, rfl, by rw [run_snoc]⟩⟩⟩
    · obtain ⟨_, h⟩ := (mem_mvJ hM hM2).mp hm
      rcases hy with rfl | ⟨u, v, e, hu, rfl⟩
      · rcases h with ⟨_, rfl⟩ | ⟨i, _, e, _⟩
        · exact .inl (run_snoc R 0 w k).symm
        · omega
      · rcases h with ⟨e', _⟩ | ⟨i, _, e', rfl⟩
        · omega
        · exact .inr (Nat.le_add_right _ _)
/-! ### languages of joins -/
def catL (L M : List Nat → Bool) (w : List Nat) : Bool := (List.range (w.length + 1)).any fun i => L (w.take i) && M (w.drop i)
theorem catL_iff {L M : List Nat → Bool} {w : List Nat} : catL L M w = true ↔ ∃ u v, w = u ++ v ∧ L u = true ∧ M v = true := by
  unfold catL
  rw [List.any_eq_true]
  constructor
  · rintro ⟨i, _, h⟩
    rw [Bool.and_eq_true] at h
    exact ⟨w.take i, w.drop i, (List.take_append_drop i w).symm, h.1, h.2⟩
  · rintro ⟨u, v, rfl, h1, h2⟩
    refine ⟨u.length, List.mem_range.mpr (by rw [List.length_append]; omega), ?_⟩
    rw [List.take_left, List.drop_left, h1, h2]
    rfl
theorem lg_iff {L : List Nat → Bool} (l : Lg n R E L) {w : List Nat} (hw : Wd n w) : runM R 0 w ∈ E ↔ L w = true := by
  rw [← l w hw]
  exact (decide_eq_true_iff).symm
theorem join_lang (hM : Mok n R) (hM2 : Mok n R2) (r0 : 0 < R.length) (r2 : 0 < R2.length) (hE : ∀ s ∈ E, s < R.length) {L M : List Nat → Bool} (l : Lg n R E L) (m : Lg n R2 E2 M) {w : List Nat} (hw : Wd n w) :
    (∃ s ∈ w.foldl (nxS (mvJ R E R2)) (silF (mvJ R E R2) fun x => x ∈ [0]), s ∈ E2.map fun x => R.length + x) ↔ catL L M w = true := by
  have hd := ((des_join hM hM2 r0 r2 hE).fold w hw).2
  rw [catL_iff]
  constructor
  · rintro ⟨s, hs, he⟩
    obtain ⟨y, hy, rfl⟩ := List.mem_map.mp he
    rcases (hd _).mp hs with e | ⟨u, v, rfl, hu, e⟩
    · have := runM_lt hM r0 hw
      omega
    · have e' : y = runM R2 0 v := by omega
      subst e'
      exact ⟨u, v, rfl, (lg_iff l hw.left).mp hu, (lg_iff m hw.right).mp hy⟩
  · rintro ⟨u, v, rfl, hu, hv⟩
    exact ⟨R.length + runM R2 0 v, (hd _).mpr (.inr ⟨u, v, rfl, (lg_iff l hw.left).mpr hu, rfl⟩), List.mem_map.mpr ⟨_, (lg_iff m hw.right).mpr hv, rfl⟩⟩
/-- the sets that come -/
def UJ (N M : Nat) : List (List Nat) := (List.range N).flatMap fun q => (subs ((List.range M).map fun x => N + x)).map (q :: ·)
theorem UJ_len (N M : Nat) : (UJ N M).length = N * 2 ^ M := by
  unfold UJ
  rw [flat_len (m := 2 ^ M) (List.range N) (fun q _ => by rw [List.length_map, subs_len, List.length_map, List.length_range]), List.length_range]
theorem subs_sub : ∀ {l T : List Nat}, T ∈ subs l → T.Sublist l
  | [], T, h => by
    rw [List.mem_singleton.mp h]
    exact List.Sublist.refl _
  | a :: l, T, h => by
    rcases List.mem_append.mp h with z | z
    · exact (subs_sub z).cons a
    · obtain ⟨S, hS, rfl⟩ := List.mem_map.mp z
      exact (subs_sub hS).cons₂ a
theorem mem_UJ {N M : Nat} {S : List Nat} {q : Nat} (hq : q < N) (hS : S.Pairwise (· < ·)) (h1 : q ∈ S) (h2 : ∀ x ∈ S, x = q ∨ (N ≤ x ∧ x < N + M)) : S ∈ UJ N M := by
  refine List.mem_flatMap.mpr ⟨q, List.mem_range.mpr hq, List.mem_map.mpr ⟨S.filter fun x => decide (N ≤ x), ?_, ?_⟩⟩
  · refine mem_subs ?_ (hS.filter _) fun x hx => ?_
    · rw [List.pairwise_map]
      exact List.pairwise_lt_range.imp fun h => by omega
    · obtain ⟨a, b⟩ := List.mem_filter.mp hx
      have b := of_decide_eq_true b
      rcases h2 x a with e | e
      · omega
      · exact List.mem_map.mpr ⟨x - N, List.mem_range.mpr (by omega), by omega⟩
  · refine rising_ext (List.pairwise_cons.mpr ⟨fun x hx => ?_, hS.filter _⟩) hS fun x => ?_
    · have := of_decide_eq_true (List.mem_filter.mp hx).2
      omega
    · rw [List.mem_cons, List.mem_filter, decide_eq_true_iff]
      constructor
      · rintro (rfl | h)
        · exact h1
        · exact h.1
      · intro h
        rcases h2 x h with e | e
        · exact .inl e
        · exact .inr ⟨h, e.1⟩
theorem UJ_ok {N M : Nat} {T : List Nat} (h : T ∈ UJ N M) : ∃ q Y, T = q :: Y ∧ q < N ∧ (∀ y ∈ Y, N ≤ y ∧ y < N + M) ∧ Y.length ≤ M ∧ Y.Pairwise (· < ·) := by
  obtain ⟨q, hq, h⟩ := List.mem_flatMap.mp h
  obtain ⟨Y, hY, rfl⟩ := List.mem_map.mp h
  have hs := subs_sub hY
  refine ⟨q, Y, rfl, List.mem_range.mp hq, fun y hy => ?_, ?_, ?_⟩
  · obtain ⟨i, hi, rfl⟩ := List.mem_map.mp (hs.subset hy)
    have := List.mem_range.mp hi
    omega
  · have := hs.length_le
    rwa [List.length_map, List.length_range] at this
  · refine List.Pairwise.sublist hs ?_
    rw [List.pairwise_map]
    exact List.pairwise_lt_range.imp fun h => by omega
theorem univ_join (hM : Mok n R) (hM2 : Mok n R2) (r0 : 0 < R.length) (r2 : 0 < R2.length) (hE : ∀ s ∈ E, s < R.length) : Univ (mvJ R E R2) n (silF (mvJ R E R2) fun x => x ∈ [0]) (UJ R.length R2.length) := by
  have hto := fun m hm => (mvJ_to (E := E) hM hM2 r2 (m := m) hm).1
  constructor
  · have hs := sil_of (mv := mvJ R E R2) (P := fun x => x ∈ [0]) (N := R.length + R2.length) (fun x hx => by rw [List.mem_singleton.mp hx]; omega) hto
    refine mem_UJ (q := 0) r0 hs.up ((hs.mem 0).mpr (.base (List.mem_singleton.mpr rfl))) fun x hx => ?_
    rcases (rchJ (R2 := R2) (P := fun x => x ∈ [0]) (q := 0) hE (List.mem_singleton.mpr rfl) (fun x hx => .inl (List.mem_singleton.mp hx)) x).mp ((hs.mem x).mp hx) with e | ⟨_, e⟩
    · exact .inl (List.mem_singleton.mp e)
    · exact .inr (by omega)
  · intro T hT k hk
    obtain ⟨q, Y, rfl, hq, hY, _, _⟩ := UJ_ok hT
    have hs := sil_of (mv := mvJ R E R2) (P := Led (mvJ R E R2) (q :: Y) k) (N := R.length + R2.length) (fun x ⟨y, _, hm⟩ => hto _ hm) hto
    have hP : Led (mvJ R E R2) (q :: Y) k (dl R q k) := ⟨q, List.mem_cons_self, (mem_mvJ hM hM2).mpr ⟨hk, .inl ⟨hq, rfl⟩⟩⟩
    have hP2 : ∀ x, Led (mvJ R E R2) (q :: Y) k x → x = dl R q k ∨ (R.length ≤ x ∧ x < R.length + R2.length) := fun x ⟨y, hy, hm⟩ => by
      have hlt := hto _ hm
      simp only at hlt
      obtain ⟨_, h⟩ := (mem_mvJ hM hM2).mp hm
      rcases List.mem_cons.mp hy with rfl | hy
      · rcases h with ⟨_, rfl⟩ | ⟨i, _, e, _⟩
        · exact .inl rfl
        · omega
      · have := hY y hy
        rcases h with ⟨e, _⟩ | ⟨i, _, e, rfl⟩
        · omega
        · exact .inr (by omega)
    refine mem_UJ (q := dl R q k) (dl_lt hM hq hk) hs.up ((hs.mem _).mpr (.base hP)) fun x hx => ?_
    rcases (rchJ (R2 := R2) (P := Led (mvJ R E R2) (q :: Y) k) (q := dl R q k) hE hP (fun x hx => (hP2 x hx).imp id fun z => z.1) x).mp ((hs.mem x).mp hx) with e | ⟨_, e⟩
    · exact hP2 x e
    · exact .inr (by omega)
/-! ### repeated -/
def mvS (R : List (List Nat)) (E : List Nat) : List Mv := mvO R 0 ++ (E.map fun s => (s, (-1 : Int), R.length)) ++ [(R.length, (-1 : Int), 0)]
theorem mem_mvS (hM : Mok n R) {x y : Nat} {k : Nat} : (x, (k : Int), y) ∈ mvS R E ↔ k < n ∧ x < R.length ∧ y = dl R x k := by
  unfold mvS
  rw [List.mem_append, List.mem_append, mem_mvO]
  constructor
  · rintro ((⟨i, j, hi, hj, rfl, e, rfl⟩ | h) | h)
    · have e' : k = j := by omega
      subst e'
      rw [hM.wide i hi] at hj
      refine ⟨hj, by omega, by rw [Nat.zero_add, Nat.zero_add]⟩
    · obtain ⟨s, _, e⟩ := List.mem_map.mp h
      have := congrArg (fun m : Mv => m.2.1) e
      simp only at this
      omega
    · have := congrArg (fun m : Mv => m.2.1) (List.mem_singleton.mp h)
      simp only at this
      omega
  · rintro ⟨hk, hx, rfl⟩
    exact .inl (.inl ⟨x, k, hx, by rw [hM.wide x hx]; exact hk, by omega, rfl, by omega⟩)
theorem mem_mvS1 {x y : Nat} : (x, (-1 : Int), y) ∈ mvS R E ↔ (x ∈ E ∧ y = R.length) ∨ (x = R.length ∧ y = 0) := by
  unfold mvS
  rw [List.mem_append, List.mem_append, mem_mvO, List.mem_map]
  constructor
  · rintro ((⟨i, j, _, _, _, e, _⟩ | ⟨s, hs, e⟩) | h)
    · omega
    · cases e
      exact .inl ⟨hs, rfl⟩
    · cases List.mem_singleton.mp h
      exact .inr ⟨rfl, rfl⟩
  · rintro (⟨h, rfl⟩ | ⟨rfl, rfl⟩)
    · exact .inl (.inr ⟨x, h, rfl⟩)
    · exact .inr (List.mem_singleton.mpr rfl)
theorem mvS_to (hM : Mok n R) {m : Mv} (h : m ∈ mvS R E) : m.2.2 < R.length + 1 ∧ -1 ≤ m.2.1 := by
  unfold mvS at h
  rcases List.mem_append.mp h with h | h
  · rcases List.mem_append.mp h with h | h
    · have := mvO_to hM h
      omega
    · obtain ⟨s, _, rfl⟩ := List.mem_map.mp h
      simp only
      omega
  · rw [List.mem_singleton.mp h]
    simp only
    omega
theorem mvS_len (hM : Mok n R) : (mvS R E).length = R.length * n + E.length + 1 := by
  unfold mvS
  rw [List.length_append, List.length_append, mvO_len hM, List.length_map, List.length_singleton]
inductive Star (L : List Nat → Bool) : List Nat → Prop
  | nil : Star L []
  | snoc {u v : List Nat} : Star L u → L v = true → Star L (u ++ v)
theorem Star.cut {L : List Nat → Bool} {w : List Nat} (h : Star L w) : w = [] ∨ ∃ u v, w = u ++ v ∧ Star L u ∧ L v = true ∧ v ≠ [] := by
  induction h with
  | nil => exact .inl rfl
  | @snoc u v hu hv ih =>
    by_cases e : v = []
    · subst e
      rw [List.append_nil]
      exact ih
    · exact .inr ⟨u, v, rfl, hu, hv, e⟩
def SS (L : List Nat → Bool) (R : List (List Nat)) (w : List Nat) (x : Nat) : Prop := (∃ u v, w = u ++ v ∧ Star L u ∧ x = runM R 0 v) ∨ (Star L w ∧ x = R.length)
theorem des_star {L : List Nat → Bool} (hM : Mok n R) (r0 : 0 < R.length) (l : Lg n R E L) : Des (mvS R E) n (R.length + 1) (fun x => x ∈ [R.length]) (SS L R) := by
  refine ⟨fun x hx => ?_, fun m hm => (mvS_to hM hm).1, fun x => ?_, fun w k hw hk x => ?_⟩
  · rw [List.mem_singleton.mp hx]
    omega
  · constructor
    · intro r
      induction r with
      | base p => exact .inr ⟨.nil, List.mem_singleton.mp p⟩
      | step _ m ih =>
        rcases mem_mvS1.mp m with ⟨_, rfl⟩ | ⟨_, rfl⟩
        · exact .inr ⟨.nil, rfl⟩
        · exact .inl ⟨[], [], rfl, .nil, rfl⟩
    · rintro (⟨u, v, e, _, rfl⟩ | ⟨_, rfl⟩)
      · obtain ⟨rfl, rfl⟩ := List.append_eq_nil_iff.mp e.symm
        exact .step (.base (List.mem_singleton.mpr rfl)) (mem_mvS1.mpr (.inr ⟨rfl, rfl⟩))
      · exact .base (List.mem_singleton.mpr rfl)
  · have old : ∀ u v, w = u ++ v → Star L u → Rch (mvS R E) (fun x => ∃ y, SS L R w y ∧ (y, (k : Int), x) ∈ mvS R E) (runM R 0 (v ++ [k])) := fun u v e hu =>
      .base ⟨runM R 0 v, .inl ⟨u, v, e, hu, rfl⟩, (mem_mvS hM).mpr ⟨hk, runM_lt hM r0 (by rw [e] at hw; exact hw.right), run_snoc R 0 v k⟩⟩
    have all : Star L (w ++ [k]) → Rch (mvS R E) (fun x => ∃ y, SS L R w y ∧ (y, (k : Int), x) ∈ mvS R E) R.length := fun h => by
      rcases h.cut with e | ⟨u, v, e, hu, hv, hne⟩
      · simp at e
      · rcases app_snoc_cases e with ⟨e', _⟩ | ⟨v', rfl, rfl⟩
        · exact absurd e' hne
        · exact .step (old u v' rfl hu) (mem_mvS1.mpr (.inl ⟨(lg_iff l (hw.right.app (.one hk))).mpr hv, rfl⟩))
    constructor
    · intro r
      induction r with
      | base p =>
        obtain ⟨y, hy, hm⟩ := p
        obtain ⟨_, hyl, rfl⟩ := (mem_mvS hM).mp hm
        rcases hy with ⟨u, v, e, hu, rfl⟩ | ⟨_, rfl⟩
        · exact .inl ⟨u, v ++ [k], by rw [e, List.append_assoc], hu, by rw [run_snoc]⟩
        · omega
      | step _ m ih =>
        rcases mem_mvS1.mp m with ⟨hx, rfl⟩ | ⟨rfl, rfl⟩
        · rcases ih with ⟨u, v, e, hu, rfl⟩ | ⟨h, rfl⟩
          · refine .inr ⟨?_, rfl⟩
            have hwk : Wd n (w ++ [k]) := hw.app (.one hk)
            rw [e] at hwk ⊢
            exact .snoc hu ((lg_iff l hwk.right).mp hx)
          · exact .inr ⟨h, rfl⟩
        · rcases ih with ⟨u, v, e, hu, e'⟩ | ⟨h, _⟩
          · have hwk : Wd n (w ++ [k]) := hw.app (.one hk)
            rw [e] at hwk
            have := runM_lt hM r0 hwk.right
            omega
          · exact .inl ⟨w ++ [k], [], (List.append_nil _).symm, h, rfl⟩
    · rintro (⟨u, v, e, hu, rfl⟩ | ⟨h, rfl⟩)
      · rcases app_snoc_cases e with ⟨rfl, rfl⟩ | ⟨v', rfl, e'⟩
        · exact .step (all hu) (mem_mvS1.mpr (.inr ⟨rfl, rfl⟩))
        · exact old u v' e' hu
      · exact all h
open Classical in
noncomputable def starL (L : List Nat → Bool) (w : List Nat) : Bool := decide (Star L w)
open Classical in
theorem starL_iff {L : List Nat → Bool} {w : List Nat} : starL L w = true ↔ Star L w := by
  unfold starL
  exact decide_eq_true_iff
theorem star_lang {L : List Nat → Bool} (hM : Mok n R) (r0 : 0 < R.length) (l : Lg n R E L) {w : List Nat} (hw : Wd n w) :
    (∃ s ∈ w.foldl (nxS (mvS R E)) (silF (mvS R E) fun x => x ∈ [R.length]), s ∈ [R.length]) ↔ starL L w = true := by
  have hd := ((des_star hM r0 l).fold w hw).2
  rw [starL_iff]
  constructor
  · rintro ⟨s, hs, he⟩
    rw [List.mem_singleton.mp he] at hs
    rcases (hd _).mp hs with ⟨u, v, rfl, hu, e⟩ | ⟨h, _⟩
    · have := runM_lt hM r0 hw.right
      omega
    · exact h
  · intro h
    exact ⟨R.length, (hd _).mpr (.inr ⟨h, rfl⟩), List.mem_singleton.mpr rfl⟩
theorem mem_subs_lt {N : Nat} {T : List Nat} (h : T.Pairwise (· < ·)) (h' : ∀ x ∈ T, x < N) : T ∈ subs (List.range N) :=
  mem_subs List.pairwise_lt_range h fun x hx => List.mem_range.mpr (h' x hx)
theorem univ_lt {mv : List Mv} {N : Nat} {P : Nat → Prop} (hP : ∀ x, P x → x < N) (hm : ∀ m ∈ mv, m.2.2 < N) : Univ mv n (silF mv P) (subs (List.range N)) := by
  have key : ∀ {P : Nat → Prop}, (∀ x, P x → x < N) → silF mv P ∈ subs (List.range N) := fun {P} hP => by
    have hs := sil_of hP hm
    refine mem_subs_lt hs.up fun x hx => ?_
    have r := (hs.mem x).mp hx
    cases r with
    | base p => exact hP _ p
    | step _ m => exact hm _ m
  exact ⟨key hP, fun T hT k hk => key fun x ⟨y, _, h⟩ => hm _ h⟩
/-! ### rules -/
variable {L M L' M' J : List Nat → Bool}
theorem cat_congr (h1 : ∀ w, Wd n w → L w = L' w) (h2 : ∀ w, Wd n w → M w = M' w) {w : List Nat} (hw : Wd n w) : catL L M w = catL L' M' w := by
  rw [Bool.eq_iff_iff, catL_iff, catL_iff]
  constructor
  · rintro ⟨u, v, rfl, a, b⟩
    exact ⟨u, v, rfl, by rw [← h1 u hw.left]; exact a, by rw [← h2 v hw.right]; exact b⟩
  · rintro ⟨u, v, rfl, a, b⟩
    exact ⟨u, v, rfl, by rw [h1 u hw.left]; exact a, by rw [h2 v hw.right]; exact b⟩
theorem cat_assoc (w : List Nat) : catL (catL L M) J w = catL L (catL M J) w := by
  rw [Bool.eq_iff_iff, catL_iff, catL_iff]
  constructor
  · rintro ⟨u, v, rfl, a, b⟩
    obtain ⟨u1, u2, rfl, c, d⟩ := catL_iff.mp a
    exact ⟨u1, u2 ++ v, by rw [List.append_assoc], c, catL_iff.mpr ⟨u2, v, rfl, d, b⟩⟩
  · rintro ⟨u, v, rfl, a, b⟩
    obtain ⟨u1, u2, rfl, c, d⟩ := catL_iff.mp b
    exact ⟨u ++ u1, u2, by rw [List.append_assoc], catL_iff.mpr ⟨u, u1, rfl, a, c⟩, d⟩
def epsL (w : List Nat) : Bool := w.isEmpty
theorem eps_iff {w : List Nat} : epsL w = true ↔ w = [] := List.isEmpty_iff
theorem cat_eps (w : List Nat) : catL L epsL w = L w := by
  rw [Bool.eq_iff_iff, catL_iff]
  constructor
  · rintro ⟨u, v, rfl, a, b⟩
    rw [eps_iff.mp b, List.append_nil]
    exact a
  · intro h
    exact ⟨w, [], (List.append_nil _).symm, h, rfl⟩
theorem eps_cat (w : List Nat) : catL epsL L w = L w := by
  rw [Bool.eq_iff_iff, catL_iff]
  constructor
  · rintro ⟨u, v, rfl, a, b⟩
    rw [eps_iff.mp a]
    exact b
  · intro h
    exact ⟨[], w, rfl, rfl, h⟩
theorem cat_none (w : List Nat) : catL L (fun _ => false) w = false := by
  refine Bool.eq_false_iff.mpr fun h => ?_
  obtain ⟨u, v, _, _, b⟩ := catL_iff.mp h
  cases b
def powL (L : List Nat → Bool) : Nat → List Nat → Bool
  | 0 => epsL
  | k + 1 => catL (powL L k) L
end
end Mach

/-! repr of data, and defs that are called where no repr runs (guards told as empty) -/
namespace Rg
open PySem PySem.Spec PyProof.Rows L2

/-- a promise of a def for callers around whom no repr is under way -/
structure GFn (P : Program) (w : World) (K : PySem.W.Frag) (mg : Str → Option Value) (base : Heap)
    (CX : CXT) (k : Nat) (f : Addr) (fd : FuncData) (ps : List Str) (sp : Sp) : Prop where
  len : ∀ vs H Q E, sp vs H Q E → vs.length = ps.length
  run : ∀ (A : Around) (outer : List Env) (s : Shared) (H : Hp) (args : Args) (us : List Value) (vs : List V)
    (Q : VK) (E : XK), Room k A → A.guards = some [] → Env0 P w K mg base A outer s H →
    BindsTo s fd args (ps.zip us) → Vals vs us → sp vs H Q E →
    codeAny (model P w) A (.call (.ref f) args) (CR CX outer P w H s Q E) s

section
variable {P : Program} {w : World} {K : PySem.W.Frag} {mg : Str → Option Value} {base : Heap} {CX : CXT}
  {k : Nat} {f : Addr} {fd : FuncData} {ps : List Str} {sp : Sp}

theorem gfn_of_fnOk (F : FnOk P w K mg base CX k f fd ps sp) : GFn P w K mg base CX k f fd ps sp :=
  ⟨F.len, fun A outer s H args us vs Q E hr _ e0 hb r q => F.run A outer s H args us vs Q E hr e0 hb r q⟩

theorem deeper_guards {A : Around} (env : Env) (h : A.guards = some []) : (A.deeper env).guards = some [] := h

theorem gfn_of {name qual : Str} {params : Arguments} {body : List Stmt} {scope : Scope}
    {dV kV doc pm cdv ct oc : Value} {an od : Option Addr} {osl : Array (Option Value)} {N : List Str}
    (lk : K.lookup f = some ⟨oc, od, .func (PySem.W.fnOf name qual params body scope dV kV doc pm an cdv ct), osl⟩)
    (hcd : PySem.W.codeIn K cdv qual = true) (S : FnScope N ps scope)
    (len : ∀ vs H Q E, sp vs H Q E → vs.length = ps.length)
    (hbody : ∀ (A : Around) (outer : List Env) (s : Shared) (H : Hp) (vs : List V) (Q : VK) (E : XK),
      Room k (A.deeper (envOfC qual scope s.heap.objs.size f cdv)) →
      (A.deeper (envOfC qual scope s.heap.objs.size f cdv)).guards = some [] → sp vs H Q E →
      ∃ t, PSs (cxOf CX P w K mg base N qual scope f cdv A outer s H E) body t ∧
        t { nx := fun _ H' => Q .non H', rt := Q } (start N vs) H) :
    GFn P w K mg base CX (k + 1) f (PySem.W.fnOf name qual params body scope dV kV doc pm an cdv ct) ps sp := by
  refine ⟨len, ?_⟩
  intro A outer s H args us vs Q E hr hg e0 hb r hsp
  have hlen := len _ _ _ _ hsp
  have kin : K.In s.heap := e0.mod.kin.keeps (fun b o e => (e0.bs b o e).1)
  have nolim : s.heap.NoLimit := e0.mod.nolimit.keeps (fun b o e => (e0.bs b o e).1)
  have kinds : ∀ y ∈ ps.zip us, scope.names.lookup y.1 = some .local ∨
      (scope.names.lookup y.1 = some .cell ∧
        ((cellsFrom (s.heap.objs.size + 1) scope.names []).lookup y.1).isSome = true) := by
    rintro ⟨n, v⟩ hy
    rcases S.par n (List.of_mem_zip hy).1 with z | z
    · exact .inl z
    · exact .inr ⟨z, PySem.W.cellsFrom_some _ _ _ (.inl z)⟩
  refine codeAny_call_function hr.depth (kin _ _ lk) rfl S.co S.gen rfl
    (PySem.W.codeRec_of kin hcd) (hb _ _ _ _ ?_)
  refine wpAny_newFunctionEnv_cells S.kind kinds ?_
  intro env he s1 x
  subst he
  refine ⟨nolim.keeps x.toInCall.keep, codeAny_func ?_⟩
  obtain ⟨t, ht, hq⟩ := hbody A outer s H vs Q E (hr.deeper _) (deeper_guards _ hg) hsp
  have I0 : Inv (cxOf CX P w K mg base N qual scope f cdv A outer s H E) [] (start N vs) H s1 :=
    inv_start S hr.hd e0 hlen r x
  refine wpAny_mono (ht.run [] s1 (start N vs) H _ I0 hq) ?_ (fun _ _ z => z)
  intro fl s' hs
  cases fl with
  | ret u =>
    obtain ⟨v, σ', H', J, rv, q⟩ := hs
    exact ⟨v, H', J.os, J.bare, J.base, J.hok, rv, q⟩
  | next =>
    obtain ⟨σ', H', J, q⟩ := hs
    exact ⟨V.non, H', J.os, J.bare, J.base, J.hok, rfl, q⟩
  | brk =>
    obtain ⟨_, _, _, q⟩ := hs
    exact q.elim
  | cont =>
    obtain ⟨_, _, _, q⟩ := hs
    exact q.elim

/-- the body's walk of a def of the text, nothing raised -/
theorem fun_okG {x qual : Str} {st : Stmt} {N : List Str} (F : Fun K x qual st f fd)
    (S : FnScope N ps (defScope st)) (len : ∀ vs H Q E, sp vs H Q E → vs.length = ps.length)
    (hbody : ∀ (cdv : Value) (A : Around) (outer : List Env) (s : Shared) (H : Hp) (vs : List V) (Q : VK) (E : XK),
      Room k (A.deeper (envOfC qual (defScope st) s.heap.objs.size f cdv)) →
      (A.deeper (envOfC qual (defScope st) s.heap.objs.size f cdv)).guards = some [] → sp vs H Q E →
      ∃ t, PSs (cxOf CX0 P w K mg base N qual (defScope st) f cdv A outer s H E).nox (defBody st) t ∧
        t { nx := fun _ H' => Q .non H', rt := Q } (start N vs) H) :
    GFn P w K mg base CX0 (k + 1) f fd ps sp := by
  obtain ⟨oc, od, kV, doc, pm, an, cdv, ct, osl, rfl, lk, hcd⟩ := F.ex
  refine gfn_of lk hcd S len ?_
  intro A outer s H vs Q E hr hg hsp
  obtain ⟨t, h, q⟩ := hbody cdv A outer s H vs Q E hr hg hsp
  exact ⟨t, h.nox, q⟩
end

section
variable {X : Cx} {CX : CXT} {k : Nat} {f : Addr} {fd : FuncData} {ps : List Str} {sp : Sp} {dvs : List V}
  {ds : List Value} {E : XK} {x : Str} {p pos : Pos} {e : Expr} {es : List Expr} {t : TA}

theorem run_gfn {pins : List (Addr × Obj)} {σ : L2.St} {H : Hp} {s : Shared} {Q : VK} {us : List Value} {vs : List V}
    (F : GFn X.prog X.w X.K X.mg X.base CX k f fd ps sp) (hr : Room k X.A) (hg : X.A.guards = some [])
    (hb : Binds X.K fd ps ds) (hd : Vals dvs ds) (hx : Passes CX X E)
    (I : Inv X pins σ H s) (r : Vals vs us) (h : sp (vs ++ dvs) H Q E) :
    wpAny (model X.prog X.w) X.A (call (.ref f) us) (EP X pins σ Q) X.xe s := by
  have rr : Vals (vs ++ dvs) (us ++ ds) := r.append hd
  have hl : (us ++ ds).length = ps.length := by
    rw [← rr.length]
    exact F.len _ _ _ _ h
  refine wpAny_call (codeAny_mono (F.run X.A X.stack s H ⟨us, []⟩ (us ++ ds) (vs ++ dvs) Q E hr hg I.env0
    (hb s us I.kIn hl) rr h) ?_)
  intro r s' hq
  cases r with
  | error z => exact hx pins σ H s z s' I hq
  | ok fl =>
    cases fl with
    | ret u => exact I.after hq
    | next => exact hq.elim
    | brk => exact hq.elim
    | cont => exact hq.elim

theorem pe_callG (F : GFn X.prog X.w X.K X.mg X.base CX k f fd ps sp) (hr : Room k X.A)
    (hgu : X.A.guards = some []) (hg : Gl X x) (hm : X.mg x = some (.ref f))
    (hk : PySem.W.keepIn X.K (.ref f) = true) (hb : Binds X.K fd ps ds) (hd : Vals dvs ds) (hx : Passes CX X E)
    (ha : PA X (e :: es) t) (hdb : (x == ("__debug__" : Str)) = false := by decide)
    (he : starEach (e :: es) X.env = (false, eval e X.env) :: starEach es X.env := by rfl)
    (hpl : (backTo pos (starEach es X.env)).any (·.1) = false := by rfl) :
    PE X (.Call (.Name x p) (e :: es) [] pos) (tCall sp dvs E t) := by
  refine ⟨?_⟩
  intro pins s σ H Q I h
  refine wpAny_Call_Name_kw (ld_glob I hg hm ?_ hdb)
  refine PySem.W.callWith_K (h₀ := X.base) I.ok.mod.kin hk (thn (ha.run pos pins s σ H _ I h) ?_) he hpl
  rintro us s1 ⟨vs, H1, I1, r, q⟩
  exact ⟨I1.kIn, run_gfn F hr hgu hb hd hx I1 r q⟩
end

/-! ### the law's end with guards -/
theorem law_callG {P : Program} {w : World} {K : PySem.W.Frag} {mg mb : Str → Option Value} {CX : CXT} {k : Nat}
    {fa a : Addr} {fd : FuncData} {x : Str} {sp : Sp} {s1 : Shared} {vs : List Value} {ns : List Int}
    (KX : K.In s1.heap) (hns : s1.heap.Ns mainGlobals mg) (hb : s1.heap.Ns builtinsNs mb)
    (hbb : ∀ x : Str, x ≠ "__name__" → mb x = bootBuiltins x) (hlim : s1.heap.NoLimit) (hg : s1.gens = #[])
    (ha : s1.heap.get? a = some { cls := .type "list", data := .seq vs.toArray }) (hi : IntsAre vs ns)
    (hl : ns.length ≤ sizeLine) (hr : Room k callerA)
    (F : ∀ base : Heap, K.In base → base.Ns mainGlobals mg → GFn P w K mg base CX k fa fd [x] sp)
    (hbind : ∀ (s : Shared) (u : Value), BindsTo s fd ⟨[u], []⟩ [(x, u)])
    (hsp : ∀ H : Hp, Only H → SqL K H a (ns.map V.int) → sp [.ref a] H (fun v _ => v = .bl true) fun _ _ _ => False)
    (hCX : ∀ H e s', CX [] H s1 (fun _ _ _ => False) e s' → False) :
    codeAny (model P w) callerA (.call (.ref fa) ⟨[.ref a], []⟩)
      (fun r s' => r = .ok (.ret (.bool true)) ∧ OldK s1.heap s'.heap ∧ s'.os = s1.os ∧ AllBare s'.gens) s1 := by
  have rv := vals_ints hi
  have lenV := hi.length
  have core : ∀ H : Hp, Only H → SqL K H a (ns.map V.int) → HOk P w H s1.heap → (∀ b, H b ≠ none → b = a) →
      (H a ≠ none → K.lookup a = none) →
      codeAny (model P w) callerA (.call (.ref fa) ⟨[.ref a], []⟩)
        (fun r s' => r = .ok (.ret (.bool true)) ∧ OldK s1.heap s'.heap ∧ s'.os = s1.os ∧ AllBare s'.gens) s1 := by
    intro H hO hS hok hA hK
    have noA : ∀ {b : Addr} {o : Obj} {es : Array DictEntry} {ep : Nat}, s1.heap.get? b = some o →
        o.data = .dict es ep → H b = none := by
      intro b o es ep e d
      cases q : H b with
      | none => rfl
      | some u =>
        have e' : b = a := hA b (by rw [q]; simp)
        subst e'
        rw [ha] at e
        cases e
        exact absurd d (by simp)
    have nsK : ∀ {b : Addr} {m : Str → Option Value}, s1.heap.Ns b m → (hidT s1.heap H).Ns b m := by
      rintro b m ⟨o, es, ep, e, d, r⟩
      exact ⟨o, es, ep, hidT_get e (noA e d), d, r⟩
    have hKb : K.In (hidT s1.heap H) := by
      intro b o e
      refine hidT_get (KX b o e) ?_
      cases q : H b with
      | none => rfl
      | some u =>
        have e' : b = a := hA b (by rw [q]; simp)
        subst e'
        rw [hK (by rw [q]; simp)] at e
        cases e
    have hM : Mod K mg (hidT s1.heap H) := by
      obtain ⟨mc, h1, h2⟩ := hlim
      exact ⟨hKb, nsK hns, ⟨mb, nsK hb, hbb⟩, ⟨mc, nsK h1, h2⟩⟩
    have e0 : Env0 P w K mg (hidT s1.heap H) callerA [] s1 H := by
      refine ⟨rfl, hM, fun b o e => of_hidT e, Nat.le_of_eq (hidT_size _ _), trivial, ?_, hok, .of_eq hg⟩
      intro b hb'
      have hb2 : b ∈ ([] : List Addr) := hb'
      cases hb2
    refine codeAny_mono ((F _ hKb (nsK hns)).run callerA [] s1 H ⟨[.ref a], []⟩ [.ref a] [.ref a] _ _ hr rfl e0
      (hbind s1 (.ref a)) (.cons rfl .nil) (hsp H hO hS)) ?_
    intro r s' h
    cases r with
    | error e => exact (hCX H e s' h).elim
    | ok fl =>
      cases fl with
      | next => exact h.elim
      | brk => exact h.elim
      | cont => exact h.elim
      | ret u =>
        obtain ⟨v, H', os, bare, un, hok', r', q⟩ := h
        have q' : v = .bl true := q
        subst q'
        obtain rfl : u = Value.bool true := r'
        refine ⟨rfl, OldK.of_keep ?_, os, bare⟩
        intro b o e
        cases q : H b with
        | none =>
          refine un.keep b o e q ?_ (by simp)
          intro z
          have z2 : b ∈ ([] : List Addr) := z
          cases z2
        | some u =>
          rcases hO b with z | ⟨ob, xs, z⟩
          · rw [q] at z
            cases z
          · have e1 := (hok b _ z).1
            have e2 := (hok' b _ (un.frzs b ob _ z)).1
            rw [e] at e1
            cases e1
            exact e2
  cases hk : K.lookup a with
  | some o =>
    have e := KX a o hk
    rw [ha] at e
    cases e
    refine core (fun _ => none) (fun _ => .inl rfl) (.inr ⟨_, vs.toArray, _, hk, rfl, rfl, rfl, ?_, by simpa using rv⟩)
      ?_ (fun b z => absurd rfl z) (fun z => absurd rfl z)
    · rw [List.size_toArray, lenV]
      exact hl
    · intro b u z
      have z' : (none : Option HO) = some u := z
      cases z'
  | none =>
    refine core (fun b => if b = a then some (.frz { cls := .type "list", data := .seq vs.toArray } (.lst (ns.map V.int))) else none)
      ?_ (.inl (.inr ⟨{ cls := .type "list", data := .seq vs.toArray }, if_pos rfl⟩)) ?_ ?_ (fun _ => hk)
    · intro b
      by_cases hba : b = a
      · exact .inr ⟨_, _, if_pos hba⟩
      · exact .inl (if_neg hba)
    · intro b u z
      by_cases hba : b = a
      · have z' := (if_pos hba).symm.trans z
        cases z'
        subst hba
        refine ⟨ha, ?_, vs, _, rv, ha⟩
        rw [List.length_map]
        exact hl
      · have z' := (if_neg hba).symm.trans z
        cases z'
    · intro b z
      by_cases hba : b = a
      · exact hba
      · exact absurd (if_neg hba) z

theorem walk_ofG {l : PySem.W.OpenLaw} {n k : Nat} {q : Program} {loose : List Str}
    {XP : (Str → Option Value) → Heap → Prop} {YP : World → Heap → Prop} {d : DefRec} {K : Params → PySem.W.Frag}
    {CX : World → CXT} {sp : World → Sp} {x : Str}
    (hn : l.most = some n) (hn2 : n ≤ sizeLine) (hdf : d.params.defaults = []) (hr : Room k callerA)
    (hY : ∀ (w : World) (h : Heap), YP w h → (K w.params).In h)
    (F : ∀ (w : World) (mg : Str → Option Value) (fa : Addr) (h : Heap), (K w.params).In h →
      h.Ns mainGlobals mg → mg d.name = some (.ref fa) →
      ∃ fd : FuncData, (∀ (s : Shared) (u : Value), BindsTo s fd ⟨[u], []⟩ [(x, u)]) ∧
        ∀ base : Heap, (K w.params).In base → base.Ns mainGlobals mg →
          GFn l.prog w (K w.params) mg base (CX w) k fa fd [x] (sp w))
    (hsp : ∀ (w : World) (H : Hp) (a : Addr) (ns : List Int), ns.length ≤ n → Only H →
      SqL (K w.params) H a (ns.map V.int) → sp w [.ref a] H (fun v _ => v = .bl true) fun _ _ _ => False)
    (hCX : ∀ (w : World) (H : Hp) (s : Shared) (e : Value) (s' : Shared), CX w [] H s (fun _ _ _ => False) e s' → False) :
    PySem.W.WalkO q loose XP YP l.row.toRowW d [] (fun f vs => PySem.call f vs) := by
  refine Att.attach_call hn hdf ?_
  intro w s0 s1 mg mb fa o pm cd doc a vs ns G Y ho hd hcd hmg hobj hints hlen hg
  have KX := hY w _ Y
  obtain ⟨fd, hb, hF⟩ := F w mg fa _ KX G.T.g hmg
  exact law_callG KX G.T.g G.T.b G.T.builtins G.T.nolimit hg hobj hints (Nat.le_trans hlen hn2) hr hF hb
    (fun H hO hS => hsp w H a ns hlen hO hS) (fun H e s' => hCX w H s1 e s')

/-! ### repr -/
section
variable {X : Cx}
theorem call_repr_str : CallR X (.builtin "repr")
    (fun xs H Q => ∃ z, xs = [.str z] ∧ (reprText z).length ≤ sizeLine ∧ Q (.str (reprText z)) H) := by
  intro pins s σ H xs us Q I r h
  obtain ⟨z, rfl, hz, q⟩ := h
  obtain ⟨u, rfl, t, rfl⟩ := vals1 r
  exact PySem.P.repr_of_str ⟨.str _, H, I.tok _, ⟨_, rfl⟩, q⟩ hz

/-- repr of a list or a tuple of data without dicts -/
theorem call_repr_data (hg : X.A.guards = some []) (hu : X.A.units + 64 < cLine) : CallR X (.builtin "repr")
    (fun xs H Q => ∃ (a : Addr) (d : PyData), xs = [.ref a] ∧ Dp X.K H (.ref a) d ∧ d.showable = true ∧
      d.hasDict = false ∧ d.depth ≤ 60 ∧ d.shown.length ≤ sizeLine ∧ Q (.str d.shown) H) := by
  intro pins s σ H xs us Q I r h
  obtain ⟨a, d, rfl, hd, hs, hnd, hdp, hz, q⟩ := h
  obtain ⟨u, rfl, ru⟩ := vals1 r
  obtain rfl : u = Value.ref a := ru
  obtain ⟨as, rd⟩ := Dp.reads I d _ _ hd rfl
  refine repr_of_reads' rd hs (fun z => ?_) hg ?_ (fun _ _ e => e) (fun h' u tk hk => ?_) hz
  · rw [hnd] at z
    cases z
  · omega
  · exact ⟨.str _, H, I.kept hk, ⟨_, rfl⟩, q⟩
end
end Rg

/-! further rules of the layer; heaps with one changing list (the bag) -/
namespace Rg
open PySem PySem.Spec PyProof.Rows L2

section
variable {X : Cx}
theorem get_listN : PGet X (fun o i H Q => ∃ (p : Addr) (xs : List V) (k : Nat) (v : V), o = .ref p ∧ i = .int (k : Int) ∧
    SqL X.K H p xs ∧ xs[k]? = some v ∧ Q v H) := by
  intro pins s σ H o i ov iv Q I ro ri h
  obtain ⟨p, xs, k, z, rfl, rfl, hq, he, q⟩ := h
  cases ro
  obtain ⟨t, rfl⟩ := ri
  obtain ⟨its, r, pl, hz⟩ := I.list hq
  obtain ⟨u, eu, ru⟩ := r.get he
  have hl := r.length
  have hk : k < xs.length := (List.getElem?_eq_some_iff.mp he).1
  have hn := line63
  refine wpAny_getItem_list pl.isList (by omega) (by omega) (by simpa using eu) ⟨z, H, I, ru, q⟩
end

/-! ### heaps -/
theorem same_new {H : Hp} {p : Addr} {o : HO} (h : H p = none) : Same H (upd H p o) := by
  intro b x e
  rw [upd_ne (ne_of_none e h)]
  exact e
/-- all that was tracked is as it was, but g -/
def But (g : Addr) (H H' : Hp) : Prop := ∀ b o, b ≠ g → H b = some o → H' b = some o
theorem But.refl (g : Addr) (H : Hp) : But g H H := fun _ _ _ h => h
theorem But.trans {g : Addr} {H H1 H2 : Hp} (a : But g H H1) (b : But g H1 H2) : But g H H2 := fun c o n h => b c o n (a c o n h)
theorem But.of_same {g : Addr} {H H1 : Hp} (a : Same H H1) : But g H H1 := fun b o _ h => a b o h
theorem But.new {g p : Addr} {H H1 : Hp} {o : HO} (a : But g H H1) (h : H1 p = none) : But g H (upd H1 p o) := a.trans (.of_same (same_new h))
theorem But.self {g : Addr} {H H1 : Hp} {o : HO} (a : But g H H1) : But g H (upd H1 g o) := fun b x n h => by
  rw [upd_ne n]
  exact a b x n h
theorem But.upd_new {g p : Addr} {H H1 : Hp} {o : HO} (a : But g H H1) (h : H p = none) (hp : p ≠ g) : But g H (upd H1 p o) := fun b x n e => by
  rw [upd_ne (ne_of_none e h)]
  exact a b x n e
theorem But.free {g p : Addr} {H H1 : Hp} {o : HO} (a : But g H H1) (hg : H1 g = some o) (h : H1 p = none) : H p = none := by
  cases e : H p with
  | none => rfl
  | some x =>
    by_cases n : p = g
    · rw [n, hg] at h
      cases h
    · rw [a p x n e] at h
      cases h

/-! ### the bag -/
def BagL (x0 x1 x2 : Int) (l : Addr) : HO := .lst [.int x0, .int x1, .int x2, .ref l]
def Bag (H : Hp) (g l : Addr) : Prop := ∃ (x0 x1 x2 : Int) (cs : List Int), H g = some (BagL x0 x1 x2 l) ∧
  H l = some (.lst (cs.map V.int)) ∧ 0 ≤ x0 ∧ 0 ≤ x1 ∧ 0 ≤ x2 ∧ (∀ c ∈ cs, 0 ≤ c) ∧ cs.length ≤ 63
theorem bag_ne {x0 x1 x2 : Int} {l : Addr} {cs : List Int} : HO.lst (cs.map V.int) ≠ BagL x0 x1 x2 l := by
  intro e
  have e1 : cs.map V.int = [.int x0, .int x1, .int x2, .ref l] := HO.lst.inj e
  have : V.ref l ∈ cs.map V.int := by rw [e1]; simp
  obtain ⟨c, _, z⟩ := List.mem_map.mp this
  cases z
theorem Bag.new {H : Hp} {g l p : Addr} {o : HO} (b : Bag H g l) (h : H p = none) : Bag (upd H p o) g l := by
  obtain ⟨x0, x1, x2, cs, h1, h2, r⟩ := b
  exact ⟨x0, x1, x2, cs, by rw [upd_ne (ne_of_none h1 h)]; exact h1, by rw [upd_ne (ne_of_none h2 h)]; exact h2, r⟩
theorem Bag.same {H H' : Hp} {g l : Addr} (b : Bag H g l) (s : Same H H') : Bag H' g l := by
  obtain ⟨x0, x1, x2, cs, h1, h2, r⟩ := b
  exact ⟨x0, x1, x2, cs, s _ _ h1, s _ _ h2, r⟩
theorem Bag.at {H : Hp} {g l : Addr} (b : Bag H g l) : ∃ o, H g = some o := by
  obtain ⟨x0, x1, x2, cs, h1, _⟩ := b
  exact ⟨_, h1⟩
theorem Bag.at2 {H : Hp} {g l : Addr} (b : Bag H g l) : ∃ o, H l = some o := by
  obtain ⟨x0, x1, x2, cs, _, h2, _⟩ := b
  exact ⟨_, h2⟩
/-- what is new is not the bag -/
theorem Bag.ne {H : Hp} {g l b : Addr} (h : Bag H g l) (hb : H b = none) : b ≠ g := by
  obtain ⟨o, e⟩ := h.at
  exact (ne_of_none e hb).symm
theorem Bag.ne2 {H : Hp} {g l b : Addr} (h : Bag H g l) (hb : H b = none) : b ≠ l := by
  obtain ⟨o, e⟩ := h.at2
  exact (ne_of_none e hb).symm
theorem Bag.upd_other {H : Hp} {g l p : Addr} {o : HO} (b : Bag H g l) (hp : p ≠ g) (hl : p ≠ l) : Bag (upd H p o) g l := by
  obtain ⟨x0, x1, x2, cs, h1, h2, r⟩ := b
  exact ⟨x0, x1, x2, cs, by rw [upd_ne hp.symm]; exact h1, by rw [upd_ne hl.symm]; exact h2, r⟩

theorem cut_ints (cs : List Int) (lo hi : Option Int) : ∃ zs : List Int, cutV (cs.map V.int) lo hi = zs.map V.int ∧ (∀ z ∈ zs, z ∈ cs) ∧ zs.length ≤ cs.length := by
  unfold cutV
  rw [← List.map_drop, ← List.map_take]
  refine ⟨_, rfl, fun z hz => ?_, ?_⟩
  · exact List.mem_of_mem_drop (List.mem_of_mem_take hz)
  · rw [List.length_take, List.length_drop]
    omega

/-! ### numbers as states -/
def nV (n : Nat) : V := .int (n : Int)
def spTake : Sp := fun vs H Q _ => ∃ (g l : Addr) (m : Int), vs = [.ref g, .int m] ∧ Bag H g l ∧ 0 < m ∧ m < 1073741824 ∧
  ∀ (H' : Hp) (r : Nat), (r : Int) < m → Bag H' g l → But g H H' → Q (nV r) H'

/-! ### what the built-in names hold -/
theorem bInt : bootBuiltins "int" = some (.type "int") := by decide +kernel
theorem bList : bootBuiltins "list" = some (.type "list") := by decide +kernel
theorem bDict : bootBuiltins "dict" = some (.type "dict") := by decide +kernel
theorem bTuple : bootBuiltins "tuple" = some (.type "tuple") := by decide +kernel
theorem bSet : bootBuiltins "set" = some (.type "set") := by decide +kernel
theorem bLen : bootBuiltins "len" = some (.builtin "len") := by decide +kernel
theorem bAbs : bootBuiltins "abs" = some (.builtin "abs") := by decide +kernel
theorem bRepr : bootBuiltins "repr" = some (.builtin "repr") := by decide +kernel
end Rg

/-! lists of states, rows and dicts of states as they stand in the heap -/
namespace Rg
open PySem PySem.Spec PyProof.Rows L2 Mach

def nVs (ns : List Nat) : List V := ns.map nV
theorem nVs_get {ns : List Nat} {i : Nat} {n : Nat} (h : ns[i]? = some n) : (nVs ns)[i]? = some (nV n) := by
  unfold nVs
  rw [List.getElem?_map, h]
  rfl
theorem nVs_len (ns : List Nat) : (nVs ns).length = ns.length := List.length_map _
theorem nV_inj {a b : Nat} (h : nV a = nV b) : a = b := by
  have : (a : Int) = b := V.int.inj h
  omega
theorem nVs_snoc (ns : List Nat) (n : Nat) : nVs (ns ++ [n]) = nVs ns ++ [nV n] := by
  unfold nVs
  rw [List.map_append]
  rfl
theorem nVs_at {ns : List Nat} {i : Nat} {x : V} (h : (nVs ns)[i]? = some x) : ∃ n, x = nV n ∧ ns[i]? = some n := by
  unfold nVs at h
  rw [List.getElem?_map] at h
  cases e : ns[i]? with
  | none => rw [e] at h; cases h
  | some n => rw [e] at h; exact ⟨n, (Option.some.inj h).symm, rfl⟩

/-! ### dicts from states -/
abbrev kN (s : Nat) : Key := Sum.inl (s : Int)
theorem kN_inj {a b : Nat} (h : kN a = kN b) : a = b := by
  have : (a : Int) = b := Sum.inl.inj h
  omega
def dO (L : List Nat) (c : Nat → V) : List (Key × V) := L.map fun s => (kN s, c s)
theorem dO_len (L : List Nat) (c : Nat → V) : (dO L c).length = L.length := List.length_map _
theorem valV_dO {L : List Nat} {c : Nat → V} {s : Nat} : valV (dO L c) (kN s) = if s ∈ L then some (c s) else none := by
  induction L with
  | nil => rfl
  | cons a L ih =>
    show valV ((kN a, c a) :: dO L c) (kN s) = _
    by_cases e : a = s
    · rw [valV_pos (by show kN a = kN s; rw [e]), if_pos (by rw [e]; exact List.mem_cons_self), e]
    · rw [valV_neg (fun z => e (kN_inj z)), ih]
      by_cases h : s ∈ L
      · rw [if_pos h, if_pos (List.mem_cons_of_mem _ h)]
      · rw [if_neg h, if_neg]
        intro z
        rcases List.mem_cons.mp z with z | z
        · exact e z.symm
        · exact h z
theorem valV_dO_in {L : List Nat} {c : Nat → V} {s : Nat} (h : s ∈ L) : valV (dO L c) (kN s) = some (c s) := by rw [valV_dO, if_pos h]
theorem valV_dO_out {L : List Nat} {c : Nat → V} {s : Nat} (h : s ∉ L) : valV (dO L c) (kN s) = none := by rw [valV_dO, if_neg h]
theorem putK_dO {L : List Nat} {c : Nat → V} {s : Nat} : putK (dO L c) (kN s) (c s) = dO (push L s) c := by
  by_cases h : s ∈ L
  · rw [push_mem h]
    unfold putK
    rw [if_pos (by rw [valV_any, valV_dO_in h]; rfl)]
    unfold dO
    rw [List.map_map]
    apply List.map_congr_left
    intro t ht
    show (if kN t = kN s then (kN t, c s) else (kN t, c t)) = (kN t, c t)
    by_cases e : kN t = kN s
    · rw [if_pos e, kN_inj e]
    · rw [if_neg e]
  · rw [push_new h, putK_new _ (valV_dO_out h)]
    unfold dO
    rw [List.map_append]
    rfl
theorem dO_congr {L : List Nat} {c d : Nat → V} (h : ∀ s ∈ L, c s = d s) : dO L c = dO L d := by
  unfold dO
  apply List.map_congr_left
  intro s hs
  rw [h s hs]
theorem putK_dO_new {L : List Nat} {c d : Nat → V} {s : Nat} (h : s ∉ L) (hd : ∀ t ∈ L, d t = c t) : putK (dO L c) (kN s) (d s) = dO (L ++ [s]) d := by
  rw [dO_congr (d := d) (fun t ht => (hd t ht).symm), putK_dO, push_new h]

/-! ### rows -/
structure RowsAt (H : Hp) (a : Addr) (xs : List Addr) (R : List (List Nat)) : Prop where
  at_ : H a = some (.lst (xs.map V.ref))
  len : xs.length = R.length
  row : ∀ (i : Nat) (x : Addr), xs[i]? = some x → H x = some (.lst (nVs (rowOf R i)))
theorem RowsAt.same {H H' : Hp} {a : Addr} {xs : List Addr} {R : List (List Nat)} (h : RowsAt H a xs R) (s : Same H H') : RowsAt H' a xs R :=
  ⟨s _ _ h.at_, h.len, fun i x e => s _ _ (h.row i x e)⟩
theorem RowsAt.get {H : Hp} {a : Addr} {xs : List Addr} {R : List (List Nat)} (h : RowsAt H a xs R) {q : Nat} (hq : q < R.length) :
    ∃ x, (xs.map V.ref)[q]? = some (.ref x) ∧ H x = some (.lst (nVs (rowOf R q))) := by
  have hq' : q < xs.length := by rw [h.len]; exact hq
  refine ⟨xs[q], ?_, h.row q _ (List.getElem?_eq_getElem hq')⟩
  rw [List.getElem?_map, List.getElem?_eq_getElem hq']
  rfl
theorem rowOf_get {R : List (List Nat)} {q k : Nat} {x : Nat} (h : (rowOf R q)[k]? = some x) : Mach.dl R q k = x := by
  unfold Mach.dl
  rw [List.getD_eq_getElem?_getD, h]
  rfl

/-! ### while, with the test read in one go -/
theorem lt_or_eq_or {a b : Nat} : a < b ∨ b ≤ a := Nat.lt_or_ge a b
theorem szBig {n : Nat} (h : n ≤ 100000) : n < sizeLine := Nat.lt_of_le_of_lt h (by decide)
theorem szBigLe {n : Nat} (h : n ≤ 100000) : n ≤ sizeLine := Nat.le_of_lt (szBig h)
end Rg
namespace Rg
open PySem PySem.Spec PyProof.Rows L2 Mach
theorem dget_dO {H : Hp} {d : Addr} {L : List Nat} {c : Nat → V} {t : Nat} (h : H d = some (.dK (dO L c))) (ht : t ∈ L) : DGet H d (nV t) (some (c t)) := by
  have := DGet.k (k := kN t) h
  rw [valV_dO_in ht] at this
  exact this
theorem din_dO {H : Hp} {d : Addr} {L : List Nat} {c : Nat → V} {t : Nat} (h : H d = some (.dK (dO L c))) : ∃ r, DGet H d (nV t) r ∧ r.isSome = decide (t ∈ L) := by
  refine ⟨_, DGet.k (k := kN t) h, ?_⟩
  by_cases ht : t ∈ L
  · rw [valV_dO_in ht, decide_eq_true ht]
    rfl
  · rw [valV_dO_out ht, decide_eq_false ht]
    rfl
theorem Same.of_eq_but {H H' : Hp} {a : Addr} (h : ∀ c, c ≠ a → H' c = H c) {H0 : Hp} (s : Same H0 H) (n : H0 a = none) : Same H0 H' := by
  intro b o e
  rw [h b (ne_of_none e n)]
  exact s b o e
theorem idxOf_pre {α : Type} [BEq α] [LawfulBEq α] {A Z : List α} {x : α} (h : x ∈ A) : (A ++ Z).idxOf x = A.idxOf x := by
  rw [List.idxOf_append, if_pos h]
end Rg
namespace Rg
open PySem PySem.Spec PyProof.Rows L2 Mach
/-! ### dicts from numbers to numbers, by pairs -/
def fD (ps : List (Nat × Nat)) : List (Key × V) := ps.map fun p => (kN p.1, nV p.2)
theorem fD_len (ps : List (Nat × Nat)) : (fD ps).length = ps.length := List.length_map _
theorem fD_snoc (ps : List (Nat × Nat)) (p : Nat × Nat) : fD (ps ++ [p]) = fD ps ++ [(kN p.1, nV p.2)] := by
  unfold fD
  rw [List.map_append]
  rfl
theorem valV_fD_out {ps : List (Nat × Nat)} {k : Nat} (h : k ∉ ps.map Prod.fst) : valV (fD ps) (kN k) = none := by
  induction ps with
  | nil => rfl
  | cons a ps ih =>
    have h1 : ¬ kN a.1 = kN k := fun z => h (by rw [← kN_inj z]; simp)
    show valV ((kN a.1, nV a.2) :: fD ps) (kN k) = none
    rw [valV_neg h1]
    exact ih fun z => h (by rw [List.map_cons]; exact List.mem_cons_of_mem _ z)
theorem valV_fD {ps : List (Nat × Nat)} (hn : (ps.map Prod.fst).Nodup) {k s : Nat} (h : (k, s) ∈ ps) : valV (fD ps) (kN k) = some (nV s) := by
  induction ps with
  | nil => cases h
  | cons a ps ih =>
    rw [List.map_cons, List.nodup_cons] at hn
    show valV ((kN a.1, nV a.2) :: fD ps) (kN k) = some (nV s)
    rcases List.mem_cons.mp h with e | h
    · rw [← e]
      exact valV_pos rfl
    · have h1 : ¬ kN a.1 = kN k := fun z => hn.1 (by rw [kN_inj z]; exact List.mem_map_of_mem h)
      rw [valV_neg h1]
      exact ih hn.2 h
theorem fD_keys (ps : List (Nat × Nat)) : (fD ps).map (fun kv => kV kv.1) = nVs (ps.map Prod.fst) := by
  unfold fD nVs
  simp only [List.map_map]
  rfl
theorem dgetK {H : Hp} {d : Addr} {kvs : List (Key × V)} {k : Nat} {v : V} (h : H d = some (.dK kvs)) (e : valV kvs (kN k) = some v) : DGet H d (nV k) (some v) := by
  have := DGet.k (k := kN k) h
  rw [e] at this
  exact this
theorem take_snoc {α : Type} {L : List α} {i : Nat} {t : α} (h : L[i]? = some t) : L.take (i + 1) = L.take i ++ [t] := by
  rw [List.take_add_one, h]
  rfl
theorem atI_zero_add {α : Type} {xs : List α} {j : Nat} {v : α} (h : xs[j]? = some v) : atI xs (0 + (j : Int)) = some v := by
  rw [Int.zero_add]
  exact atI_nat h
theorem nodup_not_take {α : Type} {L : List α} (h : L.Nodup) {i : Nat} {t : α} (ht : L[i]? = some t) : t ∉ L.take i := by
  intro hm
  obtain ⟨j, hj, e⟩ := List.mem_iff_getElem.mp hm
  rw [List.length_take] at hj
  rw [List.getElem_take] at e
  obtain ⟨h1, h2⟩ := List.getElem?_eq_some_iff.mp ht
  exact (List.pairwise_iff_getElem.mp h) j i (by omega) h1 (by omega) (by rw [e, h2])
end Rg
namespace Rg
open PySem PySem.Spec PyProof.Rows L2 Mach
theorem rows_mk {H : Hp} {a : Addr} : ∀ {xs : List Addr} {R : List (List Nat)}, H a = some (.lst (xs.map V.ref)) → Paired (fun (x : Addr) (r : List Nat) => H x = some (.lst (nVs r))) xs R → RowsAt H a xs R := by
  intro xs R ha hp
  have gen : ∀ {xs : List Addr} {R : List (List Nat)}, Paired (fun (x : Addr) (r : List Nat) => H x = some (.lst (nVs r))) xs R → xs.length = R.length ∧ ∀ (i : Nat) (x : Addr), xs[i]? = some x → H x = some (.lst (nVs (rowOf R i))) := by
    intro xs R hp
    induction hp with
    | nil => exact ⟨rfl, fun i x e => by simp at e⟩
    | @cons y r ys rs h t ih =>
      refine ⟨by rw [List.length_cons, List.length_cons, ih.1], fun i x e => ?_⟩
      cases i with
      | zero =>
        have : y = x := Option.some.inj e
        rw [← this]
        exact h
      | succ i => exact ih.2 i x e
  exact ⟨ha, (gen hp).1, (gen hp).2⟩
theorem rep_nVs (k v : Nat) : (List.replicate k [nV v]).flatten = nVs (List.replicate k v) := by
  induction k with
  | zero => rfl
  | succ k ih =>
    rw [List.replicate_succ, List.flatten_cons, ih, List.replicate_succ]
    rfl
theorem mok_of {n : Nat} {R : List (List Nat)} (h : ∀ r ∈ R, r.length = n ∧ ∀ x ∈ r, x < R.length) : Mok n R := by
  have hm : ∀ q, q < R.length → rowOf R q ∈ R := by
    intro q hq
    unfold rowOf
    rw [List.getD_eq_getElem?_getD, List.getElem?_eq_getElem hq]
    exact List.getElem_mem hq
  exact ⟨fun q hq => (h _ (hm q hq)).1, fun q hq => (h _ (hm q hq)).2⟩
/-- a machine made by drawing -/
def spMach : Sp := fun vs H Q _ => ∃ (g c : Addr) (z : Str) (m : Nat), vs = [.ref g, .str z, nV m] ∧ Bag H g c ∧ 1 ≤ z.length ∧ z.length ≤ 4 ∧ 1 ≤ m ∧ m ≤ 100 ∧
  ∀ (H' : Hp) (t pr pe : Addr) (xs : List Addr) (R : List (List Nat)) (E : List Nat), Bag H' g c → But g H H' → (∀ x ∈ t :: pr :: pe :: xs, H x = none) → H' t = some (.tup [.ref pr, .ref pe]) → RowsAt H' pr xs R → H' pe = some (.lst (nVs E)) →
    Mok z.length R → 0 < R.length → R.length ≤ m + 3 → (∀ x ∈ E, x < R.length) → E.length ≤ 100 → Q (.ref t) H'
theorem RowsAt.but {g : Addr} {H H' : Hp} {a : Addr} {xs : List Addr} {R : List (List Nat)} (h : RowsAt H a xs R) (b : But g H H') (ha : a ≠ g) (hx : ∀ x ∈ xs, x ≠ g) : RowsAt H' a xs R :=
  ⟨b _ _ ha h.at_, h.len, fun i x e => b _ _ (hx x (List.mem_of_getElem? e)) (h.row i x e)⟩
end Rg
namespace Rg
open PySem PySem.Spec PyProof.Rows L2 Mach
/-- the state of a drawing: the bag stands, all else is kept -/
structure Dr (g c : Addr) (H H' : Hp) : Prop where
  bag : Bag H' g c
  but : But g H H'
theorem Dr.refl {g c : Addr} {H : Hp} (b : Bag H g c) : Dr g c H H := ⟨b, .refl g H⟩
theorem Dr.trans {g c : Addr} {H H1 H2 : Hp} (a : Dr g c H H1) (b : Dr g c H1 H2) : Dr g c H H2 := ⟨b.bag, a.but.trans b.but⟩
theorem Dr.same {g c : Addr} {H H1 H2 : Hp} (a : Dr g c H H1) (s : Same H1 H2) : Dr g c H H2 := ⟨a.bag.same s, a.but.trans (.of_same s)⟩
theorem Dr.free {g c : Addr} {H H1 : Hp} (a : Dr g c H H1) {p : Addr} (h : H1 p = none) : H p = none := by
  obtain ⟨o, e⟩ := a.bag.at
  exact a.but.free e h
theorem Dr.keep {g c : Addr} {H H1 : Hp} (a : Dr g c H H1) {p : Addr} {o : HO} (h : H p = some o) (n : p ≠ g) : H1 p = some o := a.but p o n h
theorem Dr.ne {g c : Addr} {H H1 : Hp} (a : Dr g c H H1) {p : Addr} (h : H1 p = none) : p ≠ g := a.bag.ne h
theorem Dr.ne2 {g c : Addr} {H H1 : Hp} (a : Dr g c H H1) {p : Addr} (h : H1 p = none) : p ≠ c := a.bag.ne2 h
theorem Dr.upd_own {g c p : Addr} {H H1 : Hp} {o : HO} (a : Dr g c H H1) (n : H p = none) (h1 : p ≠ g) (h2 : p ≠ c) : Dr g c H (upd H1 p o) := by
  refine ⟨a.bag.upd_other h1 h2, fun b x nb e => ?_⟩
  rw [upd_ne (ne_of_none e n)]
  exact a.but b x nb e
end Rg
namespace Rg
open PySem PySem.Spec PyProof.Rows L2 Mach
theorem paired_keep {α β : Type} {F G : α → β → Prop} : ∀ {xs : List α} {ys : List β}, Paired F xs ys → (∀ x ∈ xs, ∀ y, F x y → G x y) → Paired G xs ys
  | _, _, .nil, _ => .nil
  | _, _, .cons h t, k => .cons (k _ List.mem_cons_self _ h) (paired_keep t fun x hx => k x (List.mem_cons_of_mem _ hx))
theorem paired_snoc {α β : Type} {F : α → β → Prop} {x : α} {y : β} : ∀ {xs : List α} {ys : List β}, Paired F xs ys → F x y → Paired F (xs ++ [x]) (ys ++ [y])
  | _, _, .nil, h => .cons h .nil
  | _, _, .cons h t, k => .cons h (paired_snoc t k)
end Rg

namespace Rg
open PySem PySem.Spec PyProof.Rows L2 Mach
theorem vals_snd : ∀ {kvs : List (Key × V)} {vs : List (Key × Value)}, KV kvs vs → Vals (kvs.map (·.2)) (vs.map (·.2))
  | _, _, .nil => .nil
  | _, _, .cons r t => .cons r.2 (vals_snd t)
section
variable {X : Cx} {e : Expr} {te : TE} {p apos cpos pos : Pos}
/-- list(e.values()) -/
theorem pe_listVals (hc : X.calm = true) (he : PE X e te) (hg : Gl X "list") (hm : X.mg "list" = none) (hbase : attributeBase e "values" X.env (eval e X.env) = eval e X.env := by rfl) (hline : (apos.endLine == cpos.line) = true := by rfl)
    (hs : starEach [.Call (.Attribute e "values" apos) [] [] cpos] X.env = (false, eval (.Call (.Attribute e "values" apos) [] [] cpos) X.env) :: starEach [] X.env := by rfl) :
    PE X (.Call (.Name "list" p) [.Call (.Attribute e "values" apos) [] [] cpos] [] pos)
      (fun σ H Q => te σ H fun x H1 => ∃ (d : Addr) (kvs : List (Key × V)), x = .ref d ∧ H1 d = some (.dK kvs) ∧ ∀ p, H1 p = none → Q (.ref p) (upd H1 p (.lst (kvs.map (·.2))))) := by
  refine ⟨?_⟩
  intro pins s σ H Q I hq
  refine wpAny_Call_Name_kw (ld_blt I hg hm bList ?_)
  refine PyProof.Rows.callWith_type1 ?_ hs rfl
  rw [hs]
  show wpAny _ _ (spliced ((false, eval (.Call (.Attribute e "values" apos) [] [] cpos) X.env) :: backTo pos (starEach [] X.env))) _ _ s
  refine Calls.spliced_cons ?_
  refine wpAny_Call_method (T := "dict") (id := "dict.values") hbase rfl hline F.plainAttrs_dict F.slot_dict_values F.type_dict_values (thn (he.run pins s σ H _ I hq) ?_)
  rintro u s1 ⟨x, H1, I1, rx, d, kvs, ex, hd, q⟩
  subst ex
  obtain rfl : u = Value.ref d := rx
  obtain ⟨hz, hs0, vs, kv, hdo⟩ := I1.hok d _ hd
  obtain ⟨ep, hat⟩ := hdo.dictAt
  have lk : kvs.length = vs.length := Paired.length kv
  have I2 : Inv X pins σ H1 { s1 with heap := s1.heap.push { cls := .type "dict_values", data := .fields #[.ref d] } } := I1.kept (t' := s1.toks) (fun b ob q => Heap.get?_push_of_some _ q)
  refine ⟨hdo.typeIs, hdo.mapOf.noDict, ?_⟩
  show wpAny _ _ (callWith cpos (.builtin "dict.values") [.ref d] [] []) _ X.xe s1
  refine method_meetsIn F.slot_dict_values F.entry_dict_values rfl (PySem.evalArgs_none ⟨rfl, hdo.typeIs, F.args_dict_values_1 _, _, meets_dict_values (mixKind X.prog X.w) d hs0, ⟨vs, hdo⟩, ?_⟩)
  refine Calls.spliced_nil ?_
  refine PySem.W.kdl_call (PySem.W.kdl_values (knd := mixKind X.prog X.w) (kvs := vs) (ep := ep)) (I1.ok.hd hc) ⟨⟨_, Heap.get?_push_size _ rfl, rfl, rfl⟩, hat.push _⟩ (by omega) ?_
  intro h' tk acc c' hk hD hacc
  have ev : acc.toList = vs.map (·.2) := PySem.W.kdl_vals_eq acc.toList (by rw [Array.length_toList]; exact hacc.1) (fun j v e => hacc.2 j v (by rw [← Array.getElem?_toList]; exact e))
  have nf := I2.hok.fresh (Nat.le_refl _)
  refine ⟨.ref _, upd H1 _ (.lst (kvs.map (·.2))), I2.laid (t' := tk) hk (Nat.le_refl _) ?_, rfl, q _ nf⟩
  refine ⟨by rw [List.length_map]; exact hz, acc.toList, c', ?_, ?_⟩
  · rw [ev]
    exact vals_snd kv
  · rw [Array.toArray_toList]
    exact hD
/-- len(set(xs)), xs numbers -/
theorem pe_lenSetN {a : Expr} {ta : TE} {p2 q : Pos} (hg : Gl X "len") (hm : X.mg "len" = none) (hg2 : Gl X "set") (hm2 : X.mg "set" = none) (ha : PE X a ta) (hc : X.calm = true := by rfl)
    (na : starEach [a] X.env = (false, eval a X.env) :: starEach [] X.env := by rfl) : PE X (.Call (.Name "len" p) [.Call (.Name "set" p2) [a] [] q] [] pos)
      (fun σ H Q => ta σ H fun x H1 => ∃ (l : Addr) (ns : List Int), x = .ref l ∧ SqL X.K H1 l (ns.map V.int) ∧ ns.length ≤ 4000 ∧ Q (.int ((firstMet (fun i => ns.getD i 0) ns.length).length : Nat)) H1) := by
  refine ⟨?_⟩
  intro pins s σ H Q I h
  refine Call_ (ld_blt I hg hm bLen ?_)
  refine PyProof.Rows.callWith_builtin1 (PyProof.Rows.args_cons ?_ rfl) rfl rfl
  refine Call_ (ld_blt I hg2 hm2 bSet ?_)
  refine PyProof.Rows.callWith_type1 (PyProof.Rows.args_cons (thn (ha.run pins s σ H _ I h) ?_) na) na rfl
  rintro v s1 ⟨x, H1, I1, r1, l, ns, rfl, hq, hl, q1⟩
  refine PyProof.Rows.args_nil ?_
  cases r1
  obtain ⟨its, r, pl, hz⟩ := I1.list hq
  have hlen : its.toArray.size = ns.length := by rw [List.size_toArray, ← r.length, List.length_map]
  refine call_set_list (I1.ok.hd hc) pl.isList (by simpa using RZ.intsAre_vals r) (by rw [hlen]; unfold scanBound; omega) ?_
  intro h' tk hS hk
  refine PyProof.Rows.args_nil ?_
  rw [hlen] at hS
  obtain ⟨o, es, ep, t, ho, hex, hd, _, _, _, hf, hn⟩ := hS
  have I2 : Inv X pins σ H1 { s1 with heap := h', toks := tk } := I1.kept fun b o e => hk b o (Heap.lt_size e) e
  have hfl : ∀ k : Nat, (firstMet (fun i => ns.getD i 0) k).length ≤ k := by
    intro k
    induction k with
    | zero => simp [firstMet]
    | succ k ih =>
      rw [PyProof.Rows.firstMet_succ]
      unfold step_dedup
      split
      · omega
      · rw [List.length_append, List.length_singleton]
        omega
  have := hfl ns.length
  exact call_len_set ho hex hd hf (by rw [hn]; omega) ⟨.int ((firstMet (fun i => ns.getD i 0) ns.length).length : Nat), H1, I2.tok _, ⟨_, by rw [hn]⟩, q1⟩
end
theorem firstMet_D (ns : List Nat) (k : Nat) (hk : k ≤ ns.length) : firstMet (fun i => (ns.map fun n : Nat => (n : Int)).getD i 0) k = (D (ns.take k)).map fun n : Nat => (n : Int) := by
  induction k with
  | zero => rfl
  | succ k ih =>
    have hlt : k < ns.length := by omega
    have e1 : (ns.map fun n : Nat => (n : Int)).getD k 0 = (ns[k] : Int) := by
      rw [List.getD_eq_getElem?_getD, List.getElem?_map, List.getElem?_eq_getElem hlt]
      rfl
    rw [PyProof.Rows.firstMet_succ, ih (by omega), List.take_add_one, List.getElem?_eq_getElem hlt]
    show (if (((D (ns.take k)).map fun n : Nat => (n : Int)).any (· == (ns.map fun n : Nat => (n : Int)).getD k 0)) then _ else _) = (D (ns.take k ++ [ns[k]])).map _
    rw [e1, D_append]
    show _ = (push (D (ns.take k)) ns[k]).map _
    by_cases h : ns[k] ∈ D (ns.take k)
    · rw [push_mem h, if_pos]
      refine List.any_eq_true.mpr ⟨_, List.mem_map_of_mem h, by simp⟩
    · rw [push_new h, if_neg, List.map_append]
      · rfl
      · intro z
        obtain ⟨y, hy, ey⟩ := List.any_eq_true.mp z
        obtain ⟨m, hm, em⟩ := List.mem_map.mp hy
        have e2 : y = (ns[k] : Int) := eq_of_beq ey
        have : m = ns[k] := by
          rw [← em] at e2
          omega
        exact h (by rw [← this]; exact hm)
end Rg

/-! numbers, rows, machines as data -/
namespace Rg
open PySem PySem.Spec PyProof.Rows L2 Mach
def dNs (ns : List Nat) : PyData := .list (ns.map fun n : Nat => .int (n : Int))
def dRs (R : List (List Nat)) : PyData := .list (R.map dNs)
def dMa (R : List (List Nat)) (E : List Nat) : PyData := .tuple [dRs R, dNs E]
section
variable {K : PySem.W.Frag} {H : Hp}
theorem dpAll_nVs : ∀ ns : List Nat, DpAll K H (nVs ns) (ns.map fun n : Nat => .int (n : Int))
  | [] => .nil
  | n :: ns => .cons (.int _) (dpAll_nVs ns)
theorem dp_nVs {p : Addr} {ns : List Nat} (h : H p = some (.lst (nVs ns))) : Dp K H (.ref p) (dNs ns) := .lst (SqL.of h) (dpAll_nVs ns)
theorem dpAll_rows : ∀ {xs : List Addr} {R : List (List Nat)}, xs.length = R.length → (∀ (i : Nat) (x : Addr), xs[i]? = some x → H x = some (.lst (nVs (rowOf R i)))) → DpAll K H (xs.map V.ref) (R.map dNs)
  | [], [], _, _ => .nil
  | [], _ :: _, h, _ => by cases h
  | _ :: _, [], h, _ => by cases h
  | x :: xs, r :: R, h, k => .cons (dp_nVs (k 0 x rfl)) (dpAll_rows (by simpa using h) fun i y e => k (i + 1) y e)
theorem dp_rows {a : Addr} {xs : List Addr} {R : List (List Nat)} (h : RowsAt H a xs R) : Dp K H (.ref a) (dRs R) := .lst (SqL.of h.at_) (dpAll_rows h.len h.row)
theorem dp_mach {t p e : Addr} {xs : List Addr} {R : List (List Nat)} {E : List Nat} (ht : H t = some (.tup [.ref p, .ref e])) (hR : RowsAt H p xs R) (he : H e = some (.lst (nVs E))) : Dp K H (.ref t) (dMa R E) :=
  .tup (SqT.of ht) (.cons (dp_rows hR) (.cons (dp_nVs he) .nil))
end
/-- data that can be shown and compared: depth at most e, weight at most k -/
structure Gd (e k : Nat) (d : PyData) : Prop where
  lay : d.canLay0 = true
  shw : d.showable = true
  ish : d.intsShort 13 = true
  dep : d.depth ≤ e
  wt : d.weight ≤ k
structure GdAll (e k : Nat) (ds : List PyData) : Prop where
  lay : PyData.canLayAll0 ds = true
  shw : PyData.showableAll ds = true
  ish : PyData.intsShortAll 13 ds = true
  dep : PyData.depthAll ds ≤ e
  wt : PyData.weightAll ds ≤ k
theorem gd_none : Gd 0 0 .none := ⟨rfl, rfl, rfl, Nat.le_refl _, Nat.le_refl _⟩
theorem gd_num {n : Nat} (h : n < 32) : Gd 0 8 (.int (n : Int)) := by
  have key : ∀ m : Fin 32, (PyData.showable (.int (m.val : Int)) && PyData.intsShort 13 (.int (m.val : Int)) && decide (PyData.weight (.int (m.val : Int)) ≤ 8)) = true := by decide +kernel
  have hk := key ⟨n, h⟩
  simp only [Bool.and_eq_true, decide_eq_true_eq] at hk
  exact ⟨rfl, hk.1.1, hk.1.2, Nat.le_refl _, hk.2⟩
theorem gdAll_nil {e : Nat} : GdAll e 0 [] := ⟨rfl, rfl, rfl, Nat.zero_le _, Nat.le_refl _⟩
theorem gdAll_cons {e k m : Nat} {d : PyData} {ds : List PyData} (h : Gd e k d) (t : GdAll e m ds) : GdAll e (k + 1 + m) (d :: ds) := by
  refine ⟨?_, ?_, ?_, ?_, ?_⟩
  · simp only [PyData.canLayAll0, h.lay, t.lay, Bool.and_self]
  · simp only [PyData.showableAll, h.shw, t.shw, Bool.and_self]
  · simp only [PyData.intsShortAll, h.ish, t.ish, Bool.and_self]
  · simp only [PyData.depthAll]
    exact Nat.max_le.mpr ⟨h.dep, t.dep⟩
  · simp only [PyData.weightAll]
    have h1 := h.wt
    have h2 := t.wt
    omega
theorem gd_list {e k : Nat} {ds : List PyData} (h : GdAll e k ds) : Gd (e + 1) k (.list ds) := by
  refine ⟨?_, ?_, ?_, ?_, ?_⟩
  · simp only [PyData.canLay0, h.lay]
  · simp only [PyData.showable, h.shw]
  · simp only [PyData.intsShort, h.ish]
  · simp only [PyData.depth]
    have := h.dep
    omega
  · simp only [PyData.weight]
    exact h.wt
theorem gd_tuple {e k : Nat} {ds : List PyData} (h : GdAll e k ds) : Gd (e + 1) k (.tuple ds) := by
  refine ⟨?_, ?_, ?_, ?_, ?_⟩
  · simp only [PyData.canLay0, h.lay]
  · simp only [PyData.showable, h.shw]
  · simp only [PyData.intsShort, h.ish]
  · simp only [PyData.depth]
    have := h.dep
    omega
  · simp only [PyData.weight]
    exact h.wt
theorem Gd.le {e k e' k' : Nat} {d : PyData} (h : Gd e k d) (he : e ≤ e') (hk : k ≤ k') : Gd e' k' d := ⟨h.lay, h.shw, h.ish, Nat.le_trans h.dep he, Nat.le_trans h.wt hk⟩
theorem gdAll_const {e k : Nat} : ∀ {ds : List PyData}, (∀ d ∈ ds, Gd e k d) → GdAll e ((k + 1) * ds.length) ds
  | [], _ => gdAll_nil
  | d :: ds, h => by
    have h1 := gdAll_cons (h d List.mem_cons_self) (gdAll_const fun x hx => h x (List.mem_cons_of_mem _ hx))
    rw [List.length_cons, Nat.mul_add, Nat.mul_one, Nat.add_comm ((k + 1) * ds.length)]
    exact h1
theorem gd_dNs {ns : List Nat} (h : ∀ n ∈ ns, n < 32) : Gd 1 (9 * ns.length) (dNs ns) := by
  have h1 : GdAll 0 ((8 + 1) * (ns.map fun n : Nat => PyData.int (n : Int)).length) (ns.map fun n : Nat => PyData.int (n : Int)) := gdAll_const fun d hd => by
    obtain ⟨n, hn, rfl⟩ := List.mem_map.mp hd
    exact gd_num (h n hn)
  rw [List.length_map] at h1
  exact gd_list h1
theorem gd_dRs {R : List (List Nat)} {L : Nat} (h : ∀ r ∈ R, r.length ≤ L ∧ ∀ n ∈ r, n < 32) : Gd 2 ((9 * L + 1) * R.length) (dRs R) := by
  have h1 : GdAll 1 ((9 * L + 1) * (R.map dNs).length) (R.map dNs) := gdAll_const fun d hd => by
    obtain ⟨r, hr, rfl⟩ := List.mem_map.mp hd
    exact (gd_dNs (h r hr).2).le (Nat.le_refl _) (Nat.mul_le_mul_left _ (h r hr).1)
  rw [List.length_map] at h1
  exact gd_list h1
theorem gd_dMa {R : List (List Nat)} {E : List Nat} {L : Nat} (h : ∀ r ∈ R, r.length ≤ L ∧ ∀ n ∈ r, n < 32) (hE : ∀ n ∈ E, n < 32) : Gd 3 ((9 * L + 1) * R.length + 1 + (9 * E.length + 1)) (dMa R E) :=
  gd_tuple (gdAll_cons (gd_dRs h) (gdAll_cons ((gd_dNs hE).le (by decide) (Nat.le_refl _)) gdAll_nil))
theorem Gd.shp {e k : Nat} {d : PyData} (h : Gd e k d) (he : e ≤ 60) : SeqAt.shaped d = true := by
  unfold SeqAt.shaped
  rw [h.lay, Bool.true_and]
  have := h.dep
  exact decide_eq_true (by omega)
theorem Gd.nod {e k : Nat} {d : PyData} (h : Gd e k d) : d.hasDict = false := PyData.hasDict_of_canLay d h.lay
theorem Gd.short {e k : Nat} {d : PyData} (h : Gd e k d) (he : e ≤ 60) (hk : k ≤ 100000) : d.shown.length ≤ sizeLine := by
  have hl : PyData.layable0 d = true := by
    unfold PyData.layable0
    have h1 := h.dep
    have h2 := h.wt
    have e2 : (2 : Nat) ^ 20 = 1048576 := by decide
    rw [h.lay, decide_eq_true (show d.depth ≤ 64 by omega), decide_eq_true (show d.weight ≤ 2 ^ 20 by omega)]
    rfl
  exact Nat.le_trans (shown_le13 hl h.ish) (by decide)
theorem eqv_dNs_nil (ns : List Nat) : PyData.eqv (dNs ns) (.list []) = decide (ns = []) := by
  cases ns with
  | nil => rfl
  | cons a ns => rfl
theorem eqv_same {d : PyData} (h : d.canLay0 = true) : PyData.eqv d d = true := SeqAt.eqv_refl d h
theorem shp_dNs (ns : List Nat) : SeqAt.shaped (dNs ns) = true := by
  have h1 : ∀ l : List Nat, PyData.canLayAll0 (l.map fun n : Nat => PyData.int (n : Int)) = true ∧ PyData.depthAll (l.map fun n : Nat => PyData.int (n : Int)) = 0 := by
    intro l
    induction l with
    | nil => exact ⟨rfl, rfl⟩
    | cons a l ih => exact ⟨by simp only [List.map_cons, PyData.canLayAll0, PyData.canLay0, ih.1, Bool.and_self], by simp only [List.map_cons, PyData.depthAll, PyData.depth, ih.2, Nat.max_self]⟩
  unfold SeqAt.shaped dNs
  simp only [PyData.canLay0, PyData.depth, (h1 ns).1, (h1 ns).2, Bool.true_and]
  decide
theorem shp_nil : SeqAt.shaped (.list []) = true := rfl
end Rg

/-! set(xs) of a list of numbers, with its order known; {t: v} with a tuple t as the key -/
namespace Rg
open PySem PySem.Spec PyProof.Rows L2
/-- the object of an empty set -/
abbrev nilSet (w : World) : Obj := { cls := .type "set", dict := none, data := .set #[] 0 (.fresh 0 0 (!w.params.followText "set-order")) }
section
variable {P : Program} {w : World} {A : Around} {E : Value → Shared → Prop} {s : Shared}
theorem upd_loop_nums {l : Addr} {items : Array Value} {ns : List Int} (hh : A.handled = none) (hl : s.heap.IsList l items) (hit : IntsAre items.toList ns) (hb : ns.length + 1 < scanBound) (hsz : items.size = ns.length) {R : Result → Shared → Prop}
    (hR : ∀ h' tk c, SetR w h' s.heap.objs.size (fun j => decide (j ∈ ns)) c → c ≤ ns.length → (∀ b o, s.heap.get? b = some o → h'.get? b = some o) → R (.ok (.ret .none)) { s with heap := h', toks := tk }) :
    codeAny (model P w) A (.builtin "set.update.loop" ⟨[.ref s.heap.objs.size, .ref (s.heap.objs.size + 1)], []⟩) R
      { s with heap := (s.heap.push (nilSet w)).push { cls := .type "list_iterator", data := .fields #[.ref l, .int 0 0] } } := by
  obtain ⟨ol, hol, hcl, nl, hdl⟩ := id hl
  have hlt : l < s.heap.objs.size := Heap.lt_size hol
  have hz : (s.heap.push (nilSet w)).objs.size = s.heap.objs.size + 1 := Heap.size_push ..
  have hl1 : (s.heap.push (nilSet w)).IsList l items := ⟨ol, Heap.get?_push_of_some _ hol, hcl, nl, hdl⟩
  have hin : A.in1.handled = none := by simp [hh]
  have hne : l ≠ s.heap.objs.size + 1 := Nat.ne_of_lt (Nat.lt_succ_of_lt hlt)
  have hS : s.heap.objs.size ∉ [s.heap.objs.size + 1, l] := by
    simp only [List.mem_cons, List.not_mem_nil, or_false, not_or]
    exact ⟨Nat.ne_of_lt (Nat.lt_succ_self _), Nat.ne_of_gt hlt⟩
  have hval : ∀ (i : Nat) (v : Value), items[i]? = some v → ∃ k t, ns[i]? = some k ∧ v = .int k t := by
    intro i v hv
    have hi : i < ns.length := by
      have := (Array.getElem?_eq_some_iff.mp hv).1
      omega
    obtain ⟨t, e⟩ := IntsAre.int_at hit i v (by rw [Array.getElem?_toList]; exact hv)
    have e2 : ns.getD i 0 = ns[i] := by
      rw [List.getD_eq_getElem?_getD, List.getElem?_eq_getElem hi]
      rfl
    exact ⟨ns[i], t, List.getElem?_eq_getElem hi, by rw [e, e2]⟩
  refine set_update_ints ((Walks.list hin _ l hne items).toS) s.heap.objs.size hS ns hsz hb hval items.size 0 _ (by omega) (Nat.zero_le _) ?_ ?_ ?_
  · have hg : ((s.heap.push (nilSet w)).push { cls := .type "list_iterator", data := .fields #[.ref l, .int 0 0] }).get? (s.heap.objs.size + 1) = some { cls := .type "list_iterator", data := .fields #[.ref l, .int 0 0] } := by
      rw [← hz]
      exact Heap.get?_push_size _ rfl
    exact ⟨⟨_, hg, rfl, rfl⟩, hl1.push _⟩
  · exact ⟨0, Nat.le_refl 0, setR_new_at (Heap.get?_push_of_some _ (Heap.get?_push_size _ rfl))⟩
  · rintro ⟨h', g2, d2, tk, o2⟩ c hm hc hR'
    have eg : g2 = s.gens := hm.gens
    have ed : d2 = s.drawn := hm.drawn
    have eo : o2 = s.os := hm.os
    subst eg ed eo
    refine hR h' tk c hR' (by omega) fun b o e => ?_
    have hb0 := Heap.lt_size e
    refine hm.heap b o ?_ (Heap.get?_push_of_some _ (Heap.get?_push_of_some _ e))
    simp only [List.mem_cons, List.not_mem_nil, or_false, not_or]
    exact ⟨Nat.ne_of_lt hb0, Nat.ne_of_lt (Nat.lt_succ_of_lt hb0)⟩
theorem call_set_nums {l : Addr} {items : Array Value} {ns : List Int} {Q : Value → Shared → Prop} (hh : A.handled = none) (hl : s.heap.IsList l items) (hit : IntsAre items.toList ns) (hb : ns.length + 1 < scanBound)
    (h : ∀ (h' : Heap) (tk c : Nat), SetR w h' s.heap.objs.size (fun j => decide (j ∈ ns)) c → c ≤ ns.length → (∀ b o, s.heap.get? b = some o → h'.get? b = some o) → Q (.ref s.heap.objs.size) { s with heap := h', toks := tk }) :
    wpAny (model P w) A (call (.type "set") [.ref l]) Q E s := by
  have hsz : items.size = ns.length := by
    have z := IntsAre.length hit
    rwa [Array.length_toList] at z
  obtain ⟨_, _, hmro⟩ := F.called_set.mro
  have k1 := F.called_set.made
  have k2 := F.called_set.sub
  have k3 := F.called_set.notType
  have k4 := F.called_set.canCreate
  have k5 := F.typeCall_set_1 (.ref l)
  refine wpAny_call (codeAny_of_tree ?_)
  show wpAny _ _ (callAny (.type "set") _) _ _ _
  refine wpAny_pure ⟨Code.quiet_builtin _ (by decide +kernel), codeAny_builtin F.entry_type_call ?_⟩
  rw [Around.under_plain (weight_type_call_type "set" [.ref l] []) rfl]
  repeat (any_goals (first | assumption | wp_step))
  refine codeAny_mono (code_set_led1 (.ref l) (E := E) (Q₁ := fun obj s₁ => obj = .ref s.heap.objs.size ∧ s₁ = { s with heap := s.heap.push (nilSet w) }) ⟨rfl, rfl⟩) ?_
  intro r s₁ hr
  cases r with
  | error e => exact hr
  | ok fl =>
    cases fl with
    | ret obj =>
      obtain ⟨rfl, rfl⟩ := hr
      have gS : (s.heap.push (nilSet w)).get? s.heap.objs.size = some (nilSet w) := Heap.get?_push_size _ rfl
      have tS : Shared.TypeIs { s with heap := s.heap.push (nilSet w) } (.ref s.heap.objs.size) "set" := ⟨_, gS, rfl⟩
      have k6 := F.called_set.init.lookup
      have k7 := F.called_set.init.bind (.ref s.heap.objs.size)
      repeat (any_goals (first | assumption | wp_step))
      refine codeAny_mono (codeAny_call_builtin (R := wants (fun r s₂ => r = .none ∧ ∃ h' tk c, s₂ = { s with heap := h', toks := tk } ∧ SetR w h' s.heap.objs.size (fun j => decide (j ∈ ns)) c ∧ c ≤ ns.length ∧
          (∀ b o, s.heap.get? b = some o → h'.get? b = some o)) E) F.called_set.init.plain F.entry_set_init (check_set_init_1 tS ?_)) ?_
      · obtain ⟨⟨oc, od, oda, osl⟩, hol, hcl, nl, hdl⟩ := id hl
        simp only at hcl hdl
        subst hcl hdl
        have gl : (s.heap.push (nilSet w)).get? l = some { cls := .type "list", dict := od, data := .seq items nl, slots := osl } := Heap.get?_push_of_some _ hol
        have k8 := F.sub_list_set
        have k9 := F.sub_list_frozenset
        have k10 : (Value.type "list" == Value.type "dict") = false := by decide
        have hl1 : (s.heap.push (nilSet w)).IsList l items := ⟨_, gl, rfl, nl, rfl⟩
        unfold Builtin.«set.__init__» noKeywords Builtin.Frozenset.updateFrom
        generalize hPI : pyIter = PI
        wp_walk
        subst hPI
        refine wpAny_pyIter_list hl1 ?_
        refine wpAny_bind (wpAny_runValue ?_)
        have hz : (s.heap.push (nilSet w)).objs.size = s.heap.objs.size + 1 := Heap.size_push ..
        rw [hz]
        refine upd_loop_nums (by simp [hh]) hl hit hb hsz ?_
        intro h' tk c hS' hc' hk
        show wpAny _ _ _ _ _ _
        refine wpAny_pure ?_
        show wpAny _ _ (ret Value.none) _ _ _
        exact wpAny_pure ⟨rfl, h', tk, c, rfl, hS', hc', hk⟩
      · intro r₂ s₂ hr₂
        cases r₂ with
        | error e => exact hr₂
        | ok fl₂ =>
          cases fl₂ with
          | ret r =>
            obtain ⟨rfl, h', tk, c', rfl, hS', hc', hk'⟩ := hr₂
            repeat (any_goals (first | assumption | wp_step))
            exact h _ _ _ hS' hc' hk'
          | _ => exact hr₂.elim
    | _ => exact hr.elim
end
section
variable {X : Cx}
/-- set(xs), xs a list of numbers -/
theorem call_setN (hc : X.calm = true) : CallR X (.type "set") (fun xs H Q => ∃ (l : Addr) (ns : List Int), xs = [.ref l] ∧ SqL X.K H l (ns.map V.int) ∧ ns.length ≤ 4000 ∧
    ∀ (a : Addr) (n : Nat), H a = none → n ≤ ns.length → Q (.ref a) (upd H a (SetO X.w a (fun k => decide (k ∈ ns)) n))) := by
  intro pins s σ H xs us Q I r h
  obtain ⟨l, ns, rfl, hq, hl, q⟩ := h
  rw [Vals.ref1 r]
  obtain ⟨its, rv, pl, hz⟩ := I.list hq
  refine call_set_nums (I.ok.hd hc) pl.isList (by simpa using RZ.intsAre_vals rv) (by unfold scanBound; omega) ?_
  intro h' tk c hS hcn hk
  refine ⟨.ref s.heap.objs.size, _, I.laid hk (Nat.le_refl _) (setO_new hS), rfl, q _ _ (I.hok.fresh (Nat.le_refl _)) hcn⟩
end
end Rg

namespace Rg
open PySem PySem.Spec PyProof.Rows L2
section
variable {X : Cx}
/-- {t: v}, t a tuple of numbers and texts -/
def tDispT (tk tv : TE) : TE := fun σ H Q => ∀ p, H p = none → tk σ (upd H p (.dT [])) fun x H1 => tv σ H1 fun y H2 => H2 p = some (.dT []) ∧ ∃ (b : Addr) (k : List Key), x = .ref b ∧ H2 b = some (.tup (k.map kV)) ∧ Q (.ref p) (upd H2 p (.dT [(k, y)]))
theorem pe_dispT {k v : Expr} {tk tv : TE} {pos : Pos} (hu : X.A.units + 1 < cLine) (hk : PE X k tk) (hv : PE X v tv) : PE X (.Dict [some k] [v] pos) (tDispT tk tv) := by
  refine ⟨?_⟩
  intro pins s σ H Q I q
  have hn := I.hok.fresh (Nat.le_refl s.heap.objs.size)
  have I1 := I.laid (a := s.heap.objs.size) (o := .dT []) (h' := s.heap.push { cls := .type "dict", data := .dict #[] }) (t' := s.toks) (fun _ _ q => Heap.get?_push_of_some _ q) (Nat.le_refl _) (dt_empty s.heap I.big)
  have hp : PPs X pos [some k] [v] [(tk, tv)] := pps_cons hk hv pps_nil
  rw [arm_eval_Dict, zip_pairTrees [some k] [v] X.env pos rfl rfl, dictDisplay_pairs (pairTrees [some k] [v] X.env pos) (by intro z; cases z) (by show 1 < 17; decide)]
  refine wpAny_bind (wpAny_standAt (wpAny_bind (wpAny_subDictH (knd := tupleKind (mixKind X.prog X.w)) (Q := fun d s' => wpAny (model X.prog X.w) X.A (pure (Value.ref d)) (EP X pins σ Q) X.xe s') ?_ (by show 1 ≤ 15; decide) ?_)))
  · exact Nat.lt_of_le_of_lt (Nat.le_succ _) hu
  · refine thn (hp.run pins _ σ _ (fun ps H2 => match ps with
      | [(x, y)] => H2 s.heap.objs.size = some (.dT []) ∧ ∃ (b : Addr) (k : List Key), x = .ref b ∧ H2 b = some (.tup (k.map kV)) ∧ Q (.ref s.heap.objs.size) (upd H2 s.heap.objs.size (.dT [(k, y)]))
      | _ => False) I1 (q _ hn)) ?_
    rintro ws s2 ⟨ps, H2, I2, rel, hq⟩
    match ps, rel, hq with
    | [(x, y)], rel, hq =>
      obtain ⟨e, b, k', rfl, eb, q2⟩ := hq
      cases rel with
      | @cons _ w0 _ _ h t =>
        cases t
        obtain ⟨w1, w2⟩ := w0
        obtain ⟨h1, h2⟩ := h
        cases (show w1 = Value.ref b from h1)
        refine ⟨[(k', b, w2)], ⟨rfl, rfl, key_of I2.hok eb, trivial⟩, ?_, ?_⟩
        · obtain ⟨z, hd, xs, r0, dd⟩ := dt_of I2.hok e
          cases r0
          exact dd
        · intro h' tk dd' hs
          refine wpAny_pure ⟨.ref s.heap.objs.size, _, ?_, rfl, q2⟩
          obtain ⟨o, es, ep, ho, g2, g3, g4, _, g5⟩ := dd'
          obtain ⟨z, hd, xs, r0, dd⟩ := dt_of I2.hok e
          have hne : b ≠ s.heap.objs.size := ne_of eb e (fun z => nomatch z)
          refine d_write I2 (by rw [e]; exact True.intro) hs ⟨o, ho⟩ ⟨by show 1 ≤ sizeLine; decide, hd, [(k', b, w2)], .cons ⟨rfl, by rw [upd_ne hne]; exact eb, h2⟩ .nil, o, es, ep, ho, g2, g3, g4, g5⟩
end
end Rg

/-! dicts with tuple keys made of pairs and put into one another; the keys of a dict just made, walked -/
namespace Rg
open PySem PySem.Spec PyProof.Rows L2 Mach
section
variable {X : Cx} {tg e : Expr} {td : TE}
/-- for k in e, e a dict that nobody changes from here on -/
theorem pi_keysNew (he : PE X e td) : PI X tg e (fun σ H R => td σ H fun x H1 => ∃ (d : Addr) (kvs : List (Key × V)), x = .ref d ∧ H1 d = some (.dK kvs) ∧ ∀ o, R (Itk d o kvs) (upd H1 d (.frz o (.dK kvs)))) := by
  refine ⟨?_⟩
  intro pins s σ H R I h
  refine thn (he.run pins s σ H _ I h) ?_
  rintro u s1 ⟨x, H1, I1, rx, d, kvs, ex, hd, q⟩
  subst ex
  obtain rfl : u = Value.ref d := rx
  obtain ⟨od, I2⟩ := I1.lock hd True.intro
  obtain ⟨hs, hgd, hx, es, ep, vs, hdt, hsz, kv, hm⟩ := I2.frzK (upd_same)
  refine iter_keys hs hgd hx hdt (pi_one (tk := s1.toks) I2 _ (turn_keys _ hdt) ⟨_, Heap.get?_push_size _ rfl, rfl, ?_⟩ (q od))
  rw [hsz]
  rfl
end
/-- a comprehension over such keys -/
theorem lc_keys {d : Addr} {o : Obj} {kvs : List (Key × V)} {g : TG} {tt : TT} {te : TE} {vs : List Nat} {σ : L2.St} {H1 : Hp} {D : Addr} {Qd : Hp → Prop} (Pv : Nat → Hp → Prop) (h0 : Pv 0 (upd H1 D (.lst [])))
    (hl : ∀ i H, i ≤ kvs.length → Pv i H → H d = some (.frz o (.dK kvs)))
    (hs : ∀ i k v H, kvs[i]? = some (k, v) → Pv i H → g (kV k) (wipe σ vs) H fun σ2 H2 => wipe σ2 vs = wipe σ vs ∧ tt σ2 H2 fun b H3 =>
      if b = true then te σ2 H3 fun y H4 => ∃ acc, H4 D = some (.lst acc) ∧ acc.length < sizeLine ∧ Pv (i + 1) (upd H4 D (.lst (acc ++ [y]))) else Pv (i + 1) H3) (hd : ∀ H, Pv kvs.length H → Qd H) :
    ∃ W : Nat → Nat → Hp → Prop, (∃ m, W 0 m (upd H1 D (.lst []))) ∧ ∀ i m H, W i m H →
      ((Itk d o kvs).stop i H ∧ Qd H) ∨ ((Itk d o kvs).go i H ∧ ∃ Nx : Hp → Prop, (∀ H', Nx H' → ∃ m', m' < m ∧ W (i + 1) m' H') ∧ ∀ x H', (Itk d o kvs).yld i H x H' → g x (wipe σ vs) H' fun σ2 H2 => wipe σ2 vs = wipe σ vs ∧ tt σ2 H2 fun b H3 =>
        if b = true then te σ2 H3 fun y H4 => ∃ acc, H4 D = some (.lst acc) ∧ acc.length < sizeLine ∧ Nx (upd H4 D (.lst (acc ++ [y]))) else Nx H3) := by
  refine ⟨fun i m H => m = kvs.length - i ∧ i ≤ kvs.length ∧ Pv i H, ⟨_, rfl, Nat.zero_le _, h0⟩, ?_⟩
  rintro i m H ⟨rfl, hi, p⟩
  have q := hl i H hi p
  by_cases hlt : i < kvs.length
  · right
    refine ⟨⟨q, hlt⟩, Pv (i + 1), fun H' z => ⟨kvs.length - (i + 1), by omega, rfl, by omega, z⟩, ?_⟩
    rintro x H' ⟨rfl, k, v, e, rfl⟩
    exact hs i k v _ e p
  · left
    have e : i = kvs.length := by omega
    subst e
    exact ⟨⟨q, Nat.le_refl _⟩, hd H p⟩

def mergeT (kvs more : List (List Key × V)) : List (List Key × V) := more.foldl (fun acc kv => putK acc kv.1 kv.2) kvs
theorem mergeT_len : ∀ (more kvs : List (List Key × V)), (mergeT kvs more).length ≤ kvs.length + more.length
  | [], kvs => Nat.le_refl _
  | p :: more, kvs => by
    have h1 := mergeT_len more (putK kvs p.1 p.2)
    have h2 := length_putK kvs p.1 p.2
    show (mergeT (putK kvs p.1 p.2) more).length ≤ kvs.length + (more.length + 1)
    omega
theorem KT.merge {H : Hp} : ∀ {more : List (List Key × V)} {ps : List (List Key × Addr × Value)} {kvs : List (List Key × V)} {xs : List (List Key × Addr × Value)}, KT H more ps → KT H kvs xs → KT H (mergeT kvs more) (storedAllH xs ps) := by
  intro more ps kvs xs r
  induction r generalizing kvs xs with
  | nil => exact fun z => z
  | @cons p q mo qs h t ih =>
    intro z
    obtain ⟨h1, h2, h3⟩ := h
    show KT H (mergeT (putK kvs p.1 p.2) mo) (storedAllH (storedH xs q.1 q.2.1 q.2.2) qs)
    refine ih ?_
    rw [← h1]
    exact KT.put z p.1 h2 h3
section
variable {X : Cx}
/-- the pairs of a list: at each address a tuple of the key's tuple and the value -/
abbrev PairsT (H : Hp) (ps : List Addr) (qs : List (List Key × Addr × V)) : Prop := Paired (fun (p : Addr) (q : List Key × Addr × V) => H p = some (.tup [.ref q.2.1, q.2.2]) ∧ H q.2.1 = some (.tup (q.1.map kV))) ps qs
theorem pairsT_of {pins : List (Addr × Obj)} {σ : L2.St} {H : Hp} {s : Shared} (I : Inv X pins σ H s) : ∀ {ps : List Addr} {qs : List (List Key × Addr × V)}, PairsT H ps qs →
    ∃ prs : List (List Key × Addr × Value), KT H (qs.map fun q => (q.1, q.2.2)) prs ∧ prs.length = ps.length ∧ ∀ (j : Nat) (p : Addr), ps[j]? = some p → ∃ q, prs[j]? = some q ∧ s.heap.IsTuple p #[.ref q.2.1, q.2.2]
  | _, _, .nil => ⟨[], .nil, rfl, fun j p e => by simp at e⟩
  | _, _, .cons (a := p) (b := q) h t => by
    obtain ⟨prs, r, hl, hp⟩ := pairsT_of I t
    obtain ⟨h1, h2⟩ := h
    obtain ⟨_, its, rv, o, a1, a2, n, a3⟩ := (show ObjOk X.prog X.w H s.heap p _ from I.hok p _ h1)
    cases rv with
    | cons x1 rv =>
      cases rv with
      | @cons _ u2 _ _ x2 rv =>
        cases rv
        obtain rfl := (show _ = Value.ref q.2.1 from x1)
        refine ⟨(q.1, q.2.1, u2) :: prs, .cons ⟨rfl, h2, x2⟩ r, by rw [List.length_cons, List.length_cons, hl], fun j p' e => ?_⟩
        cases j with
        | zero =>
          have e' : p = p' := Option.some.inj e
          subst e'
          exact ⟨_, rfl, ⟨o, a1, a2, n, a3⟩⟩
        | succ j =>
          obtain ⟨q', e1, e2⟩ := hp j p' (by simpa using e)
          exact ⟨q', by simpa using e1, e2⟩
/-- dict(xs) of a list of pairs whose keys are tuples -/
theorem call_dictT (hcalm : X.calm = true) (hu : X.A.units + 64 < cLine) : CallR X (.type "dict") (fun xs H Q => ∃ (a : Addr) (ps : List Addr) (qs : List (List Key × Addr × V)), xs = [.ref a] ∧ H a = some (.lst (ps.map V.ref)) ∧ PairsT H ps qs ∧
    ∀ p, H p = none → Q (.ref p) (upd H p (.dT (mergeT [] (qs.map fun q => (q.1, q.2.2)))))) := by
  intro pins s σ H xs us Q I r q
  obtain ⟨a, ps, qs, rfl, ha, hp, q⟩ := q
  obtain ⟨u, rfl, rx⟩ := vals1 r
  cases rx
  obtain ⟨hz, its, n, rv, hobj⟩ := (show ObjOk X.prog X.w H s.heap a _ from I.hok a _ ha)
  have ei := refs_at rv
  subst ei
  rw [List.length_map] at hz
  obtain ⟨prs, rel, hl, hpr⟩ := pairsT_of I hp
  have hitem : PairItems s.heap (ps.map Value.ref).toArray (fun j => ps.getD j 0) (prs.map fun q => (Value.ref q.2.1, q.2.2)) := by
    refine ⟨by simp [hl], fun j k v e => ?_⟩
    rw [List.getElem?_map] at e
    obtain ⟨q0, e0, e1⟩ := Option.map_eq_some_iff.mp e
    have hj : j < ps.length := by
      have := (List.getElem?_eq_some_iff.mp e0).1
      omega
    obtain ⟨q1, e2, e3⟩ := hpr j ps[j] (List.getElem?_eq_getElem hj)
    rw [e0] at e2
    have eq01 : q0 = q1 := Option.some.inj e2
    have hgd : ps.getD j 0 = ps[j] := by
      rw [List.getD_eq_getElem?_getD, List.getElem?_eq_getElem hj]
      rfl
    refine ⟨?_, ?_⟩
    · show (List.map Value.ref ps).toArray[j]? = some (Value.ref (ps.getD j 0))
      rw [hgd]
      simp [hj]
    · show PairAt s.heap (ps.getD j 0) k v
      rw [hgd]
      left
      rw [← eq01] at e3
      have h1 := (Prod.mk.inj e1).1
      have h2 := (Prod.mk.inj e1).2
      rw [← h1, ← h2]
      exact e3
  have hkeys : ∀ x ∈ prs, H x.2.1 = some (.tup (x.1.map kV)) := by
    have gen : ∀ {l : List (List Key × V)} {m : List (List Key × Addr × Value)}, KT H l m → ∀ x ∈ m, H x.2.1 = some (.tup (x.1.map kV)) := by
      intro l m z
      induction z with
      | nil => intro x hx; cases hx
      | @cons p q lo mo h t ih =>
        intro x hx
        rcases List.mem_cons.mp hx with e | hx
        · rw [e, ← h.1]
          exact h.2.1
        · exact ih x hx
    exact gen rel
  refine call_dict_pairsH (knd := tupleKind (mixKind X.prog X.w)) (ps := prs) (PairArg.list a _ (fun j => ps.getD j 0) (prs.map fun q => (Value.ref q.2.1, q.2.2))) (I.ok.hd hcalm) (by show X.A.units + 1 + 1 < cLine; omega)
    ⟨⟨_, n, hobj, rfl, rfl, rfl⟩, hitem⟩ ⟨by rw [List.length_map], fun i key v e => ?_⟩ (fun h' hk x hx => ?_) (by rw [List.length_map, hl]; exact hz) ?_
  · have e : (prs.map fun q => (Value.ref q.2.1, q.2.2))[i]? = some (key, v) := e
    rw [List.getElem?_map] at e
    obtain ⟨q0, e0, e1⟩ := Option.map_eq_some_iff.mp e
    have h1 := (Prod.mk.inj e1).1
    have h2 := (Prod.mk.inj e1).2
    exact ⟨q0.1, q0.2.1, by rw [e0, ← h2], h1.symm⟩
  · have hk1 := key_of I.hok (hkeys x hx)
    obtain ⟨o, items, m, ho, hc, hd, hi⟩ := hk1
    exact ⟨o, items, m, hk _ _ (Nat.ne_of_lt (Heap.lt_size ho)) (fun z => nomatch z) ho, hc, hd, hi⟩
  · intro h' tk hd' hk
    have hm : (s.heap.objs.size == sysModules) = false := beq_eq_false_iff_ne.mpr (Nat.ne_of_gt I.big)
    have nf := I.hok.fresh (Nat.le_refl _)
    refine ⟨.ref s.heap.objs.size, upd H s.heap.objs.size (.dT (mergeT [] (qs.map fun q => (q.1, q.2.2)))), I.laid (t' := tk) (fun b o e => hk b o (fun z => nomatch z) e) (Nat.le_refl _) ?_, rfl, q _ nf⟩
    obtain ⟨o, es, ep, g1, g2, g3, g4, _, g5⟩ := hd'
    refine ⟨?_, hm, _, (KT.merge rel .nil).keeps (fun b ys z => ?_), o, es, ep, g1, g2, g3, g4, g5⟩
    · refine Nat.le_trans (mergeT_len _ _) ?_
      rw [List.length_nil, Nat.zero_add, Paired.length rel, hl]
      exact hz
    · rw [upd_ne (ne_of_none z nf)]
      exact z
/-- d.update(e), both with tuple keys -/
theorem mt_updateT (hu : X.A.units + 64 < cLine) : MtR X "dict.update" (fun x xs H Q => ∃ (d o : Addr) (kvs more : List (List Key × V)), x = .ref d ∧ xs = [.ref o] ∧ H d = some (.dT kvs) ∧ H o = some (.dT more) ∧ d ≠ o ∧
    (kvs ≠ [] ∨ (more.map fun p => (tupleKind (mixKind X.prog X.w)).hash p.1).Nodup) ∧ kvs.length + more.length ≤ sizeLine ∧ Q .non (upd H d (.dT (mergeT kvs more)))) := by
  intro pins s σ H x xs v us Q I rx rs q
  obtain ⟨d, o, kvs, more, rfl, rfl, hd, ho, hne, hap, hz, q⟩ := q
  cases rx
  obtain ⟨u, rfl, ru⟩ := vals1 rs
  cases ru
  obtain ⟨z1, y1, xs1, rel1, dd1⟩ := dt_of I.hok hd
  obtain ⟨z2, y2, xs2, rel2, dd2⟩ := dt_of I.hok ho
  have l1 : kvs.length = xs1.length := Paired.length rel1
  have l2 : more.length = xs2.length := Paired.length rel2
  have ek : ∀ {l : List (List Key × V)} {m : List (List Key × Addr × Value)}, KT H l m → (l.map fun p => (tupleKind (mixKind X.prog X.w)).hash p.1) = (m.map fun p => (tupleKind (mixKind X.prog X.w)).hash p.1) := by
    intro l m z
    induction z with
    | nil => rfl
    | @cons p q lo mo h t ih =>
      rw [List.map_cons, List.map_cons, ih, h.1]
  have hty : ∀ x ∈ xs2, s.TypeIs (.ref x.2.1) "tuple" := by
    obtain ⟨_, _, _, _, _, _, _, his, _⟩ := id dd2
    exact fun x hx => tupleKind_stays.tuple (his x hx)
  refine call_update_dictH (knd := tupleKind (mixKind X.prog X.w)) (by show X.A.units + 1 < cLine; omega) hne y2 dd1 dd2 ?_ (by omega) ?_
  · rcases hap with z | z
    · left
      intro e
      apply z
      rw [e] at rel1
      cases rel1
      rfl
    · right
      rw [ek rel2] at z
      exact ⟨hty, z⟩
  · intro h' hd' ho' hs
    obtain ⟨ob, es, ep, g1, g2, g3, g4, _, g5⟩ := hd'
    refine ⟨.non, upd H d (.dT (mergeT kvs more)), d_write I (by rw [hd]; exact True.intro) hs ⟨ob, g1⟩ ⟨?_, y1, _, (KT.merge rel2 rel1).keeps (fun b ys z => ?_), ob, es, ep, g1, g2, g3, g4, g5⟩, rfl, q⟩
    · exact Nat.le_trans (mergeT_len _ _) hz
    · rw [upd_ne (ne_of z hd (fun y => by cases y))]
      exact z
end
end Rg

namespace Rg
open PySem PySem.Spec PyProof.Rows L2 Mach
def hs2 (p q : Nat) : Int := reduceHash (Builtin.Tuple.tupleHashOf [hashInt (p : Int), hashInt (q : Int)])
theorem hs2_eq (P : Program) (w : World) (p q : Nat) : (tupleKind (mixKind P w)).hash [kN p, kN q] = hs2 p q := rfl
def hsInj (n : Nat) : Bool := (List.range n).all fun p => (List.range n).all fun a => (List.range n).all fun b => decide (a = b) || !decide (hs2 p a = hs2 p b)
theorem hs_ok : hsInj 16 = true := by decide +kernel
theorem hs_inj {p a b : Nat} (hp : p < 16) (ha : a < 16) (hb : b < 16) (h : hs2 p a = hs2 p b) : a = b := by
  have h0 := hs_ok
  generalize hf : hs2 = f at h h0
  unfold hsInj at h0
  rw [hf] at h0
  have h1 := List.all_eq_true.mp (List.all_eq_true.mp (List.all_eq_true.mp h0 p (List.mem_range.mpr hp)) a (List.mem_range.mpr ha)) b (List.mem_range.mpr hb)
  rw [Bool.or_eq_true] at h1
  rcases h1 with z | z
  · exact of_decide_eq_true z
  · rw [decide_eq_true h] at z
    cases z
theorem hs_list (P : Program) (w : World) (p : Nat) : ∀ M : List Nat, (M.map fun q => (tupleKind (mixKind P w)).hash [kN p, kN q]) = M.map fun q => hs2 p q
  | [] => rfl
  | a :: M => by
    rw [List.map_cons, List.map_cons, hs_list P w p M, hs2_eq]
theorem hs_nodup {p : Nat} (hp : p < 16) : ∀ (M : List Nat), M.Nodup → (∀ q ∈ M, q < 16) → (M.map fun q => hs2 p q).Nodup
  | [], _, _ => List.nodup_nil
  | a :: M, hn, hM => by
    rw [List.nodup_cons] at hn
    rw [List.map_cons, List.nodup_cons]
    refine ⟨fun z => ?_, hs_nodup hp M hn.2 fun q hq => hM q (List.mem_cons_of_mem _ hq)⟩
    obtain ⟨b, hb, eb⟩ := List.mem_map.mp z
    have := hs_inj hp (hM b (List.mem_cons_of_mem _ hb)) (hM a List.mem_cons_self) eb
    exact hn.1 (by rw [← this]; exact hb)
end Rg

namespace Rg
open PySem PySem.Spec PyProof.Rows L2 Mach
/-! ### dicts whose keys are pairs of numbers, all with True -/
abbrev kP (x : Nat × Nat) : List Key := [kN x.1, kN x.2]
theorem kP_inj {x y : Nat × Nat} (h : kP x = kP y) : x = y := by
  obtain ⟨a, b⟩ := x
  obtain ⟨c, d⟩ := y
  obtain ⟨h1, h2⟩ := List.cons.inj h
  obtain ⟨h3, _⟩ := List.cons.inj h2
  have e1 := kN_inj h1
  have e2 := kN_inj h3
  simp only at e1 e2
  rw [e1, e2]
def tO (A : List (Nat × Nat)) : List (List Key × V) := A.map fun x => (kP x, .bl true)
theorem tO_len (A : List (Nat × Nat)) : (tO A).length = A.length := List.length_map _
theorem valV_tO {A : List (Nat × Nat)} {x : Nat × Nat} : valV (tO A) (kP x) = if x ∈ A then some (.bl true) else none := by
  induction A with
  | nil => rfl
  | cons a A ih =>
    show valV ((kP a, .bl true) :: tO A) (kP x) = _
    by_cases e : a = x
    · rw [valV_pos (by show kP a = kP x; rw [e]), if_pos (by rw [e]; exact List.mem_cons_self)]
    · rw [valV_neg (fun z => e (kP_inj z)), ih]
      by_cases h : x ∈ A
      · rw [if_pos h, if_pos (List.mem_cons_of_mem _ h)]
      · rw [if_neg h, if_neg]
        intro z
        rcases List.mem_cons.mp z with z | z
        · exact e z.symm
        · exact h z
theorem putK_tO {A : List (Nat × Nat)} {x : Nat × Nat} : putK (tO A) (kP x) (.bl true) = tO (push A x) := by
  by_cases h : x ∈ A
  · rw [push_mem h]
    unfold putK
    rw [if_pos (by rw [valV_any, valV_tO, if_pos h]; rfl)]
    unfold tO
    rw [List.map_map]
    apply List.map_congr_left
    intro y hy
    show (if kP y = kP x then (kP y, V.bl true) else (kP y, V.bl true)) = (kP y, V.bl true)
    split <;> rfl
  · rw [push_new h, putK_new _ (by rw [valV_tO, if_neg h])]
    unfold tO
    rw [List.map_append]
    rfl
theorem mergeT_tO (B A : List (Nat × Nat)) : mergeT (tO A) (tO B) = tO (pushAll A B) := by
  induction B generalizing A with
  | nil => rfl
  | cons x B ih =>
    show mergeT (putK (tO A) (kP x) (.bl true)) (tO B) = tO (pushAll (push A x) B)
    rw [putK_tO]
    exact ih _
theorem kP_tup (p q : Nat) : [nV p, nV q] = (kP (p, q)).map kV := rfl
theorem dgetT {H : Hp} {d b : Addr} {A : List (Nat × Nat)} {p q : Nat} (h : H d = some (.dT (tO A))) (hb : H b = some (.tup [nV p, nV q])) : ∃ r, DGet H d (.ref b) r ∧ r.isSome = decide ((p, q) ∈ A) := by
  refine ⟨_, DGet.t (k := kP (p, q)) h hb, ?_⟩
  rw [valV_tO]
  by_cases z : (p, q) ∈ A
  · rw [if_pos z, decide_eq_true z]
    rfl
  · rw [if_neg z, decide_eq_false z]
    rfl
theorem tO_map (h : List Key → Int) (p : Nat) : ∀ M : List Nat, ((tO (M.map fun q => (p, q))).map fun x => h x.1) = M.map fun q => h [kN p, kN q]
  | [] => rfl
  | a :: M => by
    have ih := tO_map h p M
    show h [kN p, kN a] :: ((tO (M.map fun q => (p, q))).map fun x => h x.1) = h [kN p, kN a] :: (M.map fun q => h [kN p, kN q])
    rw [ih]
theorem hs_tO {p : Nat} (hp : p < 16) {M : List Nat} (hn : M.Nodup) (hM : ∀ q ∈ M, q < 16) (P : Program) (w : World) :
    ((tO (M.map fun q => (p, q))).map fun x => (tupleKind (mixKind P w)).hash x.1).Nodup := by
  rw [tO_map, hs_list]
  exact hs_nodup hp M hn hM
/-! ### in, not in, of lists of numbers -/
theorem inV_nVs (s : Nat) (E : List Nat) : inV (nV s) (nVs E) = decide (s ∈ E) := by
  unfold inV
  by_cases h : s ∈ E
  · rw [decide_eq_true h]
    refine List.any_eq_true.mpr ⟨nV s, List.mem_map_of_mem h, ?_⟩
    show ((s : Int) == (s : Int)) = true
    simp
  · rw [decide_eq_false h]
    refine Bool.eq_false_iff.mpr fun z => ?_
    obtain ⟨y, hy, e⟩ := List.any_eq_true.mp z
    obtain ⟨n, hn, rfl⟩ := List.mem_map.mp hy
    have : ((n : Int) == (s : Int)) = true := e
    have e2 : (n : Int) = s := eq_of_beq this
    have e3 : n = s := by omega
    exact h (by rw [← e3]; exact hn)
theorem flat_nVs (E : List Nat) : (nVs E).all flatV = true := by
  refine List.all_eq_true.mpr fun v hv => ?_
  unfold nVs at hv
  obtain ⟨n, _, rfl⟩ := List.mem_map.mp hv
  rfl
end Rg
namespace Rg
open PySem PySem.Spec PyProof.Rows L2 Mach
theorem mergeK_dO (c : Nat → V) : ∀ (X L : List Nat), mergeK (dO L c) (X.map fun s => (kN s, c s)) = dO (pushAll L X) c
  | [], L => rfl
  | x :: X, L => by
    show mergeK (putK (dO L c) (kN x) (c x)) (X.map fun s => (kN s, c s)) = dO (pushAll (push L x) X) c
    rw [putK_dO]
    exact mergeK_dO c X _
theorem paired_map {α β γ : Type} {F : α → β → Prop} {G : α → γ → Prop} (f : β → γ) (h : ∀ a b, F a b → G a (f b)) : ∀ {xs : List α} {ys : List β}, Paired F xs ys → Paired G xs (ys.map f)
  | _, _, .nil => .nil
  | _, _, .cons x t => .cons (h _ _ x) (paired_map f h t)
theorem dO_at {L : List Nat} {c : Nat → V} {i : Nat} {k : Key} {v : V} (h : (dO L c)[i]? = some (k, v)) : ∃ s, L[i]? = some s ∧ k = kN s ∧ v = c s := by
  unfold dO at h
  rw [List.getElem?_map] at h
  obtain ⟨s, hs, e⟩ := Option.map_eq_some_iff.mp h
  exact ⟨s, hs, (Prod.mk.inj e).1.symm, (Prod.mk.inj e).2.symm⟩
theorem filter_snoc {α : Type} {p : α → Bool} {L : List α} {t : α} : (L ++ [t]).filter p = L.filter p ++ (if p t then [t] else []) := by
  rw [List.filter_append]
  by_cases h : p t = true
  · rw [List.filter_cons_of_pos h, List.filter_nil, if_pos h]
  · rw [List.filter_cons_of_neg h, List.filter_nil, if_neg h]
end Rg

/-! moves in the heap, dicts of successors -/
namespace Rg
open PySem PySem.Spec PyProof.Rows L2 Mach
theorem bSorted : bootBuiltins "sorted" = some (.builtin "sorted") := by decide +kernel
theorem bAny : bootBuiltins "any" = some (.builtin "any") := by decide +kernel
/-- where k leads from x, in the moves' order -/
def stp (mv : List Mv) (k : Int) (x : Nat) : List Nat := (mv.filter fun m => decide (m.1 = x ∧ m.2.1 = k)).map fun m => m.2.2
theorem mem_stp {mv : List Mv} {k : Int} {x y : Nat} : y ∈ stp mv k x ↔ (x, k, y) ∈ mv := by
  unfold stp
  rw [List.mem_map]
  constructor
  · rintro ⟨m, hm, rfl⟩
    obtain ⟨h1, h2⟩ := List.mem_filter.mp hm
    have h3 := of_decide_eq_true h2
    obtain ⟨m1, m2, m3⟩ := m
    simp only at h3
    rw [← h3.1, ← h3.2]
    exact h1
  · intro h
    exact ⟨_, List.mem_filter.mpr ⟨h, decide_eq_true ⟨rfl, rfl⟩⟩, rfl⟩
theorem stp_len (mv : List Mv) (k : Int) (x : Nat) : (stp mv k x).length ≤ mv.length := by
  unfold stp
  rw [List.length_map]
  exact List.length_filter_le _ _
theorem stp_snoc (mv : List Mv) (m : Mv) (k : Int) (x : Nat) : stp (mv ++ [m]) k x = stp mv k x ++ (if m.1 = x ∧ m.2.1 = k then [m.2.2] else []) := by
  unfold stp
  rw [filter_snoc, List.map_append]
  congr 1
  by_cases h : m.1 = x ∧ m.2.1 = k
  · rw [decide_eq_true h, if_pos rfl, if_pos h]
    rfl
  · rw [decide_eq_false h, if_neg Bool.false_ne_true, if_neg h]
    rfl
/-- d leads each number to a list of f's numbers -/
def ListsKc (c : Nat) (H : Hp) (d : Addr) (f : Nat → List Nat) : Prop := ∃ kvs : List (Key × V), H d = some (.dK kvs) ∧ kvs.length ≤ c ∧ ∀ x : Nat, (valV kvs (kN x) = none ∧ f x = []) ∨ ∃ l : Addr, valV kvs (kN x) = some (.ref l) ∧ H l = some (.lst (nVs (f x)))
abbrev ListsK (H : Hp) (d : Addr) (f : Nat → List Nat) : Prop := ListsKc 4000 H d f
theorem ListsKc.same {c : Nat} {H H' : Hp} {d : Addr} {f : Nat → List Nat} (h : ListsKc c H d f) (s : Same H H') : ListsKc c H' d f := by
  obtain ⟨kvs, h1, h2, h3⟩ := h
  refine ⟨kvs, s _ _ h1, h2, fun x => ?_⟩
  rcases h3 x with z | ⟨l, z1, z2⟩
  · exact .inl z
  · exact .inr ⟨l, z1, s _ _ z2⟩
/-- the same for pairs -/
def ListsPc (c : Nat) (H : Hp) (d : Addr) (f : Nat → Nat → List Nat) : Prop := ∃ kvs : List (List Key × V), H d = some (.dT kvs) ∧ kvs.length ≤ c ∧ ∀ x k : Nat, (valV kvs (kP (x, k)) = none ∧ f x k = []) ∨ ∃ l : Addr, valV kvs (kP (x, k)) = some (.ref l) ∧ H l = some (.lst (nVs (f x k)))
abbrev ListsP (H : Hp) (d : Addr) (f : Nat → Nat → List Nat) : Prop := ListsPc 4000 H d f
theorem ListsPc.same {c : Nat} {H H' : Hp} {d : Addr} {f : Nat → Nat → List Nat} (h : ListsPc c H d f) (s : Same H H') : ListsPc c H' d f := by
  obtain ⟨kvs, h1, h2, h3⟩ := h
  refine ⟨kvs, s _ _ h1, h2, fun x k => ?_⟩
  rcases h3 x k with z | ⟨l, z1, z2⟩
  · exact .inl z
  · exact .inr ⟨l, z1, s _ _ z2⟩
theorem ListsKc.le {c c' : Nat} {H : Hp} {d : Addr} {f : Nat → List Nat} (h : ListsKc c H d f) (hc : c ≤ c') : ListsKc c' H d f := by
  obtain ⟨kvs, h1, h2, h3⟩ := h
  exact ⟨kvs, h1, Nat.le_trans h2 hc, h3⟩
theorem ListsPc.le {c c' : Nat} {H : Hp} {d : Addr} {f : Nat → Nat → List Nat} (h : ListsPc c H d f) (hc : c ≤ c') : ListsPc c' H d f := by
  obtain ⟨kvs, h1, h2, h3⟩ := h
  exact ⟨kvs, h1, Nat.le_trans h2 hc, h3⟩
/-- what is kept where lists and dicts stand -/
theorem ListsKc.keep {c : Nat} {H H' : Hp} {d : Addr} {f g : Nat → List Nat} (h : ListsKc c H d f) (k1 : ∀ b xs, H b = some (.lst xs) → H' b = some (.lst xs)) (k2 : ∀ b xs, H b = some (.dK xs) → H' b = some (.dK xs)) (hg : ∀ x, g x = f x) : ListsKc c H' d g := by
  obtain ⟨kvs, h1, h2, h3⟩ := h
  refine ⟨kvs, k2 _ _ h1, h2, fun x => ?_⟩
  rw [hg x]
  rcases h3 x with z | ⟨l, z1, z2⟩
  · exact .inl z
  · exact .inr ⟨l, z1, k1 _ _ z2⟩
theorem ListsPc.keep {c : Nat} {H H' : Hp} {d : Addr} {f g : Nat → Nat → List Nat} (h : ListsPc c H d f) (k1 : ∀ b xs, H b = some (.lst xs) → H' b = some (.lst xs)) (k2 : ∀ b xs, H b = some (.dT xs) → H' b = some (.dT xs)) (hg : ∀ x k, g x k = f x k) : ListsPc c H' d g := by
  obtain ⟨kvs, h1, h2, h3⟩ := h
  refine ⟨kvs, k2 _ _ h1, h2, fun x k => ?_⟩
  rw [hg x k]
  rcases h3 x k with z | ⟨l, z1, z2⟩
  · exact .inl z
  · exact .inr ⟨l, z1, k1 _ _ z2⟩
/-- numbers sorted -/
theorem sorted_nums {L : List Nat} {ns : List Int} (hn : L.Nodup) (hp : ns.Perm (L.map fun n : Nat => (n : Int))) (hs : ns.Pairwise (· ≤ ·)) : ∃ T : List Nat, ns.map V.int = nVs T ∧ T.Pairwise (· < ·) ∧ (∀ x, x ∈ T ↔ x ∈ L) ∧ T.length = L.length := by
  have h0 : ∀ z ∈ ns, ∃ n : Nat, z = n := fun z hz => by
    obtain ⟨n, _, e⟩ := List.mem_map.mp (hp.mem_iff.mp hz)
    exact ⟨n, e.symm⟩
  have hT : (ns.map Int.toNat).map (fun n : Nat => (n : Int)) = ns := by
    rw [List.map_map]
    have : ∀ l : List Int, (∀ z ∈ l, ∃ n : Nat, z = n) → l.map ((fun n : Nat => (n : Int)) ∘ Int.toNat) = l := by
      intro l
      induction l with
      | nil => intro _; rfl
      | cons a l ih =>
        intro h
        obtain ⟨n, rfl⟩ := h a List.mem_cons_self
        rw [List.map_cons, ih fun z hz => h z (List.mem_cons_of_mem _ hz)]
        rfl
    exact this ns h0
  have hmem : ∀ x : Nat, x ∈ ns.map Int.toNat ↔ x ∈ L := fun x => by
    have h1 : x ∈ ns.map Int.toNat ↔ (x : Int) ∈ ns := by
      constructor
      · intro h
        rw [← hT]
        exact List.mem_map_of_mem h
      · intro h
        exact List.mem_map.mpr ⟨(x : Int), h, rfl⟩
    rw [h1, hp.mem_iff, List.mem_map]
    constructor
    · rintro ⟨n, hn', e⟩
      have : n = x := by omega
      rw [← this]
      exact hn'
    · intro h
      exact ⟨x, h, rfl⟩
  have hnd : ns.Nodup := hp.nodup_iff.mpr (by
    rw [List.Nodup, List.pairwise_map]
    exact hn.imp fun hab e => hab (by omega))
  refine ⟨ns.map Int.toNat, ?_, ?_, hmem, ?_⟩
  · unfold nVs
    conv => lhs; rw [← hT]
    rw [List.map_map]
    rfl
  · have h2 := lt_of_le_nodup ns hs hnd
    rw [← hT, List.pairwise_map] at h2
    exact h2.imp fun h => by omega
  · rw [List.length_map, hp.length_eq, List.length_map]
theorem nVs_ints (ns : List Nat) : nVs ns = (ns.map fun n : Nat => (n : Int)).map V.int := by
  unfold nVs
  rw [List.map_map]
  rfl
def tgs (mv : List Mv) : List Nat := mv.map fun m => m.2.2
theorem pushAll_len {S Y : List Nat} {mv : List Mv} (h : ∀ y ∈ Y, y ∈ tgs mv) : (pushAll S Y).length ≤ S.length + mv.length := by
  rw [pushAll_filter, List.length_append]
  have h1 := List.length_filter_le (fun x => decide (x ∉ S)) (D Y)
  have h2 : (D Y).length ≤ (tgs mv).length := length_le_of_sub (D_nodup Y) fun y hy => h y (mem_D.mp hy)
  unfold tgs at h2
  rw [List.length_map] at h2
  omega
/-- closing a list of states under silent moves -/
def spSil : Sp := fun vs H Q _ => ∃ (a d : Addr) (S : List Nat) (mv : List Mv), vs = [.ref a, .ref d] ∧ H a = some (.lst (nVs S)) ∧ ListsK H d (stp mv (-1)) ∧ S.length ≤ 1000 ∧ mv.length ≤ 100 ∧
  ∀ (H' : Hp) (t : Addr) (T : List Nat), Same H H' → H t = none → H' t = some (.tup (nVs T)) → IsSil mv (fun x => x ∈ S) T → Q (.ref t) H'
section
variable {K : PySem.W.Frag} {a : Addr} {xs : List V} {H0 : Hp} {Qd : Hp → Prop} {Body : V → Hp → (Hp → Prop) → Prop}
/-- going through a tuple, whatever is done with each -/
theorem go_tup (Pv : Nat → Hp → Prop) (h0 : Pv 0 H0) (hl : ∀ i H, i ≤ xs.length → Pv i H → SqT K H a xs) (hs : ∀ i x H, xs[i]? = some x → Pv i H → Body x H (Pv (i + 1))) (hd : ∀ H, Pv xs.length H → Qd H) :
    ∃ W : Nat → Nat → Hp → Prop, (∃ m, W 0 m H0) ∧ ∀ i m H, W i m H → ((Itt K a).stop i H ∧ Qd H) ∨ ((Itt K a).go i H ∧ ∃ Nx : Hp → Prop, (∀ H', Nx H' → ∃ m', m' < m ∧ W (i + 1) m' H') ∧ ∀ x H', (Itt K a).yld i H x H' → Body x H' Nx) := by
  refine ⟨fun i m H => m = xs.length - i ∧ i ≤ xs.length ∧ Pv i H, ⟨_, rfl, Nat.zero_le _, h0⟩, ?_⟩
  rintro i m H ⟨rfl, hi, p⟩
  have q := hl i H hi p
  by_cases hlt : i < xs.length
  · right
    refine ⟨⟨xs, xs[i], q, List.getElem?_eq_getElem hlt⟩, Pv (i + 1), fun H' z => ⟨xs.length - (i + 1), by omega, rfl, hlt, z⟩, ?_⟩
    rintro x H' ⟨rfl, hx⟩
    exact hs i x _ (hx xs q) p
  · left
    have e : i = xs.length := by omega
    subst e
    exact ⟨⟨xs, q, Nat.le_refl _⟩, hd H p⟩
theorem go_list (Pv : Nat → Hp → Prop) (h0 : Pv 0 H0) (hl : ∀ i H, i ≤ xs.length → Pv i H → SqL K H a xs) (hs : ∀ i x H, xs[i]? = some x → Pv i H → Body x H (Pv (i + 1))) (hd : ∀ H, Pv xs.length H → Qd H) :
    ∃ W : Nat → Nat → Hp → Prop, (∃ m, W 0 m H0) ∧ ∀ i m H, W i m H → ((Itl K a).stop i H ∧ Qd H) ∨ ((Itl K a).go i H ∧ ∃ Nx : Hp → Prop, (∀ H', Nx H' → ∃ m', m' < m ∧ W (i + 1) m' H') ∧ ∀ x H', (Itl K a).yld i H x H' → Body x H' Nx) := by
  refine ⟨fun i m H => m = xs.length - i ∧ i ≤ xs.length ∧ Pv i H, ⟨_, rfl, Nat.zero_le _, h0⟩, ?_⟩
  rintro i m H ⟨rfl, hi, p⟩
  have q := hl i H hi p
  by_cases hlt : i < xs.length
  · right
    refine ⟨⟨xs, xs[i], q, List.getElem?_eq_getElem hlt⟩, Pv (i + 1), fun H' z => ⟨xs.length - (i + 1), by omega, rfl, hlt, z⟩, ?_⟩
    rintro x H' ⟨rfl, hx⟩
    exact hs i x _ (hx xs q) p
  · left
    have e : i = xs.length := by omega
    subst e
    exact ⟨⟨xs, q, Nat.le_refl _⟩, hd H p⟩
end
end Rg

/-! sets of states in the heap: tuples, the list of them, the dict of their numbers -/
namespace Rg
open PySem PySem.Spec PyProof.Rows L2 Mach
def kT (T : List Nat) : List Key := T.map kN
theorem kT_inj : ∀ {S T : List Nat}, kT S = kT T → S = T
  | [], [], _ => rfl
  | [], _ :: _, h => by cases h
  | _ :: _, [], h => by cases h
  | a :: S, b :: T, h => by
    obtain ⟨h1, h2⟩ := List.cons.inj h
    rw [kN_inj h1, kT_inj h2]
theorem kT_vals (T : List Nat) : (kT T).map kV = nVs T := by
  unfold kT nVs
  rw [List.map_map]
  rfl
def nOG (F G : List (List Nat)) : List (List Key × V) := G.map fun T => (kT T, nV (F.idxOf T))
def nO (F : List (List Nat)) : List (List Key × V) := nOG F F
theorem nO_len (F : List (List Nat)) : (nO F).length = F.length := List.length_map _
theorem valV_nOG (F : List (List Nat)) (T : List Nat) : ∀ G : List (List Nat), valV (nOG F G) (kT T) = if T ∈ G then some (nV (F.idxOf T)) else none
  | [] => rfl
  | S :: G => by
    show valV ((kT S, nV (F.idxOf S)) :: nOG F G) (kT T) = _
    by_cases e : S = T
    · rw [valV_pos (by show kT S = kT T; rw [e]), if_pos (by rw [e]; exact List.mem_cons_self), e]
    · rw [valV_neg (fun z => e (kT_inj z)), valV_nOG F T G]
      by_cases h : T ∈ G
      · rw [if_pos h, if_pos (List.mem_cons_of_mem _ h)]
      · rw [if_neg h, if_neg]
        intro z
        rcases List.mem_cons.mp z with z | z
        · exact e z.symm
        · exact h z
theorem valV_nO {F : List (List Nat)} {T : List Nat} : valV (nO F) (kT T) = if T ∈ F then some (nV (F.idxOf T)) else none := valV_nOG F T F
theorem putK_nO {F : List (List Nat)} {T : List Nat} (h : T ∉ F) : putK (nO F) (kT T) (nV F.length) = nO (F ++ [T]) := by
  rw [putK_new _ (by rw [valV_nO, if_neg h])]
  unfold nO nOG
  rw [List.map_append]
  refine congr (congrArg _ ?_) ?_
  · apply List.map_congr_left
    intro S hS
    rw [idxOf_pre hS]
  · show [(kT T, nV F.length)] = [(kT T, nV ((F ++ [T]).idxOf T))]
    rw [List.idxOf_append, if_neg h]
    simp
theorem dget_nO {H : Hp} {d b : Addr} {F : List (List Nat)} {T : List Nat} (h : H d = some (.dT (nO F))) (hb : H b = some (.tup (nVs T))) (hT : T ∈ F) : DGet H d (.ref b) (some (nV (F.idxOf T))) := by
  have := DGet.t (k := kT T) h (by rw [kT_vals]; exact hb)
  rw [valV_nO, if_pos hT] at this
  exact this
theorem din_nO {H : Hp} {d b : Addr} {F : List (List Nat)} {T : List Nat} (h : H d = some (.dT (nO F))) (hb : H b = some (.tup (nVs T))) : ∃ r, DGet H d (.ref b) r ∧ r.isSome = decide (T ∈ F) := by
  refine ⟨_, DGet.t (k := kT T) h (by rw [kT_vals]; exact hb), ?_⟩
  rw [valV_nO]
  by_cases hT : T ∈ F
  · rw [if_pos hT, decide_eq_true hT]
    rfl
  · rw [if_neg hT, decide_eq_false hT]
    rfl
/-- tuples of states, one behind another -/
def TupsAt (H : Hp) (ts : List Addr) (F : List (List Nat)) : Prop := Paired (fun (t : Addr) (T : List Nat) => H t = some (.tup (nVs T))) ts F
theorem TupsAt.same {H H' : Hp} {ts : List Addr} {F : List (List Nat)} (h : TupsAt H ts F) (s : Same H H') : TupsAt H' ts F := paired_keep h fun _ _ _ z => s _ _ z
theorem TupsAt.upd_lst {H : Hp} {ts : List Addr} {F : List (List Nat)} {p : Addr} {o : HO} (h : TupsAt H ts F) (hp : ∀ xs, H p ≠ some (.tup xs)) : TupsAt (upd H p o) ts F := paired_keep h fun t _ T z => by
  rw [upd_ne]
  · exact z
  · intro e
    rw [e] at z
    exact hp _ z
theorem TupsAt.len : ∀ {H : Hp} {ts : List Addr} {F : List (List Nat)}, TupsAt H ts F → ts.length = F.length
  | _, _, _, .nil => rfl
  | _, _, _, .cons _ t => by
    rw [List.length_cons, List.length_cons, TupsAt.len t]
theorem TupsAt.get : ∀ {H : Hp} {ts : List Addr} {F : List (List Nat)}, TupsAt H ts F → ∀ {i : Nat} {T : List Nat}, F[i]? = some T → ∃ t, ts[i]? = some t ∧ H t = some (.tup (nVs T))
  | _, _, _, .nil, i, T, h => by simp at h
  | _, _, _, .cons h0 t, 0, T, h => by
    cases h
    exact ⟨_, rfl, h0⟩
  | _, _, _, .cons h0 t, i + 1, T, h => TupsAt.get t (by simpa using h)
theorem TupsAt.get' : ∀ {H : Hp} {ts : List Addr} {F : List (List Nat)}, TupsAt H ts F → ∀ {i : Nat} {t : Addr}, ts[i]? = some t → ∃ T, F[i]? = some T ∧ H t = some (.tup (nVs T))
  | _, _, _, .nil, i, T, h => by simp at h
  | _, _, _, .cons h0 t, 0, T, h => by
    cases h
    exact ⟨_, rfl, h0⟩
  | _, _, _, .cons h0 t, i + 1, T, h => TupsAt.get' t (by simpa using h)
/-- moves in the heap -/
def MvAt (H : Hp) (m : Addr) (ms : List Addr) (mv : List Mv) : Prop := H m = some (.lst (ms.map V.ref)) ∧ Paired (fun (t : Addr) (x : Mv) => H t = some (.tup [nV x.1, .int x.2.1, nV x.2.2])) ms mv
theorem MvAt.same {H H' : Hp} {m : Addr} {ms : List Addr} {mv : List Mv} (h : MvAt H m ms mv) (s : Same H H') : MvAt H' m ms mv := ⟨s _ _ h.1, paired_keep h.2 fun _ _ _ z => s _ _ z⟩
theorem paired_get {α β : Type} {G : α → β → Prop} : ∀ {xs : List α} {ys : List β}, Paired G xs ys → ∀ {i : Nat} {x : α}, xs[i]? = some x → ∃ y, ys[i]? = some y ∧ G x y
  | _, _, .nil, i, x, h => by simp at h
  | _, _, .cons h0 t, 0, x, h => by
    cases h
    exact ⟨_, rfl, h0⟩
  | _, _, .cons h0 t, i + 1, x, h => paired_get t (by simpa using h)
theorem paired_length {α β : Type} {G : α → β → Prop} : ∀ {xs : List α} {ys : List β}, Paired G xs ys → xs.length = ys.length
  | _, _, .nil => rfl
  | _, _, .cons _ t => by rw [List.length_cons, List.length_cons, paired_length t]
/-- dicts of lists, one put in -/
theorem ListsKc.put {c : Nat} {H H' : Hp} {d l : Addr} {f g : Nat → List Nat} {kvs : List (Key × V)} {x : Nat} (hv : ∀ y : Nat, (valV kvs (kN y) = none ∧ f y = []) ∨ ∃ l : Addr, valV kvs (kN y) = some (.ref l) ∧ H l = some (.lst (nVs (f y)))) (hl : kvs.length ≤ c)
    (hd : H' d = some (.dK (putK kvs (kN x) (.ref l)))) (hk : ∀ b o, b ≠ d → H b = some o → H' b = some o) (hb : ∀ xs, H d ≠ some (.lst xs)) (hnew : H' l = some (.lst (nVs (g x)))) (hg : ∀ y, y ≠ x → g y = f y) : ListsKc (c + 1) H' d g := by
  refine ⟨_, hd, by have := length_putK kvs (kN x) (V.ref l); omega, fun y => ?_⟩
  by_cases e : y = x
  · subst e
    exact .inr ⟨l, by rw [valV_put, if_pos rfl], hnew⟩
  · rw [valV_put, if_neg (fun z => e (kN_inj z)), hg y e]
    rcases hv y with z | ⟨l', z1, z2⟩
    · exact .inl z
    · refine .inr ⟨l', z1, hk _ _ (fun z => ?_) z2⟩
      rw [z] at z2
      exact hb _ z2
theorem ListsPc.put {c : Nat} {H H' : Hp} {d l : Addr} {f g : Nat → Nat → List Nat} {kvs : List (List Key × V)} {x k : Nat} (hv : ∀ y j : Nat, (valV kvs (kP (y, j)) = none ∧ f y j = []) ∨ ∃ l : Addr, valV kvs (kP (y, j)) = some (.ref l) ∧ H l = some (.lst (nVs (f y j)))) (hl : kvs.length ≤ c)
    (hd : H' d = some (.dT (putK kvs (kP (x, k)) (.ref l)))) (hk : ∀ b o, b ≠ d → H b = some o → H' b = some o) (hb : ∀ xs, H d ≠ some (.lst xs)) (hnew : H' l = some (.lst (nVs (g x k)))) (hg : ∀ y j, (y, j) ≠ (x, k) → g y j = f y j) : ListsPc (c + 1) H' d g := by
  refine ⟨_, hd, by have := length_putK kvs (kP (x, k)) (V.ref l); omega, fun y j => ?_⟩
  by_cases e : (y, j) = (x, k)
  · cases e
    exact .inr ⟨l, by rw [valV_put, if_pos rfl], hnew⟩
  · rw [valV_put, if_neg (fun z => e (kP_inj z)), hg y j e]
    rcases hv y j with z | ⟨l', z1, z2⟩
    · exact .inl z
    · refine .inr ⟨l', z1, hk _ _ (fun z => ?_) z2⟩
      rw [z] at z2
      exact hb _ z2
/-- the rest of the moves: only those of the dict's kind count -/
theorem stp_other {mv : List Mv} {m : Mv} {k : Int} {x : Nat} (h : ¬ (m.1 = x ∧ m.2.1 = k)) : stp (mv ++ [m]) k x = stp mv k x := by
  rw [stp_snoc, if_neg h, List.append_nil]
theorem stp_this {mv : List Mv} {m : Mv} {k : Int} {x : Nat} (h : m.1 = x ∧ m.2.1 = k) : stp (mv ++ [m]) k x = stp mv k x ++ [m.2.2] := by
  rw [stp_snoc, if_pos h]
theorem RowsAt.snoc {H H' : Hp} {a y : Addr} {xs : List Addr} {R : List (List Nat)} {row : List Nat} (h : RowsAt H a xs R) (ha : H' a = some (.lst (xs.map V.ref ++ [.ref y]))) (hy : H' y = some (.lst (nVs row))) (hk : ∀ x ∈ xs, ∀ o, H x = some o → H' x = some o) : RowsAt H' a (xs ++ [y]) (R ++ [row]) := by
  refine ⟨by rw [ha, List.map_append]; rfl, by rw [List.length_append, List.length_append, h.len]; rfl, fun i x e => ?_⟩
  by_cases hi : i < xs.length
  · rw [List.getElem?_append_left hi] at e
    have : rowOf (R ++ [row]) i = rowOf R i := by
      show (R ++ [row]).getD i [] = R.getD i []
      rw [List.getD_eq_getElem?_getD, List.getD_eq_getElem?_getD, List.getElem?_append_left (by rw [← h.len]; exact hi)]
    rw [this]
    exact hk x (List.mem_of_getElem? e) _ (h.row i x e)
  · have hi2 : i = xs.length := by
      have := (List.getElem?_eq_some_iff.mp e).1
      rw [List.length_append, List.length_singleton] at this
      omega
    rw [hi2, List.getElem?_concat_length] at e
    cases e
    have : rowOf (R ++ [row]) i = row := by
      show (R ++ [row]).getD i [] = row
      rw [hi2, h.len, List.getD_eq_getElem?_getD, List.getElem?_concat_length]
      rfl
    rw [this]
    exact hy
end Rg
namespace Mach
theorem SetM.step {mv : List Mv} {n : Nat} {B T0 : List Nat} {F R : List (List Nat)} {T : List Nat} (h : SetM mv n B T0 F R) (hT : F[R.length]? = some T) {F' : List (List Nat)} {row : List Nat} (hpre : ∃ Z, F' = F ++ Z) (nd : F'.Nodup) (sub : ∀ T ∈ F', T ∈ subs B)
    (hl : row.length = n) (hrow : ∀ k, k < n → F'[row.getD k 0]? = some (nxS mv T k)) : SetM mv n B T0 F' (R ++ [row]) := by
  obtain ⟨Z, rfl⟩ := hpre
  have old : ∀ {j : Nat} {S : List Nat}, F[j]? = some S → (F ++ Z)[j]? = some S := fun {j S} e => by
    rw [List.getElem?_append_left (List.getElem?_eq_some_iff.mp e).1]
    exact e
  have hR := (List.getElem?_eq_some_iff.mp hT).1
  have row1 : ∀ i, i < R.length → rowOf (R ++ [row]) i = rowOf R i := fun i hi => by
    unfold rowOf
    rw [List.getD_eq_getElem?_getD, List.getD_eq_getElem?_getD, List.getElem?_append_left hi]
  have row2 : rowOf (R ++ [row]) R.length = row := by
    unfold rowOf
    rw [List.getD_eq_getElem?_getD, List.getElem?_concat_length]
    rfl
  refine ⟨nd, sub, old h.zero, ?_, fun i hi => ?_, fun i S hi hS k hk => ?_⟩
  · rw [List.length_append, List.length_append, List.length_singleton]
    by_cases hz : Z = []
    · subst hz
      simp
      omega
    · omega
  · rw [List.length_append, List.length_singleton] at hi
    by_cases e : i < R.length
    · rw [row1 i e]
      exact h.wide i e
    · have e2 : i = R.length := by omega
      rw [e2, row2]
      exact hl
  · rw [List.length_append, List.length_singleton] at hi
    by_cases e : i < R.length
    · have hS' : F[i]? = some S := by
        rw [List.getElem?_append_left (by have := h.len; omega)] at hS
        exact hS
      have := h.to i S e hS' k hk
      unfold dl
      rw [row1 i e]
      exact old this
    · have e2 : i = R.length := by omega
      subst e2
      have : S = T := by
        have h1 := old hT
        rw [h1] at hS
        exact (Option.some.inj hS).symm
      subst this
      unfold dl
      rw [row2]
      exact hrow k hk
/-- which texts are there -/
def Meets (T ends : List Nat) : Prop := ∃ s ∈ T, s ∈ ends
theorem SetM.acc {mv : List Mv} {n : Nat} {B T0 : List Nat} {F R : List (List Nat)} {E ends : List Nat} (h : SetM mv n B T0 F R) (he : F.length ≤ R.length) (hE : ∀ j T, F[j]? = some T → (j ∈ E ↔ Meets T ends)) : ∀ w, Wd n w → (runM R 0 w ∈ E ↔ Meets (w.foldl (nxS mv) T0) ends) :=
  fun w hw => hE _ _ (h.run he w hw 0 T0 h.zero)
end Mach
namespace Rg
open PySem PySem.Spec PyProof.Rows L2 Mach
theorem rch_sub {mv : List Mv} {P : Nat → Prop} {B : List Nat} (hP : ∀ x, P x → x ∈ B) (hm : ∀ m ∈ mv, m.2.2 ∈ B) {x : Nat} (h : Rch mv P x) : x ∈ B := by
  induction h with
  | base p => exact hP _ p
  | step _ m _ => exact hm _ m
theorem sil_subs {mv : List Mv} {P : Nat → Prop} {B T : List Nat} (hB : B.Pairwise (· < ·)) (hP : ∀ x, P x → x ∈ B) (hm : ∀ m ∈ mv, m.2.2 ∈ B) (h : IsSil mv P T) : T ∈ subs B :=
  mem_subs hB h.up fun x hx => rch_sub hP hm ((h.mem x).mp hx)
theorem subs_short : ∀ {l T : List Nat}, T ∈ subs l → T.length ≤ l.length
  | [], T, h => by
    rw [List.mem_singleton.mp h]
    exact Nat.le_refl _
  | a :: l, T, h => by
    rcases List.mem_append.mp h with z | z
    · exact Nat.le_succ_of_le (subs_short z)
    · obtain ⟨S, hS, rfl⟩ := List.mem_map.mp z
      exact Nat.succ_le_succ (subs_short hS)
theorem idxOf_nodup {α : Type} [BEq α] [LawfulBEq α] : ∀ {l : List α}, l.Nodup → ∀ {i : Nat} (hi : i < l.length), l.idxOf l[i] = i
  | [], _, i, hi => absurd hi (Nat.not_lt_zero _)
  | a :: l, h, 0, hi => by simp
  | a :: l, h, i + 1, hi => by
    rw [List.nodup_cons] at h
    have hi' : i < l.length := by simpa using hi
    have hne : a ≠ l[i] := fun z => h.1 (by rw [z]; exact List.getElem_mem hi')
    rw [List.getElem_cons_succ, List.idxOf_cons, beq_eq_false_iff_ne.mpr hne, cond_false, idxOf_nodup h.2 hi']
end Rg

/-! promises of silent_from, led_to, determined for greater machines -/
namespace Rg
open PySem PySem.Spec PyProof.Rows L2 Mach
theorem flat_take_le {α β : Type} (f : α → List β) (l : List α) (i : Nat) : ((l.take i).flatMap f).length ≤ (l.flatMap f).length := by
  have h : l.flatMap f = (l.take i).flatMap f ++ (l.drop i).flatMap f := by rw [← List.flatMap_append, List.take_append_drop]
  rw [h, List.length_append]
  omega
def spSilU : Sp := fun vs H Q _ => ∃ (a d : Addr) (S : List Nat) (mv : List Mv), vs = [.ref a, .ref d] ∧ H a = some (.lst (nVs S)) ∧ ListsK H d (stp mv (-1)) ∧ S.length ≤ 4000 ∧ mv.length ≤ 4000 ∧
  ∀ (H' : Hp) (t : Addr) (T : List Nat), Same H H' → H t = none → H' t = some (.tup (nVs T)) → IsSil mv (fun x => x ∈ S) T → Q (.ref t) H'
def spLedU : Sp := fun vs H Q _ => ∃ (a d : Addr) (T : List Nat) (mv : List Mv) (k : Nat), vs = [.ref a, nV k, .ref d] ∧ H a = some (.tup (nVs T)) ∧ ListsP H d (fun x k => stp mv (k : Int) x) ∧ T.length ≤ 1000 ∧ mv.length ≤ 4000 ∧ (T.flatMap (stp mv (k : Int))).length ≤ 4000 ∧
  ∀ (H' : Hp) (p : Addr), Same H H' → H p = none → H' p = some (.lst (nVs (T.flatMap (stp mv (k : Int))))) → Q (.ref p) H'
end Rg

/-! the machine of sets, from a closed list of sets -/
namespace Mach
theorem SetU.step {mv : List Mv} {n : Nat} {T0 : List Nat} {UL F R : List (List Nat)} {T : List Nat} (h : SetU mv n UL T0 F R) (hT : F[R.length]? = some T) {F' : List (List Nat)} {row : List Nat} (hpre : ∃ Z, F' = F ++ Z) (nd : F'.Nodup) (sub : ∀ T ∈ F', T ∈ UL)
    (hl : row.length = n) (hrow : ∀ k, k < n → F'[row.getD k 0]? = some (nxS mv T k)) : SetU mv n UL T0 F' (R ++ [row]) := by
  obtain ⟨Z, rfl⟩ := hpre
  have old : ∀ {j : Nat} {S : List Nat}, F[j]? = some S → (F ++ Z)[j]? = some S := fun {j S} e => by
    rw [List.getElem?_append_left (List.getElem?_eq_some_iff.mp e).1]
    exact e
  have hR := (List.getElem?_eq_some_iff.mp hT).1
  have row1 : ∀ i, i < R.length → rowOf (R ++ [row]) i = rowOf R i := fun i hi => by
    unfold rowOf
    rw [List.getD_eq_getElem?_getD, List.getD_eq_getElem?_getD, List.getElem?_append_left hi]
  have row2 : rowOf (R ++ [row]) R.length = row := by
    unfold rowOf
    rw [List.getD_eq_getElem?_getD, List.getElem?_concat_length]
    rfl
  refine ⟨nd, sub, old h.zero, ?_, fun i hi => ?_, fun i S hi hS k hk => ?_⟩
  · rw [List.length_append, List.length_append, List.length_singleton]
    by_cases hz : Z = []
    · subst hz
      simp
      omega
    · omega
  · rw [List.length_append, List.length_singleton] at hi
    by_cases e : i < R.length
    · rw [row1 i e]
      exact h.wide i e
    · have e2 : i = R.length := by omega
      rw [e2, row2]
      exact hl
  · rw [List.length_append, List.length_singleton] at hi
    by_cases e : i < R.length
    · have hS' : F[i]? = some S := by
        rw [List.getElem?_append_left (by have := h.len; omega)] at hS
        exact hS
      have := h.to i S e hS' k hk
      unfold dl
      rw [row1 i e]
      exact old this
    · have e2 : i = R.length := by omega
      subst e2
      have : S = T := by
        have h1 := old hT
        rw [h1] at hS
        exact (Option.some.inj hS).symm
      subst this
      unfold dl
      rw [row2]
      exact hrow k hk
theorem SetU.acc {mv : List Mv} {n : Nat} {T0 : List Nat} {UL F R : List (List Nat)} {E ends : List Nat} (h : SetU mv n UL T0 F R) (he : F.length ≤ R.length) (hE : ∀ j T, F[j]? = some T → (j ∈ E ↔ Meets T ends)) : ∀ w, Wd n w → (runM R 0 w ∈ E ↔ Meets (w.foldl (nxS mv) T0) ends) :=
  fun w hw => hE _ _ (h.run he w hw 0 T0 h.zero)
end Mach

/-! how many moves lead on -/
namespace Rg
open PySem PySem.Spec PyProof.Rows L2 Mach
theorem stp_app (a b : List Mv) (k : Int) (x : Nat) : stp (a ++ b) k x = stp a k x ++ stp b k x := by
  unfold stp
  rw [List.filter_append, List.map_append]
theorem filter_flat_le (mv : List Mv) (k : Int) : ∀ T : List Nat, (mv.filter fun x : Mv => decide (x.2.1 = k ∧ x.1 ∈ T)).length ≤ (T.flatMap (stp mv k)).length
  | [] => by
    have : (mv.filter fun x : Mv => decide (x.2.1 = k ∧ x.1 ∈ ([] : List Nat))) = [] := List.filter_eq_nil_iff.mpr fun x _ h => by
      have := of_decide_eq_true h
      exact nomatch this.2
    rw [this]
    exact Nat.zero_le _
  | t :: T => by
    rw [List.flatMap_cons, List.length_append]
    have h1 := filter_flat_le mv k T
    have h2 : ∀ mv : List Mv, (mv.filter fun x : Mv => decide (x.2.1 = k ∧ x.1 ∈ t :: T)).length ≤ (stp mv k t).length + (mv.filter fun x : Mv => decide (x.2.1 = k ∧ x.1 ∈ T)).length := by
      intro mv
      unfold stp
      rw [List.length_map]
      induction mv with
      | nil => exact Nat.le_refl _
      | cons m mv ih =>
        by_cases h3 : m.2.1 = k
        · by_cases h4 : m.1 = t
          · rw [List.filter_cons_of_pos (p := fun x : Mv => decide (x.2.1 = k ∧ x.1 ∈ t :: T)) (by exact decide_eq_true ⟨h3, by rw [h4]; exact List.mem_cons_self⟩), List.filter_cons_of_pos (p := fun m : Mv => decide (m.1 = t ∧ m.2.1 = k)) (by exact decide_eq_true ⟨h4, h3⟩), List.length_cons, List.length_cons]
            have : (mv.filter fun x : Mv => decide (x.2.1 = k ∧ x.1 ∈ T)).length ≤ ((m :: mv).filter fun x : Mv => decide (x.2.1 = k ∧ x.1 ∈ T)).length := (List.Sublist.filter _ (List.sublist_cons_self m mv)).length_le
            omega
          · by_cases h5 : m.1 ∈ T
            · rw [List.filter_cons_of_pos (p := fun x : Mv => decide (x.2.1 = k ∧ x.1 ∈ t :: T)) (by exact decide_eq_true ⟨h3, List.mem_cons_of_mem _ h5⟩), List.filter_cons_of_pos (p := fun x : Mv => decide (x.2.1 = k ∧ x.1 ∈ T)) (by exact decide_eq_true ⟨h3, h5⟩), List.length_cons, List.length_cons]
              have : (mv.filter fun m : Mv => decide (m.1 = t ∧ m.2.1 = k)).length ≤ ((m :: mv).filter fun m : Mv => decide (m.1 = t ∧ m.2.1 = k)).length := (List.Sublist.filter _ (List.sublist_cons_self m mv)).length_le
              omega
            · rw [List.filter_cons_of_neg (p := fun x : Mv => decide (x.2.1 = k ∧ x.1 ∈ t :: T)) (fun z => by
                rcases List.mem_cons.mp (of_decide_eq_true z).2 with e | e
                · exact h4 e
                · exact h5 e), List.filter_cons_of_neg (p := fun m : Mv => decide (m.1 = t ∧ m.2.1 = k)) (fun z => h4 (of_decide_eq_true z).1), List.filter_cons_of_neg (p := fun x : Mv => decide (x.2.1 = k ∧ x.1 ∈ T)) (fun z => h5 (of_decide_eq_true z).2)]
              exact ih
        · rw [List.filter_cons_of_neg (p := fun x : Mv => decide (x.2.1 = k ∧ x.1 ∈ t :: T)) (fun z => h3 (of_decide_eq_true z).1), List.filter_cons_of_neg (p := fun m : Mv => decide (m.1 = t ∧ m.2.1 = k)) (fun z => h3 (of_decide_eq_true z).2), List.filter_cons_of_neg (p := fun x : Mv => decide (x.2.1 = k ∧ x.1 ∈ T)) (fun z => h3 (of_decide_eq_true z).1)]
          exact ih
    have := h2 mv
    omega
theorem stp_row (b i : Nat) (row : List Nat) (k : Int) (x : Nat) : ∀ l, (stp ((List.range l).map fun c : Nat => ((b + i, (c : Int), b + row.getD c 0) : Mv)) k x).length ≤ (if x = b + i ∧ 0 ≤ k ∧ k < l then 1 else 0)
  | 0 => Nat.zero_le _
  | l + 1 => by
    rw [List.range_succ, List.map_append, stp_app, List.length_append]
    have h := stp_row b i row k x l
    have h2 : (stp [((b + i, (l : Int), b + row.getD l 0) : Mv)] k x).length ≤ if x = b + i ∧ k = l then 1 else 0 := by
      unfold stp
      rw [List.length_map]
      by_cases e : b + i = x ∧ (l : Int) = k
      · rw [if_pos ⟨e.1.symm, e.2.symm⟩]
        exact List.length_filter_le _ _
      · rw [List.filter_cons_of_neg (p := fun m : Mv => decide (m.1 = x ∧ m.2.1 = k)) (fun z => e (of_decide_eq_true z))]
        exact Nat.zero_le _
    rw [List.map_cons, List.map_nil]
    split at h <;> split at h2 <;> split <;> omega
theorem stp_mvO (R : List (List Nat)) (b : Nat) (k : Int) (x : Nat) : ∀ N, (stp ((List.range N).flatMap fun i => mvRow b i (rowOf R i)) k x).length ≤ (if b ≤ x ∧ x < b + N ∧ 0 ≤ k then 1 else 0)
  | 0 => Nat.zero_le _
  | N + 1 => by
    rw [List.range_succ, List.flatMap_append, stp_app, List.length_append, List.flatMap_cons, List.flatMap_nil, List.append_nil]
    have h := stp_mvO R b k x N
    have h2 := stp_row b N (rowOf R N) k x (rowOf R N).length
    unfold mvRow at h ⊢
    split at h <;> split at h2 <;> split <;> omega
theorem stp_silent (E : List Nat) (N x : Nat) (k : Int) : (stp (E.map fun s => ((s, (-1 : Int), N) : Mv)) k x).length ≤ if k = -1 then E.length else 0 := by
  by_cases h : k = -1
  · rw [if_pos h]
    exact Nat.le_trans (stp_len _ _ _) (by rw [List.length_map]; exact Nat.le_refl _)
  · rw [if_neg h]
    unfold stp
    rw [List.length_map, List.filter_eq_nil_iff.mpr]
    · exact Nat.le_refl _
    · intro m hm z
      obtain ⟨s, _, rfl⟩ := List.mem_map.mp hm
      exact h (of_decide_eq_true z).2.symm
theorem stp_mvJ (R : List (List Nat)) (E : List Nat) (R2 : List (List Nat)) (k : Int) (x : Nat) : (stp (mvJ R E R2) k x).length ≤ if k = -1 then E.length else 1 := by
  unfold mvJ mvO
  rw [stp_app, stp_app, List.length_append, List.length_append]
  have h1 := stp_mvO R 0 k x R.length
  have h2 := stp_mvO R2 R.length k x R2.length
  have h3 := stp_silent E R.length x k
  split at h1 <;> split at h2 <;> split at h3 <;> split <;> omega
theorem stp_mvS (R : List (List Nat)) (E : List Nat) (k : Int) (x : Nat) : (stp (mvS R E) k x).length ≤ if k = -1 then E.length + 1 else 1 := by
  unfold mvS mvO
  rw [stp_app, stp_app, List.length_append, List.length_append]
  have h1 := stp_mvO R 0 k x R.length
  have h3 := stp_silent E R.length x k
  have h4 := stp_silent [R.length] 0 x k
  rw [List.map_cons, List.map_nil, List.length_singleton] at h4
  split at h1 <;> split at h3 <;> split at h4 <;> split <;> omega
theorem flat_le {f : Nat → List Nat} {c : Nat} : ∀ T : List Nat, (∀ x, (f x).length ≤ c) → (T.flatMap f).length ≤ T.length * c
  | [], _ => Nat.zero_le _
  | t :: T, h => by
    rw [List.flatMap_cons, List.length_append, List.length_cons, Nat.succ_mul]
    have h1 := flat_le T h
    have h2 := h t
    omega
theorem stp_mvJk (R : List (List Nat)) (E : List Nat) (R2 : List (List Nat)) (k : Nat) (x : Nat) : (stp (mvJ R E R2) (k : Int) x).length ≤ 1 := by
  have := stp_mvJ R E R2 (k : Int) x
  rwa [if_neg (by omega)] at this
theorem stp_mvSk (R : List (List Nat)) (E : List Nat) (k : Nat) (x : Nat) : (stp (mvS R E) (k : Int) x).length ≤ 1 := by
  have := stp_mvS R E (k : Int) x
  rwa [if_neg (by omega)] at this
end Rg

/-! Plain mathematics: words of at most so many places, grown one behind another -/
namespace Mach
def wts (m : Nat) (ws : List (List Nat)) : Nat := (ws.map fun w => 6 ^ (m + 1 - w.length)).sum
theorem wts_append (m : Nat) (a b : List (List Nat)) : wts m (a ++ b) = wts m a + wts m b := by
  unfold wts
  rw [List.map_append, List.sum_append]
theorem wts_cons (m : Nat) (x : List Nat) (b : List (List Nat)) : wts m (x :: b) = 6 ^ (m + 1 - x.length) + wts m b := by
  unfold wts
  rw [List.map_cons, List.sum_cons]
theorem wts_len (m : Nat) : ∀ ws : List (List Nat), ws.length ≤ wts m ws
  | [] => Nat.zero_le _
  | x :: ws => by
    rw [wts_cons, List.length_cons]
    have h1 := wts_len m ws
    have h2 : 0 < 6 ^ (m + 1 - x.length) := Nat.pow_pos (by decide)
    omega
structure GrowAt (n m : Nat) (ws : List (List Nat)) (i : Nat) : Prop where
  lt : i < ws.length
  ok : ∀ w ∈ ws, Wd n w ∧ w.length ≤ m
  le : i + wts m (ws.drop i) ≤ 6 ^ (m + 1)
theorem grow_start (n m : Nat) : GrowAt n m [[]] 0 := by
  refine ⟨by decide, fun w hw => ?_, ?_⟩
  · rw [List.mem_singleton] at hw
    rw [hw]
    exact ⟨fun k hk => (nomatch hk), Nat.zero_le _⟩
  · show 0 + wts m [[]] ≤ _
    rw [wts_cons]
    show 0 + (6 ^ (m + 1 - 0) + 0) ≤ _
    simp
theorem wts_more (m : Nat) (x : List Nat) : ∀ n : Nat, wts m ((List.range n).map fun c => x ++ [c]) = n * 6 ^ (m + 1 - (x.length + 1))
  | 0 => by simp [wts]
  | n + 1 => by
    rw [List.range_succ, List.map_append, wts_append, wts_more m x n, List.map_cons, List.map_nil, wts_cons, List.length_append, List.length_singleton, Nat.succ_mul]
    rfl
variable {n m i : Nat} {ws : List (List Nat)} {x : List Nat}
theorem GrowAt.len (h : GrowAt n m ws i) : ws.length ≤ 6 ^ (m + 1) := by
  have h1 := wts_len m (ws.drop i)
  rw [List.length_drop] at h1
  have h2 := h.le
  have h3 := h.lt
  omega
theorem grow_step (hn1 : 1 ≤ n) (hn : n ≤ 4) (h : GrowAt n m ws i) (hx : ws[i]? = some x) (hl : x.length < m) :
    GrowAt n m (ws ++ (List.range n).map fun c => x ++ [c]) (i + 1) ∧ wts m ((ws ++ (List.range n).map fun c => x ++ [c]).drop (i + 1)) < wts m (ws.drop i) := by
  have hi := h.lt
  have hd : ws.drop i = x :: ws.drop (i + 1) := by
    rw [List.drop_eq_getElem_cons hi]
    have : ws[i] = x := by
      rw [List.getElem?_eq_getElem hi] at hx
      exact Option.some.inj hx
    rw [this]
  have hlt : wts m ((ws ++ (List.range n).map fun c => x ++ [c]).drop (i + 1)) < wts m (ws.drop i) := by
    rw [List.drop_append_of_le_length (by omega), wts_append, wts_more, hd, wts_cons]
    have e : m + 1 - x.length = (m + 1 - (x.length + 1)) + 1 := by omega
    rw [e, Nat.pow_succ]
    have hp : 0 < 6 ^ (m + 1 - (x.length + 1)) := Nat.pow_pos (by decide)
    have h4 : n * 6 ^ (m + 1 - (x.length + 1)) ≤ 4 * 6 ^ (m + 1 - (x.length + 1)) := Nat.mul_le_mul_right _ hn
    omega
  refine ⟨⟨?_, fun w hw => ?_, ?_⟩, hlt⟩
  · rw [List.length_append, List.length_map, List.length_range]
    omega
  · rcases List.mem_append.mp hw with z | z
    · exact h.ok w z
    · obtain ⟨c, hc, rfl⟩ := List.mem_map.mp z
      obtain ⟨hW, _⟩ := h.ok x (List.mem_of_getElem? hx)
      refine ⟨fun k hk => ?_, by rw [List.length_append, List.length_singleton]; omega⟩
      rcases List.mem_append.mp hk with y | y
      · exact hW k y
      · rw [List.mem_singleton] at y
        rw [y]
        exact List.mem_range.mp hc
  · have := h.le
    omega
end Mach

/-! more rules: o.f as a target, zip of two texts -/
namespace Rg
open PySem PySem.Spec PyProof.Rows L2
/-! ### o.f among several targets -/
def gFld (K : PySem.W.Frag) (to : TE) (f : Str) : TG := fun v σ H Q => to σ H fun x H2 => ∃ a C dx fs, x = .ref a ∧ H2 a = some (.ins C dx fs) ∧ Cls K C ∧ NoAttr K C f ∧ fs.length < 1000 ∧ Q σ (upd H2 a (.ins C dx (putF f v fs)))
section
variable {X : Cx} {o : Expr} {f : Str} {pos : Pos} {to : TE}
theorem pg_fld (ho : PE X o to) : PG X (.Attribute o f pos) (gFld X.K to f) := by
  refine ⟨fun pins s σ H v u Q I r h => ?_⟩
  rw [assign_Attribute]
  refine wpAny_bind (wpAny_holding (thn (ho.run pins s σ H _ I h) fun ov s1 ⟨x, H1, I1, r1, a, C, dx, fs, ex, ea, c, n, l, q⟩ => ?_))
  subst ex
  obtain rfl : ov = Value.ref a := r1
  refine wpAny_bind (wpAny_standAt (wpAny_bind (wpAny_holding ?_)))
  exact setattr_ok I1 ea c n l r fun s3 I3 => wpAny_release ⟨σ, _, I3, q⟩
end
/-! ### zip(text, text) -/
/-- the signs of two texts, in new pairs -/
def ItzS (x y : Str) : It :=
  ⟨fun i _ => i < x.cps.size ∧ i < y.cps.size,
    fun i H v H' => ∃ T c d, v = .ref T ∧ H T = none ∧ H' = upd H T (.tup [.str ⟨#[c]⟩, .str ⟨#[d]⟩]) ∧ x.cps[i]? = some c ∧ y.cps[i]? = some d,
    fun i _ => (i = x.cps.size ∧ i ≤ y.cps.size) ∨ (i ≤ x.cps.size ∧ i = y.cps.size)⟩
theorem turn_zipS {P : Program} {w : World} {K : PySem.W.Frag} {elts : List Expr} {kk : Nat} {tpos : Pos} {x y : Str} {tx ty : Tok} {z TI TO i1 i2 : Addr} (S : ZipSep2 z TI TO i1 i2 [i1] [i2]) :
    Turn P w K (.Tuple elts kk tpos) (ItzS x y) [z, TI, TO, i1, i2] z (fun i h => IsZip h z TI TO .none ∧ IsTupOf2 h TI (.ref i1) (.ref i2) ∧ (∃ x y, IsTupOf2 h TO x y) ∧ h.IsStrIter i1 (strIterType x) x tx i ∧ h.IsStrIter i2 (strIterType y) y ty i) where
  mem := by simp
  obj := fun i h st c hc => by
    obtain ⟨hz, hTI, ⟨x, y, hTO⟩, ⟨o1, e1, _, d1⟩, ⟨o2, e2, _, d2⟩⟩ := st
    have e' : c = z ∨ c = TI ∨ c = TO ∨ c = i1 ∨ c = i2 := by simpa using hc
    rcases e' with q | q | q | q | q
    · rw [q]; exact ⟨_, hz, fun v q => nomatch q⟩
    · rw [q]; exact ⟨_, hTI, fun v q => nomatch q⟩
    · rw [q]; exact ⟨_, hTO, fun v q => nomatch q⟩
    · rw [q]; exact ⟨o1, e1, fun v q => by rw [d1] at q; cases q⟩
    · rw [q]; exact ⟨o2, e2, fun v q => by rw [d2] at q; cases q⟩
  keep := fun i h h' st k => by
    obtain ⟨hz, hTI, ⟨x, y, hTO⟩, ⟨o1, e1, r1⟩, ⟨o2, e2, r2⟩⟩ := st
    exact ⟨k z (by simp) _ hz, k TI (by simp) _ hTI, ⟨x, y, k TO (by simp) _ hTO⟩, ⟨o1, k i1 (by simp) o1 e1, r1⟩, ⟨o2, k i2 (by simp) o2 e2, r2⟩⟩
  item := by
    intro X hP hw hK hc i pins s σ H E I hf st hg
    subst hP hw hK
    obtain ⟨hz, hTI, ⟨x0, y0, hTO⟩, h1, h2⟩ := st
    have hh := I.ok.hd hc
    have hzl : z < s.heap.objs.size := Heap.lt_size hz
    refine wpAny_pyNext_zipD2_item S (Draws.text (A := X.A.in1) hh i1 x tx) (Draws.text (A := X.A.in1) hh i2 y ty) hz hTI hTO h1 h2 hg.1 hg.2 fun u u2 h' tk y1 y2 z' TO' h1' h2' hT hsz hk => ?_
    obtain ⟨c, t1, hc1, rfl⟩ := y1
    obtain ⟨d, t2, hd1, rfl⟩ := y2
    refine ⟨_, rfl, wpAny_letOwnedTupleGo_zip (s := { s with heap := h', toks := tk }) z' fun h'' z'' sb => ?_⟩
    have hT2 : h''.get? s.heap.objs.size = some { cls := .type "tuple", data := .seq #[.str ⟨#[c]⟩ t1, .str ⟨#[d]⟩ t2] } := (sb.2 _ (Nat.ne_of_gt hzl)).trans hT
    have new : ObjOk X.prog X.w (upd H s.heap.objs.size (.tup [.str ⟨#[c]⟩, .str ⟨#[d]⟩])) h'' s.heap.objs.size (.tup [.str ⟨#[c]⟩, .str ⟨#[d]⟩]) :=
      ⟨by show 2 ≤ sizeLine; decide, [.str ⟨#[c]⟩ t1, .str ⟨#[d]⟩ t2], .cons ⟨_, rfl⟩ (.cons ⟨_, rfl⟩ .nil), ⟨_, hT2, rfl, _, rfl⟩⟩
    have I1 : Inv X pins σ (upd H s.heap.objs.size (.tup [.str ⟨#[c]⟩, .str ⟨#[d]⟩])) { s with heap := h'', toks := tk } :=
      I.turnedNew (t' := tk) (ch := [z, TI, TO, i1, i2]) (fun c o hb q => (sb.2 c (fun q' => hb (by simp [q']))).trans (hk c o (fun q' => hb (by simp [q'])) (fun q' => hb (by simp [q'])) (fun q' => hb (by simp [q'])) (fun q' => hb (by simp [q'])) q)) hf (Nat.le_refl _) new
    obtain ⟨o1, e1, r1⟩ := h1'
    obtain ⟨o2, e2, r2⟩ := h2'
    refine ⟨.ref s.heap.objs.size, _, I1, rfl, ⟨_, c, d, rfl, I.hok.fresh (Nat.le_refl _), rfl, hc1, hd1⟩, ⟨z'', ?_, ⟨.str ⟨#[c]⟩ t1, .str ⟨#[d]⟩ t2, ?_⟩, ⟨o1, ?_, r1⟩, ⟨o2, ?_, r2⟩⟩, fun c hcm => ?_⟩
    · exact (sb.2 _ S.TIz).trans (hk _ _ S.TIz S.TITO S.TIi1 S.TIi2 hTI)
    · exact (sb.2 _ S.TOz).trans TO'
    · exact (sb.2 _ S.zi1.symm).trans e1
    · exact (sb.2 _ S.zi2.symm).trans e2
    · have hlt : c < s.heap.objs.size := by
        have e' : c = z ∨ c = TI ∨ c = TO ∨ c = i1 ∨ c = i2 := by simpa using hcm
        rcases e' with q | q | q | q | q
        · rw [q]; exact hzl
        · rw [q]; exact Heap.lt_size hTI
        · rw [q]; exact Heap.lt_size hTO
        · rw [q]; obtain ⟨_, e1, _⟩ := h1; exact Heap.lt_size e1
        · rw [q]; obtain ⟨_, e2, _⟩ := h2; exact Heap.lt_size e2
      rw [upd_ne (Nat.ne_of_lt hlt)]
      exact (hf c hcm).1
  done := by
    intro X hP hw hK hc i pins s σ H E I hf st hg
    subst hP hw hK
    obtain ⟨hz, hTI, ⟨x0, y0, hTO⟩, h1, h2⟩ := st
    have hh := I.ok.hd hc
    have hle : i ≤ x.cps.size ∧ i ≤ y.cps.size ∧ (i = x.cps.size ∨ i = y.cps.size) := by
      rcases hg with ⟨q1, q2⟩ | ⟨q1, q2⟩
      · exact ⟨Nat.le_of_eq q1, q2, .inl q1⟩
      · exact ⟨q1, Nat.le_of_eq q2, .inr q2⟩
    exact wpAny_pyNext_zipD2_end S (Draws.text (A := X.A.in1) hh i1 x tx) (Draws.text (A := X.A.in1) hh i2 y ty) hz hTI hTO h1 h2 hle.1 hle.2.1 hle.2.2 fun h' tk hk => ⟨rfl, I.turnedL (t' := tk) (ch := [z, TI, TO, i1, i2]) (fun c o hb q =>
      hk c o (fun q' => hb (by simp [q'])) (fun q' => hb (by simp [q'])) (fun q' => hb (by simp [q'])) (fun q' => hb (by simp [q'])) q) hf⟩
  self := fun A i s Q E st h => wpAny_pyIter_zip st.1 h
def iZipS (ta : TA) : TI := fun σ H R => ta σ H fun vs H1 => ∃ x y, vs = [.str x, .str y] ∧ R (ItzS x y) H1
theorem pi_zipS {X : Cx} {e e2 : Expr} {ta : TA} {p pos tpos : Pos} {elts : List Expr} {kk : Nat} (hg : Gl X "zip") (hm : X.mg "zip" = none) (ha : PA X [e, e2] ta)
    (hs : starEach [e, e2] X.env = (false, eval e X.env) :: starEach [e2] X.env := by rfl) (hpl : (backTo pos (starEach [e2] X.env)).any (·.1) = false := by rfl) :
    PI X (.Tuple elts kk tpos) (.Call (.Name "zip" p) [e, e2] [] pos) (iZipS ta) := by
  refine ⟨fun pins s σ H R I h => ?_⟩
  refine Call_ (ld_blt I hg hm PyProof.Rows.boot_zip (PyProof.Rows.callWith_type1 (thn (ha.run pos pins s σ H _ I h) fun us s1 ⟨vs, H1, I1, r1, q1⟩ => ?_) hs hpl))
  obtain ⟨x, y, ex, q⟩ := q1
  subst ex
  obtain ⟨u1, u2, rfl, ⟨t1, rfl⟩, ⟨t2, rfl⟩⟩ := vals2 r1
  refine zip_begins2 (begins_text x t1) (begins_text y t2) trivial trivial fun h' hz hTI hTO h1 h2 hsz hk => wpAny_pyIter_zip hz ?_
  have I2 : Inv X pins σ H1 { s1 with heap := h' } := I1.kept (t' := s1.toks) hk
  refine ⟨s1.heap.objs.size + 4, [s1.heap.objs.size + 4, s1.heap.objs.size + 2, s1.heap.objs.size + 3, s1.heap.objs.size, s1.heap.objs.size + 1], _, _, H1, rfl, I2, turn_zipS (x := x) (y := y) (tx := t1) (ty := t2) (zip_sep2 (N := s1.heap.objs.size) (fp1 := []) (fp2 := []) (fun b hb => nomatch hb) (fun b hb => nomatch hb)), ⟨hz, hTI, ⟨_, _, hTO⟩, ⟨_, h1, rfl, rfl⟩, ⟨_, h2, rfl, rfl⟩⟩, fun c hcm => ?_, q⟩
  have e' : c = s1.heap.objs.size + 4 ∨ c = s1.heap.objs.size + 2 ∨ c = s1.heap.objs.size + 3 ∨ c = s1.heap.objs.size ∨ c = s1.heap.objs.size + 1 := by simpa using hcm
  have hle : s1.heap.objs.size ≤ c := by
    rcases e' with z | z | z | z | z
    · rw [z]; exact Nat.le_add_right _ _
    · rw [z]; exact Nat.le_add_right _ _
    · rw [z]; exact Nat.le_add_right _ _
    · rw [z]; exact Nat.le_refl _
    · rw [z]; exact Nat.le_add_right _ _
  exact I1.fpOk hle (I1.hok.fresh hle)
end Rg

/-! == and != by an own __eq__ -/
namespace Rg
open PySem PySem.Spec PyProof.Rows L2
theorem ne_bind (self : Value) : bindSpecial (.builtin "object.__ne__") self = pure (.builtin "object.__ne__", [self]) :=
  (Slot.of (T := "object") (name := "__ne__") (owner := "object") (n := "__ne__") (by rw [typeLookup_type, builtinLookup_eq_fast]; kernel_rfl) (by decide +kernel) (by decide +kernel) (by decide +kernel)
    (.inl (by decide +kernel)) (by rw [isSubtype_type]; kernel_rfl)).bind self
theorem ne_plain : plainId "object.__ne__" = true := by decide +kernel
section
variable {prog : Program} {w : World} {A : Around} {E : Value → Shared → Prop} {s : Shared} {K : PySem.W.Frag} {x C L f : Addr} {h₀ : Heap} {m : Str → Option Value} {ox : Obj} {od : Option Obj} {b tb : Value}
theorem ifBound_ne {M : Model} {args : List Value} {Q : Option Value → Shared → Prop} (X : K.In s.heap) (I : PySem.W.InstAt s.heap x ox C od) (hs : PySem.W.findIn K (.ref C) "__ne__" = some (some (.builtin "object.__ne__")))
    (h : wpAny M A (call (.builtin "object.__ne__") (.ref x :: args)) (fun v => Q (some v)) E s) : wpAny M A (callSpecialIfBound? (.ref x) "__ne__" args) Q E s := by
  simp only [callSpecialIfBound?, bindSpecialIfBound?]
  refine wpAny_holding (wpAny_bind (wpAny_bind (wpAny_bind (I.type.here ((PySem.W.looks_findIn X hs).here ?_)))))
  simp only [ne_bind]
  refine wpAny_bind (wpAny_askSetting (wpAny_ite ?_))
  have fin : wpAny M A (call (.builtin "object.__ne__") ([.ref x] ++ args) >>= fun v => pure (some v)) Q E s := wpAny_bind (wpAny_mono h (fun v s' h' => wpAny_pure h') fun _ _ h' => h')
  split
  · exact wpAny_bind (wpAny_pure (wpAny_pure fin))
  · exact wpAny_tryCatch (wpAny_bind (wpAny_pure (wpAny_pure fin)))
theorem objNe_K (hu : A.units < cLine) (X : K.In s.heap) (I : PySem.W.InstAt s.heap x ox C od) (hs : PySem.W.findIn K (.ref C) "__eq__" = some (some (.ref f))) (hf : PySem.W.isFn K (.ref f) = true) {Q : Fin → Shared → Prop}
    (hcall : wpAny (model prog w) A (call (.ref f) [.ref x, b]) (fun v s' => ∃ k, v = .bool k ∧ Q (.done (.ret (.bool (!k)))) s') E s) :
    wpAny (model prog w) A (Builtin.«object.__ne__» ⟨[.ref x, b], []⟩) Q E s := by
  unfold Builtin.«object.__ne__»
  repeat (first
    | with_reducible refine wpAny_cRoomFor hu ?_
    | (refine wpAny_bind (m := callSpecialIfBound? (.ref x) (Str.ofString "__eq__") [b])
        (PySem.W.ifBound_K X I hs hf (wpAny_mono hcall (fun r s' hr => by
          obtain ⟨b, rfl, hq⟩ := hr
          repeat (first | exact hq | exact wpAny_pure hq | exact wpAny_truthy_bool hq | (refine wpAny_bind (m := truthy (.bool _)) (wpAny_truthy_bool ?_)) | wp_step)) fun _ _ e => e)))
    | wp_step)
theorem ne_K {Q : Value → Shared → Prop} (hu : A.units + 1 < cLine) (F : PyProof.Rows.Fr h₀ L s.heap m) (X₀ : K.In h₀) (I : PySem.W.InstAt s.heap x ox C od) (hb : PySem.W.Looks (model prog w) s.heap (typeOf b) tb) (hn : PySem.W.notFirst K C tb = true)
    (hmo : PySem.W.mroIn K C (.type "object") = some true) (hne : PySem.W.findIn K (.ref C) "__ne__" = some (some (.builtin "object.__ne__"))) (hs : PySem.W.findIn K (.ref C) "__eq__" = some (some (.ref f))) (hf : PySem.W.isFn K (.ref f) = true)
    (h : wpAny (model prog w) A.in1 (call (.ref f) [.ref x, b]) (fun v s' => ∃ k, v = .bool k ∧ Q (.bool (!k)) s') E s) : wpAny (model prog w) A (richCompare .NotEq (.ref x) b) Q E s := by
  have X := X₀.keeps F.keep
  have hi : PySem.W.Looks (model prog w) s.heap (isInstance (.ref x) (.type "object")) true := I.type.andThen (PySem.W.looks_mroIn X hmo)
  have one : wpAny (model prog w) A (tryCompare (.ref x) "__ne__" b) (fun r s' => ∃ v, r = some v ∧ Q v s') E s := by
    unfold tryCompare
    refine wpAny_bind (ifBound_ne X I hne (wpAny_call (codeAny_call_builtin ne_plain PySem.F.cmpEntry_ne (PySem.W.check_slot PySem.F.cmpKind_ne PySem.F.cmpSplit_ne hi (PySem.F.cmpArgs_ne _ _) (objNe_K (A := A.in1) hu X I hs hf (wpAny_mono h (fun v s' hv => ?_) fun _ _ e => e))))))
    obtain ⟨k, rfl, hq⟩ := hv
    exact ⟨k, rfl, wpAny_pure ⟨_, rfl, hq⟩⟩
  unfold richCompare
  simp only [oneThing_ref]
  refine wpAny_holding (wpAny_bind (wpAny_cRoomFor (Nat.lt_of_succ_lt hu) ?_))
  rw [cmpInfo_NotEq]
  dsimp only
  refine wpAny_bind (I.type.here (wpAny_bind (hb.here ?_)))
  split
  · rename_i q
    have e : PySem.W.subIn K tb (.ref C) = some false := by
      rcases Bool.or_eq_true_iff.mp hn with e | e
      · rw [beq_iff_eq.mp e] at q; simp at q
      · exact beq_iff_eq.mp e
    refine wpAny_bind ((PySem.W.looks_subIn X e).here ?_)
    simp only [Bool.false_eq_true, if_false]
    refine wpAny_bind (wpAny_mono one (fun r s' z => ?_) fun _ _ e => e)
    obtain ⟨v, rfl, hq⟩ := z
    exact wpAny_pure hq
  · refine wpAny_bind (wpAny_pure ?_)
    simp only [Bool.false_eq_true, if_false]
    refine wpAny_bind (wpAny_mono one (fun r s' z => ?_) fun _ _ e => e)
    obtain ⟨v, rfl, hq⟩ := z
    exact wpAny_pure hq
/-- a == x, a of a built-in type that declines, x an own instance with an own __eq__ -/
theorem eqR_K {a : Value} {T id : String} {B : Builtin} {Q : Value → Shared → Prop} (hu : A.units < cLine) (X : K.In s.heap) (I : PySem.W.InstAt s.heap x ox C od) (hT : s.TypeIs a T) (S : Slot T "__eq__" id) (hb : entryFor table id = some B) (ha : argsOk id ⟨[a, .ref x], []⟩)
    (hB : wpAny (model prog w) A.in1 (B ⟨[a, .ref x], []⟩) (fun fin s' => fin = .done (.ret .notImplemented) ∧ s' = s) E s) (h1 : oneThing? .Eq a (.ref x) = none)
    (hsub : PySem.W.subIn K (.ref C) (.type T) = some false) (hs : PySem.W.findIn K (.ref C) "__eq__" = some (some (.ref f))) (hf : PySem.W.isFn K (.ref f) = true)
    (h : wpAny (model prog w) A (call (.ref f) [.ref x, a]) (PySem.W.CmpBack Q) E s) : wpAny (model prog w) A (richCompare .Eq a (.ref x)) Q E s := by
  have one : wpAny (model prog w) A (tryCompare (.ref x) "__eq__" a) (fun r s' => ∃ v, r = some v ∧ Q v s') E s := by
    unfold tryCompare
    refine wpAny_bind (PySem.W.ifBound_K X I hs hf (wpAny_mono h (fun v s' hv => ?_) fun _ _ e => e))
    cases v <;> first | exact hv.elim | exact wpAny_pure ⟨_, rfl, hv⟩
  have zero : wpAny (model prog w) A (tryCompare a "__eq__" (.ref x)) (fun r s' => r = none ∧ s' = s) E s := by
    unfold tryCompare
    refine wpAny_bind (wpAny_callSpecialIfBound?_slot hT S (wpAny_call_entry S hT hb (wpAny_mono hB (fun fin s' hv => ?_) fun _ _ e => e) ha))
    obtain ⟨rfl, rfl⟩ := hv
    exact ⟨_, rfl, wpAny_pure ⟨rfl, rfl⟩⟩
  have hne : (Value.type T != Value.ref C) = true := bne_iff_ne.mpr fun e => nomatch e
  unfold richCompare
  simp only [h1]
  refine wpAny_holding (wpAny_bind (wpAny_cRoomFor hu ?_))
  rw [cmpInfo_Eq]
  dsimp only
  refine wpAny_bind (wpAny_typeOf hT (wpAny_bind (I.type.here ?_)))
  rw [hne, if_pos rfl]
  refine wpAny_bind ((PySem.W.looks_subIn X hsub).here ?_)
  simp only [Bool.false_eq_true, if_false]
  refine wpAny_bind (wpAny_mono zero (fun r s' z => ?_) fun _ _ e => e)
  obtain ⟨rfl, rfl⟩ := z
  simp only [Bool.not_false, if_true]
  refine wpAny_bind (wpAny_mono one (fun r s' z => ?_) fun _ _ e => e)
  obtain ⟨v, rfl, hq⟩ := z
  exact wpAny_pure hq
theorem eqd_none {A' : Around} : wpAny (model prog w) A' (Builtin.«NoneType.__eq__» ⟨[.none, .ref x], []⟩) (fun fin s' => fin = .done (.ret .notImplemented) ∧ s' = s) E s := by
  show wpAny _ _ (ret .notImplemented) _ _ _
  exact wpAny_pure ⟨rfl, rfl⟩
theorem eqd_int {A' : Around} {i : Int} {t : Tok} {dx : Addr} (hx : s.heap.get? x = some (PySem.W.instObj C dx)) : wpAny (model prog w) A' (Builtin.«int.__eq__» ⟨[.int i t, .ref x], []⟩) (fun fin s' => fin = .done (.ret .notImplemented) ∧ s' = s) E s := by
  show wpAny _ _ (asInt? (.ref x) >>= _) _ _ _
  refine wpAny_bind ?_
  show wpAny _ _ (load x >>= _) _ _ _
  refine wpAny_bind (wpAny_load hx ?_)
  exact wpAny_pure (wpAny_bind (wpAny_rule (wpAny_pure ⟨rfl, rfl⟩)))
theorem eqd_str {A' : Around} {z : Str} {t : Tok} {dx : Addr} (hx : s.heap.get? x = some (PySem.W.instObj C dx)) : wpAny (model prog w) A' (Builtin.«str.__eq__» ⟨[.str z t, .ref x], []⟩) (fun fin s' => fin = .done (.ret .notImplemented) ∧ s' = s) E s := by
  show wpAny _ _ (asStr? (.ref x) >>= _) _ _ _
  refine wpAny_bind ?_
  show wpAny _ _ (load x >>= _) _ _ _
  refine wpAny_bind (wpAny_load hx ?_)
  exact wpAny_pure (wpAny_bind (wpAny_rule (wpAny_pure ⟨rfl, rfl⟩)))
theorem eqd_list {A' : Around} {l : Addr} (hi : PySem.W.Looks (model prog w) s.heap (isInstance (.ref x) (.type "list")) false) : wpAny (model prog w) A' (Builtin.«list.__eq__» ⟨[.ref l, .ref x], []⟩) (fun fin s' => fin = .done (.ret .notImplemented) ∧ s' = s) E s := by
  show wpAny _ _ (isInstance (.ref x) (.type "list") >>= _) _ _ _
  refine wpAny_bind (hi.here ?_)
  exact wpAny_pure ⟨rfl, rfl⟩
theorem eqd_tuple {A' : Around} {l : Addr} (hi : PySem.W.Looks (model prog w) s.heap (isInstance (.ref x) (.type "tuple")) false) : wpAny (model prog w) A' (Builtin.«tuple.__eq__» ⟨[.ref l, .ref x], []⟩) (fun fin s' => fin = .done (.ret .notImplemented) ∧ s' = s) E s := by
  show wpAny _ _ (isInstance (.ref x) (.type "tuple") >>= _) _ _ _
  refine wpAny_bind (hi.here ?_)
  exact wpAny_pure ⟨rfl, rfl⟩
end
end Rg

/-! rules: own ==, !=, repr, in, |, ~ of instances -/
namespace Rg
open PySem PySem.Spec PyProof.Rows L2
theorem kit_no {K : PySem.W.Frag} {C : Addr} {T : String} (ic : PySem.W.isClsIn K C = true) (tC : PySem.W.typeIn K (.ref C) = some (.type "type")) (q : PySem.W.subIn K (.type T) (.ref C) = some false) : PySem.W.kitOne K (.type T) (.ref C) = some false := by
  unfold PySem.W.kitOne
  have hne : ¬ (Value.type T == Value.ref C) = true := fun e => by cases beq_iff_eq.mp e
  rw [if_neg hne]
  unfold PySem.W.kitCls
  show (if ((PySem.W.clsIn K C).isSome && PySem.W.typeIn K (.ref C) == some (.type "type")) = true then PySem.W.subIn K (.type T) (.ref C) else none) = _
  rw [if_pos, q]
  rw [Bool.and_eq_true]
  exact ⟨ic, by rw [tC]; simp⟩
theorem kit_self {K : PySem.W.Frag} {C : Addr} : PySem.W.kitOne K (.ref C) (.ref C) = some true := by
  unfold PySem.W.kitOne
  rw [if_pos (beq_self_eq_true _)]
/-- what == and != ask of a class whose def __eq__ stands at f -/
structure EqCls (K : PySem.W.Frag) (C f : Addr) : Prop where
  eq : PySem.W.findIn K (.ref C) "__eq__" = some (some (.ref f))
  fn : PySem.W.isFn K (.ref f) = true
  ne : PySem.W.findIn K (.ref C) "__ne__" = some (some (.builtin "object.__ne__"))
  mo : PySem.W.mroIn K C (.type "object") = some true
  sN : PySem.W.subIn K (.ref C) (.type "NoneType") = some false
  sI : PySem.W.subIn K (.ref C) (.type "int") = some false
  sS : PySem.W.subIn K (.ref C) (.type "str") = some false
  sL : PySem.W.subIn K (.ref C) (.type "list") = some false
  sT : PySem.W.subIn K (.ref C) (.type "tuple") = some false
section
variable {X : Cx} {CX : CXT} {k : Nat} {C f : Addr} {fd : FuncData} {ps : List Str} {sp : Sp} {dvs : List V} {ds : List Value} {E : XK}
theorem run_in1 {pins : List (Addr × Obj)} {σ : L2.St} {H : Hp} {s : Shared} {Q : VK} {us : List Value} {vs : List V} (F : FnOk X.prog X.w X.K X.mg X.base CX k f fd ps sp) (hr : Room (k + 1) X.A) (hb : Binds X.K fd ps ds) (hd : Vals dvs ds) (hx : Passes CX X E)
    (I : Inv X pins σ H s) (r : Vals vs us) (h : sp (vs ++ dvs) H Q E) : wpAny (model X.prog X.w) X.A.in1 (call (.ref f) us) (EP X pins σ Q) X.xe s := by
  have r2 : Vals (vs ++ dvs) (us ++ ds) := r.append hd
  have hl : (us ++ ds).length = ps.length := by rw [← r2.length]; exact F.len _ _ _ _ h
  refine wpAny_call (codeAny_mono (F.run X.A.in1 X.stack s H ⟨us, []⟩ (us ++ ds) (vs ++ dvs) Q E hr.in1 I.env0.in1 (hb s us I.kIn hl) r2 h) fun r s' hq => ?_)
  cases r with
  | error e => exact hx pins σ H s e s' I hq
  | ok fl =>
    cases fl with
    | ret u => exact I.after hq
    | next => exact hq.elim
    | brk => exact hq.elim
    | cont => exact hq.elim
theorem run_in1G {pins : List (Addr × Obj)} {σ : L2.St} {H : Hp} {s : Shared} {Q : VK} {us : List Value} {vs : List V} (F : GFn X.prog X.w X.K X.mg X.base CX k f fd ps sp) (hr : Room (k + 1) X.A) (hg : X.A.guards = some []) (hb : Binds X.K fd ps ds) (hd : Vals dvs ds) (hx : Passes CX X E)
    (I : Inv X pins σ H s) (r : Vals vs us) (h : sp (vs ++ dvs) H Q E) : wpAny (model X.prog X.w) X.A.in1 (call (.ref f) us) (EP X pins σ Q) X.xe s := by
  have r2 : Vals (vs ++ dvs) (us ++ ds) := r.append hd
  have hl : (us ++ ds).length = ps.length := by rw [← r2.length]; exact F.len _ _ _ _ h
  refine wpAny_call (codeAny_mono (F.run X.A.in1 X.stack s H ⟨us, []⟩ (us ++ ds) (vs ++ dvs) Q E hr.in1 hg I.env0.in1 (hb s us I.kIn hl) r2 h) fun r s' hq => ?_)
  cases r with
  | error e => exact hx pins σ H s e s' I hq
  | ok fl =>
    cases fl with
    | ret u => exact I.after hq
    | next => exact hq.elim
    | brk => exact hq.elim
    | cont => exact hq.elim
theorem cmpback' {P : Value → Shared → Prop} {z : V} {v : Value} {s' : Shared} (r : RelV z v) (h : P v s') : PySem.W.CmpBack P v s' := by
  cases z with
  | non => cases (show v = Value.none from r); exact h
  | bl b => cases (show v = Value.bool b from r); exact h
  | int i =>
    obtain ⟨t, e⟩ := (show ∃ t, v = Value.int i t from r)
    cases e
    exact h
  | str x =>
    obtain ⟨t, e⟩ := (show ∃ t, v = Value.str x t from r)
    cases e
    exact h
  | byt b =>
    obtain ⟨t, e⟩ := (show ∃ t, v = Value.bytes b t from r)
    cases e
    exact h
  | flt b =>
    obtain ⟨t, e⟩ := (show ∃ t, v = Value.float b t from r)
    cases e
    exact h
  | ref a => cases (show v = Value.ref a from r); exact h
  | ty n => cases (show v = Value.type n from r); exact h
/-- x == y, x an instance of the class at C -/
def rEqOwn (K : PySem.W.Frag) (C : Addr) (sp : Sp) (dvs : List V) (E : XK) : R2 := fun x y H Q => ∃ a dx fs t, x = .ref a ∧ H a = some (.ins C dx fs) ∧ TyX K H y t ∧ PySem.W.notFirst K C t = true ∧ sp ([x, y] ++ dvs) H Q E
theorem op_eqOwn (e : EqCls X.K C f) (F : FnOk X.prog X.w X.K X.mg X.base CX k f fd ps sp) (hr : Room k X.A) (hb : Binds X.K fd ps ds) (hd : Vals dvs ds) (hx : Passes CX X E) : OpR X (compareOp .Eq) (rEqOwn X.K C sp dvs E) := by
  intro pins s σ H x y v u Q I rx ry h
  obtain ⟨a, dx, fs, t, rfl, ha, ty, hn, q⟩ := h
  cases (show v = Value.ref a from rx)
  obtain ⟨mA, O, _⟩ := ins_get I.hok ha
  obtain ⟨od, J, _⟩ := O.look
  obtain ⟨m, hF⟩ := I.fr
  obtain ⟨P, Z, p, _⟩ := kit_of I ry ty
  show wpAny _ _ (richCompare .Eq (.ref a) u) _ _ _
  refine PySem.W.cmp_K (op := .Eq) (tb := t) hr.units0 hF I.ok.mod.kin J (Z.ty _ _ I.kIn p) hn e.eq e.fn ?_
  refine wpAny_mono (run_fn (us := [.ref a, u]) (vs := [.ref a, y]) F hr hb hd hx I (.cons rfl (.cons ry .nil)) q) (fun w s' z => ?_) fun _ _ x => x
  obtain ⟨z', H', I', rz, qz⟩ := z
  exact cmpback' rz ⟨z', H', I', rz, qz⟩
/-- x != y, x an instance of the class at C -/
def rNeOwn (K : PySem.W.Frag) (C : Addr) (sp : Sp) (dvs : List V) (E : XK) : R2 := fun x y H Q => ∃ a dx fs t, x = .ref a ∧ H a = some (.ins C dx fs) ∧ TyX K H y t ∧ PySem.W.notFirst K C t = true ∧ sp ([x, y] ++ dvs) H (fun z H' => ∃ b, z = .bl b ∧ Q (.bl (!b)) H') E
theorem op_neOwn (e : EqCls X.K C f) (F : FnOk X.prog X.w X.K X.mg X.base CX k f fd ps sp) (hr : Room (k + 1) X.A) (hb : Binds X.K fd ps ds) (hd : Vals dvs ds) (hx : Passes CX X E) : OpR X (compareOp .NotEq) (rNeOwn X.K C sp dvs E) := by
  intro pins s σ H x y v u Q I rx ry h
  obtain ⟨a, dx, fs, t, rfl, ha, ty, hn, q⟩ := h
  cases (show v = Value.ref a from rx)
  obtain ⟨mA, O, _⟩ := ins_get I.hok ha
  obtain ⟨od, J, _⟩ := O.look
  obtain ⟨m, hF⟩ := I.fr
  obtain ⟨P, Z, p, _⟩ := kit_of I ry ty
  have hu : X.A.units + 1 < cLine := by
    have := hr.units
    omega
  show wpAny _ _ (richCompare .NotEq (.ref a) u) _ _ _
  refine ne_K (tb := t) hu hF I.ok.mod.kin J (Z.ty _ _ I.kIn p) hn e.mo e.ne e.eq e.fn ?_
  refine wpAny_mono (run_in1 (us := [.ref a, u]) (vs := [.ref a, y]) F hr hb hd hx I (.cons rfl (.cons ry .nil)) q) (fun w s' z => ?_) fun _ _ x => x
  obtain ⟨z', H', I', rz, b, eb, qz⟩ := z
  subst eb
  cases (show w = Value.bool b from rz)
  exact ⟨b, rfl, .bl (!b), H', I', rfl, qz⟩
/-- what stands on the left of == and declines -/
inductive EqL (K : PySem.W.Frag) (H : Hp) : V → Prop where
  | non : EqL K H .non
  | int (i : Int) : EqL K H (.int i)
  | str (z : Str) : EqL K H (.str z)
  | lst {a : Addr} {xs : List V} (h : SqL K H a xs) : EqL K H (.ref a)
  | tup {a : Addr} {xs : List V} (h : SqT K H a xs) : EqL K H (.ref a)
/-- x == y, y an instance of the class at C, x of a built-in type -/
def rEqBack (K : PySem.W.Frag) (C : Addr) (sp : Sp) (dvs : List V) (E : XK) : R2 := fun x y H Q => ∃ b dx fs, y = .ref b ∧ H b = some (.ins C dx fs) ∧ EqL K H x ∧ sp ([y, x] ++ dvs) H Q E
theorem op_eqBack (e : EqCls X.K C f) (F : FnOk X.prog X.w X.K X.mg X.base CX k f fd ps sp) (hr : Room k X.A) (hb : Binds X.K fd ps ds) (hd : Vals dvs ds) (hx : Passes CX X E) : OpR X (compareOp .Eq) (rEqBack X.K C sp dvs E) := by
  intro pins s σ H x y v u Q I rx ry h
  obtain ⟨b, dx, fs, rfl, hbo, hl, q⟩ := h
  cases (show u = Value.ref b from ry)
  obtain ⟨mA, O, _⟩ := ins_get I.hok hbo
  obtain ⟨od, J, _⟩ := O.look
  obtain ⟨_, _, _, ob, _⟩ := (show ObjOk X.prog X.w H s.heap b (.ins C dx fs) from I.hok b _ hbo)
  have hc : wpAny (model X.prog X.w) X.A (call (.ref f) [.ref b, v]) (PySem.W.CmpBack (EP X pins σ Q)) X.xe s := by
    refine wpAny_mono (run_fn (us := [.ref b, v]) (vs := [.ref b, x]) F hr hb hd hx I (.cons rfl (.cons rx .nil)) q) (fun w s' z => ?_) fun _ _ x => x
    obtain ⟨z', H', I', rz, qz⟩ := z
    exact cmpback' rz ⟨z', H', I', rz, qz⟩
  show wpAny _ _ (richCompare .Eq v (.ref b)) _ _ _
  cases hl with
  | non =>
    cases (show v = Value.none from rx)
    exact eqR_K hr.units0 I.kIn J (typeIs_none s) PySem.F.slot_NoneType_eq PySem.F.entry_NoneType_eq (PySem.F.args_NoneType_eq_2 _ _) eqd_none rfl e.sN e.eq e.fn hc
  | int i =>
    obtain ⟨t, rfl⟩ := rx
    exact eqR_K hr.units0 I.kIn J (typeIs_int s i t) slot_int_eq entry_int_eq (args_int_eq _ _) (eqd_int ob) rfl e.sI e.eq e.fn hc
  | str z =>
    obtain ⟨t, rfl⟩ := rx
    exact eqR_K hr.units0 I.kIn J (typeIs_str s z t) PySem.F.slot_str_eq PySem.F.entry_str_eq (PySem.F.args_str_eq_2 _ _) (eqd_str ob) rfl e.sS e.eq e.fn hc
  | @lst a xs hq =>
    cases (show v = Value.ref a from rx)
    obtain ⟨its, rv, p, _⟩ := I.list hq
    exact eqR_K hr.units0 I.kIn J p.isList.typeIs PySem.F.slot_list_eq PySem.F.entry_list_eq (PySem.F.args_list_eq_2 _ _) (eqd_list (J.type.andThen (PySem.W.looks_subIn I.kIn e.sL))) rfl e.sL e.eq e.fn hc
  | @tup a xs hq =>
    cases (show v = Value.ref a from rx)
    obtain ⟨its, rv, p, _⟩ := I.tuple hq
    exact eqR_K hr.units0 I.kIn J p.typeIs PySem.F.slot_tuple_eq PySem.F.entry_tuple_eq (PySem.F.args_tuple_eq_2 _ _) (eqd_tuple (J.type.andThen (PySem.W.looks_subIn I.kIn e.sT))) rfl e.sT e.eq e.fn hc
/-- repr(x), x an instance with an own __repr__ -/
def rReprOwn (C : Addr) (sp : Sp) (dvs : List V) (E : XK) : List V → Hp → VK → Prop := fun xs H Q => ∃ a dx fs, xs = [.ref a] ∧ H a = some (.ins C dx fs) ∧ sp ([.ref a] ++ dvs) H (fun z H' => ∃ y, z = .str y ∧ Q z H') E
theorem call_reprOwn (hs : PySem.W.findIn X.K (.ref C) "__repr__" = some (some (.ref f))) (hf : PySem.W.isFn X.K (.ref f) = true) (F : GFn X.prog X.w X.K X.mg X.base CX k f fd ps sp) (hr : Room (k + 1) X.A) (hg : X.A.guards = some [])
    (hb : Binds X.K fd ps ds) (hd : Vals dvs ds) (hx : Passes CX X E) : CallR X (.builtin "repr") (rReprOwn C sp dvs E) := by
  intro pins s σ H xs us Q I r h
  obtain ⟨a, dx, fs, rfl, ha, q⟩ := h
  obtain ⟨u, rfl, ru⟩ := vals1 r
  obtain rfl : u = Value.ref a := ru
  obtain ⟨mA, O, _⟩ := ins_get I.hok ha
  obtain ⟨od, J, _⟩ := O.look
  obtain ⟨m, hF⟩ := I.fr
  refine PySem.W.repr_K hr.in1.units0 hF I.ok.mod.kin J hs hf ?_
  refine wpAny_mono (run_in1G (us := [.ref a]) (vs := [.ref a]) F hr hg hb hd hx I (.cons rfl .nil) q) (fun w s' z => ?_) fun _ _ x => x
  obtain ⟨z', H', I', rz, y, ey, qz⟩ := z
  subst ey
  obtain ⟨t, rfl⟩ := (show ∃ t, w = Value.str y t from rz)
  exact ⟨.str y, H', I', ⟨t, rfl⟩, qz⟩
end
/-! ### f"{data!r}" -/
def tFmtRD (K : PySem.W.Frag) (te : TE) : TE := fun σ H Q => te σ H fun x H1 => ∃ (a : Addr) (d : PyData), x = .ref a ∧ Dp K H1 (.ref a) d ∧ d.showable = true ∧ d.hasDict = false ∧ d.depth ≤ 60 ∧ d.shown.length ≤ sizeLine ∧ Q (.str d.shown) H1
theorem pe_fmtRD {X : Cx} {e : Expr} {te : TE} {pos : Pos} (hg : X.A.guards = some []) (hu : X.A.units + 64 < cLine) (he : PE X e te) : PE X (.FormattedValue e 114 none pos) (tFmtRD X.K te) := by
  refine ⟨fun pins s σ H Q I h => ?_⟩
  refine wpAny_FormattedValue_repr (thn (he.run pins s σ H _ I h) fun v s1 hv => ?_)
  obtain ⟨x, H1, I1, r1, a, d, rfl, hd, hs, hnd, hdp, hz, q⟩ := hv
  obtain rfl : v = Value.ref a := r1
  obtain ⟨as, rd⟩ := Dp.reads I1 d _ _ hd rfl
  refine pyReprObj_of_reads rd hs (fun z => ?_) hg (by omega) (fun _ _ e => e) (fun h' u tk hk => ?_) hz
  · rw [hnd] at z
    cases z
  · have I2 : Inv X pins σ H1 { s1 with heap := h', toks := tk } := I1.kept hk
    exact wpAny_formatField_str ⟨.str d.shown, H1, I2.tok _, ⟨_, rfl⟩, q⟩ ⟨.str d.shown, H1, I2.tok _, ⟨_, rfl⟩, q⟩ hz
/-! ### x | y, x & y .. of two instances of one class; ~x; y in x -/
section
variable {X : Cx} {CX : CXT} {k : Nat} {C f : Addr} {fd : FuncData} {ps : List Str} {sp : Sp} {dvs : List V} {ds : List Value} {E : XK}
def rBinOwn (C : Addr) (sp : Sp) (dvs : List V) (E : XK) : R2 := fun x y H Q => ∃ a dx fs b dy gs, x = .ref a ∧ y = .ref b ∧ H a = some (.ins C dx fs) ∧ H b = some (.ins C dy gs) ∧ sp ([x, y] ++ dvs) H Q E
theorem op_binOwn {op : Operator} (hc : PySem.W.selfFirst X.K C = true) (hs : PySem.W.findIn X.K (.ref C) (PySem.dunder op.info.2) = some (some (.ref f))) (hf : PySem.W.isFn X.K (.ref f) = true) (F : FnOk X.prog X.w X.K X.mg X.base CX k f fd ps sp) (hr : Room k X.A)
    (hb : Binds X.K fd ps ds) (hd : Vals dvs ds) (hx : Passes CX X E) : OpR X (binaryOp op) (rBinOwn C sp dvs E) := by
  intro pins s σ H x y v u Q I rx ry h
  obtain ⟨a, dx, fs, b, dy, gs, rfl, rfl, ha, hbo, q⟩ := h
  cases (show v = Value.ref a from rx)
  cases (show u = Value.ref b from ry)
  obtain ⟨mA, O, _⟩ := ins_get I.hok ha
  obtain ⟨od, J, _⟩ := O.look
  obtain ⟨mB, O2, _⟩ := ins_get I.hok hbo
  obtain ⟨od2, J2, _⟩ := O2.look
  obtain ⟨m, hF⟩ := I.fr
  refine PySem.W.binop_K hF I.ok.mod.kin J J2.type hc hs hf ?_
  refine wpAny_mono (run_fn (us := [.ref a, .ref b]) (vs := [.ref a, .ref b]) F hr hb hd hx I (.cons rfl (.cons rfl .nil)) q) (fun w s' z => ?_) fun _ _ x => x
  obtain ⟨z', H', I', rz, qz⟩ := z
  exact cmpback' rz ⟨z', H', I', rz, qz⟩
def rInvOwn (C : Addr) (sp : Sp) (dvs : List V) (E : XK) : V → Hp → VK → Prop := fun x H Q => ∃ a dx fs, x = .ref a ∧ H a = some (.ins C dx fs) ∧ sp ([x] ++ dvs) H Q E
theorem un_invOwn (hs : PySem.W.findIn X.K (.ref C) "__invert__" = some (some (.ref f))) (hf : PySem.W.isFn X.K (.ref f) = true) (F : FnOk X.prog X.w X.K X.mg X.base CX k f fd ps sp) (hr : Room k X.A)
    (hb : Binds X.K fd ps ds) (hd : Vals dvs ds) (hx : Passes CX X E) : UnR X (unaryOp .Invert) (rInvOwn C sp dvs E) := by
  intro pins s σ H x v Q I rx h
  obtain ⟨a, dx, fs, rfl, ha, q⟩ := h
  cases (show v = Value.ref a from rx)
  obtain ⟨mA, O, _⟩ := ins_get I.hok ha
  obtain ⟨od, J, _⟩ := O.look
  obtain ⟨m, hF⟩ := I.fr
  exact PySem.W.ksp_inv hF I.ok.mod.kin J hs hf (run_fn (us := [.ref a]) (vs := [.ref a]) F hr hb hd hx I (.cons rfl .nil) q)
/-- y in x -/
def rInOwn (C : Addr) (sp : Sp) (dvs : List V) (E : XK) : R2 := fun y x H Q => ∃ a dx fs, x = .ref a ∧ H a = some (.ins C dx fs) ∧ sp ([x, y] ++ dvs) H (fun z H' => ∃ b, z = .bl b ∧ Q z H') E
theorem op_inOwn (hs : PySem.W.findIn X.K (.ref C) "__contains__" = some (some (.ref f))) (hf : PySem.W.isFn X.K (.ref f) = true) (F : FnOk X.prog X.w X.K X.mg X.base CX k f fd ps sp) (hr : Room k X.A)
    (hb : Binds X.K fd ps ds) (hd : Vals dvs ds) (hx : Passes CX X E) : OpR X (compareOp .In) (rInOwn C sp dvs E) := by
  intro pins s σ H y x u v Q I ry rx h
  obtain ⟨a, dx, fs, rfl, ha, q⟩ := h
  cases (show v = Value.ref a from rx)
  obtain ⟨mA, O, _⟩ := ins_get I.hok ha
  obtain ⟨od, J, _⟩ := O.look
  obtain ⟨m, hF⟩ := I.fr
  refine PySem.W.in_K hF I.ok.mod.kin J hs hf (wpAny_mono (run_fn (us := [.ref a, u]) (vs := [.ref a, y]) F hr hb hd hx I (.cons rfl (.cons ry .nil)) q) (fun w s' z => ?_) fun _ _ x => x)
  obtain ⟨z', H', I', rz, b, eb, qz⟩ := z
  subst eb
  cases (show w = Value.bool b from rz)
  exact wpAny_truthy_bool ⟨.bl b, H', I', rfl, qz⟩
end
end Rg

/-! comprehensions over texts; signs -/
namespace Rg
open PySem PySem.Spec PyProof.Rows L2 Mach
section
variable {g : TG} {tt : TT} {te : TE} {vs : List Nat} {σ : L2.St} {H1 : Hp} {D : Addr} {Qd : Hp → Prop}
theorem lc_str {x : Str} (Pv : Nat → Hp → Prop) (h0 : Pv 0 (upd H1 D (.lst [])))
    (hs : ∀ i c H, x.cps[i]? = some c → Pv i H → g (.str ⟨#[c]⟩) (wipe σ vs) H fun σ2 H2 => wipe σ2 vs = wipe σ vs ∧ tt σ2 H2 fun b H3 =>
      if b = true then te σ2 H3 fun y H4 => ∃ acc, H4 D = some (.lst acc) ∧ acc.length < sizeLine ∧ Pv (i + 1) (upd H4 D (.lst (acc ++ [y]))) else Pv (i + 1) H3) (hd : ∀ H, Pv x.cps.size H → Qd H) :
    ∃ W : Nat → Nat → Hp → Prop, (∃ m, W 0 m (upd H1 D (.lst []))) ∧ ∀ i m H, W i m H →
      ((Its x).stop i H ∧ Qd H) ∨ ((Its x).go i H ∧ ∃ Nx : Hp → Prop, (∀ H', Nx H' → ∃ m', m' < m ∧ W (i + 1) m' H') ∧ ∀ y H', (Its x).yld i H y H' → g y (wipe σ vs) H' fun σ2 H2 => wipe σ2 vs = wipe σ vs ∧ tt σ2 H2 fun b H3 =>
        if b = true then te σ2 H3 fun y H4 => ∃ acc, H4 D = some (.lst acc) ∧ acc.length < sizeLine ∧ Nx (upd H4 D (.lst (acc ++ [y]))) else Nx H3) := by
  refine ⟨fun i m H => m = x.cps.size - i ∧ i ≤ x.cps.size ∧ Pv i H, ⟨_, rfl, Nat.zero_le _, h0⟩, ?_⟩
  rintro i m H ⟨rfl, hi, p⟩
  by_cases hlt : i < x.cps.size
  · refine .inr ⟨hlt, Pv (i + 1), fun H' p' => ⟨x.cps.size - (i + 1), by omega, rfl, hlt, p'⟩, fun y H' q => ?_⟩
    obtain ⟨rfl, c, hc, rfl⟩ := q
    exact hs i c _ hc p
  · have e : i = x.cps.size := by omega
    subst e
    exact .inl ⟨Nat.le_refl _, hd H p⟩
theorem lc_zipS {x y : Str} (Pv : Nat → Hp → Prop) (h0 : Pv 0 (upd H1 D (.lst [])))
    (hs : ∀ i c d T H, x.cps[i]? = some c → y.cps[i]? = some d → Pv i H → H T = none → g (.ref T) (wipe σ vs) (upd H T (.tup [.str ⟨#[c]⟩, .str ⟨#[d]⟩])) fun σ2 H2 => wipe σ2 vs = wipe σ vs ∧ tt σ2 H2 fun b H3 =>
      if b = true then te σ2 H3 fun y H4 => ∃ acc, H4 D = some (.lst acc) ∧ acc.length < sizeLine ∧ Pv (i + 1) (upd H4 D (.lst (acc ++ [y]))) else Pv (i + 1) H3) (hd : ∀ H, Pv (min x.cps.size y.cps.size) H → Qd H) :
    ∃ W : Nat → Nat → Hp → Prop, (∃ m, W 0 m (upd H1 D (.lst []))) ∧ ∀ i m H, W i m H →
      ((ItzS x y).stop i H ∧ Qd H) ∨ ((ItzS x y).go i H ∧ ∃ Nx : Hp → Prop, (∀ H', Nx H' → ∃ m', m' < m ∧ W (i + 1) m' H') ∧ ∀ z H', (ItzS x y).yld i H z H' → g z (wipe σ vs) H' fun σ2 H2 => wipe σ2 vs = wipe σ vs ∧ tt σ2 H2 fun b H3 =>
        if b = true then te σ2 H3 fun y H4 => ∃ acc, H4 D = some (.lst acc) ∧ acc.length < sizeLine ∧ Nx (upd H4 D (.lst (acc ++ [y]))) else Nx H3) := by
  refine ⟨fun i m H => m = min x.cps.size y.cps.size - i ∧ i ≤ min x.cps.size y.cps.size ∧ Pv i H, ⟨_, rfl, Nat.zero_le _, h0⟩, ?_⟩
  rintro i m H ⟨rfl, hi, p⟩
  by_cases hlt : i < min x.cps.size y.cps.size
  · refine .inr ⟨⟨by omega, by omega⟩, Pv (i + 1), fun H' p' => ⟨min x.cps.size y.cps.size - (i + 1), by omega, rfl, hlt, p'⟩, fun z H' q => ?_⟩
    obtain ⟨T, c, d, rfl, hT, rfl, hc, hd'⟩ := q
    exact hs i c d T _ hc hd' p hT
  · have e : i = min x.cps.size y.cps.size := by omega
    refine .inl ⟨?_, hd H (by rw [← e]; exact p)⟩
    by_cases hxy : x.cps.size ≤ y.cps.size
    · exact .inl ⟨by omega, by omega⟩
    · exact .inr ⟨by omega, by omega⟩
end
/-! ### signs -/
def letters : Str := "abcdefghijklmnopqrstuvwxyz"
structure SgOk (z : Str) : Prop where
  pos : 1 ≤ z.cps.size
  few : z.cps.size ≤ 4
  low : ∀ c ∈ z.cps.toList, c ∈ letters.cps.toList
  up : z.cps.toList.Pairwise (· < ·)
def sgB (z : Str) : Bool := decide (1 ≤ z.cps.size) && decide (z.cps.size ≤ 4) && decide (∀ c ∈ z.cps.toList, c ∈ letters.cps.toList) && decide (z.cps.toList.Pairwise (· < ·))
theorem sgOk_of {z : Str} (h : sgB z = true) : SgOk z := by
  unfold sgB at h
  simp only [Bool.and_eq_true, decide_eq_true_eq] at h
  exact ⟨h.1.1.1, h.1.1.2, h.1.2, h.2⟩
theorem SgOk.len {z : Str} (h : SgOk z) : z.length = z.cps.size := rfl
theorem all_true {bs : List Bool} (h : ∀ b ∈ bs, b = true) : bs.all id = true := List.all_eq_true.mpr fun b hb => h b hb
theorem replicate_bl (n : Nat) : (List.replicate n true).map V.bl = List.replicate n (V.bl true) := List.map_replicate
theorem rep_snoc {α : Type} (n : Nat) (x : α) : List.replicate n x ++ [x] = List.replicate (n + 1) x := by
  rw [List.replicate_succ']
theorem cutS_one (z : Str) (h : 1 ≤ z.cps.size) (i d : Nat) (hd : (cutS z (some 1) none).cps[i]? = some d) : z.cps[i + 1]? = some d := by
  unfold cutS at hd
  rw [HT.sIx_none, show (some (1 : Int)) = some ((1 : Nat) : Int) from rfl, HT.sIx_nat, Nat.min_eq_left (show 1 ≤ z.length from h)] at hd
  rw [List.getElem?_toArray, List.getElem?_take] at hd
  split at hd
  · rw [List.getElem?_drop, Array.getElem?_toList, Nat.add_comm] at hd
    exact hd
  · cases hd
theorem cut1_size (z : Str) : (cutS z (some 1) none).cps.size ≤ z.cps.size := by
  unfold cutS
  rw [List.size_toArray, List.length_take, List.length_drop, Array.length_toList]
  omega
theorem one_lt {c d : Nat} (h : c < d) : decide ((⟨#[c]⟩ : Str).cps.toList < (⟨#[d]⟩ : Str).cps.toList) = true := by
  rw [decide_eq_true_iff]
  show [c] < [d]
  exact List.cons_lt_cons_iff.mpr (.inl h)
theorem SgOk.lt {z : Str} (h : SgOk z) {i c d : Nat} (hc : z.cps[i]? = some c) (hd : z.cps[i + 1]? = some d) : c < d := by
  rw [← Array.getElem?_toList] at hc hd
  obtain ⟨h1, e1⟩ := List.getElem?_eq_some_iff.mp hc
  obtain ⟨h2, e2⟩ := List.getElem?_eq_some_iff.mp hd
  rw [← e1, ← e2]
  exact List.pairwise_iff_getElem.mp h.up i (i + 1) h1 h2 (by omega)
theorem SgOk.in_ {z : Str} (h : SgOk z) {i c : Nat} (hc : z.cps[i]? = some c) : c ∈ letters.cps.toList := by
  refine h.low c ?_
  rw [← Array.getElem?_toList] at hc
  exact List.mem_of_getElem? hc
theorem bIsi : bootBuiltins "isinstance" = some (.builtin "isinstance") := by decide +kernel
theorem bAll : bootBuiltins "all" = some (.builtin "all") := by decide +kernel
theorem bStr : bootBuiltins "str" = some (.type "str") := by decide +kernel
theorem bBool : bootBuiltins "bool" = some (.type "bool") := by decide +kernel
theorem lay_rows (R : List (List Nat)) : PyData.canLayAll0 (R.map dNs) = true ∧ PyData.depthAll (R.map dNs) ≤ 1 := by
  induction R with
  | nil => exact ⟨rfl, by decide⟩
  | cons a l ih =>
    have h := shp_dNs a
    unfold SeqAt.shaped at h
    have h1 := (Bool.and_eq_true_iff.mp h).1
    have h2 : (dNs a).depth = 1 := by
      have : ∀ l : List Nat, PyData.depthAll (l.map fun n : Nat => PyData.int (n : Int)) = 0 := by
        intro l
        induction l with
        | nil => rfl
        | cons b l ih => simp only [List.map_cons, PyData.depthAll, PyData.depth, ih, Nat.max_self]
      unfold dNs
      simp only [PyData.depth, this]
    refine ⟨by simp only [List.map_cons, PyData.canLayAll0, h1, ih.1, Bool.and_self], ?_⟩
    simp only [List.map_cons, PyData.depthAll, h2]
    exact Nat.max_le.mpr ⟨Nat.le_refl _, ih.2⟩
theorem shp_dRs (R : List (List Nat)) : SeqAt.shaped (dRs R) = true := by
  unfold SeqAt.shaped dRs
  simp only [PyData.canLay0, PyData.depth, (lay_rows R).1, Bool.true_and]
  have := (lay_rows R).2
  exact decide_eq_true (by omega)
theorem eqv_dRs_nil {R : List (List Nat)} (h : 0 < R.length) : PyData.eqv (dRs R) (.list []) = false := by
  cases R with
  | nil => cases h
  | cons a R => rfl
/-! promises -/
def spIsInt : Sp := fun vs H Q _ => ∃ i : Int, vs = [.int i] ∧ Q (.bl true) H
def spIsNum : Sp := fun vs H Q _ => ∃ m i : Int, vs = [.int m, .int i] ∧ Q (.bl (decide (0 ≤ i) && decide (i < m))) H
def spIsSg : Sp := fun vs H Q _ => ∃ z : Str, vs = [.str z] ∧ SgOk z ∧ ∀ H', Same H H' → Q (.bl true) H'
/-- rows of states -/
def spAreR : Sp := fun vs H Q _ => ∃ (n : Nat) (a : Addr) (xs : List Addr) (R : List (List Nat)), vs = [nV n, .ref a] ∧ RowsAt H a xs R ∧ Mok n R ∧ 0 < R.length ∧ R.length ≤ 4000 ∧ n ≤ 100 ∧ ∀ H', Same H H' → Q (.bl true) H'
end Rg

/-! the class Texts: how an instance stands, promises of its methods -/
namespace Rg
open PySem PySem.Spec PyProof.Rows L2 Mach
theorem Gd.len {e k : Nat} {d : PyData} (h : Gd e k d) : d.shown.length ≤ 15 * k + 13 := by
  have h2 := PyData.shown_le 13 (by decide) d (PyData.leavesShort_of_canLay0 13 d h.lay h.ish)
  have := h.wt
  omega
theorem gd_str {x : Str} (h : PyData.strOk x = true) {k : Nat} (hk : x.cps.size ≤ k) : Gd 0 k (.str x) := ⟨h, rfl, rfl, Nat.le_refl _, hk⟩
theorem eqvAll_ints : ∀ S T : List Nat, PyData.eqvAll (S.map fun n : Nat => PyData.int (n : Int)) (T.map fun n : Nat => PyData.int (n : Int)) = decide (S = T)
  | [], [] => rfl
  | [], b :: T => rfl
  | a :: S, [] => rfl
  | a :: S, b :: T => by
    show (PyData.eqv (.int (a : Int)) (.int (b : Int)) && PyData.eqvAll _ _) = _
    rw [eqvAll_ints S T, show PyData.eqv (.int (a : Int)) (.int (b : Int)) = ((a : Int) == (b : Int)) from by simp only [PyData.eqv]]
    by_cases h1 : a = b
    · by_cases h2 : S = T
      · rw [h1, h2]
        simp
      · rw [decide_eq_false h2, Bool.and_false, decide_eq_false (fun z => h2 (List.cons.inj z).2)]
    · rw [beq_eq_false_iff_ne.mpr (fun z => h1 (by omega)), Bool.false_and, decide_eq_false (fun z => h1 (List.cons.inj z).1)]
theorem eqv_dNs (S T : List Nat) : PyData.eqv (dNs S) (dNs T) = decide (S = T) := by
  unfold dNs
  simp only [PyData.eqv]
  exact eqvAll_ints S T
theorem eqvAll_dNs : ∀ R S : List (List Nat), PyData.eqvAll (R.map dNs) (S.map dNs) = decide (R = S)
  | [], [] => rfl
  | [], b :: T => rfl
  | a :: S, [] => rfl
  | a :: S, b :: T => by
    show (PyData.eqv (dNs a) (dNs b) && PyData.eqvAll _ _) = _
    rw [eqvAll_dNs S T, eqv_dNs]
    by_cases h1 : a = b
    · by_cases h2 : S = T
      · rw [h1, h2]
        simp
      · rw [decide_eq_false h2, Bool.and_false, decide_eq_false (fun z => h2 (List.cons.inj z).2)]
    · rw [decide_eq_false h1, Bool.false_and, decide_eq_false (fun z => h1 (List.cons.inj z).1)]
theorem eqv_dRs (R S : List (List Nat)) : PyData.eqv (dRs R) (dRs S) = decide (R = S) := by
  unfold dRs
  simp only [PyData.eqv]
  exact eqvAll_dNs R S
/-! ### an instance -/
def tfl (z : Str) (t e : Addr) : List (Str × V) := putF "its_ends" (.ref e) (putF "its_table" (.ref t) (putF "its_signs" (.str z) []))
theorem tf_st : ¬ (("its_signs" : Str) = "its_table") := by decide +kernel
theorem tf_se : ¬ (("its_signs" : Str) = "its_ends") := by decide +kernel
theorem tf_te : ¬ (("its_table" : Str) = "its_ends") := by decide +kernel
theorem tfl_ends (z : Str) (t e : Addr) : (tfl z t e).lookup ("its_ends" : Str) = some (.ref e) := by
  unfold tfl
  rw [lookup_putF, if_pos rfl]
theorem tfl_table (z : Str) (t e : Addr) : (tfl z t e).lookup ("its_table" : Str) = some (.ref t) := by
  unfold tfl
  rw [lookup_putF, if_neg tf_te, lookup_putF, if_pos rfl]
theorem tfl_signs (z : Str) (t e : Addr) : (tfl z t e).lookup ("its_signs" : Str) = some (.str z) := by
  unfold tfl
  rw [lookup_putF, if_neg tf_se, lookup_putF, if_neg tf_st, lookup_putF, if_pos rfl]
theorem tfl_no (z : Str) (t e : Addr) {m : Str} (h1 : ¬ m = "its_ends") (h2 : ¬ m = "its_table") (h3 : ¬ m = "its_signs") : (tfl z t e).lookup m = none := by
  unfold tfl
  rw [lookup_putF, if_neg h1, lookup_putF, if_neg h2, lookup_putF, if_neg h3]
  rfl
/-- a set of texts stands at p -/
structure TxAt (C : Addr) (H : Hp) (p : Addr) (z : Str) (t e : Addr) (ys : List Addr) (R : List (List Nat)) (E : List Nat) : Prop where
  ob : ∃ dx, H p = some (.ins C dx (tfl z t e))
  rows : RowsAt H t ys R
  ends : H e = some (.lst (nVs E))
theorem TxAt.same {C : Addr} {H H' : Hp} {p : Addr} {z : Str} {t e : Addr} {ys : List Addr} {R : List (List Nat)} {E : List Nat} (h : TxAt C H p z t e ys R E) (s : Same H H') : TxAt C H' p z t e ys R E := by
  obtain ⟨⟨dx, ob⟩, r, en⟩ := h
  exact ⟨⟨dx, s _ _ ob⟩, r.same s, s _ _ en⟩
theorem TxAt.but {C g : Addr} {H H' : Hp} {p : Addr} {z : Str} {t e : Addr} {ys : List Addr} {R : List (List Nat)} {E : List Nat} (h : TxAt C H p z t e ys R E) (b : But g H H') (hp : p ≠ g) (ht : t ≠ g) (he : e ≠ g) (hy : ∀ y ∈ ys, y ≠ g) : TxAt C H' p z t e ys R E := by
  obtain ⟨⟨dx, ob⟩, r, en⟩ := h
  exact ⟨⟨dx, b _ _ hp ob⟩, r.but b ht hy, b _ _ he en⟩
/-- facts of the class that its methods ask -/
structure TxC (K : PySem.W.Frag) (C : Addr) : Prop where
  cl : Cls K C
  nS : NoAttr K C "its_signs"
  nT : NoAttr K C "its_table"
  nE : NoAttr K C "its_ends"
/-- Texts(signs, rows, ends) -/
def spInit (C : Addr) : Sp := fun vs H Q _ => ∃ (p dx a e : Addr) (z : Str) (xs : List Addr) (R : List (List Nat)) (E : List Nat), vs = [.ref p, .str z, .ref a, .ref e] ∧ H p = some (.ins C dx []) ∧ SgOk z ∧ RowsAt H a xs R ∧ Mok z.cps.size R ∧ 0 < R.length ∧ R.length ≤ 4000 ∧
  H e = some (.lst (nVs E)) ∧ (∀ x ∈ E, x < R.length) ∧ E.length ≤ 4000 ∧
  ∀ (H' : Hp) (t e' : Addr) (ys : List Addr) (R' : List (List Nat)) (E' : List Nat), (∀ b o, H b = some o → b ≠ p → H' b = some o) → TxAt C H' p z t e' ys R' E' → H t = none → H e' = none → t ≠ e' → (∀ y ∈ ys, H y = none ∧ y ≠ t ∧ y ≠ e') → ys.Nodup →
    Least z.cps.size R' E' → Alk z.cps.size R' E' 0 R E 0 → R'.length ≤ R.length → Q .non H'
def spSg (C : Addr) : Sp := fun vs H Q _ => ∃ (p : Addr) (z : Str) (t e : Addr) (ys : List Addr) (R : List (List Nat)) (E : List Nat), vs = [.ref p] ∧ TxAt C H p z t e ys R E ∧ Q (.str z) H
def spTab (C : Addr) : Sp := fun vs H Q _ => ∃ (p : Addr) (z : Str) (t e : Addr) (ys : List Addr) (R : List (List Nat)) (E : List Nat), vs = [.ref p] ∧ TxAt C H p z t e ys R E ∧ R.length ≤ 4000 ∧
  ∀ (H' : Hp) (q : Addr) (xs : List Addr), Same H H' → H q = none → (∀ x ∈ xs, H x = none ∧ x ≠ q) → xs.Nodup → RowsAt H' q xs R → Q (.ref q) H'
def spEnd (C : Addr) : Sp := fun vs H Q _ => ∃ (p : Addr) (z : Str) (t e : Addr) (ys : List Addr) (R : List (List Nat)) (E : List Nat), vs = [.ref p] ∧ TxAt C H p z t e ys R E ∧
  ∀ (H' : Hp) (q : Addr), Same H H' → H q = none → H' q = some (.lst (nVs E)) → Q (.ref q) H'
/-- == : with another set, or with what is none -/
def spEq (K : PySem.W.Frag) (C : Addr) : Sp := fun vs H Q _ => ∃ (p : Addr) (z : Str) (t e : Addr) (ys : List Addr) (R : List (List Nat)) (E : List Nat) (y : V), vs = [.ref p, y] ∧ TxAt C H p z t e ys R E ∧
  ((∃ ty, TyX K H y ty ∧ PySem.W.kitOne K ty (.ref C) = some false ∧ Q (.bl false) H) ∨
   ∃ (p2 : Addr) (z2 : Str) (t2 e2 : Addr) (ys2 : List Addr) (R2 : List (List Nat)) (E2 : List Nat), y = .ref p2 ∧ TxAt C H p2 z2 t2 e2 ys2 R2 E2 ∧ Q (.bl (decide (z = z2) && (decide (R = R2) && decide (E = E2)))) H)
def reprTx (z : Str) (R : List (List Nat)) (E : List Nat) : Str := ((((((("Texts(" : Str) ++ reprText z) ++ ", ") ++ (dRs R).shown) ++ ", ") ++ (dNs E).shown) ++ ")")
def spRepr (C : Addr) : Sp := fun vs H Q _ => ∃ (p : Addr) (z : Str) (t e : Addr) (ys : List Addr) (R : List (List Nat)) (E : List Nat), vs = [.ref p] ∧ TxAt C H p z t e ys R E ∧ SgOk z ∧ Gd 2 100000 (dRs R) ∧ Gd 1 100000 (dNs E) ∧ Q (.str (reprTx z R E)) H
theorem lett_low {c : Nat} (h : c ∈ letters.cps.toList) : c < 128 := by
  have key : ∀ c ∈ letters.cps.toList, c < 128 := by decide +kernel
  exact key c h
theorem SgOk.rep {z : Str} (h : SgOk z) : (reprText z).length ≤ 100 := by
  have h1 := PySem.StrLaws.reprText_len z (fun c hc => Nat.lt_of_lt_of_le (lett_low (h.low c hc)) (by decide))
  have h2 := h.few
  have h3 : z.length = z.cps.size := rfl
  omega
end Rg

namespace Rg
open PySem PySem.Spec PyProof.Rows L2 Mach
/-- either of two rules for one operator -/
theorem op_or2 {X : Cx} {f : Value → Value → Sem Value} {r1 r2 : R2} (h1 : OpR X f r1) (h2 : OpR X f r2) : OpR X f (fun x y H Q => r1 x y H Q ∨ r2 x y H Q) := by
  intro pins s σ H x y v u Q I rx ry h
  rcases h with h | h
  · exact h1 pins s σ H x y v u Q I rx ry h
  · exact h2 pins s σ H x y v u Q I rx ry h
/-- repr of a text, or of a list or tuple of data -/
theorem call_repr_v {X : Cx} (hg : X.A.guards = some []) (hu : X.A.units + 64 < cLine) : CallR X (.builtin "repr")
    (fun xs H Q => ∃ (x : V) (d : PyData), xs = [x] ∧ Dp X.K H x d ∧ ((∃ a, x = .ref a) ∨ ∃ z, x = .str z ∧ d = .str z) ∧ d.showable = true ∧ d.hasDict = false ∧ d.depth ≤ 60 ∧ d.shown.length ≤ sizeLine ∧ Q (.str d.shown) H) := by
  intro pins s σ H xs us Q I r h
  obtain ⟨x, d, rfl, hd, hx, hs, hnd, hdp, hz, q⟩ := h
  rcases hx with ⟨a, rfl⟩ | ⟨z, rfl, rfl⟩
  · exact call_repr_data hg hu pins s σ H [.ref a] us Q I r ⟨a, d, rfl, hd, hs, hnd, hdp, hz, q⟩
  · exact call_repr_str pins s σ H [.str z] us Q I r ⟨z, rfl, hz, q⟩
def spAlkV (K : PySem.W.Frag) : Sp := fun vs H Q _ => ∃ (x y : V) (d : PyData) (i k : Nat), vs = [x, y] ∧ Dp K H x d ∧ Dp K H y d ∧ ((∃ a, x = .ref a) ∨ ∃ z, x = .str z ∧ d = .str z) ∧ ((∃ a, y = .ref a) ∨ ∃ z, y = .str z ∧ d = .str z) ∧ Gd i k d ∧ i ≤ 60 ∧ k ≤ 100000 ∧ Q (.bl true) H
/-- what is told of a set -/
def dTold (z : Str) (R : List (List Nat)) (E : List Nat) : PyData := .list [.str z, dRs R, dNs E, .str (reprTx z R E)]
theorem sg_low {z : Str} (h : SgOk z) : PyData.strOk z = true := by
  unfold PyData.strOk
  rw [Array.all_eq_true]
  intro i hi
  have := lett_low (h.in_ (i := i) (Array.getElem?_eq_getElem hi))
  exact decide_eq_true (by omega)
theorem strOk_app {x y : Str} (hx : PyData.strOk x = true) (hy : PyData.strOk y = true) : PyData.strOk (x ++ y) = true := by
  unfold PyData.strOk at *
  show (x.cps ++ y.cps).all _ = true
  rw [Array.all_append, hx, hy]
  rfl
theorem strOk_from : ∀ (ts : List Str) (k : Nat) (acc : Str), PyData.strOk acc = true → (∀ t ∈ ts, PyData.strOk t = true) → PyData.strOk (textFrom k acc ts) = true
  | [], _, _, h, _ => h
  | t :: ts, k, acc, h, ht => by
    refine strOk_from ts (k + 1) _ (strOk_app (strOk_app h ?_) (ht t List.mem_cons_self)) fun x hx => ht x (List.mem_cons_of_mem _ hx)
    by_cases hk : k > 0
    · rw [if_pos hk]
      decide +kernel
    · rw [if_neg hk]
      decide +kernel
theorem strOk_list {ts : List Str} (h : ∀ t ∈ ts, PyData.strOk t = true) : PyData.strOk (listText ts) = true :=
  strOk_app (strOk_from ts 0 _ (by decide +kernel) h) (by decide +kernel)
theorem shownAll_map {α : Type} (f : α → PyData) : ∀ l : List α, PyData.shownAll (l.map f) = l.map fun x => (f x).shown
  | [] => rfl
  | x :: l => by
    rw [List.map_cons, List.map_cons, ← shownAll_map f l]
    rfl
theorem strOk_num {n : Nat} (h : n < 32) : PyData.strOk (PyData.shown (.int (n : Int))) = true := by
  have key : ∀ m : Fin 32, PyData.strOk (PyData.shown (.int (m.val : Int))) = true := by decide +kernel
  exact key ⟨n, h⟩
theorem strOk_dNs {ns : List Nat} (h : ∀ n ∈ ns, n < 32) : PyData.strOk (dNs ns).shown = true := by
  show PyData.strOk (listText (PyData.shownAll _)) = true
  rw [shownAll_map]
  refine strOk_list fun t ht => ?_
  obtain ⟨n, hn, rfl⟩ := List.mem_map.mp ht
  exact strOk_num (h n hn)
theorem strOk_dRs {R : List (List Nat)} (h : ∀ r ∈ R, ∀ n ∈ r, n < 32) : PyData.strOk (dRs R).shown = true := by
  show PyData.strOk (listText (PyData.shownAll _)) = true
  rw [shownAll_map]
  refine strOk_list fun t ht => ?_
  obtain ⟨r, hr, rfl⟩ := List.mem_map.mp ht
  exact strOk_dNs (h r hr)
/-! ### the signs that are drawn -/
def sgMenu : List Str := ["ab", "abc", "xz", "a", "mno", "akyz", "b", "cd", "def", "bcde"]
theorem menu_ok {z : Str} (h : z ∈ sgMenu) : SgOk z := by
  have key : ∀ z ∈ sgMenu, sgB z = true := by decide +kernel
  exact sgOk_of (key z h)
theorem menu_rep {z : Str} (h : z ∈ sgMenu) : PyData.strOk (reprText z) = true := by
  have key : ∀ z ∈ sgMenu, PyData.strOk (reprText z) = true := by decide +kernel
  exact key z h
/-- a least machine of few states -/
structure Few (n : Nat) (R : List (List Nat)) (E : List Nat) : Prop where
  least : Least n R E
  n4 : n ≤ 4
  few : R.length ≤ 16
theorem row_of_mem {R : List (List Nat)} {r : List Nat} (hr : r ∈ R) : ∃ i, i < R.length ∧ rowOf R i = r := by
  obtain ⟨i, hi, rfl⟩ := List.mem_iff_getElem.mp hr
  refine ⟨i, hi, ?_⟩
  unfold rowOf
  rw [List.getD_eq_getElem?_getD, List.getElem?_eq_getElem hi]
  rfl
section
variable {n : Nat} {R : List (List Nat)} {E : List Nat}
theorem Few.lt (h : Few n R E) : ∀ x ∈ E, x < R.length := fun x hx => by
  rw [h.least.ends] at hx
  exact List.mem_range.mp (List.mem_filter.mp hx).1
theorem Few.el (h : Few n R E) : E.length ≤ R.length := by
  have h1 := congrArg List.length h.least.ends
  have h2 := List.length_filter_le (fun q => decide (q ∈ E)) (List.range R.length)
  rw [List.length_range] at h2
  omega
theorem Few.rw_ (h : Few n R E) : ∀ r ∈ R, r.length ≤ 4 ∧ ∀ x ∈ r, x < 32 := fun r hr => by
  obtain ⟨i, hi, rfl⟩ := row_of_mem hr
  have h1 := h.n4
  have h2 := h.few
  exact ⟨by rw [h.least.ok.wide i hi]; exact h1, fun x hx => by have := h.least.ok.lt i hi x hx; omega⟩
theorem Few.gR (h : Few n R E) : Gd 2 592 (dRs R) := (gd_dRs (L := 4) h.rw_).le (Nat.le_refl _) (by have := h.few; omega)
theorem Few.gE (h : Few n R E) : Gd 1 144 (dNs E) := (gd_dNs fun x hx => by have := h.lt x hx; have := h.few; omega).le (Nat.le_refl _) (by have := h.el; have := h.few; omega)
theorem str_len_app (x y : Str) : (x ++ y).length = x.length + y.length := by
  show (x.cps ++ y.cps).size = _
  rw [Array.size_append]
  rfl
theorem Few.rl (h : Few n R E) {z : Str} (hz : SgOk z) : (reprTx z R E).length ≤ 12000 := by
  have l1 := hz.rep
  have l2 := h.gR.len
  have l3 := h.gE.len
  have c1 : ("Texts(" : Str).length = 6 := by decide +kernel
  have c2 : (", " : Str).length = 2 := by decide +kernel
  have c3 : (")" : Str).length = 1 := by decide +kernel
  unfold reprTx
  rw [str_len_app, str_len_app, str_len_app, str_len_app, str_len_app, str_len_app, c1, c2, c3]
  omega
theorem Few.ok (h : Few n R E) {z : Str} (hz : z ∈ sgMenu) : PyData.strOk (reprTx z R E) = true := by
  unfold reprTx
  refine strOk_app (strOk_app (strOk_app (strOk_app (strOk_app (strOk_app (by decide +kernel) (menu_rep hz)) (by decide +kernel)) (strOk_dRs fun r hr x hx => (h.rw_ r hr).2 x hx)) (by decide +kernel)) (strOk_dNs fun x hx => by have := h.lt x hx; have := h.few; omega)) (by decide +kernel)
theorem Few.gd (h : Few n R E) {z : Str} (hz : z ∈ sgMenu) : Gd 3 20000 (dTold z R E) := by
  have h1 := (menu_ok hz).few
  refine (gd_list (e := 2) (gdAll_cons ((gd_str (sg_low (menu_ok hz)) (k := 4) h1).le (by decide) (Nat.le_refl _)) (gdAll_cons h.gR (gdAll_cons (h.gE.le (by decide) (Nat.le_refl _)) (gdAll_cons ((gd_str (h.ok hz) (k := 12000) (h.rl (menu_ok hz))).le (by decide) (Nat.le_refl _)) gdAll_nil))))).le (by decide) (by omega)
end
theorem eqv_str (x y : Str) : PyData.eqv (.str x) (.str y) = decide (x = y) := by
  simp only [PyData.eqv]
  by_cases h : x = y
  · rw [decide_eq_true h, h]
    simp
  · rw [decide_eq_false h]
    exact beq_eq_false_iff_ne.mpr h
theorem eqv_told (z : Str) (R R' : List (List Nat)) (E E' : List Nat) : PyData.eqv (dTold z R E) (dTold z R' E') = (decide (R = R') && decide (E = E')) := by
  have h1 : PyData.eqv (dTold z R E) (dTold z R' E') = (PyData.eqv (.str z) (.str z) && (PyData.eqv (dRs R) (dRs R') && (PyData.eqv (dNs E) (dNs E') && (PyData.eqv (.str (reprTx z R E)) (.str (reprTx z R' E')) && true)))) := by
    unfold dTold
    simp only [PyData.eqv, PyData.eqvAll]
  rw [h1, eqv_str, eqv_dRs, eqv_dNs, eqv_str, decide_eq_true rfl, Bool.true_and, Bool.and_true]
  by_cases hR : R = R'
  · by_cases hE : E = E'
    · rw [hR, hE, decide_eq_true rfl, decide_eq_true rfl, decide_eq_true rfl]
      rfl
    · rw [decide_eq_false hE, Bool.false_and]
  · rw [decide_eq_false hR, Bool.false_and, Bool.false_and]
end Rg

namespace Rg
open PySem PySem.Spec PyProof.Rows L2 Mach
/-- a machine made by drawing, of at most m states -/
def spMachM : Sp := fun vs H Q _ => ∃ (g c : Addr) (z : Str) (m : Nat), vs = [.ref g, .str z, nV m] ∧ Bag H g c ∧ 1 ≤ z.length ∧ z.length ≤ 4 ∧ 1 ≤ m ∧ m ≤ 100 ∧
  ∀ (H' : Hp) (t pr pe : Addr) (xs : List Addr) (R : List (List Nat)) (E : List Nat), Bag H' g c → But g H H' → (∀ x ∈ t :: pr :: pe :: xs, H x = none) → H' t = some (.tup [.ref pr, .ref pe]) → RowsAt H' pr xs R → H' pe = some (.lst (nVs E)) →
    Mok z.length R → 0 < R.length → R.length ≤ m → (∀ x ∈ E, x < R.length) → E.length ≤ 100 → Q (.ref t) H'
end Rg

/-! sets of texts by their languages; x in a tuple of data; texts over signs -/
namespace Rg
open PySem PySem.Spec PyProof.Rows L2 Mach
def rInDT (K : PySem.W.Frag) : R2 := fun x y H Q => ∃ d ds, Dp K H x d ∧ Dp K H y (.tuple ds) ∧ SeqAt.shaped d = true ∧ SeqAt.shaped (.tuple ds) = true ∧ Q (.bl (ds.any fun z => PyData.eqv z d)) H
theorem op_inDT {X : Cx} (hu : X.A.units + 65 < cLine) : OpR X (compareOp .In) (rInDT X.K) := by
  intro pins s σ H x y v u Q I rx ry h
  obtain ⟨d, ds, hd, he, sd, se, q⟩ := h
  obtain ⟨as, r1⟩ := Dp.reads I d x v hd rx
  obtain ⟨bs, r2⟩ := Dp.reads I (.tuple ds) y u he ry
  exact SeqAt.in_tuple_reads r2 r1 (SeqAt.canLay_of_shaped se) (SeqAt.canLay_of_shaped sd) (room_in_shaped sd hu) ⟨.bl _, H, I, rfl, q⟩
/-- the set at p over z has the texts of L, its machine at most m states -/
def TxL (C : Addr) (H : Hp) (p : Addr) (z : Str) (m : Nat) (L : List Nat → Bool) : Prop := ∃ (t e : Addr) (ys : List Addr) (R : List (List Nat)) (E : List Nat), TxAt C H p z t e ys R E ∧ Least z.cps.size R E ∧ Lg z.cps.size R E L ∧ R.length ≤ m
theorem TxL.same {C : Addr} {H H' : Hp} {p : Addr} {z : Str} {m : Nat} {L : List Nat → Bool} (h : TxL C H p z m L) (s : Same H H') : TxL C H' p z m L := by
  obtain ⟨t, e, ys, R, E, a, b, c, d⟩ := h
  exact ⟨t, e, ys, R, E, a.same s, b, c, d⟩
theorem TxL.ins {C : Addr} {H : Hp} {p : Addr} {z : Str} {m : Nat} {L : List Nat → Bool} (h : TxL C H p z m L) : ∃ dx fs, H p = some (.ins C dx fs) := by
  obtain ⟨t, e, ys, R, E, ⟨⟨dx, ob⟩, _, _⟩, _⟩ := h
  exact ⟨dx, _, ob⟩
theorem TxL.le {C : Addr} {H : Hp} {p : Addr} {z : Str} {m k : Nat} {L : List Nat → Bool} (h : TxL C H p z m L) (hk : m ≤ k) : TxL C H p z k L := by
  obtain ⟨t, e, ys, R, E, a, b, c, d⟩ := h
  exact ⟨t, e, ys, R, E, a, b, c, Nat.le_trans d hk⟩
/-- some pairs of truths -/
def Wan (K : PySem.W.Frag) (H : Hp) (x : V) (W : Bool → Bool → Bool) : Prop := ∃ ds, Dp K H x (.tuple ds) ∧ SeqAt.shaped (.tuple ds) = true ∧ ∀ a b, (ds.any fun z => PyData.eqv z (.tuple [.bool a, .bool b])) = W a b
theorem shp_two (a b : Bool) : SeqAt.shaped (.tuple [.bool a, .bool b]) = true := by
  cases a <;> cases b <;> decide +kernel
/-- texts_paired of two sets over the same signs -/
def spPair (K : PySem.W.Frag) (C : Addr) : Sp := fun vs H Q _ => ∃ (p q : Addr) (x : V) (z : Str) (m k : Nat) (L M : List Nat → Bool) (W : Bool → Bool → Bool), vs = [.ref p, .ref q, x] ∧ SgOk z ∧ TxL C H p z m L ∧ TxL C H q z k M ∧ m * k ≤ 4000 ∧ (∀ H', Same H H' → Wan K H' x W) ∧
  ∀ (H' : Hp) (r : Addr), Same H H' → TxL C H' r z (m * k) (fun w => W (L w) (M w)) → Q (.ref r) H'
def spBin (C : Addr) (W : Bool → Bool → Bool) : Sp := fun vs H Q _ => ∃ (p q : Addr) (z : Str) (m k : Nat) (L M : List Nat → Bool), vs = [.ref p, .ref q] ∧ SgOk z ∧ TxL C H p z m L ∧ TxL C H q z k M ∧ m * k ≤ 4000 ∧
  ∀ (H' : Hp) (r : Addr), Same H H' → TxL C H' r z (m * k) (fun w => W (L w) (M w)) → Q (.ref r) H'
def spInv (C : Addr) : Sp := fun vs H Q _ => ∃ (p : Addr) (z : Str) (m : Nat) (L : List Nat → Bool), vs = [.ref p] ∧ SgOk z ∧ TxL C H p z m L ∧ m ≤ 4000 ∧
  ∀ (H' : Hp) (r : Addr), Same H H' → TxL C H' r z m (fun w => !L w) → Q (.ref r) H'
def spWith (C : Addr) : Sp := fun vs H Q _ => ∃ (p q : Addr) (z : Str) (m k : Nat) (L M : List Nat → Bool), vs = [.ref p, .ref q] ∧ SgOk z ∧ TxL C H p z m L ∧ TxL C H q z k M ∧ m * k ≤ 4000 ∧
  ∀ (H' : Hp) (b : Bool), Same H H' → (b = true ↔ ∀ w, Wd z.cps.size w → L w = true → M w = true) → Q (.bl b) H'
/-- all_texts, none -/
def spEvery (C : Addr) (b : Bool) : Sp := fun vs H Q _ => ∃ (z : Str), vs = [.str z] ∧ SgOk z ∧ ∀ (H' : Hp) (r : Addr), Same H H' → TxL C H' r z 1 (fun _ => b) → Q (.ref r) H'
/-! ### texts over signs -/
def txt (z : Str) (w : List Nat) : Str := ⟨(w.map fun k => z.cps.getD k 0).toArray⟩
def one (z : Str) (k : Nat) : Str := ⟨#[z.cps.getD k 0]⟩
def SgIx (z : Str) : Prop := ∀ k, k < z.cps.size → ∃ rest, Builtin.Str.occurrences z (one z k) 0 z.length 1 = k :: rest
theorem menu_ix {z : Str} (h : z ∈ sgMenu) : SgIx z := by
  have key : ∀ z ∈ sgMenu, ∀ k ∈ List.range z.cps.size, (Builtin.Str.occurrences z (one z k) 0 z.length 1).head? = some k := by decide +kernel
  intro k hk
  have := key z h k (List.mem_range.mpr hk)
  cases e : Builtin.Str.occurrences z (one z k) 0 z.length 1 with
  | nil => rw [e] at this; cases this
  | cons a l =>
    rw [e] at this
    cases this
    exact ⟨l, rfl⟩
theorem txt_at {z : Str} {w : List Nat} {i c : Nat} (h : (txt z w).cps[i]? = some c) : ∃ k, w[i]? = some k ∧ (⟨#[c]⟩ : Str) = one z k := by
  unfold txt at h
  rw [List.getElem?_toArray, List.getElem?_map] at h
  cases e : w[i]? with
  | none => rw [e] at h; cases h
  | some k =>
    rw [e] at h
    cases h
    exact ⟨k, rfl, rfl⟩
theorem txt_size (z : Str) (w : List Nat) : (txt z w).cps.size = w.length := by
  unfold txt
  rw [List.size_toArray, List.length_map]
theorem txt_len (z : Str) (w : List Nat) : (txt z w).length = w.length := txt_size z w
theorem one_mem {z : Str} {k : Nat} (h : k < z.cps.size) : z.cps.getD k 0 ∈ z.cps.toList := by
  rw [Array.getD_eq_getD_getElem?, Array.getElem?_eq_getElem h]
  exact Array.getElem_mem_toList h
theorem txt_snoc (z : Str) (w : List Nat) (k : Nat) : txt z w ++ one z k = txt z (w ++ [k]) := by
  unfold txt one
  rw [List.map_append]
  show (⟨_⟩ : Str) = ⟨_⟩
  congr 1
  simp
def spIsText : Sp := fun vs H Q _ => ∃ (z : Str) (w : List Nat), vs = [.str z, .str (txt z w)] ∧ Wd z.cps.size w ∧ w.length ≤ 1000 ∧ ∀ H', Same H H' → Q (.bl true) H'
/-- the state to which a text leads -/
def spBehind : Sp := fun vs H Q _ => ∃ (z : Str) (a : Addr) (xs : List Addr) (R : List (List Nat)) (w : List Nat), vs = [.str z, .ref a, .str (txt z w)] ∧ SgIx z ∧ RowsAt H a xs R ∧ Mok z.cps.size R ∧ 0 < R.length ∧ Wd z.cps.size w ∧ w.length ≤ 1000 ∧ Q (nV (runM R 0 w)) H
def spIn (C : Addr) : Sp := fun vs H Q _ => ∃ (p : Addr) (z : Str) (m : Nat) (L : List Nat → Bool) (w : List Nat), vs = [.ref p, .str (txt z w)] ∧ SgIx z ∧ TxL C H p z m L ∧ Wd z.cps.size w ∧ w.length ≤ 1000 ∧ ∀ H', Same H H' → Q (.bl (L w)) H'
end Rg

/-! lists of texts; promises of what asks texts -/
namespace Rg
open PySem PySem.Spec PyProof.Rows L2 Mach
def txs (z : Str) (ws : List (List Nat)) : List V := ws.map fun w => V.str (txt z w)
/-- all texts of at most m signs -/
def spTexts : Sp := fun vs H Q _ => ∃ (z : Str) (m : Nat), vs = [.str z, nV m] ∧ SgOk z ∧ m ≤ 5 ∧
  ∀ (H' : Hp) (p : Addr) (ws : List (List Nat)), Same H H' → H' p = some (.lst (txs z ws)) → (∀ w ∈ ws, Wd z.cps.size w ∧ w.length ≤ m) → Q (.ref p) H'
/-- the state to which a text leads a state -/
def spLedT : Sp := fun vs H Q _ => ∃ (z : Str) (a : Addr) (xs : List Addr) (R : List (List Nat)) (w : List Nat), vs = [.str z, .ref a, nV 0, .str (txt z w)] ∧ SgIx z ∧ RowsAt H a xs R ∧ Mok z.cps.size R ∧ 0 < R.length ∧ Wd z.cps.size w ∧ w.length ≤ 1000 ∧ Q (nV (runM R 0 w)) H
def spHasT : Sp := fun vs H Q _ => ∃ (z : Str) (t a e : Addr) (xs : List Addr) (R : List (List Nat)) (E w : List Nat), vs = [.str z, .ref t, .str (txt z w)] ∧ SgIx z ∧ H t = some (.tup [.ref a, .ref e]) ∧ RowsAt H a xs R ∧ Mok z.cps.size R ∧ 0 < R.length ∧ H e = some (.lst (nVs E)) ∧ Wd z.cps.size w ∧ w.length ≤ 1000 ∧
  Q (.bl (decide (runM R 0 w ∈ E))) H
/-- the machine that a set tells -/
def spToldBy (C : Addr) : Sp := fun vs H Q _ => ∃ (p : Addr) (z : Str) (t e : Addr) (ys : List Addr) (R : List (List Nat)) (E : List Nat), vs = [.ref p] ∧ TxAt C H p z t e ys R E ∧ R.length ≤ 4000 ∧
  ∀ (H' : Hp) (q a e' : Addr) (xs : List Addr), Same H H' → (∀ x ∈ q :: a :: e' :: xs, H x = none) → H' q = some (.tup [.ref a, .ref e']) → RowsAt H' a xs R → H' e' = some (.lst (nVs E)) → Q (.ref q) H'
end Rg

namespace Rg
open PySem PySem.Spec PyProof.Rows L2 Mach
/-- [list(row) for row in rows] -/
theorem lc_copy {K : PySem.W.Frag} {H : Hp} {t D : Addr} {ys : List Addr} {R : List (List Nat)} {i : Nat} {σ : L2.St} {Qd : Hp → Prop} (hi : i < σ.length) (hR : RowsAt H t ys R) (hl : R.length ≤ 4000) (nD : H D = none)
    (q : ∀ (H' : Hp) (ks : List Addr), Same H H' → (∀ y ∈ ks, H y = none ∧ y ≠ D) → ks.Nodup → RowsAt H' D ks R → Qd H') :
    ∃ W : Nat → Nat → Hp → Prop, (∃ m, W 0 m (upd H D (.lst []))) ∧ ∀ j m H, W j m H →
      ((Itl K t).stop j H ∧ Qd H) ∨ ((Itl K t).go j H ∧ ∃ Nx : Hp → Prop, (∀ H', Nx H' → ∃ m', m' < m ∧ W (j + 1) m' H') ∧ ∀ x H', (Itl K t).yld j H x H' → gName i x (wipe σ [i]) H' fun σ2 H2 => wipe σ2 [i] = wipe σ [i] ∧ tYes σ2 H2 fun b H3 =>
        if b = true then tCB (fun xs H Q => ∃ p ys, xs = [V.ref p] ∧ (SqL K H p ys ∨ SqT K H p ys) ∧ ∀ l, H l = none → Q (.ref l) (upd H l (.lst ys))) (tCons (tVar i) tNil) σ2 H3 fun y H4 => ∃ acc, H4 D = some (.lst acc) ∧ acc.length < sizeLine ∧ Nx (upd H4 D (.lst (acc ++ [y]))) else Nx H3) := by
  have hyl := hR.len
  refine lc_list (K := K) (a := t) (xs := ys.map V.ref) (fun i H7 => Same H H7 ∧ ∃ ks : List Addr, ks.length = i ∧ H7 D = some (.lst (ks.map V.ref)) ∧ (∀ y ∈ ks, H y = none ∧ y ≠ D) ∧ ks.Nodup ∧ ∀ (j : Nat) (y : Addr), ks[j]? = some y → H7 y = some (.lst (nVs (rowOf R j))))
    ⟨same_new nD, [], rfl, by rw [upd_same]; rfl, fun y hy => (nomatch hy), List.nodup_nil, fun j y hy => by simp at hy⟩ (fun i H7 _ ⟨s7, _⟩ => SqL.of (s7 _ _ hR.at_)) ?_ ?_
  · rintro j v H7 hj ⟨s7, ks, kl, hD1, kn, knd, hrow⟩
    rw [List.getElem?_map] at hj
    obtain ⟨x, hx, rfl⟩ := Option.map_eq_some_iff.mp hj
    have hx7 := s7 _ _ (hR.row j x hx)
    have hil := (List.getElem?_eq_some_iff.mp hx).1
    show _ ∧ _
    refine ⟨?_, ?_⟩
    · show ((σ.set i none).set i (some (V.ref x))).set i none = σ.set i none
      rw [List.set_set, List.set_set]
    refine ⟨.ref x, ?_, x, _, rfl, .inl (SqL.of hx7), fun y ny => ?_⟩
    · show ((σ.set i none).set i (some (V.ref x)))[i]? = some (some (V.ref x))
      rw [List.getElem?_set_self (by rw [List.length_set]; exact hi)]
    have nyD : y ≠ D := (ne_of_none hD1 ny).symm
    have nyk : y ∉ ks := fun hy => by
      obtain ⟨j, hj, e⟩ := List.mem_iff_getElem.mp hy
      have := hrow j y (by rw [List.getElem?_eq_getElem hj, e])
      rw [this] at ny
      cases ny
    refine ⟨_, by rw [upd_ne nyD.symm]; exact hD1, by rw [List.length_map]; exact szBig (by omega), ?_, ks ++ [y], by rw [List.length_append, List.length_singleton, kl], ?_, ?_, ?_, ?_⟩
    · intro b' o eb
      rw [upd_ne (ne_of_none eb nD), upd_ne (ne_of_none (s7 _ _ eb) ny)]
      exact s7 _ _ eb
    · rw [upd_same, List.map_append]
      rfl
    · intro y' hy'
      rcases List.mem_append.mp hy' with z | z
      · exact kn y' z
      · rw [List.mem_singleton] at z
        rw [z]
        exact ⟨s7.free ny, nyD⟩
    · rw [List.nodup_append]
      refine ⟨knd, by simp, fun a ha b hb e => ?_⟩
      rw [List.mem_singleton] at hb
      rw [hb] at e
      rw [e] at ha
      exact nyk ha
    · intro j y' hy'
      by_cases hj : j < ks.length
      · rw [List.getElem?_append_left hj] at hy'
        have h1 := hrow j y' hy'
        rw [upd_ne (kn y' (List.mem_of_getElem? hy')).2, upd_ne (ne_of_none h1 ny)]
        exact h1
      · have hj2 : j = ks.length := by
          have := (List.getElem?_eq_some_iff.mp hy').1
          rw [List.length_append, List.length_singleton] at this
          omega
        rw [hj2, List.getElem?_concat_length] at hy'
        cases hy'
        rw [upd_ne nyD, upd_same, hj2, kl]
  · rintro H7 ⟨s7, ks, kl, hD1, kn, knd, hrow⟩
    rw [List.length_map] at kl
    exact q H7 ks s7 kn knd ⟨hD1, by omega, hrow⟩
theorem cutV_one (xs : List V) : cutV xs (some 1) none = xs.drop 1 := by
  unfold cutV
  rw [HT.sIx_none, show (some (1 : Int)) = some ((1 : Nat) : Int) from rfl, HT.sIx_nat]
  cases xs with
  | nil => rfl
  | cons x xs =>
    rw [Nat.min_eq_left (by rw [List.length_cons]; omega)]
    apply List.take_of_length_le
    rw [List.length_drop]
    exact Nat.le_refl _
theorem cutV_nVs (ns : List Nat) (lo hi : Option Int) : ∃ zs : List Nat, cutV (nVs ns) lo hi = nVs zs ∧ (∀ z ∈ zs, z ∈ ns) ∧ zs.length ≤ ns.length := by
  unfold cutV nVs
  rw [← List.map_drop, ← List.map_take]
  refine ⟨_, rfl, fun z hz => ?_, ?_⟩
  · exact List.mem_of_mem_drop (List.mem_of_mem_take hz)
  · rw [List.length_take, List.length_drop]
    omega
/-- rows without the first -/
theorem rows_tail {H : Hp} {c : Addr} {x0 : Addr} {xs : List Addr} {R : List (List Nat)} (hc : H c = some (.lst (xs.map V.ref))) (hl : xs.length + 1 = R.length) (h : ∀ (j : Nat) (y : Addr), xs[j]? = some y → H y = some (.lst (nVs (rowOf R (j + 1))))) : RowsAt H c xs (R.drop 1) := by
  refine ⟨hc, by rw [List.length_drop]; omega, fun j y hy => ?_⟩
  have e : rowOf (R.drop 1) j = rowOf R (j + 1) := by
    unfold rowOf
    rw [List.getD_eq_getElem?_getD, List.getD_eq_getElem?_getD, List.getElem?_drop, Nat.add_comm]
  rw [e]
  exact h j y hy
theorem rows_head {H : Hp} {a : Addr} {xs : List Addr} {R : List (List Nat)} (h : RowsAt H a xs R) (h0 : 0 < R.length) : ∃ x0 xs', xs = x0 :: xs' := by
  cases xs with
  | nil =>
    have := h.len
    rw [← this] at h0
    cases h0
  | cons x0 xs' => exact ⟨x0, xs', rfl⟩
end Rg

namespace Rg
open PySem PySem.Spec PyProof.Rows L2 Mach
theorem nVs_put (ns : List Nat) (j v : Nat) : (nVs ns).set j (nV v) = nVs (ns.set j v) := by
  unfold nVs
  rw [List.map_set]
theorem ixN_of {n k : Nat} (h : k < n) : ixN n (k : Int) = some k := by
  unfold ixN
  rw [if_pos (by omega), if_pos (by omega)]
  rfl
theorem rowOf_set_same {R : List (List Nat)} {i : Nat} {r : List Nat} (h : i < R.length) : rowOf (R.set i r) i = r := by
  unfold rowOf
  rw [List.getD_eq_getElem?_getD, List.getElem?_set_self h]
  rfl
theorem rowOf_set_ne {R : List (List Nat)} {i j : Nat} {r : List Nat} (h : i ≠ j) : rowOf (R.set i r) j = rowOf R j := by
  unfold rowOf
  rw [List.getD_eq_getElem?_getD, List.getElem?_set_ne h, List.getD_eq_getElem?_getD]
/-- one row stored anew -/
theorem rows_put {H : Hp} {a : Addr} {xs : List Addr} {R : List (List Nat)} {i : Nat} {x : Addr} {r : List Nat} (h : RowsAt H a xs R) (nd : xs.Nodup) (hx : xs[i]? = some x) (ha : a ≠ x) : RowsAt (upd H x (.lst (nVs r))) a xs (R.set i r) := by
  have hi : i < R.length := by rw [← h.len]; exact (List.getElem?_eq_some_iff.mp hx).1
  refine ⟨by rw [upd_ne ha]; exact h.at_, by rw [List.length_set]; exact h.len, fun j y hy => ?_⟩
  by_cases e : i = j
  · subst e
    rw [hx] at hy
    cases hy
    rw [upd_same, rowOf_set_same hi]
  · have : y ≠ x := by
      intro z
      obtain ⟨h1, e1⟩ := List.getElem?_eq_some_iff.mp hx
      obtain ⟨h2, e2⟩ := List.getElem?_eq_some_iff.mp hy
      exact e ((List.getElem_inj nd).mp (by rw [e1, e2, z]))
    rw [upd_ne this, rowOf_set_ne e]
    exact h.row j y hy
/-- one row more -/
theorem rows_more {H : Hp} {a : Addr} {xs : List Addr} {R : List (List Nat)} {y : Addr} {r : List Nat} (h : RowsAt H a xs R) (hxa : ∀ x ∈ xs, x ≠ a) (hy : H y = some (.lst (nVs r))) (ya : y ≠ a) : RowsAt (upd H a (.lst (xs.map V.ref ++ [.ref y]))) a (xs ++ [y]) (R ++ [r]) := by
  refine ⟨by rw [upd_same, List.map_append]; rfl, by rw [List.length_append, List.length_append, h.len]; rfl, fun j z hz => ?_⟩
  by_cases hj : j < xs.length
  · rw [List.getElem?_append_left hj] at hz
    rw [upd_ne (hxa z (List.mem_of_getElem? hz))]
    have e : rowOf (R ++ [r]) j = rowOf R j := by
      unfold rowOf
      rw [List.getD_eq_getElem?_getD, List.getElem?_append_left (by rw [← h.len]; exact hj), List.getD_eq_getElem?_getD]
    rw [e]
    exact h.row j z hz
  · have hj2 : j = xs.length := by
      have := (List.getElem?_eq_some_iff.mp hz).1
      rw [List.length_append, List.length_singleton] at this
      omega
    subst hj2
    rw [List.getElem?_concat_length] at hz
    cases hz
    rw [upd_ne ya, hy]
    have e : rowOf (R ++ [r]) xs.length = r := by
      unfold rowOf
      rw [List.getD_eq_getElem?_getD, h.len, List.getElem?_concat_length]
      rfl
    rw [e]
theorem mok_put {n : Nat} {R : List (List Nat)} {i : Nat} {r : List Nat} (h : Mok n R) (hi : i < R.length) (hr : r.length = n) (hx : ∀ x ∈ r, x < R.length) : Mok n (R.set i r) := by
  refine ⟨fun q hq => ?_, fun q hq x hxx => ?_⟩
  · rw [List.length_set] at hq
    by_cases e : i = q
    · subst e
      rw [rowOf_set_same hi]
      exact hr
    · rw [rowOf_set_ne e]
      exact h.wide q hq
  · rw [List.length_set] at hq ⊢
    by_cases e : i = q
    · subst e
      rw [rowOf_set_same hi] at hxx
      exact hx x hxx
    · rw [rowOf_set_ne e] at hxx
      exact h.lt q hq x hxx
theorem mok_more {n : Nat} {R : List (List Nat)} {i : Nat} (h : Mok n R) (hi : i < R.length) : Mok n (R ++ [rowOf R i]) := by
  have key : ∀ q, q < R.length + 1 → ∃ q', q' < R.length ∧ rowOf (R ++ [rowOf R i]) q = rowOf R q' := fun q hq => by
    by_cases hl : q < R.length
    · refine ⟨q, hl, ?_⟩
      unfold rowOf
      rw [List.getD_eq_getElem?_getD, List.getElem?_append_left hl, List.getD_eq_getElem?_getD]
    · have e : q = R.length := by omega
      subst e
      refine ⟨i, hi, ?_⟩
      unfold rowOf
      rw [List.getD_eq_getElem?_getD, List.getElem?_concat_length]
      rfl
  refine ⟨fun q hq => ?_, fun q hq x hx => ?_⟩
  · rw [List.length_append, List.length_singleton] at hq
    obtain ⟨q', h1, e⟩ := key q hq
    rw [e]
    exact h.wide q' h1
  · rw [List.length_append, List.length_singleton] at hq ⊢
    obtain ⟨q', h1, e⟩ := key q hq
    rw [e] at hx
    have := h.lt q' h1 x hx
    omega
end Rg

/-! pairs of machines, as a double walk builds them -/
namespace Mach
def prP (R S : List (List Nat)) (i j : Nat) : List (List Nat) := ((R.take i).flatMap fun r => S.map fun s => prow S.length r s) ++ (S.take j).map fun s => prow S.length (rowOf R i) s
def peP (W : Bool → Bool → Bool) (E F : List Nat) (m i j : Nat) : List Nat := prEs W E F m i ++ prEnd W E F m i j
theorem prP_zero (R S : List (List Nat)) : prP R S 0 0 = [] := by
  unfold prP
  rw [List.take_zero, List.take_zero]
  rfl
theorem prP_step {R S : List (List Nat)} {i j : Nat} (hj : j < S.length) : prP R S i (j + 1) = prP R S i j ++ [prow S.length (rowOf R i) (rowOf S j)] := by
  unfold prP
  have e : S[j]? = some (rowOf S j) := by
    unfold rowOf
    rw [List.getD_eq_getElem?_getD, List.getElem?_eq_getElem hj]
    rfl
  rw [Rg.take_snoc e, List.map_append, List.append_assoc]
  rfl
theorem prP_next {R S : List (List Nat)} {i : Nat} (hi : i < R.length) : prP R S i S.length = prP R S (i + 1) 0 := by
  unfold prP
  have e : R[i]? = some (rowOf R i) := by
    unfold rowOf
    rw [List.getD_eq_getElem?_getD, List.getElem?_eq_getElem hi]
    rfl
  rw [List.take_length, Rg.take_snoc e, List.flatMap_append, List.flatMap_cons, List.flatMap_nil, List.append_nil, List.take_zero, List.map_nil, List.append_nil]
theorem prP_end (R S : List (List Nat)) : prP R S R.length 0 = pr R S := by
  unfold prP pr
  rw [List.take_length, List.take_zero, List.map_nil, List.append_nil]
theorem prP_len {R S : List (List Nat)} {i j : Nat} (hi : i ≤ R.length) (hj : j ≤ S.length) : (prP R S i j).length = i * S.length + j := by
  unfold prP
  rw [List.length_append, flat_len (m := S.length) _ (fun r _ => by rw [List.length_map]), List.length_take, List.length_map, List.length_take, Nat.min_eq_left hi, Nat.min_eq_left hj]
variable {W : Bool → Bool → Bool} {E F : List Nat} {m i j : Nat}
theorem peP_zero : peP W E F m 0 0 = [] := by
  unfold peP prEs prEnd
  rfl
theorem peP_yes (h : W (decide (i ∈ E)) (decide (j ∈ F)) = true) : peP W E F m i (j + 1) = peP W E F m i j ++ [i * m + j] := by
  unfold peP
  rw [prEnd_succ, if_pos h, List.append_assoc]
theorem peP_no (h : ¬ W (decide (i ∈ E)) (decide (j ∈ F)) = true) : peP W E F m i (j + 1) = peP W E F m i j := by
  unfold peP
  rw [prEnd_succ, if_neg h, List.append_nil]
theorem peP_next : peP W E F m i m = peP W E F m (i + 1) 0 := by
  unfold peP
  rw [prEs_succ, show prEnd W E F m (i + 1) 0 = [] from rfl, List.append_nil]
theorem peP_end : peP W E F m i 0 = prEs W E F m i := by
  unfold peP
  rw [show prEnd W E F m i 0 = [] from rfl, List.append_nil]
theorem peP_len : (peP W E F m i j).length ≤ i * m + j := by
  unfold peP
  rw [List.length_append]
  exact Nat.add_le_add (prEs_len m i) (prEnd_len m i j)
end Mach
namespace Rg
open PySem PySem.Spec PyProof.Rows L2 Mach
theorem upd_mk {H : Hp} {C x dx : Addr} (nx : H x = none) (ndx : H dx = none) (nex : dx ≠ x) : Same H (upd (upd H dx (.own x)) x (.ins C dx [])) := fun b o e => by
  rw [upd_ne (ne_of_none e nx), upd_ne (ne_of_none e ndx)]
  exact e
theorem ref_at {xs : List Addr} {i : Nat} {b : V} (h : (xs.map V.ref)[i]? = some b) : ∃ y, xs[i]? = some y ∧ b = .ref y := by
  rw [List.getElem?_map] at h
  cases ey : xs[i]? with
  | none => rw [ey] at h; cases h
  | some y => rw [ey] at h; cases h; exact ⟨y, rfl, rfl⟩
structure PrAt (H H1 : Hp) (pr pe : Addr) (xs : List Addr) (PR : List (List Nat)) (ends : List Nat) : Prop where
  same : Same H H1
  nr : H pr = none
  ne : H pe = none
  rp : pr ≠ pe
  fr : ∀ x ∈ xs, x ≠ pr ∧ x ≠ pe
  rows : RowsAt H1 pr xs PR
  ends : H1 pe = some (.lst (nVs ends))
section
variable {H H1 H2 : Hp} {pr pe y : Addr} {xs : List Addr} {PR : List (List Nat)} {ends r : List Nat} {n : Nat}
theorem PrAt.keep (h : PrAt H H1 pr pe xs PR ends) (s : Same H1 H2) : PrAt H H2 pr pe xs PR ends := ⟨h.same.trans s, h.nr, h.ne, h.rp, h.fr, h.rows.same s, s _ _ h.ends⟩
theorem PrAt.row (h : PrAt H H1 pr pe xs PR ends) (hy : H1 y = some (.lst (nVs r))) (y1 : y ≠ pr) (y2 : y ≠ pe) : PrAt H (upd H1 pr (.lst (xs.map V.ref ++ [.ref y]))) pr pe (xs ++ [y]) (PR ++ [r]) ends := by
  refine ⟨fun b o e => ?_, h.nr, h.ne, h.rp, fun x hx => ?_, rows_more h.rows (fun x hx => (h.fr x hx).1) hy y1, ?_⟩
  · rw [upd_ne (ne_of_none e h.nr)]
    exact h.same _ _ e
  · rcases List.mem_append.mp hx with q | q
    · exact h.fr x q
    · rw [List.mem_singleton] at q
      rw [q]
      exact ⟨y1, y2⟩
  · rw [upd_ne h.rp.symm]
    exact h.ends
theorem PrAt.endd (h : PrAt H H1 pr pe xs PR ends) : PrAt H (upd H1 pe (.lst (nVs ends ++ [nV n]))) pr pe xs PR (ends ++ [n]) := by
  refine ⟨fun b o e => ?_, h.nr, h.ne, h.rp, h.fr, ⟨by rw [upd_ne h.rp]; exact h.rows.at_, h.rows.len, fun i x hx => by rw [upd_ne (h.fr x (List.mem_of_getElem? hx)).2]; exact h.rows.row i x hx⟩, by rw [upd_same, nVs_snoc]⟩
  rw [upd_ne (ne_of_none e h.ne)]
  exact h.same _ _ e
end
end Rg

/-! joins, repeated sets, sets of words: mathematics, heaps, promises -/
namespace Mach
/-- no machine of the same texts has fewer states -/
theorem least_le {n : Nat} {R S : List (List Nat)} {E G : List Nat} (h : Least n R E) (hS : Mok n S) (s0 : 0 < S.length) (al : Alk n R E 0 S G 0) : R.length ≤ S.length := by
  have hw : ∀ q, ∃ w, q < R.length → Wd n w ∧ runM R 0 w = q := fun q => by
    by_cases hq : q < R.length
    · obtain ⟨w, a, b⟩ := h.acc q hq
      exact ⟨w, fun _ => ⟨a, b⟩⟩
    · exact ⟨[], fun z => absurd z hq⟩
  have hg : ∀ q, q < R.length → Wd n (Classical.choose (hw q)) ∧ runM R 0 (Classical.choose (hw q)) = q := fun q => Classical.choose_spec (hw q)
  have nd : ((List.range R.length).map fun q => runM S 0 (Classical.choose (hw q))).Nodup := by
    refine List.pairwise_map.mpr (List.Pairwise.imp_of_mem ?_ (List.nodup_range (n := R.length)))
    intro a b ha hb hne e
    have h1 := hg a (List.mem_range.mp ha)
    have h2 := hg b (List.mem_range.mp hb)
    have a1 := al.run h1.1
    have a2 := al.run h2.1
    rw [h1.2, e] at a1
    rw [h2.2] at a2
    exact hne (h.red a b (List.mem_range.mp ha) (List.mem_range.mp hb) (a1.trans a2.symm))
  have := nodup_lt_length nd fun x hx => by
    obtain ⟨q, hq, rfl⟩ := List.mem_map.mp hx
    exact runM_lt hS s0 (hg q (List.mem_range.mp hq)).1
  rwa [List.length_map, List.length_range] at this
theorem least_le_lg {n : Nat} {R S : List (List Nat)} {E G : List Nat} {L : List Nat → Bool} (h : Least n R E) (l : Lg n R E L) (hS : Mok n S) (s0 : 0 < S.length) (m : Lg n S G L) : R.length ≤ S.length :=
  least_le (G := G) h hS s0 fun w hw => by rw [lg_iff l hw, lg_iff m hw]
theorem Least.elen {n : Nat} {R : List (List Nat)} {E : List Nat} (h : Least n R E) : E.length ≤ R.length := by
  rw [h.ends]
  exact Nat.le_trans (List.length_filter_le _ _) (by rw [List.length_range]; exact Nat.le_refl _)
theorem Least.elt {n : Nat} {R : List (List Nat)} {E : List Nat} (h : Least n R E) : ∀ s ∈ E, s < R.length := fun s hs => by
  rw [h.ends] at hs
  exact List.mem_range.mp (List.mem_filter.mp hs).1
/-! ### words as paths -/
structure Tri (n : Nat) (mv : List Mv) (many : Nat) (lab : Nat → List Nat) : Prop where
  pos : 0 < many
  zero : lab 0 = []
  wd : ∀ x, x < many → Wd n (lab x)
  mvs : ∀ s k x, (s, k, x) ∈ mv → ∃ j : Nat, k = (j : Int) ∧ j < n ∧ s < many ∧ x < many ∧ x ≠ 0 ∧ lab x = lab s ++ [j]
  into : ∀ x, x < many → x ≠ 0 → ∃ (s j : Nat), (s, (j : Int), x) ∈ mv ∧ s < many ∧ lab x = lab s ++ [j]
section
variable {n many : Nat} {mv : List Mv} {lab : Nat → List Nat}
theorem Tri.begin (n : Nat) : Tri n [] 1 fun _ => [] := ⟨by decide, rfl, fun _ _ => Wd.nil n, fun _ _ _ z => (nomatch z), fun x h1 h2 => by omega⟩
theorem Tri.more (h : Tri n mv many lab) {s j : Nat} (hs : s < many) (hj : j < n) : Tri n (mv ++ [(s, (j : Int), many)]) (many + 1) fun x => if x = many then lab s ++ [j] else lab x := by
  have hp := h.pos
  refine ⟨by omega, by rw [if_neg (by omega)]; exact h.zero, fun x hx => ?_, fun s' k x hm => ?_, fun x hx h0 => ?_⟩
  · show Wd n (if x = many then lab s ++ [j] else lab x)
    split
    · exact (h.wd s hs).app (Wd.one hj)
    · exact h.wd x (by omega)
  · rcases List.mem_append.mp hm with z | z
    · obtain ⟨j', a, b, c, d, e, f⟩ := h.mvs s' k x z
      refine ⟨j', a, b, by omega, by omega, e, ?_⟩
      show (if x = many then _ else lab x) = (if s' = many then _ else lab s') ++ [j']
      rw [if_neg (by omega), if_neg (by omega), f]
    · rw [List.mem_singleton] at z
      injection z with z1 z2
      injection z2 with z2 z3
      refine ⟨j, z2, hj, by omega, by omega, by omega, ?_⟩
      show (if x = many then lab s ++ [j] else lab x) = (if s' = many then lab s ++ [j] else lab s') ++ [j]
      rw [if_pos z3, if_neg (by omega), z1]
  · by_cases e : x = many
    · subst e
      refine ⟨s, j, List.mem_append_right _ (List.mem_singleton.mpr rfl), by omega, ?_⟩
      show (if x = x then _ else _) = (if s = x then _ else lab s) ++ [j]
      rw [if_pos rfl, if_neg (by omega)]
    · obtain ⟨s', j', a, b, c⟩ := h.into x (by omega) h0
      refine ⟨s', j', List.mem_append_left _ a, by omega, ?_⟩
      show (if x = many then _ else lab x) = (if s' = many then _ else lab s') ++ [j']
      rw [if_neg e, if_neg (by omega), c]
theorem Tri.loud (h : Tri n mv many lab) {y x : Nat} : (y, (-1 : Int), x) ∉ mv := fun z => by
  obtain ⟨j, a, _⟩ := h.mvs _ _ _ z
  omega
theorem Tri.rch (h : Tri n mv many lab) {P : Nat → Prop} {x : Nat} : Rch mv P x ↔ P x := ⟨fun r => by
  induction r with
  | base p => exact p
  | step _ z _ => exact absurd z h.loud, .base⟩
theorem Tri.des (h : Tri n mv many lab) : Des mv n many (fun x => x ∈ [0]) fun w x => x < many ∧ lab x = w := by
  refine ⟨fun x hx => ?_, fun m hm => ?_, fun x => ?_, fun w k hw hk x => ?_⟩
  · rw [List.mem_singleton.mp hx]
    exact h.pos
  · obtain ⟨s, k, x⟩ := m
    obtain ⟨j, _, _, _, d, _⟩ := h.mvs s k x hm
    exact d
  · rw [h.rch]
    constructor
    · intro z
      rw [List.mem_singleton.mp z]
      exact ⟨h.pos, h.zero⟩
    · rintro ⟨a, b⟩
      by_cases e : x = 0
      · rw [e]
        exact List.mem_singleton.mpr rfl
      · obtain ⟨s, j, _, _, c⟩ := h.into x a e
        rw [b] at c
        cases (List.nil_eq_append_iff.mp c).2
  · rw [h.rch]
    constructor
    · rintro ⟨y, ⟨a, b⟩, c⟩
      obtain ⟨j, d, _, _, e, _, f⟩ := h.mvs _ _ _ c
      refine ⟨e, ?_⟩
      rw [f, b, show j = k from by omega]
    · rintro ⟨a, b⟩
      have e : x ≠ 0 := fun z => by
        rw [z, h.zero] at b
        cases (List.nil_eq_append_iff.mp b).2
      obtain ⟨s, j, c, d, f⟩ := h.into x a e
      rw [b] at f
      have f' := List.append_inj' f rfl
      injection f'.2 with f2
      exact ⟨s, ⟨d, f'.1.symm⟩, by rw [f2]; exact c⟩
noncomputable def foS (mv : List Mv) (w : List Nat) : List Nat := w.foldl (nxS mv) (silF mv fun x => x ∈ [0])
theorem nxS_nil (mv : List Mv) (k : Nat) : nxS mv [] k = [] := by
  refine (IsSil.eq (T := []) ⟨List.Pairwise.nil, fun x => ⟨fun z => (nomatch z), fun r => ?_⟩⟩).symm
  induction r with
  | base p => obtain ⟨y, hy, _⟩ := p; exact nomatch hy
  | step _ _ ih => exact nomatch ih
noncomputable def UT (mv : List Mv) (many : Nat) (lab : Nat → List Nat) : List (List Nat) := ((List.range many).map fun x => foS mv (lab x)) ++ [[]]
theorem UT_len : (UT mv many lab).length = many + 1 := by
  unfold UT
  rw [List.length_append, List.length_map, List.length_range]
  rfl
theorem Tri.univ (h : Tri n mv many lab) : Univ mv n (silF mv fun x => x ∈ [0]) (UT mv many lab) := by
  constructor
  · refine List.mem_append_left _ (List.mem_map.mpr ⟨0, List.mem_range.mpr h.pos, ?_⟩)
    rw [h.zero]
    rfl
  · intro T hT k hk
    rcases List.mem_append.mp hT with z | z
    · obtain ⟨x, hx, rfl⟩ := List.mem_map.mp z
      have hx := List.mem_range.mp hx
      have e : nxS mv (foS mv (lab x)) k = foS mv (lab x ++ [k]) := by
        unfold foS
        rw [List.foldl_append]
        rfl
      show nxS mv (foS mv (lab x)) k ∈ _
      rw [e]
      have hd := (h.des).fold (lab x ++ [k]) ((h.wd x hx).app (Wd.one hk))
      by_cases hy : ∃ y, y < many ∧ lab y = lab x ++ [k]
      · obtain ⟨y, a, b⟩ := hy
        exact List.mem_append_left _ (List.mem_map.mpr ⟨y, List.mem_range.mpr a, by rw [b]⟩)
      · refine List.mem_append_right _ (List.mem_singleton.mpr ?_)
        refine List.eq_nil_iff_forall_not_mem.mpr fun y hy' => hy ⟨y, (hd.2 y).mp hy'⟩
    · rw [List.mem_singleton.mp z, nxS_nil]
      exact List.mem_append_right _ (List.mem_singleton.mpr rfl)
theorem Tri.few (h : Tri n mv many lab) {T : List Nat} (hT : T ∈ UT mv many lab) : T.length ≤ many := by
  rcases List.mem_append.mp hT with z | z
  · obtain ⟨x, hx, rfl⟩ := List.mem_map.mp z
    have hd := (h.des).fold (lab x) (h.wd x (List.mem_range.mp hx))
    refine nodup_lt_length (L := foS mv (lab x)) (hd.1.imp fun z => Nat.ne_of_lt z) fun y hy => ((hd.2 y).mp hy).1
  · rw [List.mem_singleton.mp z]
    exact Nat.zero_le _
/-- the ends of the words so far -/
structure TriE (many : Nat) (lab : Nat → List Nat) (ends : List Nat) (ws : List (List Nat)) : Prop where
  lt : ∀ e ∈ ends, e < many ∧ lab e ∈ ws
  got : ∀ w ∈ ws, ∃ e ∈ ends, lab e = w
theorem TriE.begin : TriE 1 (fun _ => []) [] [] := ⟨fun _ z => (nomatch z), fun _ z => (nomatch z)⟩
theorem TriE.more {ends : List Nat} {ws : List (List Nat)} {x : List Nat} (h : TriE many lab ends ws) : TriE (many + 1) (fun y => if y = many then x else lab y) ends ws :=
  ⟨fun e he => by
    have := h.lt e he
    refine ⟨by omega, ?_⟩
    show (if e = many then x else lab e) ∈ ws
    rw [if_neg (by omega)]
    exact this.2, fun w hw => by
    obtain ⟨e, a, b⟩ := h.got w hw
    have := h.lt e a
    refine ⟨e, a, ?_⟩
    show (if e = many then x else lab e) = w
    rw [if_neg (by omega)]
    exact b⟩
theorem TriE.endd {ends : List Nat} {ws : List (List Nat)} {s : Nat} {w : List Nat} (h : TriE many lab ends ws) (hs : s < many) (hw : lab s = w) : TriE many lab (ends ++ [s]) (ws ++ [w]) :=
  ⟨fun e he => by
    rcases List.mem_append.mp he with z | z
    · exact ⟨(h.lt e z).1, List.mem_append_left _ (h.lt e z).2⟩
    · rw [List.mem_singleton.mp z]
      exact ⟨hs, List.mem_append_right _ (List.mem_singleton.mpr hw)⟩, fun v hv => by
    rcases List.mem_append.mp hv with z | z
    · obtain ⟨e, a, b⟩ := h.got v z
      exact ⟨e, List.mem_append_left _ a, b⟩
    · rw [List.mem_singleton.mp z]
      exact ⟨s, List.mem_append_right _ (List.mem_singleton.mpr rfl), hw⟩⟩
theorem Tri.lang (h : Tri n mv many lab) {ends : List Nat} {ws : List (List Nat)} (he : TriE many lab ends ws) {w : List Nat} (hw : Wd n w) :
    (∃ s ∈ w.foldl (nxS mv) (silF mv fun x => x ∈ [0]), s ∈ ends) ↔ w ∈ ws := by
  have hd := (h.des).fold w hw
  constructor
  · rintro ⟨s, a, b⟩
    rw [← ((hd.2 s).mp a).2]
    exact (he.lt s b).2
  · intro z
    obtain ⟨e, a, b⟩ := he.got w z
    exact ⟨e, (hd.2 e).mpr ⟨(he.lt e a).1, b⟩, a⟩
end
/-! ### how many states of the texts joined of so many -/
def tb (m : Nat) : Nat → Nat
  | 0 => 2
  | 1 => m
  | i + 2 => tb m (i + 1) * 2 ^ m
theorem pow_one {L : List Nat → Bool} (w : List Nat) : powL L 1 w = L w := eps_cat w
end Mach
namespace Rg
open PySem PySem.Spec PyProof.Rows L2 Mach
theorem paired_app {α β : Type} {F : α → β → Prop} : ∀ {xs xs' : List α} {ys ys' : List β}, Paired F xs ys → Paired F xs' ys' → Paired F (xs ++ xs') (ys ++ ys')
  | _, _, _, _, .nil, h => h
  | _, _, _, _, .cons a t, h => .cons a (paired_app t h)
theorem TxL.cong {C : Addr} {H : Hp} {p : Addr} {z : Str} {m : Nat} {L M : List Nat → Bool} (h : TxL C H p z m L) (e : ∀ w, Wd z.cps.size w → L w = M w) : TxL C H p z m M := by
  obtain ⟨t, e', ys, R, E, a, b, c, d⟩ := h
  exact ⟨t, e', ys, R, E, a, b, fun w hw => (c w hw).trans (e w hw), d⟩
/-- a set has no more states than another one of the same texts -/
theorem TxL.bound {C : Addr} {H H' : Hp} {p q : Addr} {z : Str} {m k : Nat} {L M : List Nat → Bool} (h : TxL C H p z m L) (h' : TxL C H' q z k M) (e : ∀ w, Wd z.cps.size w → L w = M w) : TxL C H p z k M := by
  obtain ⟨t, e1, ys, R, E, a, b, c, d⟩ := h.cong e
  obtain ⟨t', e2, ys', R', E', a', b', c', d'⟩ := h'
  exact ⟨t, e1, ys, R, E, a, b, c, Nat.le_trans (least_le_lg b c b'.ok b'.ne c') d'⟩
/-- moves of a machine -/
def spMvs : Sp := fun vs H Q _ => ∃ (a : Addr) (xs : List Addr) (R : List (List Nat)) (n b : Nat), vs = [.ref a, nV b] ∧ RowsAt H a xs R ∧ Mok n R ∧ n ≤ 4 ∧ R.length ≤ 1000 ∧
  ∀ (H' : Hp) (m : Addr) (ms : List Addr), Same H H' → H m = none → MvAt H' m ms (mvO R b) → Q (.ref m) H'
def spJoin (C : Addr) : Sp := fun vs H Q _ => ∃ (p q : Addr) (z : Str) (m k : Nat) (L M : List Nat → Bool), vs = [.ref p, .ref q] ∧ SgOk z ∧ TxL C H p z m L ∧ TxL C H q z k M ∧ m ≤ 600 ∧ k ≤ 10 ∧ m * 2 ^ k ≤ 2000 ∧
  ∀ (H' : Hp) (r : Addr), Same H H' → TxL C H' r z (m * 2 ^ k) (catL L M) → Q (.ref r) H'
def spRep (C : Addr) : Sp := fun vs H Q _ => ∃ (p : Addr) (z : Str) (m : Nat) (L : List Nat → Bool), vs = [.ref p] ∧ SgOk z ∧ TxL C H p z m L ∧ m ≤ 9 ∧
  ∀ (H' : Hp) (r : Addr), Same H H' → TxL C H' r z (2 ^ (m + 1)) (starL L) → Q (.ref r) H'
def spTimes (C : Addr) : Sp := fun vs H Q _ => ∃ (p : Addr) (z : Str) (m n : Nat) (L : List Nat → Bool), vs = [.ref p, nV n] ∧ SgOk z ∧ SgIx z ∧ TxL C H p z m L ∧ m ≤ 10 ∧ n ≤ 100 ∧ (∀ i, i < n → tb m i ≤ 600 ∧ tb m i * 2 ^ m ≤ 2000) ∧
  ∀ (H' : Hp) (r : Addr), Same H H' → TxL C H' r z (tb m n) (powL L n) → Q (.ref r) H'
def lens (ws : List (List Nat)) : Nat := (ws.map List.length).sum
def spOfW (C : Addr) : Sp := fun vs H Q _ => ∃ (z : Str) (l : Addr) (ws : List (List Nat)), vs = [.str z, .ref l] ∧ SgOk z ∧ SgIx z ∧ H l = some (.lst (txs z ws)) ∧ (∀ w ∈ ws, Wd z.cps.size w) ∧ ws.length ≤ 100 ∧ lens ws ≤ 60 ∧
  ∀ (H' : Hp) (r : Addr), Same H H' → TxL C H' r z (lens ws + 2) (fun w => decide (w ∈ ws)) → Q (.ref r) H'
theorem lens_snoc (ws : List (List Nat)) (w : List Nat) : lens (ws ++ [w]) = lens ws + w.length := by
  unfold lens
  rw [List.map_append, List.sum_append]
  rfl
theorem lens_take (ws : List (List Nat)) (i : Nat) : lens (ws.take i) ≤ lens ws := by
  have h : lens ws = lens (ws.take i) + lens (ws.drop i) := by
    unfold lens
    rw [← List.sum_append, ← List.map_append, List.take_append_drop]
  omega
/-- moves and ends, as words are read -/
structure MwAt (H H1 : Hp) (pm pe : Addr) (ms : List Addr) (mv : List Mv) (ends : List Nat) : Prop where
  same : Same H H1
  nm : H pm = none
  ne : H pe = none
  mp : pm ≠ pe
  mvs : MvAt H1 pm ms mv
  ends : H1 pe = some (.lst (nVs ends))
section
variable {H H1 H2 : Hp} {pm pe t : Addr} {ms : List Addr} {mv : List Mv} {ends : List Nat} {x : Mv} {n : Nat}
theorem MwAt.keep (h : MwAt H H1 pm pe ms mv ends) (s : Same H1 H2) : MwAt H H2 pm pe ms mv ends := ⟨h.same.trans s, h.nm, h.ne, h.mp, h.mvs.same s, s _ _ h.ends⟩
theorem MwAt.mvd (h : MwAt H H1 pm pe ms mv ends) (ht : H1 t = some (.tup [nV x.1, .int x.2.1, nV x.2.2])) : MwAt H (upd H1 pm (.lst (ms.map V.ref ++ [.ref t]))) pm pe (ms ++ [t]) (mv ++ [x]) ends := by
  refine ⟨fun b o eb => ?_, h.nm, h.ne, h.mp, ⟨by rw [upd_same, List.map_append]; rfl, ?_⟩, ?_⟩
  · rw [upd_ne (ne_of_none eb h.nm)]
    exact h.same _ _ eb
  · have key : ∀ (u : Addr) (v : Mv), H1 u = some (.tup [nV v.1, .int v.2.1, nV v.2.2]) → (upd H1 pm (.lst (ms.map V.ref ++ [.ref t]))) u = some (.tup [nV v.1, .int v.2.1, nV v.2.2]) := fun u v hu => by
      rw [upd_ne (ne_of hu h.mvs.1 (fun z => by cases z))]
      exact hu
    exact paired_snoc (paired_keep h.mvs.2 fun u _ v hu => key u v hu) (key t x ht)
  · rw [upd_ne h.mp.symm]
    exact h.ends
theorem MwAt.endd (h : MwAt H H1 pm pe ms mv ends) : MwAt H (upd H1 pe (.lst (nVs ends ++ [nV n]))) pm pe ms mv (ends ++ [n]) := by
  refine ⟨fun b o eb => ?_, h.nm, h.ne, h.mp, ⟨?_, ?_⟩, by rw [upd_same, nVs_snoc]⟩
  · rw [upd_ne (ne_of_none eb h.ne)]
    exact h.same _ _ eb
  · rw [upd_ne h.mp]
    exact h.mvs.1
  · refine paired_keep h.mvs.2 fun u _ v hu => ?_
    rw [upd_ne (ne_of hu h.ends (fun z => by cases z))]
    exact hu
end
end Rg

/-! expressions that make sets of texts: which language they make -/
namespace Rg
open PySem PySem.Spec PyProof.Rows L2 Mach
/-- what the operators of the class ask -/
structure TxB (K : PySem.W.Frag) (C fQ : Addr) : Prop where
  T : TxC K C
  eqc : EqCls K C fQ
  nC : PySem.W.notFirst K C (.ref C) = true
  ha : PySem.W.findIn K (.ref C) "__class__" = some (some (.builtin "object.__class__"))
  hn : PySem.W.specialIn K (.builtin "object.__class__") "__get__" = some (some (.builtin "getset_descriptor.__get__"))
  ht : PySem.W.takesIn K (.builtin "object.__class__") = some true
  hm : PySem.W.mroIn K C (.type "object") = some true
  sf : PySem.W.selfFirst K C = true
/-- an operator -/
def OpOk (P : Program) (w : World) (K : PySem.W.Frag) (mg : Str → Option Value) (base : Heap) (C : Addr) (k : Nat) (op : Operator) (W : Bool → Bool → Bool) : Prop := ∃ (f : Addr) (fd : FuncData), PySem.W.findIn K (.ref C) (PySem.dunder op.info.2) = some (some (.ref f)) ∧ PySem.W.isFn K (.ref f) = true ∧
  FnOk P w K mg base CX0 k f fd ["self", "other"] (spBin C W) ∧ Binds K fd ["self", "other"] []
def InvOk (P : Program) (w : World) (K : PySem.W.Frag) (mg : Str → Option Value) (base : Heap) (C : Addr) (k : Nat) : Prop := ∃ (f : Addr) (fd : FuncData), PySem.W.findIn K (.ref C) "__invert__" = some (some (.ref f)) ∧ PySem.W.isFn K (.ref f) = true ∧
  FnOk P w K mg base CX0 k f fd ["self"] (spInv C) ∧ Binds K fd ["self"] []
theorem op_bin {X : Cx} {C : Addr} {k : Nat} {op : Operator} {W : Bool → Bool → Bool} (sf : PySem.W.selfFirst X.K C = true) (h : OpOk X.prog X.w X.K X.mg X.base C k op W) (hr : Room k X.A) : OpR X (binaryOp op) (rBinOwn C (spBin C W) [] E0) := by
  obtain ⟨f, fd, h1, h2, h3, h4⟩ := h
  exact op_binOwn sf h1 h2 h3 hr h4 .nil pass0
theorem un_inv' {X : Cx} {C : Addr} {k : Nat} (h : InvOk X.prog X.w X.K X.mg X.base C k) (hr : Room k X.A) : UnR X (unaryOp .Invert) (rInvOwn C (spInv C) [] E0) := by
  obtain ⟨f, fd, h1, h2, h3, h4⟩ := h
  exact un_invOwn h1 h2 h3 hr h4 .nil pass0
/-- t, read in σ from H0 on, makes a set over z of at most m states with the texts of L -/
def Ev (C : Addr) (z : Str) (σ : L2.St) (H0 : Hp) (t : TE) (m : Nat) (L : List Nat → Bool) : Prop := ∀ (H : Hp) (Q : VK), Same H0 H → (∀ (H' : Hp) (r : Addr), Same H H' → TxL C H' r z m L → Q (.ref r) H') → t σ H Q
section
variable {K : PySem.W.Frag} {C fQ : Addr} {z : Str} {σ : L2.St} {H0 : Hp} {ta tb : TE} {m k : Nat} {L M : List Nat → Bool} {W : Bool → Bool → Bool}
theorem ev_var {i : Nat} {p : Addr} (hs : σ[i]? = some (some (.ref p))) (h : TxL C H0 p z m L) : Ev C z σ H0 (tVar i) m L := fun H Q s q => ⟨_, hs, q H p (fun _ _ e => e) (h.same s)⟩
theorem ev_bin (hz : SgOk z) (a : Ev C z σ H0 ta m L) (b : Ev C z σ H0 tb k M) (hk : m * k ≤ 4000) : Ev C z σ H0 (tOp (rBinOwn C (spBin C W) [] E0) ta tb) (m * k) (fun w => W (L w) (M w)) := fun H Q s q => by
  refine a H _ s fun H1 p s1 h1 => ?_
  refine b H1 _ (s.trans s1) fun H2 r s2 h2 => ?_
  have h1' := h1.same s2
  obtain ⟨dx, fs, o1⟩ := h1'.ins
  obtain ⟨dy, gs, o2⟩ := h2.ins
  exact ⟨p, dx, fs, r, dy, gs, rfl, rfl, o1, o2, p, r, z, m, k, L, M, rfl, hz, h1', h2, hk, fun H3 r3 s3 h3 => q H3 r3 ((s1.trans s2).trans s3) h3⟩
theorem ev_inv (hz : SgOk z) (a : Ev C z σ H0 ta m L) (hm : m ≤ 4000) : Ev C z σ H0 (tUn (rInvOwn C (spInv C) [] E0) ta) m (fun w => !L w) := fun H Q s q => by
  refine a H _ s fun H1 p s1 h1 => ?_
  obtain ⟨dx, fs, o1⟩ := h1.ins
  exact ⟨p, dx, fs, rfl, o1, p, z, m, L, rfl, hz, h1, hm, fun H2 r s2 h2 => q H2 r (s1.trans s2) h2⟩
theorem ev_every {t : TA} {b : Bool} (hz : SgOk z) (ht : ∀ H Q, (Q [.str z] H → t σ H Q)) : Ev C z σ H0 (tCall (spEvery C b) [] E0 t) 1 (fun _ => b) := fun H Q s q => ht H _ ⟨z, rfl, hz, q⟩
/-- a != b of sets with the same texts -/
theorem ne_ev (B : TxB K C fQ) {H : Hp} {Q : VK} (s : Same H0 H) (a : Ev C z σ H0 ta m L) (b : Ev C z σ H0 tb k M) (e : ∀ w, Wd z.cps.size w → L w = M w) (q : ∀ H', Same H H' → Q (.bl false) H') :
    tOp (rNeOwn K C (spEq K C) [] E0) ta tb σ H Q := by
  refine a H _ s fun H1 p s1 h1 => ?_
  refine b H1 _ (s.trans s1) fun H2 r s2 h2 => ?_
  obtain ⟨t, e', ys, R, E, T1, hL1, hg1, _⟩ := h1.same s2
  obtain ⟨t2, e2, ys2, R2, E2, T2, hL2, hg2, _⟩ := h2
  obtain ⟨⟨dx, ob⟩, _, _⟩ := id T1
  obtain ⟨⟨dx2, ob2⟩, _, _⟩ := id T2
  obtain ⟨eR, eE⟩ := lg_uniq hL1 hL2 hg1 hg2 e
  refine ⟨p, dx, _, .ref C, rfl, ob, .base (.ins ob2 B.T.cl B.ha B.hn B.ht B.hm), B.nC, p, z, t, e', ys, R, E, .ref r, rfl, T1, .inr ⟨r, z, t2, e2, ys2, R2, E2, rfl, T2, true, ?_, q H2 (s1.trans s2)⟩⟩
  rw [eR, eE]
  simp
/-- a.is_within(b) where it is so -/
theorem with_ev (hz : SgOk z) {H : Hp} {Q : VK} (s : Same H0 H) (a : Ev C z σ H0 ta m L) (b : Ev C z σ H0 tb k M) (hk : m * k ≤ 4000) (q : ∀ H' c, Same H H' → (c = true ↔ ∀ w, Wd z.cps.size w → L w = true → M w = true) → Q (.bl c) H') :
    tMeth C "is_within" (spWith C) [] E0 ta (tCons tb tNil) σ H Q := by
  refine a H _ s fun H1 p s1 h1 => ?_
  obtain ⟨t, e', ys, R, E, T1, hL1, hg1, _⟩ := id h1
  obtain ⟨⟨dx, ob⟩, _, _⟩ := id T1
  refine ⟨p, dx, _, rfl, ob, tfl_no _ _ _ (by decide +kernel) (by decide +kernel) (by decide +kernel), ?_⟩
  refine b H1 _ (s.trans s1) fun H2 r s2 h2 => ?_
  exact ⟨p, r, z, m, k, L, M, rfl, hz, h1.same s2, h2, hk, fun H3 c s3 h3 => q H3 c ((s1.trans s2).trans s3) h3⟩
end
end Rg

/-! machines of a law: by their languages; cuts of texts -/
namespace Mach
/-- words of any number, by their beginnings -/
theorem star_at {L : List Nat → Bool} {w : List Nat} {e : Nat} (he : e ≤ w.length) (h1 : 1 ≤ e) : starL L (w.take e) = ((List.range e).filter fun i => starL L (w.take i)).any fun b => L ((w.drop b).take (e - b)) := by
  have key : starL L (w.take e) = true ↔ (((List.range e).filter fun i => starL L (w.take i)).any fun b => L ((w.drop b).take (e - b))) = true := by
    rw [starL_iff, List.any_eq_true]
    constructor
    · intro h
      rcases h.cut with z | ⟨u, v, h2, h3, h4, h5⟩
      · have := congrArg List.length z
        rw [List.length_take, List.length_nil] at this
        omega
      · have hl := congrArg List.length h2
        rw [List.length_take, List.length_append] at hl
        have hv : 0 < v.length := List.length_pos_iff.mpr h5
        have hu : w.take u.length = u := by
          have := congrArg (List.take u.length) h2
          rw [List.take_take, List.take_left', show min u.length e = u.length by omega] at this
          · exact this
          · rfl
        have hv2 : (w.drop u.length).take (e - u.length) = v := by
          have := congrArg (List.drop u.length) h2
          rw [List.drop_take, List.drop_left'] at this
          · exact this
          · rfl
        refine ⟨u.length, List.mem_filter.mpr ⟨List.mem_range.mpr (by omega), ?_⟩, ?_⟩
        · rw [hu]
          exact starL_iff.mpr h3
        · rw [hv2]
          exact h4
    · rintro ⟨b, hb, hL⟩
      obtain ⟨hb1, hb2⟩ := List.mem_filter.mp hb
      have hb1 := List.mem_range.mp hb1
      have e1 : w.take e = w.take b ++ (w.drop b).take (e - b) := by
        rw [show w.take e = w.take (b + (e - b)) by rw [show b + (e - b) = e by omega], List.take_add]
      rw [e1]
      exact Star.snoc (starL_iff.mp hb2) hL
  cases e1 : starL L (w.take e) with
  | true => exact (key.mp e1).symm
  | false =>
    cases e2 : ((List.range e).filter fun i => starL L (w.take i)).any fun b => L ((w.drop b).take (e - b)) with
    | true => rw [key.mpr e2] at e1; cases e1
    | false => rfl
theorem star_nil {L : List Nat → Bool} : starL L [] = true := starL_iff.mpr .nil
/-- the machine of the empty text -/
def R1 (n : Nat) : List (List Nat) := [List.replicate n 1, List.replicate n 1]
theorem R1_row {n q : Nat} (h : q < 2) : rowOf (R1 n) q = List.replicate n 1 := by
  match q, h with
  | 0, _ => rfl
  | 1, _ => rfl
theorem R1_mok (n : Nat) : Mok n (R1 n) := ⟨fun q h => by rw [R1_row h, List.length_replicate], fun q h x hx => by
  rw [R1_row h] at hx
  rw [List.eq_of_mem_replicate hx]
  exact by show 1 < 2; decide⟩
theorem R1_dl {n q k : Nat} (h : q < 2) (hk : k < n) : dl (R1 n) q k = 1 := by
  unfold dl
  rw [R1_row h, List.getD_eq_getElem?_getD, List.getElem?_replicate, if_pos hk]
  rfl
theorem R1_one {n : Nat} : ∀ w, Wd n w → runM (R1 n) 1 w = 1
  | [], _ => rfl
  | k :: w, h => by
    rw [runM_cons, R1_dl (by decide) (h k List.mem_cons_self)]
    exact R1_one w fun j hj => h j (List.mem_cons_of_mem _ hj)
theorem R1_lg (n : Nat) : Lg n (R1 n) [0] epsL := fun w hw => by
  cases w with
  | nil => rfl
  | cons k w =>
    rw [runM_cons, R1_dl (by decide) (hw k List.mem_cons_self), R1_one w fun j hj => hw j (List.mem_cons_of_mem _ hj)]
    rfl
theorem R1_least {n : Nat} (h1 : 1 ≤ n) (h4 : n ≤ 4) : Least n (R1 n) [0] := by
  refine ⟨R1_mok n, by show 0 < 2; decide, ?_, fun q hq => ?_, fun p q hp hq al => ?_, by show [0] = (List.range 2).filter _; decide⟩
  · show D (0 :: (R1 n).flatten) = List.range 2
    match n, h1, h4 with
    | 1, _, _ => decide
    | 2, _, _ => decide
    | 3, _, _ => decide
    | 4, _, _ => decide
  · have hq : q < 2 := hq
    match q, hq with
    | 0, _ => exact ⟨[], Wd.nil n, rfl⟩
    | 1, _ => exact ⟨[0], Wd.one (by omega), R1_dl (by decide) (by omega)⟩
  · have hp : p < 2 := hp
    have hq : q < 2 := hq
    have := al.nil
    match p, q, hp, hq with
    | 0, 0, _, _ => rfl
    | 1, 1, _, _ => rfl
    | 0, 1, _, _ => simp at this
    | 1, 0, _, _ => simp at this
end Mach
namespace Rg
open PySem PySem.Spec PyProof.Rows L2 Mach
/-- a machine (rows, ends) stands at t -/
structure MacL (H : Hp) (t : Addr) (n m : Nat) (R : List (List Nat)) (E : List Nat) : Prop where
  at_ : ∃ (a e : Addr) (xs : List Addr), H t = some (.tup [.ref a, .ref e]) ∧ RowsAt H a xs R ∧ H e = some (.lst (nVs E))
  mok : Mok n R
  pos : 0 < R.length
  le : R.length ≤ m
  lt : ∀ x ∈ E, x < R.length
  el : E.length ≤ 50
theorem MacL.same {H H' : Hp} {t : Addr} {n m : Nat} {R : List (List Nat)} {E : List Nat} (h : MacL H t n m R E) (s : Same H H') : MacL H' t n m R E := by
  obtain ⟨⟨a, e, xs, h1, h2, h3⟩, h4, h5, h6, h7, h8⟩ := h
  exact ⟨⟨a, e, xs, s _ _ h1, h2.same s, s _ _ h3⟩, h4, h5, h6, h7, h8⟩
def MaL (H : Hp) (t : Addr) (n m : Nat) (L : List Nat → Bool) : Prop := ∃ R E, MacL H t n m R E ∧ Lg n R E L
theorem MaL.same {H H' : Hp} {t : Addr} {n m : Nat} {L : List Nat → Bool} (h : MaL H t n m L) (s : Same H H') : MaL H' t n m L := by
  obtain ⟨R, E, h1, h2⟩ := h
  exact ⟨R, E, h1.same s, h2⟩
/-- the least machine of L -/
def DueL (H : Hp) (t : Addr) (n m : Nat) (L : List Nat → Bool) : Prop := ∃ (a e : Addr) (xs : List Addr) (R : List (List Nat)) (E : List Nat), H t = some (.tup [.ref a, .ref e]) ∧ RowsAt H a xs R ∧ H e = some (.lst (nVs E)) ∧ Least n R E ∧ Lg n R E L ∧ R.length ≤ m
theorem DueL.same {H H' : Hp} {t : Addr} {n m : Nat} {L : List Nat → Bool} (h : DueL H t n m L) (s : Same H H') : DueL H' t n m L := by
  obtain ⟨a, e, xs, R, E, h1, h2, h3, h4⟩ := h
  exact ⟨a, e, xs, R, E, s _ _ h1, h2.same s, s _ _ h3, h4⟩
theorem DueL.le {H : Hp} {t : Addr} {n m k : Nat} {L : List Nat → Bool} (h : DueL H t n m L) (hk : m ≤ k) : DueL H t n k L := by
  obtain ⟨a, e, xs, R, E, h1, h2, h3, h4, h5, h6⟩ := h
  exact ⟨a, e, xs, R, E, h1, h2, h3, h4, h5, Nat.le_trans h6 hk⟩
theorem DueL.ma {H : Hp} {t : Addr} {n m : Nat} {L : List Nat → Bool} (h : DueL H t n m L) (hm : m ≤ 50) : MaL H t n m L := by
  obtain ⟨a, e, xs, R, E, h1, h2, h3, h4, h5, h6⟩ := h
  have := h4.elen
  exact ⟨R, E, ⟨⟨a, e, xs, h1, h2, h3⟩, h4.ok, h4.ne, h6, h4.elt, by omega⟩, h5⟩
theorem DueL.cong {H : Hp} {t : Addr} {n m : Nat} {L M : List Nat → Bool} (h : DueL H t n m L) (e : ∀ w, Wd n w → L w = M w) : DueL H t n m M := by
  obtain ⟨a, e', xs, R, E, h1, h2, h3, h4, h5, h6⟩ := h
  exact ⟨a, e', xs, R, E, h1, h2, h3, h4, fun w hw => (h5 w hw).trans (e w hw), h6⟩
theorem DueL.bound {H H' : Hp} {t t' : Addr} {n m k : Nat} {L : List Nat → Bool} (h : DueL H t n m L) (h' : MaL H' t' n k L) : DueL H t n k L := by
  obtain ⟨a, e, xs, R, E, h1, h2, h3, h4, h5, h6⟩ := h
  obtain ⟨S, G, hS, hl⟩ := h'
  exact ⟨a, e, xs, R, E, h1, h2, h3, h4, h5, Nat.le_trans (least_le_lg h4 h5 hS.mok hS.pos hl) hS.le⟩
/-! ### promises of the law's defs -/
def spLMvs : Sp := fun vs H Q _ => ∃ (t a : Addr) (v : V) (xs : List Addr) (R : List (List Nat)) (n b : Nat), vs = [.ref t, nV b] ∧ H t = some (.tup [.ref a, v]) ∧ RowsAt H a xs R ∧ Mok n R ∧ n ≤ 4 ∧ R.length ≤ 1000 ∧
  ∀ (H' : Hp) (m : Addr) (ms : List Addr), Same H H' → H m = none → MvAt H' m ms (mvO R b) → Q (.ref m) H'
def spLJ : Sp := fun vs H Q _ => ∃ (t1 t2 : Addr) (n m k : Nat) (L M : List Nat → Bool), vs = [nV n, .ref t1, .ref t2] ∧ n ≤ 4 ∧ MaL H t1 n m L ∧ MaL H t2 n k M ∧ m ≤ 50 ∧ k ≤ 20 ∧ m * 2 ^ k ≤ 192 ∧
  ∀ (H' : Hp) (t : Addr), Same H H' → DueL H' t n (m * 2 ^ k) (catL L M) → Q (.ref t) H'
def spLR : Sp := fun vs H Q _ => ∃ (t1 : Addr) (n m : Nat) (L : List Nat → Bool), vs = [nV n, .ref t1] ∧ n ≤ 4 ∧ MaL H t1 n m L ∧ m ≤ 5 ∧
  ∀ (H' : Hp) (t : Addr), Same H H' → DueL H' t n 64 (starL L) → Q (.ref t) H'
def spLT : Sp := fun vs H Q _ => ∃ (t1 : Addr) (n m c : Nat) (L : List Nat → Bool), vs = [nV n, .ref t1, nV c] ∧ 1 ≤ n ∧ n ≤ 4 ∧ MaL H t1 n m L ∧ m ≤ 20 ∧ c ≤ 100 ∧ (∀ i, i < c → tb m i ≤ 50 ∧ tb m i * 2 ^ m ≤ 192) ∧
  ∀ (H' : Hp) (t : Addr), Same H H' → DueL H' t n (tb m c) (powL L c) → Q (.ref t) H'
def spCuts : Sp := fun vs H Q _ => ∃ (z : Str) (t1 t2 : Addr) (m k : Nat) (L M : List Nat → Bool) (w : List Nat), vs = [.str z, .ref t1, .ref t2, .str (txt z w)] ∧ SgIx z ∧ MaL H t1 z.cps.size m L ∧ MaL H t2 z.cps.size k M ∧ Wd z.cps.size w ∧ w.length ≤ 1000 ∧
  ∀ (H' : Hp), Same H H' → Q (.bl (catL L M w)) H'
def spAllCuts : Sp := fun vs H Q _ => ∃ (z : Str) (t1 : Addr) (m : Nat) (L : List Nat → Bool) (w : List Nat), vs = [.str z, .ref t1, .str (txt z w)] ∧ SgIx z ∧ MaL H t1 z.cps.size m L ∧ Wd z.cps.size w ∧ w.length ≤ 1000 ∧
  ∀ (H' : Hp), Same H H' → Q (.bl (starL L w)) H'
/-! ### slices of texts -/
theorem txt_list (z : Str) (w : List Nat) : (txt z w).cps.toList = w.map fun k => z.cps.getD k 0 := List.toList_toArray
theorem txt_cut (z : Str) (w : List Nat) (lo hi : Option Int) : cutS (txt z w) lo hi = txt z ((w.drop (HT.sIx w.length 0 lo)).take (HT.sIx w.length w.length hi - HT.sIx w.length 0 lo)) := by
  show (⟨(((txt z w).cps.toList.drop (HT.sIx (txt z w).length 0 lo)).take (HT.sIx (txt z w).length (txt z w).length hi - HT.sIx (txt z w).length 0 lo)).toArray⟩ : Str) = _
  rw [txt_list, txt_len]
  unfold txt
  rw [List.map_take, List.map_drop]
theorem sIx_nat {n : Nat} {d i : Nat} (h : i ≤ n) : HT.sIx n d (some (i : Int)) = i := by
  simp only [HT.sIx]
  split <;> omega
theorem txt_to (z : Str) (w : List Nat) {i : Nat} (h : i ≤ w.length) : cutS (txt z w) none (some (i : Int)) = txt z (w.take i) := by
  rw [txt_cut, sIx_nat h]
  show txt z ((w.drop 0).take (i - 0)) = _
  rw [List.drop_zero, Nat.sub_zero]
theorem txt_from (z : Str) (w : List Nat) {i : Nat} (h : i ≤ w.length) : cutS (txt z w) (some (i : Int)) none = txt z (w.drop i) := by
  rw [txt_cut, sIx_nat h]
  show txt z ((w.drop i).take (w.length - i)) = _
  rw [List.take_of_length_le (by rw [List.length_drop]; exact Nat.le_refl _)]
theorem txt_mid (z : Str) (w : List Nat) {i j : Nat} (h : i ≤ w.length) (h' : j ≤ w.length) : cutS (txt z w) (some (i : Int)) (some (j : Int)) = txt z ((w.drop i).take (j - i)) := by
  rw [txt_cut, sIx_nat h, sIx_nat h']
end Rg

/-! own errors without arguments: raised, caught, asked -/
namespace Rg
open PySem PySem.Spec PyProof.Rows L2 Mach
section
variable {X : Cx} {C : Addr} {bmB : List Value} {B newId initId : String}
/-- X() -/
theorem pmk_own0 {x : Str} {p pos : Pos} (F : ExcBaseFacts B newId initId bmB) (q : PySem.W.excIn X.K C bmB newId = true) (gC : X.mg x = some (.ref C)) (kC : PySem.W.keepIn X.K (.ref C) = true) (r : Raises X (.ref C)) (hg : Gl X x)
    (hdb : (x == ("__debug__" : Str)) = false := by decide) : PMk X (.Call (.Name x p) [] [] pos) (fun _ H Q => Q (.ref C) none H) := by
  intro pins s σ H Q I h
  refine wpAny_Call_Name_kw (ld_glob I hg gC ?_ hdb)
  refine PySem.W.callWith_K0 I.kIn kC ?_
  show wpAny _ _ (call (.ref C) []) _ _ _
  obtain ⟨bm, N, nm, qn, bs, hdct, sn, sub, ab, col, dd, k0, k1, k2, k3, k5, mN, hC, hN, hni, T⟩ := exc_obj I.kIn q
  refine wpAny_call_exc_subT F T hC hN hni (fun h' e hm => ?_) (by show 0 ≤ sizeLine; omega)
  exact mk_of I hm r h (I.hok.gone hm.new)
/-- what a try around wishes, whatever the slots -/
def AnySt (n : Nat) (W : WX) : XK := fun cls d H => ∀ σ : L2.St, σ.length = n → W cls d σ H
theorem passLen {W : WX} (tk : Takes X W) : Passes (L2.CX X.prog X.w) X (AnySt X.N.length W) := fun pins σ H s e s' I c => tk e s' (XE.of_call I (fun cls d H' h => h σ I.len) c)
/-- a def lets out what a call in it lets out -/
theorem passOut {E : XK} (tk : Takes X (fun cls d _ H => E cls d H)) : Passes (L2.CX X.prog X.w) X E := fun pins σ H s e s' I c => tk e s' (XE.of_call I (fun cls d H' h => h) c)
/-- isinstance(e, c) of the caught one -/
def rIsE' (K : PySem.W.Frag) (D a : Addr) (cls : Value) (d : Option Addr) : List V → Hp → VK → Prop := fun xs H Q => cls = .ref D ∧ d = none ∧ rIsE K D a xs H Q
theorem call_isE' {a D : Addr} {oe : Obj} {cls : Value} {d : Option Addr} {pn : List (Addr × Obj)} (C : ExcC X.K D) (hz : Zc cls d oe) (hf : ∃ vs, oe.data = .fields vs) : CallR (X.suite a ((a, oe) :: pn)) (.builtin "isinstance") (rIsE' X.K D a cls d) := by
  intro pins s σ H xs us Q I r h
  obtain ⟨rfl, rfl, h⟩ := h
  exact call_isE C hz hf pins s σ H xs us Q I r h
end
end Rg

/-! sets over other signs: the error Unlike -/
namespace Rg
open PySem PySem.Spec PyProof.Rows L2 Mach
theorem bVE : bootBuiltins "ValueError" = some (.type "ValueError") := by decide +kernel
/-- the class Unlike, of the class TextError -/
structure UnK (K : PySem.W.Frag) (mg : Str → Option Value) (U TE : Addr) : Prop where
  x : PySem.W.excIn K U [.type "ValueError", .type "Exception", .type "BaseException", .type "object"] "ValueError.__new__" = true
  g : mg "Unlike" = some (.ref U)
  gT : mg "TextError" = some (.ref TE)
  k : PySem.W.keepIn K (.ref U) = true
  b : PySem.W.subIn K (.ref U) (.type "BaseException") = some true
  t : PySem.W.typeIn K (.ref U) = some (.type "type")
  e : PySem.W.exmOne K (.ref U) (.ref TE) = some true
  c : ExcC K U
  v : PySem.W.kitOne K (.ref U) (.type "ValueError") = some true
/-- two sets over other signs -/
def Strange (C : Addr) (H : Hp) (p q : Addr) : Prop := ∃ (z z2 : Str) (m k : Nat) (L M : List Nat → Bool), TxL C H p z m L ∧ TxL C H q z2 k M ∧ z ≠ z2
def spPairX (C U : Addr) : Sp := fun vs H Q E => ∃ (p q : Addr) (x : V), vs = [.ref p, .ref q, x] ∧ Strange C H p q ∧ E (.ref U) none H
def spBinX (C U : Addr) : Sp := fun vs H Q E => ∃ (p q : Addr), vs = [.ref p, .ref q] ∧ Strange C H p q ∧ E (.ref U) none H
def spRefused (C : Addr) : Sp := fun vs H Q _ => ∃ (i p q : Addr), vs = [nV i, .ref p, .ref q] ∧ Strange C H p q ∧ Q (.bl true) H
def OpOkX (P : Program) (w : World) (K : PySem.W.Frag) (mg : Str → Option Value) (base : Heap) (C U : Addr) (k : Nat) (op : Operator) : Prop := ∃ (f : Addr) (fd : FuncData), PySem.W.findIn K (.ref C) (PySem.dunder op.info.2) = some (some (.ref f)) ∧ PySem.W.isFn K (.ref f) = true ∧
  FnOk P w K mg base (L2.CX P w) k f fd ["self", "other"] (spBinX C U) ∧ Binds K fd ["self", "other"] []
theorem op_binX {X : Cx} {C U : Addr} {k : Nat} {op : Operator} {E : XK} (sf : PySem.W.selfFirst X.K C = true) (h : OpOkX X.prog X.w X.K X.mg X.base C U k op) (hr : Room k X.A) (hx : Passes (L2.CX X.prog X.w) X E) : OpR X (binaryOp op) (rBinOwn C (spBinX C U) [] E) := by
  obtain ⟨f, fd, h1, h2, h3, h4⟩ := h
  exact op_binOwn sf h1 h2 h3 hr h4 .nil hx
def rIsNo : R2 := fun x y H Q => y = .non ∧ Q (.bl (decide (x = .non))) H
end Rg

/-! != of lists of instances that are equal, item by item, by their own == -/
namespace Rg
open PySem PySem.SeqAt
open AutoSeq1 (wpAny_loadPart')
open MeetsSeq MeetsSeq2 MeetsSeq3 SeqRoads2 GQ
section
variable {prog : Program} {w : World} {A : Around} {R : Result → Shared → Prop}
theorem neLoop (l b : Addr) (N : Nat) (J : Nat → Shared → Prop) (hl : ListI prog w A (fun e s' => R (.error e) s') l b N J) (done : ∀ s, J N s → R (.ok (.ret (.bool false))) s) (k : Nat) :
    ∀ i : Nat, N - i = k → i ≤ N → ∀ s, J i s → wpAny (model prog w) A.in1 (Builtin.«list.__eq__.loop» ⟨[.ref l, .ref b, rawInt i, rawInt 3], []⟩) (FinOf prog w A R) (fun e s' => R (.error e) s') s := by
  induction k with
  | zero =>
    intro i hk hi s h
    obtain ⟨us, vs, n, n2, gl, gb, zu, zv, _⟩ := hl _ _ h
    have ei : i = N := by omega
    have hR := done s (ei ▸ h)
    obtain ⟨hp, g, d, tk, os⟩ := s
    wp_walk using wpAny_loadPart' gl, wpAny_loadPart' gb
    have o1 : us[((i : Nat) : Int).toNat]? = none := by simp; omega
    have o2 : vs[((i : Nat) : Int).toNat]? = none := by simp; omega
    rw [o1, o2]
    wp_walk using wpAny_loadPart' gl, wpAny_loadPart' gb
    show R (.ok (.ret (.bool (us.size != vs.size)))) _
    rw [zu, zv]
    simpa using hR
  | succ k ih =>
    intro i hk hi s h
    obtain ⟨us, vs, n, n2, gl, gb, zu, zv, turn⟩ := hl _ _ h
    have l1 : i < us.size := by omega
    have l2 : i < vs.size := by omega
    have ht := turn l1 l2
    obtain ⟨hp, g, d, tk, os⟩ := s
    wp_walk using wpAny_loadPart' gl, wpAny_loadPart' gb
    have o1 : us[((i : Nat) : Int).toNat]? = some us[i] := by simp [l1]
    have o2 : vs[((i : Nat) : Int).toNat]? = some vs[i] := by simp [l2]
    have hc : ((i : Int) + 1) = ((i + 1 : Nat) : Int) := by omega
    rw [o1, o2]
    refine wpAny_bind (wpAny_mono ht (fun r s2 q2 => ?_) fun _ _ x => x)
    obtain ⟨rfl, q2⟩ := q2
    have again := ih (i + 1) (by omega) (by omega) s2 q2
    obtain ⟨hp2, g2, d2, tk2, os2⟩ := s2
    wp_walk
    rw [hc]
    refine ⟨plainId_quiet plain_eq_loop _, codeAny_builtin entry_eq_loop ?_⟩
    rw [Around.under_plainId plain_eq_loop _]
    exact again
theorem neList (l b : Addr) (N : Nat) (J : Nat → Shared → Prop) (hl : ListI prog w A (fun e s' => R (.error e) s') l b N J) (done : ∀ s, J N s → R (.ok (.ret (.bool false))) s) {s : Shared} (h : J 0 s) :
    wpAny (model prog w) A.in1 (Builtin.«list.__ne__» ⟨[.ref l, .ref b], []⟩) (FinOf prog w A R) (fun e s' => R (.error e) s') s := by
  obtain ⟨us, vs, n, n2, gl, gb, zu, zv, _⟩ := hl _ _ h
  have again := neLoop (A := A) (R := R) l b N J hl done _ 0 rfl (Nat.zero_le _) s h
  obtain ⟨hp, g, d, tk, os⟩ := s
  have f3 := AutoSeq1.sub_list_list
  have hne : ¬ (us.size != vs.size) = true := by simp [zu, zv]
  wp_walk using wpAny_loadPart' gl, wpAny_loadPart' gb
  refine ⟨plainId_quiet plain_eq_loop _, codeAny_builtin entry_eq_loop ?_⟩
  rw [Around.under_plainId plain_eq_loop _]
  exact again
end
section
variable {prog : Program} {w : World} {A : Around} {E : Value → Shared → Prop} {s : Shared}
theorem neRich {l b : Addr} {N : Nat} {Q : Value → Shared → Prop} (hu : A.units < cLine) (J : Nat → Shared → Prop) (hl : ListI prog w A E l b N J) (done : ∀ s, J N s → Q (.bool false) s) (h : J 0 s) : wpAny (model prog w) A (richCompare .NotEq (.ref l) (.ref b)) Q E s := by
  obtain ⟨us, vs, n, n2, gl, gb, _, _, _⟩ := hl _ _ h
  refine wpAny_richCompare_same_room (op := .NotEq) ⟨_, gl, rfl⟩ ⟨_, gb, rfl⟩ F.slot_list_ne (call_here F.slot_list_ne ⟨_, gl, rfl⟩ F.entry_list_ne (F.args_list_ne_2 _ _) ?_) hu
  exact neList (R := wants (fun v s' => v ≠ .notImplemented ∧ Q v s') E) l b N J hl (fun s' q => ⟨(fun x => nomatch x), done s' q⟩) h
end
end Rg
namespace Rg
open PySem PySem.Spec PyProof.Rows L2 Mach
/-- xs != ys, lists of what D says is equal -/
def rNeLs (D : Eqv) : R2 := fun x y H Q => DList D x y H ∧ ∀ H', Same H H' → Q (.bl false) H'
theorem op_neLs {X : Cx} {n : Nat} {D : Eqv} (hD : Mon D) (h : EqG X n D) (hr : Room (n + 1) X.A) : OpR X (compareOp .NotEq) (rNeLs D) := by
  intro pins s σ H x y v u Q I rx ry hq
  obtain ⟨⟨a, b, xs, ys, rfl, rfl, ha, hb, p⟩, q⟩ := hq
  cases rx
  cases ry
  show wpAny (model X.prog X.w) X.A (richCompare .NotEq (.ref a) (.ref b)) (EP X pins σ Q) X.xe s
  have sb : Sub X (n + 1) X.A := ⟨hr, rfl⟩
  refine neRich (N := xs.length) hr.units0 (fun _ s' => LoopI X pins σ H s') (fun i s' z => ?_) (fun s' z => ?_) ⟨H, I, Ext.rfl'⟩
  · obtain ⟨H1, I1, e1⟩ := id z
    obtain ⟨_, its, k, r, e⟩ := I1.hok a _ (e1 _ _ ha)
    obtain ⟨_, its2, k2, r2, e2⟩ := I1.hok b _ (e1 _ _ hb)
    refine ⟨its.toArray, its2.toArray, k, k2, e, e2, by rw [List.size_toArray, ← r.length], by rw [List.size_toArray, ← r2.length, ← p.1], fun h1 h2 => ?_⟩
    exact turnG hD h sb p r r2 i h1 h2 s' z
  · obtain ⟨H1, I1, e1⟩ := z
    exact ⟨.bl false, H1, I1, rfl, q H1 e1⟩
/-- the own == of sets, where both have the same texts -/
def RTx (C : Addr) : Addr → Addr → Hp → Prop := fun a b H => ∃ (z : Str) (m k : Nat) (L M : List Nat → Bool), TxL C H a z m L ∧ TxL C H b z k M ∧ ∀ w, Wd z.cps.size w → L w = M w
theorem mon_tx (C : Addr) : Mon (DIns C (RTx C)) := mon_ins fun a b H H' e ⟨z, m, k, L, M, h1, h2, h3⟩ => ⟨z, m, k, L, M, h1.same e, h2.same e, h3⟩
theorem eqG_tx {X : Cx} {n : Nat} {C f : Addr} {fd : FuncData} {ps : List Str} (F : FnOk X.prog X.w X.K X.mg X.base CX0 n f fd ps (Rg.spEq X.K C)) (e : EqCls X.K C f) (hb : Binds X.K fd ps []) : EqG X n (DIns C (RTx C)) := by
  refine eqG_ins (R := RTx C) (E := E0) (CX := CX0) (F.imp fun vs H Q E h => ?_) e.eq e.fn hb pass0
  obtain ⟨a, b, rfl, ⟨z, m, k, L, M, ⟨t, e', ys, R, E1, T1, hL1, hg1, _⟩, ⟨t2, e2, ys2, R2, E2, T2, hL2, hg2, _⟩, he⟩, q⟩ := h
  obtain ⟨eR, eE⟩ := lg_uniq hL1 hL2 hg1 hg2 he
  refine ⟨a, z, t, e', ys, R, E1, .ref b, rfl, T1, .inr ⟨b, z, t2, e2, ys2, R2, E2, rfl, T2, ?_⟩⟩
  rw [eR, eE, decide_eq_true rfl, decide_eq_true rfl, decide_eq_true rfl]
  exact q H fun _ _ z => z
end Rg

/-! own operators with a number on the right; machines and sets beside the bag; least machines told and due -/
namespace Rg
open PySem PySem.Spec PyProof.Rows L2 Mach
section
variable {X : Cx} {CX : CXT} {k : Nat} {C f : Addr} {fd : FuncData} {ps : List Str} {sp : Sp} {dvs : List V} {ds : List Value} {E : XK}
def rBinI (C : Addr) (sp : Sp) (dvs : List V) (E : XK) : R2 := fun x y H Q => ∃ a dx fs i, x = .ref a ∧ y = .int i ∧ H a = some (.ins C dx fs) ∧ sp ([x, y] ++ dvs) H Q E
/-- what x op n asks of the class, n a number -/
structure BinI (K : PySem.W.Frag) (C : Addr) (op : Operator) : Prop where
  sf : PySem.W.selfFirst K C = true
  r : PySem.W.findIn K (.ref C) (PySem.dunderR op.info.2) = some none
  i1 : ∃ fo, PySem.W.findIn K (.type "int") (PySem.dunder op.info.2) = some fo
  i2 : ∃ ro, PySem.W.findIn K (.type "int") (PySem.dunderR op.info.2) = some ro
  sub : PySem.W.subIn K (.type "int") (.ref C) = some false
theorem op_binI {op : Operator} (b : BinI X.K C op) (hs : PySem.W.findIn X.K (.ref C) (PySem.dunder op.info.2) = some (some (.ref f))) (hf : PySem.W.isFn X.K (.ref f) = true) (F : FnOk X.prog X.w X.K X.mg X.base CX k f fd ps sp) (hr : Room k X.A)
    (hb : Binds X.K fd ps ds) (hd : Vals dvs ds) (hx : Passes CX X E) : OpR X (binaryOp op) (rBinI C sp dvs E) := by
  intro pins s σ H x y v u Q I rx ry h
  obtain ⟨a, dx, fs, i, rfl, rfl, ha, q⟩ := h
  cases (show v = Value.ref a from rx)
  obtain ⟨t, rfl⟩ := ry
  obtain ⟨mA, O, _⟩ := ins_get I.hok ha
  obtain ⟨od, J, _⟩ := O.look
  obtain ⟨m, hF⟩ := I.fr
  obtain ⟨fo, h1⟩ := b.i1
  obtain ⟨ro, h2⟩ := b.i2
  refine PySem.W.ksp_binT (T := "int") hF I.ok.mod.kin J rfl b.sf hs hf b.r (.inl rfl) h1 h2 b.sub ?_
  refine wpAny_mono (run_fn (us := [.ref a, .int i t]) (vs := [.ref a, .int i]) F hr hb hd hx I (.cons rfl (.cons ⟨t, rfl⟩ .nil)) q) (fun w s' z => ?_) fun _ _ x => x
  obtain ⟨z', H', I', rz, qz⟩ := z
  exact cmpback' rz ⟨z', H', I', rz, qz⟩
end
/-- an operator of the class with a promise of its own -/
def OpOkS (P : Program) (w : World) (K : PySem.W.Frag) (mg : Str → Option Value) (base : Heap) (C : Addr) (k : Nat) (op : Operator) (x : Str) (sp : Sp) : Prop := ∃ (f : Addr) (fd : FuncData), PySem.W.findIn K (.ref C) (PySem.dunder op.info.2) = some (some (.ref f)) ∧ PySem.W.isFn K (.ref f) = true ∧
  FnOk P w K mg base CX0 k f fd ["self", x] sp ∧ Binds K fd ["self", x] []
theorem op_binS {X : Cx} {C : Addr} {k : Nat} {op : Operator} {x : Str} {sp : Sp} (sf : PySem.W.selfFirst X.K C = true) (h : OpOkS X.prog X.w X.K X.mg X.base C k op x sp) (hr : Room k X.A) : OpR X (binaryOp op) (rBinOwn C sp [] E0) := by
  obtain ⟨f, fd, h1, h2, h3, h4⟩ := h
  exact op_binOwn sf h1 h2 h3 hr h4 .nil pass0
theorem op_binN {X : Cx} {C : Addr} {k : Nat} {op : Operator} {x : Str} {sp : Sp} (b : BinI X.K C op) (h : OpOkS X.prog X.w X.K X.mg X.base C k op x sp) (hr : Room k X.A) : OpR X (binaryOp op) (rBinI C sp [] E0) := by
  obtain ⟨f, fd, h1, h2, h3, h4⟩ := h
  exact op_binI b h1 h2 h3 hr h4 .nil pass0
/-! ### which sets expressions make -/
section
variable {K : PySem.W.Frag} {C fQ : Addr} {z : Str} {σ : L2.St} {H0 : Hp} {ta tb' : TE} {m k n : Nat} {L M : List Nat → Bool}
theorem ev_join (hz : SgOk z) (a : Ev C z σ H0 ta m L) (b : Ev C z σ H0 tb' k M) (h1 : m ≤ 600) (h2 : k ≤ 10) (h3 : m * 2 ^ k ≤ 2000) : Ev C z σ H0 (tOp (rBinOwn C (spJoin C) [] E0) ta tb') (m * 2 ^ k) (catL L M) := fun H Q s q => by
  refine a H _ s fun H1 p s1 h1' => ?_
  refine b H1 _ (s.trans s1) fun H2 r s2 h2' => ?_
  have h1'' := h1'.same s2
  obtain ⟨dx, fs, o1⟩ := h1''.ins
  obtain ⟨dy, gs, o2⟩ := h2'.ins
  exact ⟨p, dx, fs, r, dy, gs, rfl, rfl, o1, o2, p, r, z, m, k, L, M, rfl, hz, h1'', h2', h1, h2, h3, fun H3 r3 s3 h3 => q H3 r3 ((s1.trans s2).trans s3) h3⟩
theorem ev_times (hz : SgOk z) (hix : SgIx z) {tn : TE} (a : Ev C z σ H0 ta m L) (ht : ∀ H Q, Q (nV n) H → tn σ H Q) (hm : m ≤ 10) (hn : n ≤ 100) (hb : ∀ i, i < n → tb m i ≤ 600 ∧ tb m i * 2 ^ m ≤ 2000) : Ev C z σ H0 (tOp (rBinI C (spTimes C) [] E0) ta tn) (tb m n) (powL L n) := fun H Q s q => by
  refine a H _ s fun H1 p s1 h1' => ?_
  refine ht H1 _ ?_
  obtain ⟨dx, fs, o1⟩ := h1'.ins
  exact ⟨p, dx, fs, (n : Int), rfl, rfl, o1, p, z, m, n, L, rfl, hz, hix, h1', hm, hn, hb, fun H2 r s2 h2 => q H2 r (s1.trans s2) h2⟩
theorem ev_rep (hz : SgOk z) (a : Ev C z σ H0 ta m L) (hm : m ≤ 9) : Ev C z σ H0 (tMeth C "repeated" (spRep C) [] E0 ta tNil) (2 ^ (m + 1)) (starL L) := fun H Q s q => by
  refine a H _ s fun H1 p s1 h1' => ?_
  obtain ⟨t, e', ys, R, E, ⟨⟨dx, ob⟩, _, _⟩, _⟩ := id h1'
  exact ⟨p, dx, _, rfl, ob, tfl_no _ _ _ (by decide +kernel) (by decide +kernel) (by decide +kernel), p, z, m, L, rfl, hz, h1', hm, fun H2 r s2 h2 => q H2 r (s1.trans s2) h2⟩
theorem ev_cong (a : Ev C z σ H0 ta m L) (e : ∀ w, Wd z.cps.size w → L w = M w) : Ev C z σ H0 ta m M := fun H Q s q => a H Q s fun H' r s' h => q H' r s' (h.cong e)
theorem Ev.le (a : Ev C z σ H0 ta m L) (h : m ≤ k) : Ev C z σ H0 ta k L := fun H Q s q => a H Q s fun H' r s' h' => q H' r s' (h'.le h)
end
/-- p != q, both with the same texts -/
theorem ne_same {K : PySem.W.Frag} {C fQ p q : Addr} {H : Hp} {Q : VK} {z : Str} {m k : Nat} {L M : List Nat → Bool} (B : TxB K C fQ) (h1 : TxL C H p z m L) (h2 : TxL C H q z k M) (e : ∀ w, Wd z.cps.size w → L w = M w) (hq : Q (.bl false) H) : rNeOwn K C (Rg.spEq K C) [] E0 (.ref p) (.ref q) H Q := by
  obtain ⟨t, e', ys, R, E, T1, hL1, hg1, _⟩ := h1
  obtain ⟨t2, e2, ys2, R2, E2, T2, hL2, hg2, _⟩ := h2
  obtain ⟨⟨dx, ob⟩, _, _⟩ := id T1
  obtain ⟨⟨dx2, ob2⟩, _, _⟩ := id T2
  obtain ⟨eR, eE⟩ := lg_uniq hL1 hL2 hg1 hg2 e
  refine ⟨p, dx, _, .ref C, rfl, ob, .base (.ins ob2 B.T.cl B.ha B.hn B.ht B.hm), B.nC, p, z, t, e', ys, R, E, .ref q, rfl, T1, .inr ⟨q, z, t2, e2, ys2, R2, E2, rfl, T2, true, ?_, hq⟩⟩
  rw [eR, eE]
  simp
/-! ### numbers up to 255 as data -/
theorem gd_numL {n : Nat} (h : n < 256) : Gd 0 8 (.int (n : Int)) := by
  have key : ∀ m : Fin 256, (PyData.showable (.int (m.val : Int)) && PyData.intsShort 13 (.int (m.val : Int)) && decide (PyData.weight (.int (m.val : Int)) ≤ 8)) = true := by decide +kernel
  have hk := key ⟨n, h⟩
  simp only [Bool.and_eq_true, decide_eq_true_eq] at hk
  exact ⟨rfl, hk.1.1, hk.1.2, Nat.le_refl _, hk.2⟩
theorem gd_dNsL {ns : List Nat} (h : ∀ n ∈ ns, n < 256) : Gd 1 (9 * ns.length) (dNs ns) := by
  have h1 : GdAll 0 ((8 + 1) * (ns.map fun n : Nat => PyData.int (n : Int)).length) (ns.map fun n : Nat => PyData.int (n : Int)) := gdAll_const fun d hd => by
    obtain ⟨n, hn, rfl⟩ := List.mem_map.mp hd
    exact gd_numL (h n hn)
  rw [List.length_map] at h1
  exact gd_list h1
theorem gd_dRsL {R : List (List Nat)} {L : Nat} (h : ∀ r ∈ R, r.length ≤ L ∧ ∀ n ∈ r, n < 256) : Gd 2 ((9 * L + 1) * R.length) (dRs R) := by
  have h1 : GdAll 1 ((9 * L + 1) * (R.map dNs).length) (R.map dNs) := gdAll_const fun d hd => by
    obtain ⟨r, hr, rfl⟩ := List.mem_map.mp hd
    exact (gd_dNsL (h r hr).2).le (Nat.le_refl _) (Nat.mul_le_mul_left _ (h r hr).1)
  rw [List.length_map] at h1
  exact gd_list h1
theorem row_at {R : List (List Nat)} {r : List Nat} (h : r ∈ R) : ∃ i, i < R.length ∧ r = rowOf R i := by
  obtain ⟨i, hi, e⟩ := List.mem_iff_getElem.mp h
  refine ⟨i, hi, ?_⟩
  unfold rowOf
  rw [List.getD_eq_getElem?_getD, List.getElem?_eq_getElem hi, ← e]
  rfl
theorem gd_macL {n : Nat} {R : List (List Nat)} {E : List Nat} (hn : n ≤ 4) (h : Least n R E) (hl : R.length ≤ 192) : Gd 3 9000 (dMa R E) := by
  have h1 : ∀ r ∈ R, r.length ≤ 4 ∧ ∀ x ∈ r, x < 256 := fun r hr => by
    obtain ⟨i, hi, rfl⟩ := row_at hr
    exact ⟨by rw [h.ok.wide i hi]; exact hn, fun x hx => by have := h.ok.lt i hi x hx; omega⟩
  have h2 : ∀ x ∈ E, x < 256 := fun x hx => by have := h.elt x hx; omega
  have h3 := h.elen
  exact gd_tuple (gdAll_cons ((gd_dRsL h1).le (k' := 7200) (Nat.le_refl _) (by omega)) (gdAll_cons ((gd_dNsL h2).le (e' := 2) (k' := 1740) (by decide) (by omega)) gdAll_nil)) |>.le (Nat.le_refl _) (by decide)
/-- two rows of least machines of the same languages read as the same data -/
theorem both_dataL {K : PySem.W.Frag} {H : Hp} {n k : Nat} (hn : n ≤ 4) : ∀ {ds es : List Addr} {LL : List (List Nat → Bool)}, Paired (fun (d : Addr) (L : List Nat → Bool) => DueL H d n k L) ds LL → Paired (fun (d : Addr) (L : List Nat → Bool) => DueL H d n 192 L) es LL →
    ∃ xs, DpAll K H (ds.map V.ref) xs ∧ DpAll K H (es.map V.ref) xs ∧ GdAll 3 (9001 * xs.length) xs ∧ xs.length = ds.length
  | _, _, _, .nil, .nil => ⟨[], .nil, .nil, gdAll_nil, rfl⟩
  | _, _, _, .cons h t, .cons h' t' => by
    obtain ⟨xs, a, b, c, d⟩ := both_dataL (K := K) hn t t'
    obtain ⟨p, e, ys, R, E, h1, h2, h3, h4, h5, h6⟩ := h
    obtain ⟨p', e', ys', R', E', h1', h2', h3', h4', h5', h6'⟩ := h'
    obtain ⟨rfl, rfl⟩ := lg_uniq h4 h4' h5 h5' fun _ _ => rfl
    refine ⟨dMa R E :: xs, .cons (dp_mach h1 h2 h3) a, .cons (dp_mach h1' h2' h3') b, ?_, by rw [List.length_cons, List.length_cons, d]⟩
    have h := gdAll_cons (gd_macL hn h4 h6') c
    rw [List.length_cons, Nat.mul_succ, Nat.add_comm]
    exact h
theorem gd_two' (a b : Bool) : Gd 1 10 (.list [.bool a, .bool b]) := by
  cases a <;> cases b <;> exact ⟨by decide +kernel, by decide +kernel, by decide +kernel, by decide +kernel, by decide +kernel⟩
/-! ### beside the bag -/
theorem bag_lst {H : Hp} {g c : Addr} (h : Bag H g c) : ∃ xs, H g = some (.lst xs) := by
  obtain ⟨x0, x1, x2, cs, h1, _⟩ := h
  exact ⟨_, h1⟩
structure MacG (g : Addr) (H : Hp) (t : Addr) (n m : Nat) (R : List (List Nat)) (E : List Nat) : Prop where
  at_ : ∃ (a e : Addr) (xs : List Addr), H t = some (.tup [.ref a, .ref e]) ∧ RowsAt H a xs R ∧ H e = some (.lst (nVs E)) ∧ a ≠ g ∧ e ≠ g ∧ ∀ x ∈ xs, x ≠ g
  mok : Mok n R
  pos : 0 < R.length
  le : R.length ≤ m
  lt : ∀ x ∈ E, x < R.length
  el : E.length ≤ 50
section
variable {g c t : Addr} {H H' : Hp} {n m : Nat} {R : List (List Nat)} {E : List Nat}
theorem MacG.same (h : MacG g H t n m R E) (s : Same H H') : MacG g H' t n m R E := by
  obtain ⟨⟨a, e, xs, h1, h2, h3, h4⟩, h5, h6, h7, h8, h9⟩ := h
  exact ⟨⟨a, e, xs, s _ _ h1, h2.same s, s _ _ h3, h4⟩, h5, h6, h7, h8, h9⟩
theorem MacG.but (h : MacG g H t n m R E) (hB : Bag H g c) (b : But g H H') : MacG g H' t n m R E := by
  obtain ⟨⟨a, e, xs, h1, h2, h3, h4, h5, h6⟩, h7, h8, h9, h10, h11⟩ := h
  obtain ⟨ys, hg⟩ := bag_lst hB
  exact ⟨⟨a, e, xs, b _ _ (ne_of h1 hg (fun z => by cases z)) h1, h2.but b h4 h6, b _ _ h5 h3, h4, h5, h6⟩, h7, h8, h9, h10, h11⟩
theorem MacG.toM (h : MacG g H t n m R E) : MacL H t n m R E := by
  obtain ⟨⟨a, e, xs, h1, h2, h3, h4⟩, h5, h6, h7, h8, h9⟩ := h
  exact ⟨⟨a, e, xs, h1, h2, h3⟩, h5, h6, h7, h8, h9⟩
theorem MacG.le' (h : MacG g H t n m R E) {k : Nat} (hk : m ≤ k) : MacG g H t n k R E := ⟨h.at_, h.mok, h.pos, Nat.le_trans h.le hk, h.lt, h.el⟩
end
def TxG (C g : Addr) (H : Hp) (p : Addr) (z : Str) (m : Nat) (L : List Nat → Bool) : Prop := ∃ (t e : Addr) (ys : List Addr) (R : List (List Nat)) (E : List Nat), TxAt C H p z t e ys R E ∧ Least z.cps.size R E ∧ Lg z.cps.size R E L ∧ R.length ≤ m ∧ p ≠ g ∧ t ≠ g ∧ e ≠ g ∧ ∀ y ∈ ys, y ≠ g
section
variable {C g p : Addr} {H H' : Hp} {z : Str} {m : Nat} {L : List Nat → Bool}
theorem TxG.same (h : TxG C g H p z m L) (s : Same H H') : TxG C g H' p z m L := by
  obtain ⟨t, e, ys, R, E, a, b⟩ := h
  exact ⟨t, e, ys, R, E, a.same s, b⟩
theorem TxG.but (h : TxG C g H p z m L) (b : But g H H') : TxG C g H' p z m L := by
  obtain ⟨t, e, ys, R, E, a, h1, h2, h3, h4, h5, h6, h7⟩ := h
  exact ⟨t, e, ys, R, E, a.but b h4 h5 h6 h7, h1, h2, h3, h4, h5, h6, h7⟩
theorem TxG.toL (h : TxG C g H p z m L) : TxL C H p z m L := by
  obtain ⟨t, e, ys, R, E, a, h1, h2, h3, _⟩ := h
  exact ⟨t, e, ys, R, E, a, h1, h2, h3⟩
end
/-- the machines that sets tell, one behind another -/
theorem lc_tells {K : PySem.W.Frag} {C lf D : Addr} {fl : List Addr} {H : Hp} {z : Str} {σ : L2.St} {LL : List (List Nat → Bool)} {Qd : Hp → Prop} {i : Nat} (hi : i < σ.length) (hlf : H lf = some (.lst (fl.map V.ref))) (hll : LL.length ≤ 100)
    (hfl : Paired (fun (p : Addr) (L : List Nat → Bool) => TxL C H p z 4000 L) fl LL) (nD : H D = none) (q : ∀ (H' : Hp) (ds : List Addr), Same H H' → H' D = some (.lst (ds.map V.ref)) → Paired (fun (d : Addr) (L : List Nat → Bool) => DueL H' d z.cps.size 4000 L) ds LL → Qd H') :
    ∃ W : Nat → Nat → Hp → Prop, (∃ m, W 0 m (upd H D (.lst []))) ∧ ∀ j m H, W j m H →
      ((Itl K lf).stop j H ∧ Qd H) ∨ ((Itl K lf).go j H ∧ ∃ Nx : Hp → Prop, (∀ H', Nx H' → ∃ m', m' < m ∧ W (j + 1) m' H') ∧ ∀ x H', (Itl K lf).yld j H x H' → gName i x (wipe σ [i]) H' fun σ2 H2 => wipe σ2 [i] = wipe σ [i] ∧ tYes σ2 H2 fun b H3 =>
        if b = true then tCall (spToldBy C) [] E0 (tCons (tVar i) tNil) σ2 H3 fun y H4 => ∃ acc, H4 D = some (.lst acc) ∧ acc.length < sizeLine ∧ Nx (upd H4 D (.lst (acc ++ [y]))) else Nx H3) := by
  have hlen := paired_length hfl
  refine lc_list (K := K) (a := lf) (xs := fl.map V.ref) (fun j H3 => Same H H3 ∧ ∃ ds : List Addr, H3 D = some (.lst (ds.map V.ref)) ∧
    Paired (fun (d : Addr) (L : List Nat → Bool) => ∃ (a e : Addr) (xs : List Addr) (R : List (List Nat)) (E : List Nat), H3 d = some (.tup [.ref a, .ref e]) ∧ RowsAt H3 a xs R ∧ H3 e = some (.lst (nVs E)) ∧ Least z.cps.size R E ∧ Lg z.cps.size R E L ∧ R.length ≤ 4000 ∧ ∀ x ∈ d :: a :: e :: xs, x ≠ D) ds (LL.take j))
    ⟨same_new nD, [], by rw [upd_same]; rfl, .nil⟩ (fun j H3 _ ⟨s3, _⟩ => SqL.of (s3 _ _ hlf)) ?_ ?_
  · rintro j v H3 hj ⟨s3, ds, hD, hP⟩
    rw [List.getElem?_map] at hj
    obtain ⟨p0, hp0, rfl⟩ := Option.map_eq_some_iff.mp hj
    obtain ⟨L, hL, hTx⟩ := paired_get hfl hp0
    have hjl : j < LL.length := (List.getElem?_eq_some_iff.mp hL).1
    obtain ⟨t, e, ys, R, E, hT, hLe, hLg, hRl⟩ := hTx.same s3
    show _ ∧ _
    refine ⟨?_, ?_⟩
    · show ((σ.set i none).set i (some (V.ref p0))).set i none = σ.set i none
      rw [List.set_set, List.set_set]
    refine ⟨.ref p0, ?_, p0, z, t, e, ys, R, E, rfl, hT, by omega, fun H4 q4 a4 e4 xs4 s4 hn4 z1 z2 z3 => ?_⟩
    · show ((σ.set i none).set i (some (V.ref p0)))[i]? = some (some (V.ref p0))
      rw [List.getElem?_set_self (by rw [List.length_set]; exact hi)]
    have pl := paired_length hP
    have hne : ∀ x ∈ q4 :: a4 :: e4 :: xs4, x ≠ D := fun x hx => (ne_of_none hD (hn4 x hx)).symm
    refine ⟨_, s4 _ _ hD, by rw [List.length_map, pl, List.length_take]; exact szBig (by omega), ?_, ds ++ [q4], by rw [upd_same, List.map_append]; rfl, ?_⟩
    · intro b o eb
      rw [upd_ne (ne_of_none eb nD)]
      exact s4 _ _ (s3 _ _ eb)
    · rw [take_snoc hL]
      have key : ∀ (d a e : Addr) (xs : List Addr) (R : List (List Nat)) (E : List Nat) (o : HO), H4 d = some (.tup [.ref a, .ref e]) → RowsAt H4 a xs R → H4 e = some (.lst (nVs E)) → (∀ x ∈ d :: a :: e :: xs, x ≠ D) → (upd H4 D o) d = some (.tup [.ref a, .ref e]) ∧ RowsAt (upd H4 D o) a xs R ∧ (upd H4 D o) e = some (.lst (nVs E)) := fun d a e xs R E o h1 h2 h3 hx =>
        ⟨by rw [upd_ne (hx d (by simp))]; exact h1, ⟨by rw [upd_ne (hx a (by simp))]; exact h2.at_, h2.len, fun i x hx' => by rw [upd_ne (hx x (by simp [List.mem_of_getElem? hx']))]; exact h2.row i x hx'⟩, by rw [upd_ne (hx e (by simp))]; exact h3⟩
      refine paired_snoc (paired_keep hP fun d _ L' ⟨a, e', xs, R', E', h1, h2, h3, h4, h5, h6, h7⟩ => ?_) ?_
      · obtain ⟨k1, k2, k3⟩ := key d a e' xs R' E' (.lst (ds.map V.ref ++ [.ref q4])) (s4 _ _ h1) (h2.same s4) (s4 _ _ h3) h7
        exact ⟨a, e', xs, R', E', k1, k2, k3, h4, h5, h6, h7⟩
      · obtain ⟨k1, k2, k3⟩ := key q4 a4 e4 xs4 R E (.lst (ds.map V.ref ++ [.ref q4])) z1 z2 z3 hne
        exact ⟨a4, e4, xs4, R, E, k1, k2, k3, hLe, hLg, hRl, hne⟩
  · rintro H3 ⟨s3, ds, hD, hP⟩
    rw [List.length_map, hlen, List.take_length] at hP
    exact q H3 ds s3 hD (paired_keep hP fun d _ L ⟨a, e, xs, R, E, h1, h2, h3, h4, h5, h6, _⟩ => ⟨a, e, xs, R, E, h1, h2, h3, h4, h5, h6⟩)
end Rg
namespace Rg
open PySem PySem.Spec PyProof.Rows L2 Mach
theorem binI_mul {K : PySem.W.Frag} {C : Addr} {fo ro : Option Value} (sf : PySem.W.selfFirst K C = true) (r : PySem.W.findIn K (.ref C) "__rmul__" = some none) (i1 : PySem.W.findIn K (.type "int") "__mul__" = some fo) (i2 : PySem.W.findIn K (.type "int") "__rmul__" = some ro) (sub : PySem.W.subIn K (.type "int") (.ref C) = some false) : BinI K C .Mult := by
  have d1 : PySem.dunder Operator.Mult.info.2 = "__mul__" := by decide +kernel
  have d2 : PySem.dunderR Operator.Mult.info.2 = "__rmul__" := by decide +kernel
  exact ⟨sf, by rw [d2]; exact r, ⟨fo, by rw [d1]; exact i1⟩, ⟨ro, by rw [d2]; exact i2⟩, sub⟩
end Rg

/-! pairs of truths, written at the top or in a def -/
namespace Rg
open PySem PySem.Spec PyProof.Rows L2 Mach
def pB (p : Bool × Bool) : PyData := .tuple [.bool p.1, .bool p.2]
def okW (ps : List (Bool × Bool)) (W : Bool → Bool → Bool) : Bool := SeqAt.shaped (.tuple (ps.map pB)) && ([false, true].all fun a => [false, true].all fun b => ((ps.map pB).any fun z => PyData.eqv z (.tuple [.bool a, .bool b])) == W a b)
theorem okW_all {ps : List (Bool × Bool)} {W : Bool → Bool → Bool} (h : okW ps W = true) : SeqAt.shaped (.tuple (ps.map pB)) = true ∧ ∀ a b, ((ps.map pB).any fun z => PyData.eqv z (.tuple [.bool a, .bool b])) = W a b := by
  unfold okW at h
  rw [Bool.and_eq_true] at h
  refine ⟨h.1, fun a b => ?_⟩
  have h1 := List.all_eq_true.mp h.2 a (by cases a <;> simp)
  have h2 := List.all_eq_true.mp h1 b (by cases b <;> simp)
  exact eq_of_beq h2
/-- at the top -/
theorem wan_K {K : PySem.W.Frag} {H : Hp} {t : Addr} {us : List Addr} {ps : List (Bool × Bool)} {W : Bool → Bool → Bool} (hz : us.length ≤ 100) (ht : ∃ od n sl, K.lookup t = some ⟨.type "tuple", od, .seq (us.map Value.ref).toArray n, sl⟩)
    (hu : Paired (fun (u : Addr) (p : Bool × Bool) => ∃ od n sl, K.lookup u = some ⟨.type "tuple", od, .seq #[.bool p.1, .bool p.2] n, sl⟩) us ps) (h : okW ps W = true) : Wan K H (.ref t) W := by
  obtain ⟨h1, h2⟩ := okW_all h
  obtain ⟨od, n, sl, hl⟩ := ht
  refine ⟨ps.map pB, .tup (xs := us.map V.ref) (.inr ⟨_, (us.map Value.ref).toArray, n, hl, rfl, rfl, ?_, ?_⟩) ?_, h1, h2⟩
  · rw [List.size_toArray, List.length_map]
    exact szBigLe (by omega)
  · show Vals (us.map V.ref) (us.map Value.ref)
    clear hz hl hu
    induction us with
    | nil => exact .nil
    | cons a us ih => exact .cons rfl ih
  · clear hz hl h h1 h2
    induction hu with
    | nil => exact .nil
    | @cons u p _ _ a _ ih =>
      obtain ⟨od, n, sl, hl⟩ := a
      exact .cons (.tup (xs := [V.bl p.1, V.bl p.2]) (.inr ⟨_, _, n, hl, rfl, rfl, szBigLe (by show 2 ≤ 100000; decide), .cons rfl (.cons rfl .nil)⟩) (.cons (.bl _) (.cons (.bl _) .nil))) ih
/-- in a def -/
def WanAt (H : Hp) (t : Addr) (ps : List (Bool × Bool)) : Prop := ∃ us : List Addr, H t = some (.tup (us.map V.ref)) ∧ Paired (fun (u : Addr) (p : Bool × Bool) => H u = some (.tup [.bl p.1, .bl p.2])) us ps
theorem WanAt.same {H H' : Hp} {t : Addr} {ps : List (Bool × Bool)} (h : WanAt H t ps) (s : Same H H') : WanAt H' t ps := by
  obtain ⟨us, h1, h2⟩ := h
  exact ⟨us, s _ _ h1, paired_keep h2 fun u _ p e => s _ _ e⟩
theorem wan_of {K : PySem.W.Frag} {H : Hp} {t : Addr} {ps : List (Bool × Bool)} {W : Bool → Bool → Bool} (h : WanAt H t ps) (hW : okW ps W = true) : Wan K H (.ref t) W := by
  obtain ⟨h1, h2⟩ := okW_all hW
  obtain ⟨us, h3, h4⟩ := h
  refine ⟨ps.map pB, .tup (SqT.of h3) ?_, h1, h2⟩
  clear h3 h1 h2 hW
  induction h4 with
  | nil => exact .nil
  | cons a _ ih => exact .cons (.tup (SqT.of a) (.cons (.bl _) (.cons (.bl _) .nil))) ih
theorem kit_ve {K : PySem.W.Frag} {U : Addr} (h : PySem.W.subIn K (.ref U) (.type "ValueError") = some true) : PySem.W.kitOne K (.ref U) (.type "ValueError") = some true := by
  unfold PySem.W.kitOne
  have hne : ¬ (Value.ref U == Value.type "ValueError") = true := fun e => by cases beq_iff_eq.mp e
  rw [if_neg hne]
  unfold PySem.W.kitCls
  show (if PySem.W.kitMeta "ValueError" = true then PySem.W.subIn K (.ref U) (.type "ValueError") else none) = _
  rw [if_pos (by decide +kernel), h]
end Rg

namespace K16
open PySem PySem.Spec PyProof.Rows L2 Rg
def topS (i : Nat) : Stmt := PySem.Challenge.pw_builttexts_k16_sets_joined.main.body.getD i (.Pass ⟨0, 0, 0, 0⟩)
abbrev sTake : Stmt := topS 40
theorem scTake : FnScope ["_law_bag_here", "_law_many", "_law_cell", "_law_mixed", "_law_drawn", "_law_early", "_law_second"] ["_law_bag_here", "_law_many"] (defScope sTake) :=
  ⟨rfl, rfl, rfl, by decide +kernel, rfl, by decide +kernel, by decide +kernel⟩

section
variable {P : Program} {w : World} {K : PySem.W.Frag} {mg : Str → Option Value} {base : Heap}

theorem ok_take {f : Addr} {fd : FuncData} {k : Nat} (F : Fun K "_law_take" "_law_take" sTake f fd) (mi : mg "int" = none) :
    FnOk P w K mg base CX0 (k + 1) f fd ["_law_bag_here", "_law_many"] spTake := by
  refine F.ok scTake (fun vs H Q E h => ?_) (fun cdv A outer s H vs Q E hr h => ?_)
  · obtain ⟨g, l, m, rfl, _⟩ := h
    rfl
  · obtain ⟨g, l, m, rfl, hB, hm0, hm1, q⟩ := h
    refine ⟨_, C8.pss_cut (ps_if (pt_cmpR op_eq (pe_ix ix_list (pv 0) pe_int (fun _ _ => rfl)) pe_int (nomark _))
        (pss_cons (ps_set (i := 2) scTake.nd rfl (.inl rfl) (pe_ix ix_list (pe_op op_cat (pe_slice sl_list (pe_ix ix_list (pv 0) pe_int (fun _ _ => rfl)) (po_some (pe_ix ix_list (pv 0) pe_int (fun _ _ => rfl))) po_none)
            (pe_lst (pa_cons pe_int pa_nil))) pe_int (fun _ _ => rfl)))
        (pss_cons (ps_augS (pv 0) pe_int get_listN pe_int ip_add set_list)
        (pss_cons (ps_asg (pe_op op_mul (pv 2) (pe_callTy call_int1 (by rfl) mi bInt (pa_cons (pe_cmpR op_ge (pv 2) (pe_op op_pow pe_int pe_int) (nomark _)) pa_nil))) (pg_sub (pv 0) pe_int set_list))
        (pss_cons (ps_set (i := 3) scTake.nd rfl (.inl rfl) (pe_op op_add (pe_op op_add (pe_op op_mul (pe_ix ix_list (pv 0) pe_int (fun _ _ => rfl)) pe_int)
            (pe_op op_mod (pe_callTy call_int1 (by rfl) mi bInt (pa_cons (pv 2) pa_nil)) pe_int)) (pe_op op_mul pe_int (pe_ix ix_list (pv 0) pe_int (fun _ _ => rfl)))))
        (pss_one (ps_asg (pe_op op_mod (pe_callTy call_int1 (by rfl) mi bInt (pa_cons (pv 3) pa_nil)) pe_int) (pg_sub (pv 0) pe_int set_list))))))) pss_nil)
      (pss_cons (ps_if (pt_cmpR op_gt (pe_ix ix_list (pv 0) pe_int (fun _ _ => rfl)) pe_int (nomark _))
        (pss_cons (ps_set (i := 4) scTake.nd rfl (.inl rfl) (pe_op op_mod (pe_callTy call_int1 (by rfl) mi bInt (pa_cons (pe_ix ix_list (pv 0) pe_int (fun _ _ => rfl)) pa_nil)) (pv 1)))
        (pss_cons (ps_asg (pe_op op_fdiv (pe_callTy call_int1 (by rfl) mi bInt (pa_cons (pe_ix ix_list (pv 0) pe_int (fun _ _ => rfl)) pa_nil)) (pv 1)) (pg_sub (pv 0) pe_int set_list))
        (pss_one (ps_ret (pv 4))))) pss_nil)
      (pss_cons (ps_set (i := 5) scTake.nd rfl (.inl rfl) (pe_op op_mod (pe_callTy call_int1 (by rfl) mi bInt (pa_cons (pe_op op_mul (pe_op op_add (pe_ix ix_list (pv 0) pe_int (fun _ _ => rfl)) pe_int) pe_int) pa_nil)) pe_int))
      (pss_cons (ps_set (i := 6) scTake.nd rfl (.inl rfl) (pe_op op_mod (pe_callTy call_int1 (by rfl) mi bInt (pa_cons (pe_op op_mul (pe_op op_mod (pe_callTy call_int1 (by rfl) mi bInt (pa_cons (pe_op op_mul (pv 5) (pv 5)) pa_nil)) pe_int) pe_int) pa_nil)) pe_int))
      (pss_one (ps_ret (pe_op op_mod (pe_callTy call_int1 (by rfl) mi bInt (pa_cons (pe_op op_fdiv (pv 6) pe_int) pa_nil)) (pv 1))))))), ?_⟩
    have pA : (0 : Int) < 2147483647 := by decide
    have pB : (0 : Int) < 1000000007 := by decide
    have pC : (0 : Int) < 998244353 := by decide
    refine ⟨fun σ H1 => ∃ c d : Option V, σ = [some (.ref g), some (.int m), c, d, none, none, none] ∧ Bag H1 g l ∧ But g H H1, ?_, ?_⟩
    · obtain ⟨x0, x1, x2, cs, hg, hl, h0, h1, h2, hc, hcl⟩ := id hB
      have ngl : l ≠ g := ne_of hl hg bag_ne
      refine ⟨_, rfl, g, _, 0, _, rfl, rfl, SqL.of hg, atI_nat (j := 0) rfl, rfl, _, rfl, ite2 (fun e => ?_) (fun e => ?_)⟩
      · -- a new cell
        refine ⟨_, rfl, g, _, 3, _, rfl, rfl, SqL.of hg, atI_nat (j := 3) rfl, _, rfl, g, _, 2, _, rfl, rfl, SqL.of hg, atI_nat (j := 2) rfl, x2, rfl, l, _, rfl, SqL.of hl, fun p1 n1 => ?_⟩
        obtain ⟨zs, ez, hz, hzl⟩ := cut_ints cs (some x2) none
        rw [ez]
        refine ⟨by show 1 ≤ sizeLine; decide, fun p2 n2 => ?_⟩
        have n12 : p1 ≠ p2 := by
          intro z
          rw [← z, upd_same] at n2
          cases n2
        refine ⟨p1, p2, _, _, rfl, rfl, by rw [upd_ne n12, upd_same], upd_same, ?_, fun p3 n3 => ?_⟩
        · rw [List.length_map]
          exact Nat.le_of_lt (small1000 (by show zs.length + 1 ≤ 1000; omega))
        obtain ⟨c, hc0, ec⟩ : ∃ c : Int, 0 ≤ c ∧ (zs.map V.int ++ [V.int 0])[0]? = some (.int c) := by
          cases zs with
          | nil => exact ⟨0, by decide, rfl⟩
          | cons z r => exact ⟨z, hc z (hz z List.mem_cons_self), rfl⟩
        refine ⟨p3, _, 0, _, rfl, rfl, SqL.of upd_same, atI_nat (j := 0) ec, ?_⟩
        have B1 : But g H (upd H p1 (.lst (zs.map V.int))) := (But.refl g H).new n1
        have B2 := B1.new (o := .lst [.int 0]) n2
        have B3 := B2.new (o := .lst (zs.map V.int ++ [V.int 0])) n3
        have b1 := hB.new (o := .lst (zs.map V.int)) n1
        have b2 := b1.new (o := .lst [.int 0]) n2
        have b3 := b2.new (o := .lst (zs.map V.int ++ [V.int 0])) n3
        have nl1 : l ≠ p1 := ne_of_none hl n1
        have ng1 : g ≠ p1 := ne_of_none hg n1
        have ng2 : g ≠ p2 := ne_of_none (by rw [upd_ne ng1]; exact hg) n2
        have ng3 : g ≠ p3 := ne_of_none (by rw [upd_ne ng2, upd_ne ng1]; exact hg) n3
        have l3 := B3 l _ ngl hl
        have g3 : (upd (upd (upd H p1 (.lst (zs.map V.int))) p2 (.lst [.int 0])) p3 (.lst (zs.map V.int ++ [V.int 0]))) g = some (BagL x0 x1 x2 l) := by
          rw [upd_ne ng3, upd_ne ng2, upd_ne ng1]
          exact hg
        generalize (upd (upd (upd H p1 (.lst (zs.map V.int))) p2 (.lst [.int 0])) p3 (.lst (zs.map V.int ++ [V.int 0]))) = H3 at B3 b3 l3 g3
        -- bag[2] += 1
        refine ⟨_, rfl, g, _, 2, _, rfl, rfl, SqL.of g3, rfl, _, _, rfl, rfl, g, _, 2, 2, rfl, rfl, g3, rfl, ?_⟩
        have B4 : But g H (upd H3 g (BagL x0 x1 (x2 + 1) l)) := B3.self
        have l4 := B4 l _ ngl hl
        -- bag[0] = cell * int(cell >= 10 ** 18)
        refine ⟨_, rfl, _, rfl, 10, 18, rfl, rfl, ⟨by decide, by decide, by decide⟩, _, _, rfl, rfl, .inr ⟨_, rfl, _, _, rfl, rfl, ?_, ?_⟩⟩
        · right
          split <;> decide
        have hy0 : 0 ≤ c * (if decide ((10 : Int) ^ (18 : Int).toNat ≤ c) then 1 else 0) := by
          split <;> omega
        refine ⟨_, rfl, g, _, 0, 0, rfl, rfl, upd_same, rfl, ?_⟩
        rw [upd_upd]
        -- mixed
        refine ⟨_, rfl, g, _, 1, _, rfl, rfl, SqL.of upd_same, atI_nat (j := 1) rfl, _, _, rfl, rfl, .inr ⟨by decide, by decide⟩, _, rfl, .inl ⟨_, rfl, _, _, rfl, rfl, pA, _, _, rfl, rfl, _, rfl, g, _, 2, _, rfl, rfl, SqL.of upd_same, atI_nat (j := 2) rfl, _, _, rfl, rfl, .inl ⟨by decide, by decide⟩, _, _, rfl, rfl, ?_⟩⟩
        refine ⟨_, rfl, .inl ⟨_, rfl, _, _, rfl, rfl, pA, _, rfl, g, _, 1, 1, rfl, rfl, upd_same, rfl, ?_⟩⟩
        rw [upd_upd]
        refine ⟨_, _, rfl, ⟨_, _, x2 + 1, cs, upd_same, ?_, hy0, Int.emod_nonneg _ (by decide), by omega, hc, hcl⟩, B3.self⟩
        rw [upd_ne ngl]
        exact l3
      · exact ⟨none, none, rfl, hB, .refl g H⟩
    · rintro σ H1 ⟨c, d, rfl, hB1, B1⟩
      obtain ⟨x0, x1, x2, cs, hg, hl, h0, h1, h2, hc, hcl⟩ := id hB1
      have ngl : l ≠ g := ne_of hl hg bag_ne
      refine ⟨_, rfl, g, _, 0, _, rfl, rfl, SqL.of hg, atI_nat (j := 0) rfl, _, _, rfl, rfl, _, rfl, ite2 (fun e => ?_) (fun e => ?_)⟩
      · refine ⟨_, rfl, g, _, 0, _, rfl, rfl, SqL.of hg, atI_nat (j := 0) rfl, .inl ⟨_, rfl, _, rfl, _, _, rfl, rfl, hm0, ?_⟩⟩
        refine ⟨_, rfl, g, _, 0, _, rfl, rfl, SqL.of hg, atI_nat (j := 0) rfl, .inl ⟨_, rfl, _, rfl, _, _, rfl, rfl, ⟨hm0, hm1⟩, _, rfl, g, _, 0, 0, rfl, rfl, hg, rfl, ?_⟩⟩
        refine ⟨_, rfl, ?_⟩
        have en : ((x0 % m).toNat : Int) = x0 % m := Int.toNat_of_nonneg (Int.emod_nonneg _ (by omega))
        have lt := Int.emod_lt_of_pos x0 hm0
        have := q (upd H1 g (BagL (x0 / m) x1 x2 l)) (x0 % m).toNat (by rw [en]; exact lt)
          ⟨x0 / m, x1, x2, cs, upd_same, by rw [upd_ne ngl]; exact hl, Int.ediv_nonneg h0 (by omega), h1, h2, hc, hcl⟩ B1.self
        unfold nV at this
        rw [en] at this
        exact this
      · refine ⟨_, rfl, g, _, 1, _, rfl, rfl, SqL.of hg, atI_nat (j := 1) rfl, _, _, rfl, rfl, _, _, rfl, rfl, .inr ⟨by decide, by decide⟩, .inl ⟨_, rfl, _, _, rfl, rfl, pB, ?_⟩⟩
        have e1 : 0 ≤ (x1 + 1) * 39373 % 1000000007 := Int.emod_nonneg _ (by decide)
        have e2 : (x1 + 1) * 39373 % 1000000007 < 1000000007 := Int.emod_lt_of_pos _ (by decide)
        have fin : ∀ z : Int, Q (V.int (z % m)) H1 := by
          intro z
          have en : ((z % m).toNat : Int) = z % m := Int.toNat_of_nonneg (Int.emod_nonneg _ (by omega))
          have lt := Int.emod_lt_of_pos z hm0
          have := q H1 (z % m).toNat (by rw [en]; exact lt) hB1 B1
          unfold nV at this
          rw [en] at this
          exact this
        refine ⟨_, rfl, _, rfl, _, _, rfl, rfl, .inl ⟨Int.lt_of_lt_of_le (by decide) e1, Int.lt_trans e2 (by decide)⟩, .inl ⟨_, rfl, _, _, rfl, rfl, pC, _, _, rfl, rfl, .inr ⟨by decide, by decide⟩, .inl ⟨_, rfl, _, _, rfl, rfl, pC, ?_⟩⟩⟩
        exact ⟨_, rfl, _, _, rfl, rfl, ⟨by decide, by decide⟩, .inl ⟨_, rfl, _, rfl, _, _, rfl, rfl, hm0, fin _⟩⟩
end
end K16

namespace K16
open PySem PySem.Spec PyProof.Rows L2 Rg Mach
abbrev sIsInt : Stmt := topS 9
abbrev sIsSg : Stmt := topS 10
abbrev sIsNum : Stmt := topS 12
abbrev sAreR : Stmt := topS 27
theorem scIsInt : FnScope ["thing"] ["thing"] (defScope sIsInt) := ⟨rfl, rfl, rfl, by decide +kernel, rfl, by decide +kernel, by decide +kernel⟩
theorem scIsNum : FnScope ["many", "thing"] ["many", "thing"] (defScope sIsNum) := ⟨rfl, rfl, rfl, by decide +kernel, rfl, by decide +kernel, by decide +kernel⟩
def nIsSg : List Str := ["thing", "letter", "one", "other"]
theorem scIsSg : FnScope nIsSg ["thing"] (defScope sIsSg) := ⟨rfl, rfl, rfl, by decide +kernel, rfl, by decide +kernel, by decide +kernel⟩
def nAreR : List Str := ["wide", "thing", "row", "there"]
theorem scAreR : FnScope nAreR ["wide", "thing"] (defScope sAreR) := ⟨rfl, rfl, rfl, by decide +kernel, rfl, by decide +kernel, by decide +kernel⟩
section
variable {P : Program} {w : World} {K : PySem.W.Frag} {mg : Str → Option Value} {base : Heap}
theorem ok_isInt {f : Addr} {fd : FuncData} {k : Nat} (F : Fun K "is_integer" "is_integer" sIsInt f fd) (mis : mg "isinstance" = none) (mi : mg "int" = none) (mb : mg "bool" = none) :
    FnOk P w K mg base CX0 (k + 1) f fd ["thing"] spIsInt := by
  refine F.ok scIsInt (fun vs H Q E h => ?_) (fun cdv A outer s H vs Q E hr h => ?_)
  · obtain ⟨i, rfl, _⟩ := h
    rfl
  · obtain ⟨i, rfl, q⟩ := h
    refine ⟨_, pss_one (ps_ret (pe_and (pe_callB call_isi (by rfl) mis bIsi (pa_cons (pv 0) (pa_cons (pe_bltn (v := .ty "int") (by rfl) mi bInt rfl) pa_nil)))
      (pe_one (pe_not (pe_callB call_isi (by rfl) mis bIsi (pa_cons (pv 0) (pa_cons (pe_bltn (v := .ty "bool") (by rfl) mb bBool rfl) pa_nil))))))), ?_⟩
    refine ⟨_, rfl, _, _, _, _, true, rfl, .ty "int", .base (.int i), kit_ty (by decide +kernel), true, rfl, ?_⟩
    exact ⟨_, rfl, _, _, _, _, false, rfl, .ty "bool", .base (.int i), kit_ty (by decide +kernel), false, rfl, q⟩
theorem ok_isNum {f fI : Addr} {fd fdI : FuncData} {k : Nat} (F : Fun K "is_number" "is_number" sIsNum f fd)
    (FI : Fun K "is_integer" "is_integer" sIsInt fI fdI) (bI : Binds K fdI ["thing"] []) (gI : mg "is_integer" = some (.ref fI)) (mis : mg "isinstance" = none) (mi : mg "int" = none) (mb : mg "bool" = none) :
    FnOk P w K mg base CX0 (k + 2) f fd ["many", "thing"] spIsNum := by
  have GI : FnOk P w K mg base CX0 (k + 1) fI fdI ["thing"] spIsInt := ok_isInt FI mis mi mb
  refine F.ok scIsNum (fun vs H Q E h => ?_) (fun cdv A outer s H vs Q E hr h => ?_)
  · obtain ⟨m, i, rfl, _⟩ := h
    rfl
  · obtain ⟨m, i, rfl, q⟩ := h
    refine ⟨_, pss_one (ps_ret (pe_and (pe_call GI hr (by rfl) gI FI.kp bI .nil pass0 (pa_cons (pv 1) pa_nil)) (pe_one (pe_chain op_le op_lt pe_int (pv 1) (pv 0))))), ?_⟩
    refine ⟨_, rfl, i, rfl, true, rfl, ?_⟩
    refine ⟨_, rfl, _, _, rfl, rfl, _, rfl, ?_⟩
    by_cases h0 : (0 : Int) ≤ i
    · rw [decide_eq_true h0, Bool.true_and] at q
      exact ite2 (fun _ => ⟨_, rfl, _, _, rfl, rfl, q⟩) (fun z => absurd (decide_eq_true h0) z)
    · rw [decide_eq_false h0, Bool.false_and] at q
      exact ite2 (fun z => absurd (of_decide_eq_true z) h0) (fun _ => q)
theorem ok_isSg {f : Addr} {fd : FuncData} {k : Nat} (F : Fun K "is_signs" "is_signs" sIsSg f fd) {uL uM : Value} (gL : mg "LETTERS" = some uL) (rL : RelV (.str letters) uL) (gM : mg "MOST_SIGNS" = some uM) (rM : RelV (.int 4) uM)
    (mis : mg "isinstance" = none) (ms : mg "str" = none) (ml : mg "len" = none) (ma : mg "all" = none) (mz : mg "zip" = none) :
    FnOk P w K mg base CX0 (k + 1) f fd ["thing"] spIsSg := by
  refine F.ok scIsSg (fun vs H Q E h => ?_) (fun cdv A outer s H vs Q E hr h => ?_)
  · obtain ⟨z, rfl, _⟩ := h
    rfl
  · obtain ⟨z, rfl, hz, q⟩ := h
    refine ⟨_, pss_cons (ps_if (pw_or (pt_not (pt_val (pe_callB call_isi (by rfl) mis bIsi (pa_cons (pv 0) (pa_cons (pe_bltn (v := .ty "str") (by rfl) ms bStr rfl) pa_nil)))))
        (pw_or1 (pt_not (pt_chain op_le op_le pe_int (pe_callB call_len_str (by rfl) ml bLen (pa_cons (pv 0) pa_nil)) (pe_glob (by rfl) gM rM))))).pt (pss_one (ps_ret pe_bl)) pss_nil)
      (pss_cons (ps_if (pt_not (pt_val (pe_callB (cr_all rfl) (by rfl) ma bAll (pa_cons (pe_lc (own := [("letter", 1)]) (g := gName 1) (tt := tYes) (te := tOp (fun x y H Q => ∃ (c : Nat) (z : Str), x = .str ⟨#[c]⟩ ∧ y = .str z ∧ Q (.bl (decide (c ∈ z.cps.toList))) H) (tVar 1) (tC (.str letters))) rfl scIsSg.nd (pi_str (pv 0)) (blkOk_by (own := [("letter", 1)]) (N := nIsSg) (sc := defScope sIsSg) (by decide +kernel))
          (fun _ _ _ _ _ => pg_name (i := 1) scIsSg.nd rfl (Or.inl rfl)) (fun _ _ _ _ _ => pts_nil) (fun _ _ _ _ _ => pe_cmpR op_in_sign (pv 1) (pe_glob (by rfl) gL rL) rfl)) pa_nil)))) (pss_one (ps_ret pe_bl)) pss_nil)
      (pss_one (ps_ret (pe_callB (cr_all rfl) (by rfl) ma bAll (pa_cons (pe_lc (own := [("one", 2), ("other", 3)]) (g := gTup K 2 (gCons (gName 2) (gCons (gName 3) gNil))) (tt := tYes) (te := tOp (fun x y H Q => ∃ i j, x = .str i ∧ y = .str j ∧ Q (.bl (decide (i.cps.toList < j.cps.toList))) H) (tVar 2) (tVar 3)) rfl scIsSg.nd (pi_zipS (by rfl) mz (pa_cons (pv 0) (pa_cons (pe_slice sl_str (pv 0) (po_some pe_int) po_none) pa_nil))) (blkOk_by (own := [("one", 2), ("other", 3)]) (N := nIsSg) (sc := defScope sIsSg) (by decide +kernel))
          (fun _ _ _ _ _ => pg_tup rfl (pgs_cons (pg_name (i := 2) scIsSg.nd rfl (Or.inl rfl)) (pgs_cons (pg_name (i := 3) scIsSg.nd rfl (Or.inl rfl)) pgs_nil))) (fun _ _ _ _ _ => pts_nil) (fun _ _ _ _ _ => pe_cmpR op_lt_str (pv 2) (pv 3) (nomark _))) pa_nil))))), ?_⟩
    have hlen : z.length = z.cps.size := rfl
    have h1 := hz.pos
    have h4 := hz.few
    refine ⟨_, rfl, _, _, _, _, true, rfl, .ty "str", .base (.str z), kit_ty (by decide +kernel), true, rfl, ?_⟩
    refine ⟨_, rfl, _, rfl, by rw [hlen]; exact szBigLe (by omega), _, _, rfl, rfl, _, rfl, ?_⟩
    refine ite2 (fun _ => ?_) (fun y => absurd (decide_eq_true (show (1 : Int) ≤ (z.length : Nat) by rw [hlen]; omega)) y)
    refine ⟨_, _, rfl, rfl, _, rfl, ?_⟩
    rw [decide_eq_true (show ((z.length : Nat) : Int) ≤ 4 by rw [hlen]; omega)]
    -- all letters
    refine ⟨_, rfl, z, rfl, fun D1 nD1 => ?_⟩
    refine lc_str (x := z) (fun i H1 => Same H H1 ∧ H1 D1 = some (.lst (List.replicate i (V.bl true)))) ⟨same_new nD1, upd_same⟩ ?_ ?_
    · rintro i c H1 hc ⟨s1, hD⟩
      have hil : i < z.cps.size := (Array.getElem?_eq_some_iff.mp hc).1
      refine ⟨rfl, ?_⟩
      refine ⟨_, rfl, c, letters, rfl, rfl, _, hD, by rw [List.length_replicate]; exact szBig (by omega), ?_, ?_⟩
      · intro b o e
        rw [upd_ne (ne_of_none e nD1)]
        exact s1 _ _ e
      · rw [upd_same, decide_eq_true (hz.in_ hc), rep_snoc]
    rintro H1 ⟨s1, hD⟩
    refine ⟨D1, List.replicate z.cps.size true, rfl, SqL.of (by rw [replicate_bl]; exact hD), _, rfl, ?_⟩
    rw [all_true (fun b hb => List.eq_of_mem_replicate hb)]
    -- rising
    refine ⟨_, rfl, _, rfl, 1, rfl, z, rfl, by rw [hlen]; exact szBigLe (by omega), z, cutS z (some 1) none, rfl, fun D2 nD2 => ?_⟩
    have hcs := cut1_size z
    refine lc_zipS (x := z) (y := cutS z (some 1) none) (fun i H2 => Same H1 H2 ∧ H2 D2 = some (.lst (List.replicate i (V.bl true)))) ⟨same_new nD2, upd_same⟩ ?_ ?_
    · rintro i c d T H2 hc hd ⟨s2, hD2⟩ nT
      have hil : i < z.cps.size := (Array.getElem?_eq_some_iff.mp hc).1
      have nTD : T ≠ D2 := (ne_of_none hD2 nT).symm
      refine ⟨T, _, rfl, SqT.of upd_same, rfl, _, _, rfl, _, _, rfl, rfl, rfl, ?_⟩
      refine ⟨_, rfl, _, rfl, _, _, rfl, rfl, _, by rw [upd_ne nTD.symm]; exact hD2, by rw [List.length_replicate]; exact szBig (by omega), ?_, ?_⟩
      · intro b o e
        rw [upd_ne (ne_of_none e nD2), upd_ne (ne_of_none (s2 _ _ e) nT)]
        exact s2 _ _ e
      · rw [upd_same, one_lt (hz.lt hc (cutS_one z h1 i d hd)), rep_snoc]
    rintro H2 ⟨s2, hD2⟩
    refine ⟨D2, List.replicate (min z.cps.size (cutS z (some 1) none).cps.size) true, rfl, SqL.of (by rw [replicate_bl]; exact hD2), ?_⟩
    rw [all_true (fun b hb => List.eq_of_mem_replicate hb)]
    exact q H2 (s1.trans s2)
theorem ok_areR {f fN fI : Addr} {fd fdN fdI : FuncData} {k : Nat} (F : Fun K "are_rows" "are_rows" sAreR f fd)
    (FN : Fun K "is_number" "is_number" sIsNum fN fdN) (bN : Binds K fdN ["many", "thing"] []) (gN : mg "is_number" = some (.ref fN))
    (FI : Fun K "is_integer" "is_integer" sIsInt fI fdI) (bI : Binds K fdI ["thing"] []) (gI : mg "is_integer" = some (.ref fI))
    (mis : mg "isinstance" = none) (mi : mg "int" = none) (mb : mg "bool" = none) (mli : mg "list" = none) (ml : mg "len" = none) (ma : mg "all" = none) :
    FnOk P w K mg base CX0 (k + 3) f fd ["wide", "thing"] spAreR := by
  have GN : FnOk P w K mg base CX0 (k + 2) fN fdN ["many", "thing"] spIsNum := ok_isNum FN FI bI gI mis mi mb
  refine F.ok scAreR (fun vs H Q E h => ?_) (fun cdv A outer s H vs Q E hr h => ?_)
  · obtain ⟨n, a, xs, R, rfl, _⟩ := h
    rfl
  · obtain ⟨n, a, xs, R, rfl, hR, hM, h0, hl, hn, q⟩ := h
    have hxl := hR.len
    refine ⟨_, pss_cons (ps_if (pw_or (pt_not (pt_val (pe_callB call_isi (by rfl) mis bIsi (pa_cons (pv 1) (pa_cons (pe_bltn (v := .ty "list") (by rfl) mli bList rfl) pa_nil)))))
        (pw_or1 (pt_cmpR (op_eqD hr.units) (pv 1) (pe_lst pa_nil) (nomark _)))).pt (pss_one (ps_ret pe_bl)) pss_nil)
      (pss_cons (ps_for PassesOwn.never rfl (pi_list (pv 1)) (pg_name (i := 2) scAreR.nd rfl (.inl rfl))
        (pss_one (ps_if (pw_or (pt_not (pt_val (pe_callB call_isi (by rfl) mis bIsi (pa_cons (pv 2) (pa_cons (pe_bltn (v := .ty "list") (by rfl) mli bList rfl) pa_nil)))))
          (pw_or (pt_cmpR op_ne (pe_callB call_len_seq (by rfl) ml bLen (pa_cons (pv 2) pa_nil)) (pv 0) (nomark _))
          (pw_or1 (pt_not (pt_val (pe_callB (cr_all rfl) (by rfl) ma bAll (pa_cons (pe_lc (own := [("there", 3)]) (g := gName 3) (tt := tYes) (te := tCall spIsNum [] E0 (tCons (tCB (fun xs H Q => ∃ p ys, xs = [V.ref p] ∧ (SqL K H p ys ∨ SqT K H p ys) ∧ Q (V.int (ys.length : Nat)) H) (tCons (tVar 1) tNil)) (tCons (tVar 3) tNil))) rfl scAreR.nd (pi_list (pv 2)) (blkOk_by (own := [("there", 3)]) (N := nAreR) (sc := defScope sAreR) (by decide +kernel))
            (fun _ _ _ _ _ => pg_name (i := 3) scAreR.nd rfl (Or.inl rfl)) (fun _ _ _ _ _ => pts_nil) (fun _ _ _ _ _ => pe_call GN hr (by rfl) gN FN.kp bN .nil pass0 (pa_cons (pe_callB call_len_seq (by rfl) ml bLen (pa_cons (pv 1) pa_nil)) (pa_cons (pv 3) pa_nil)))) pa_nil))))))).pt (pss_one (ps_ret pe_bl)) pss_nil)))
      (pss_one (ps_ret pe_bl))), ?_⟩
    refine ⟨_, rfl, _, _, _, _, true, rfl, .ty "list", .base (.lst hR.at_), kit_ty (by decide +kernel), true, rfl, ?_⟩
    refine ⟨_, rfl, by show 0 ≤ sizeLine; decide, fun pn nn => ?_⟩
    have s1 : Same H (upd H pn (.lst [])) := same_new nn
    have hR1 := hR.same s1
    refine ⟨dRs R, .list [], dp_rows hR1, .lst (SqL.of upd_same) .nil, shp_dRs R, shp_nil, _, rfl, ?_⟩
    rw [eqv_dRs_nil h0]
    generalize (upd H pn (.lst [])) = H1 at s1 hR1
    refine ⟨_, rfl, a, rfl, ⟨_, SqL.of hR1.at_⟩, ?_⟩
    refine for_list (K := K) (a := a) (xs := xs.map V.ref) (fun j σ H2 => ∃ y : Option V, σ = [some (nV n), some (.ref a), y, none] ∧ Same H1 H2) ⟨none, rfl, fun _ _ z => z⟩ (fun j σ H2 _ ⟨_, _, s2⟩ => SqL.of (s2 _ _ hR1.at_)) ?_ ?_
    · rintro j v σ H2 hj ⟨y, rfl, s2⟩
      rw [List.getElem?_map] at hj
      obtain ⟨x, hx, rfl⟩ := Option.map_eq_some_iff.mp hj
      have hjl : j < R.length := by rw [← hxl]; exact (List.getElem?_eq_some_iff.mp hx).1
      have hx2 := s2 _ _ (hR1.row j x hx)
      have ha2 := s2 _ _ hR1.at_
      have hw := hM.wide j hjl
      refine ⟨_, rfl, _, _, _, _, true, rfl, .ty "list", .base (.lst hx2), kit_ty (by decide +kernel), true, rfl, ?_⟩
      refine ⟨_, rfl, x, _, rfl, .inl (SqL.of hx2), _, rfl, rfl, _, rfl, ?_⟩
      rw [nVs_len, hw, decide_eq_true (show V.int ((n : Nat) : Int) = nV n from rfl)]
      refine ⟨_, rfl, x, rfl, ⟨_, SqL.of hx2⟩, fun D1 nD1 => ?_⟩
      refine lc_list (K := K) (a := x) (xs := nVs (rowOf R j)) (fun i H3 => Same H2 H3 ∧ H3 D1 = some (.lst (List.replicate i (V.bl true)))) ⟨same_new nD1, upd_same⟩ (fun i H3 _ ⟨s3, _⟩ => SqL.of (s3 _ _ hx2)) ?_ ?_
      · rintro i v H3 hi ⟨s3, hD⟩
        obtain ⟨t, rfl, ht⟩ := nVs_at hi
        have hil := (List.getElem?_eq_some_iff.mp ht).1
        have htl := hM.lt j hjl t (List.mem_of_getElem? ht)
        refine ⟨rfl, ?_⟩
        refine ⟨_, rfl, a, _, rfl, .inl (SqL.of (s3 _ _ ha2)), _, rfl, _, _, rfl, _, hD, by rw [List.length_replicate]; exact szBig (by omega), ?_, ?_⟩
        · intro b o e
          rw [upd_ne (ne_of_none e nD1)]
          exact s3 _ _ e
        · rw [upd_same, decide_eq_true (show (0 : Int) ≤ (t : Int) by omega), decide_eq_true (show (t : Int) < ((xs.map V.ref).length : Nat) by rw [List.length_map]; omega), Bool.and_self, rep_snoc]
      rintro H3 ⟨s3, hD⟩
      refine ⟨D1, List.replicate (nVs (rowOf R j)).length true, rfl, SqL.of (by rw [replicate_bl]; exact hD), _, rfl, ?_⟩
      rw [all_true (fun b hb => List.eq_of_mem_replicate hb)]
      exact ⟨_, rfl, s2.trans s3⟩
    · rintro σ H2 ⟨y, rfl, s2⟩
      exact q H2 (s1.trans s2)
end
end K16

/-! dict comprehensions: over a list, over a range; given to a local name -/
namespace Rg
open PySem PySem.Spec PyProof.Rows L2 Mach
section
variable {g : TG} {tt : TT} {tk tv : TE} {vs : List Nat} {σ : L2.St} {H1 : Hp} {D : Addr} {Qd : Hp → Prop}
/-- what one turn of a dict comprehension asks -/
abbrev DcTurn (g : TG) (tt : TT) (tk tv : TE) (vs : List Nat) (σ : L2.St) (D : Addr) (Nx : Hp → Prop) (x : V) (H : Hp) : Prop :=
  g x (wipe σ vs) H fun σ2 H2 => wipe σ2 vs = wipe σ vs ∧ tt σ2 H2 fun b H3 =>
    if b = true then tk σ2 H3 fun y H4 => tv σ2 H4 fun z H5 => ∃ kvs k, y = kV k ∧ H5 D = some (.dK kvs) ∧ kvs.length < sizeLine ∧ Nx (upd H5 D (.dK (putK kvs k z))) else Nx H3
theorem dc_list {K : PySem.W.Frag} {a : Addr} {xs : List V} (Pv : Nat → Hp → Prop) (h0 : Pv 0 (upd H1 D (.dK []))) (hl : ∀ i H, i ≤ xs.length → Pv i H → SqL K H a xs)
    (hs : ∀ i x H, xs[i]? = some x → Pv i H → DcTurn g tt tk tv vs σ D (Pv (i + 1)) x H) (hd : ∀ H, Pv xs.length H → Qd H) :
    ∃ W : Nat → Nat → Hp → Prop, (∃ m, W 0 m (upd H1 D (.dK []))) ∧ ∀ i m H, W i m H →
      ((Itl K a).stop i H ∧ Qd H) ∨ ((Itl K a).go i H ∧ ∃ Nx : Hp → Prop, (∀ H', Nx H' → ∃ m', m' < m ∧ W (i + 1) m' H') ∧ ∀ x H', (Itl K a).yld i H x H' → DcTurn g tt tk tv vs σ D Nx x H') := by
  refine ⟨fun i m H => m = xs.length - i ∧ i ≤ xs.length ∧ Pv i H, ⟨_, rfl, Nat.zero_le _, h0⟩, ?_⟩
  rintro i m H ⟨rfl, hi, hp⟩
  have hq := hl i H hi hp
  by_cases hlt : i < xs.length
  · right
    refine ⟨⟨xs, xs[i], hq, List.getElem?_eq_getElem hlt⟩, Pv (i + 1), fun H' z => ⟨xs.length - (i + 1), by omega, rfl, by omega, z⟩, ?_⟩
    rintro x H' ⟨rfl, hy⟩
    exact hs i x _ (hy xs hq) hp
  · left
    have e : i = xs.length := by omega
    subst e
    exact ⟨⟨xs, hq, Nat.le_refl _⟩, hd H hp⟩
theorem dc_range {lo : Int} {n : Nat} (Pv : Nat → Hp → Prop) (h0 : Pv 0 (upd H1 D (.dK [])))
    (hs : ∀ i H, i < n → Pv i H → DcTurn g tt tk tv vs σ D (Pv (i + 1)) (.int (lo + i)) H) (hd : ∀ H, Pv n H → Qd H) :
    ∃ W : Nat → Nat → Hp → Prop, (∃ m, W 0 m (upd H1 D (.dK []))) ∧ ∀ i m H, W i m H →
      ((Itr lo n).stop i H ∧ Qd H) ∨ ((Itr lo n).go i H ∧ ∃ Nx : Hp → Prop, (∀ H', Nx H' → ∃ m', m' < m ∧ W (i + 1) m' H') ∧ ∀ x H', (Itr lo n).yld i H x H' → DcTurn g tt tk tv vs σ D Nx x H') := by
  refine ⟨fun i m H => m = n - i ∧ i ≤ n ∧ Pv i H, ⟨_, rfl, Nat.zero_le _, h0⟩, ?_⟩
  rintro i m H ⟨rfl, hi, hp⟩
  by_cases hlt : i < n
  · right
    refine ⟨hlt, Pv (i + 1), fun H' z => ⟨n - (i + 1), by omega, rfl, by omega, z⟩, ?_⟩
    rintro x H' ⟨rfl, rfl⟩
    exact hs i _ hlt hp
  · left
    have e : i = n := by omega
    subst e
    exact ⟨Nat.le_refl _, hd H hp⟩
end
section
variable {X : Cx}
theorem sw_trueD {kx vx : Expr} {gs : List Comprehension} {scope : Scope} {pos py : Pos} {y : Str} {l : Nat} {env : Env} (hk : env.scope.kind = .function)
    (hy : env.scope.names.lookup y = some .local) (hl : (py.line == pos.line) = true)
    (ha : (scope.names.any fun (n, k) => n == y && (k == .local || k == .cell)) = false) : swapsWith (.DictComp kx vx gs scope pos) (some (.Name y py)) l env = pure true := by
  have k1 : env.kindOf y = some .local := hy
  have k2 : env.blockKind = .function := by
    unfold Env.blockKind
    rw [hk]
    rfl
  unfold swapsWith
  simp only [k2, k1, ha, Expr.pos, hl]
  rfl
/-- name = {..} on one line, the name a local -/
theorem ps_setDc {i : Nat} {y : Str} {py : Pos} {kx vx tg iter : Expr} {ifs : List Expr} {scope : Scope} {own : List (Str × Nat)} {pos spos : Pos} {wi : TI} {g : TG} {tt : TT} {tk tv : TE}
    (hc : X.calm = true) (hN : X.N.Nodup) (hy : X.N[i]? = some y) (hyl : X.env.scope.names.lookup y = some .local)
    (hsw : swapsWith (.DictComp kx vx [⟨tg, iter, ifs, 0⟩] scope pos) (some (.Name y py)) spos.line X.env = pure true) (hi : PI X tg iter wi) (ok : BlkOk X.N X.env.scope scope own)
    (hg : ∀ (s : Shared) (H : Hp) (C : Addr) (cl : List (Str × Addr)) (fp : List Addr), PG (X.blk s H scope (compEnvC scope cl C X.env) fp) tg g)
    (ht : ∀ (s : Shared) (H : Hp) (C : Addr) (cl : List (Str × Addr)) (fp : List Addr), PTs (X.blk s H scope (compEnvC scope cl C X.env) fp) ifs tt)
    (hk : ∀ (s : Shared) (H : Hp) (C : Addr) (cl : List (Str × Addr)) (fp : List Addr), PE (X.blk s H scope (compEnvC scope cl C X.env) fp) kx tk)
    (he : ∀ (s : Shared) (H : Hp) (C : Addr) (cl : List (Str × Addr)) (fp : List Addr), PE (X.blk s H scope (compEnvC scope cl C X.env) fp) vx tv)
    (hs : ∀ x, foldedSetIterable iter X.env x = pure x := by intro _; rfl) :
    PS X (.Assign [.Name y py] (.DictComp kx vx [⟨tg, iter, ifs, 0⟩] scope pos) spos) (tAsg (tDc wi g tt tk tv (own.map (·.2))) (gName i)) := by
  refine ⟨?_⟩
  intro pins s σ H D I h
  rw [exec_Assign_Name_used _ _ _ _ hsw]
  refine wpAny_bind (wpAny_standAt (wpAny_bind ?_))
  show wpAny _ X.A (do let _ ← comprehension (.DictComp kx vx [⟨tg, iter, ifs, 0⟩] scope pos) scope X.env (firstIterPos [⟨tg, iter, ifs, 0⟩] pos) newDict false (eval iter X.env) (some (assign (.Name y py) X.env))) _ _ s
  have h' : tDc wi g tt tk tv (own.map (·.2)) σ H (fun x H1 => gName i x σ H1 D.nx) := h
  refine wpAny_bind (thn (dc_core (Qf := fun _ s' => SP X pins D .next s') hc hN I hi ok hg ht hk he hs h' ?_) (fun _ s' hq => wpAny_pure (wpAny_pure hq)))
  intro L C s' m H' I' q hn f
  show wpAny _ _ (assign (.Name y py) X.env (.ref L)) _ _ _
  refine wpAny_assign_Name (store_ok2 (v := V.ref L) I' hN hy (.inl hyl) rfl ?_ (.inr hyl))
  rintro s2 I2 ⟨a, sb, ha⟩
  obtain ⟨f0, f1, f2, f3, f4, f5⟩ := f
  have haC : C ≠ a := by
    rcases ha with z | z
    · rw [z]
      exact f1
    · exact fun e => f4 y a z e.symm
  refine ⟨m, hn.sameBut sb haC, ?_⟩
  intro h3 sb3
  exact ⟨_, H', I2.turned (t' := s2.toks) (fun b o hb e => (sb3.2 b hb).trans e) f0 f1 f3 f4 f5, q⟩
end
end Rg

/-! dicts whose keys are tuples (number, tuple of numbers), the i-th key with the value i -/
namespace Rg
open PySem PySem.Spec PyProof.Rows L2 Mach

def nkOf (p : Nat × List Nat) : NestedKey := .tup [.num p.1, .tup (p.2.map fun x : Nat => NestedKey.num (x : Int))]
theorem nums_inj : ∀ {a b : List Nat}, (a.map fun x : Nat => NestedKey.num (x : Int)) = (b.map fun x : Nat => NestedKey.num (x : Int)) → a = b
  | [], [], _ => rfl
  | [], _ :: _, h => by cases h
  | _ :: _, [], h => by cases h
  | x :: a, y :: b, h => by
    rw [List.map_cons, List.map_cons] at h
    obtain ⟨h1, h2⟩ := List.cons.inj h
    have : (x : Int) = y := NestedKey.num.inj h1
    have e : x = y := by omega
    rw [e, nums_inj h2]
theorem nkOf_inj {p q : Nat × List Nat} (h : nkOf p = nkOf q) : p = q := by
  obtain ⟨a, b⟩ := p
  obtain ⟨c, d⟩ := q
  have h1 := NestedKey.tup.inj h
  obtain ⟨h2, h3⟩ := List.cons.inj h1
  obtain ⟨h4, _⟩ := List.cons.inj h3
  have e1 : (a : Int) = c := NestedKey.num.inj h2
  have e2 := nums_inj (NestedKey.tup.inj h4)
  have e3 : a = c := by omega
  simp only at e2
  rw [e3, e2]
theorem depthAll_nums : ∀ a : List Nat, NestedKey.depthAll (a.map fun x : Nat => NestedKey.num (x : Int)) = 0
  | [] => rfl
  | x :: a => by
    show max (NestedKey.depth (.num x)) (NestedKey.depthAll (a.map fun x : Nat => NestedKey.num (x : Int))) = 0
    rw [depthAll_nums a]
    rfl
theorem nkOf_depth (p : Nat × List Nat) : (nkOf p).depth ≤ 8 := by
  show NestedKey.depthAll [.num p.1, .tup (p.2.map fun x : Nat => NestedKey.num (x : Int))] + 1 ≤ 8
  show max 0 (max (NestedKey.depthAll (p.2.map fun x : Nat => NestedKey.num (x : Int)) + 1) 0) + 1 ≤ 8
  rw [depthAll_nums]
  decide

section
variable {P : Program} {w : World} {H : Hp} {h : Heap}
/-- the key's tuple stands at b -/
def KeyAt (H : Hp) (b : Addr) (p : Nat × List Nat) : Prop := ∃ t, H b = some (.tup [nV p.1, .ref t]) ∧ H t = some (.tup (nVs p.2))
theorem KeyAt.same {H H' : Hp} {b : Addr} {p : Nat × List Nat} (k : KeyAt H b p) (s : ∀ c xs, H c = some (.tup xs) → H' c = some (.tup xs)) : KeyAt H' b p := by
  obtain ⟨t, h1, h2⟩ := k
  exact ⟨t, s _ _ h1, s _ _ h2⟩
theorem nested_nums : ∀ {ns : List Nat} {us : List Value}, Vals (nVs ns) us → NestedAll h (ns.map fun x : Nat => NestedKey.num (x : Int)) us
  | [], _, .nil => .nil
  | n :: ns, _, .cons r t => by
    obtain ⟨k, rfl⟩ := r
    exact .cons (.int _ _) (nested_nums t)
theorem KeyAt.is {b : Addr} {p : Nat × List Nat} (ok : HOk P w H h) (k : KeyAt H b p) : (nestedKind P w).is h (nkOf p) b := by
  obtain ⟨t, h1, h2⟩ := k
  obtain ⟨_, its1, r1, o1, a1, a2, n1, a3⟩ := (show ObjOk P w H h b _ from ok b _ h1)
  obtain ⟨_, its2, r2, o2, b1, b2, n2, b3⟩ := (show ObjOk P w H h t _ from ok t _ h2)
  refine ⟨?_, nkOf_depth p⟩
  cases r1 with
  | cons x1 r1 =>
    cases r1 with
    | cons x2 r1 =>
      cases r1
      obtain ⟨k1, rfl⟩ := x1
      obtain rfl := (show _ = Value.ref t from x2)
      refine NestedIs.tup a1 a2 a3 ?_
      refine .cons (.int _ _) (.cons (NestedIs.tup b1 b2 b3 ?_) .nil)
      simpa using nested_nums r2

def NkO (P : Program) (w : World) (a : Addr) (xs : List (NestedKey × Addr × Value)) : HO := .ext fun h => (a == sysModules) = false ∧
  ∃ o es ep, h.get? a = some o ∧ o.ExactDict ∧ o.data = .dict es ep ∧ es.toList = xs.map (entryOfKey (nestedKind P w)) ∧ (xs.map (·.1)).Nodup
structure NkAt (P : Program) (w : World) (H : Hp) (a : Addr) (S : List (Nat × List Nat)) : Prop where
  ex : ∃ xs : List (NestedKey × Addr × Value), H a = some (NkO P w a xs) ∧ xs.length = S.length ∧ S.length ≤ 100000 ∧
    ∀ (i : Nat) (p : Nat × List Nat), S[i]? = some p → ∃ (ka : Addr) (t : Tok), xs[i]? = some (nkOf p, ka, .int (i : Int) t) ∧ KeyAt H ka p
theorem NkAt.same {H H' : Hp} {a : Addr} {S : List (Nat × List Nat)} (x : NkAt P w H a S) (s : ∀ c o, H c = some o → H' c = some o) : NkAt P w H' a S := by
  obtain ⟨xs, h1, h2, h3, h4⟩ := x.ex
  refine ⟨xs, s _ _ h1, h2, h3, fun i p e => ?_⟩
  obtain ⟨ka, t, e1, e2⟩ := h4 i p e
  exact ⟨ka, t, e1, e2.same fun c ys z => s c _ z⟩
theorem NkAt.upd_other {H : Hp} {a b : Addr} {o : HO} {S : List (Nat × List Nat)} (x : NkAt P w H a S) (hb : b ≠ a) (ht : ∀ ys, H b ≠ some (.tup ys)) : NkAt P w (upd H b o) a S := by
  obtain ⟨xs, h1, h2, h3, h4⟩ := x.ex
  refine ⟨xs, by rw [upd_ne hb.symm]; exact h1, h2, h3, fun i p e => ?_⟩
  obtain ⟨ka, t, e1, e2⟩ := h4 i p e
  refine ⟨ka, t, e1, e2.same fun c ys z => ?_⟩
  have hc : c ≠ b := by
    intro q
    rw [q] at z
    exact ht ys z
  rw [upd_ne hc]
  exact z
/-- what the library knows of it -/
theorem NkAt.dict {a : Addr} {S : List (Nat × List Nat)} (ok : HOk P w H h) (x : NkAt P w H a S) : (a == sysModules) = false ∧ ∃ xs, h.DictOfH (nestedKind P w) a xs ∧ H a = some (NkO P w a xs) ∧ xs.length = S.length ∧ S.length ≤ 100000 ∧
    ∀ (i : Nat) (p : Nat × List Nat), S[i]? = some p → ∃ (ka : Addr) (t : Tok), xs[i]? = some (nkOf p, ka, .int (i : Int) t) ∧ KeyAt H ka p := by
  obtain ⟨xs, h1, h2, h3, h4⟩ := x.ex
  obtain ⟨⟨hs, o, es, ep, g1, g2, g3, g4, g5⟩, _⟩ := (show ObjOk P w H h a _ from ok a _ h1)
  refine ⟨hs, xs, ⟨o, es, ep, g1, g2, g3, g4, fun y hy => ?_, g5⟩, h1, h2, h3, h4⟩
  obtain ⟨i, hi, e⟩ := List.mem_iff_getElem.mp hy
  have hiS : i < S.length := by omega
  obtain ⟨ka, t, e1, e2⟩ := h4 i _ (List.getElem?_eq_getElem hiS)
  rw [List.getElem?_eq_getElem hi] at e1
  have e3 := Option.some.inj e1
  rw [← e, e3]
  exact e2.is ok
theorem NkAt.val {a : Addr} {S : List (Nat × List Nat)} {xs : List (NestedKey × Addr × Value)} (hl : xs.length = S.length)
    (h4 : ∀ (i : Nat) (p : Nat × List Nat), S[i]? = some p → ∃ (ka : Addr) (t : Tok), xs[i]? = some (nkOf p, ka, .int (i : Int) t) ∧ KeyAt H ka p) (p : Nat × List Nat) :
    (p ∈ S → ∃ (i : Nat) (t : Tok), valueAt (pairsH xs) (nkOf p) = some (.int (i : Int) t) ∧ S.idxOf p = i) ∧ (p ∉ S → valueAt (pairsH xs) (nkOf p) = none) := by
  have gen : ∀ (S : List (Nat × List Nat)) (xs : List (NestedKey × Addr × Value)) (j : Nat), xs.length = S.length →
      (∀ (i : Nat) (p : Nat × List Nat), S[i]? = some p → ∃ (ka : Addr) (t : Tok), xs[i]? = some (nkOf p, ka, .int ((i + j : Nat) : Int) t)) →
      (p ∈ S → ∃ (i : Nat) (t : Tok), valueAt (pairsH xs) (nkOf p) = some (.int ((i + j : Nat) : Int) t) ∧ S.idxOf p = i) ∧ (p ∉ S → valueAt (pairsH xs) (nkOf p) = none) := by
    intro S
    induction S with
    | nil =>
      intro xs j hl _
      cases xs with
      | nil => exact ⟨(fun z => nomatch z), fun _ => rfl⟩
      | cons => cases hl
    | cons a S ih =>
      intro xs j hl h4
      cases xs with
      | nil => cases hl
      | cons x xs =>
        obtain ⟨ka, t, e⟩ := h4 0 a rfl
        have ex : x = (nkOf a, ka, .int ((0 + j : Nat) : Int) t) := Option.some.inj e
        have ih' := ih xs (j + 1) (by simpa using hl) (fun i p hp => by
          obtain ⟨kb, t', e'⟩ := h4 (i + 1) p hp
          refine ⟨kb, t', ?_⟩
          have : ((i + 1 + j : Nat) : Int) = ((i + (j + 1) : Nat) : Int) := by omega
          rw [← this]
          exact e')
        by_cases hp : a = p
        · refine ⟨fun _ => ⟨0, t, ?_, ?_⟩, fun z => absurd (by rw [hp]; exact List.mem_cons_self) z⟩
          · rw [ex]
            show ((_ :: _).find? _).map _ = _
            rw [List.find?_cons]
            simp [hp]
          · rw [hp]
            simp
        · have hk : ¬ nkOf a = nkOf p := fun z => hp (nkOf_inj z)
          have hv : valueAt (pairsH (x :: xs)) (nkOf p) = valueAt (pairsH xs) (nkOf p) := by
            rw [ex]
            unfold valueAt
            show (((nkOf a, _) :: pairsH xs).find? _).map _ = _
            rw [List.find?_cons_of_neg (by simpa using hk)]
          rw [hv]
          refine ⟨fun z => ?_, fun z => ih'.2 fun y => z (List.mem_cons_of_mem _ y)⟩
          rcases List.mem_cons.mp z with z | z
          · exact absurd z.symm hp
          · obtain ⟨i, t', e1, e2⟩ := ih'.1 z
            refine ⟨i + 1, t', ?_, ?_⟩
            · rw [e1]
              have : ((i + (j + 1) : Nat) : Int) = ((i + 1 + j : Nat) : Int) := by omega
              rw [this]
            · have hb : (a == p) = false := beq_eq_false_iff_ne.mpr hp
              rw [List.idxOf_cons, hb, e2]
              rfl
  have := gen S xs 0 hl (fun i p hp => by
    obtain ⟨ka, t, e, _⟩ := h4 i p hp
    exact ⟨ka, t, e⟩)
  simpa using this
end

section
variable {X : Cx} {pos : Pos}
theorem pe_dnewN : PE X (.Dict [] [] pos) (fun _ H Q => ∀ p, H p = none → Q (.ref p) (upd H p (NkO X.prog X.w p []))) := by
  refine ⟨fun pins s σ H Q I h => ?_⟩
  refine wpAny_Dict_empty ⟨.ref s.heap.objs.size, _, I.laid (a := s.heap.objs.size) (o := NkO X.prog X.w s.heap.objs.size []) (t' := s.toks) (fun _ _ q => Heap.get?_push_of_some _ q) (Nat.le_refl _) ?_, rfl, h _ (I.hok.fresh (Nat.le_refl _))⟩
  have e0 := dt_empty (P := X.prog) (w := X.w) (H := upd H s.heap.objs.size (.dT [])) s.heap I.big
  obtain ⟨_, hs, xs, r, o, es, ep, h1, h2, h3, h4, h5⟩ := e0
  cases r
  refine ⟨⟨hs, o, es, ep, h1, h2, h3, ?_, by simp⟩, ⟨o, h1⟩, ?_⟩
  · simpa using h4
  · rintro g1 g2 ⟨y1, o', es', ep', y2, y3⟩ k
    exact ⟨y1, o', es', ep', k _ y2, y3⟩
theorem op_notin_nk (hu : X.A.units + 64 < cLine) : OpR X (compareOp .NotIn) (fun x y H Q => ∃ (b a : Addr) (p : Nat × List Nat) (S : List (Nat × List Nat)), x = .ref b ∧ y = .ref a ∧ KeyAt H b p ∧ NkAt X.prog X.w H a S ∧ Q (.bl (!decide (p ∈ S))) H) := by
  intro pins s σ H x y v u Q I rx ry h
  obtain ⟨b, a, p, S, rfl, rfl, hk, hn, q⟩ := h
  cases rx
  cases ry
  obtain ⟨hs, xs, dd, _, hl, _, h4⟩ := hn.dict I.hok
  refine notIn_keyed (knd := nestedKind X.prog X.w) (kvs := pairsH xs) (by show X.A.units + 1 + 8 < cLine; omega) (hk.is I.hok) hs ⟨xs, dd, rfl⟩ ?_
  obtain ⟨v1, v2⟩ := NkAt.val (a := a) hl h4 p
  by_cases hp : p ∈ S
  · obtain ⟨i, t, e, _⟩ := v1 hp
    rw [e]
    rw [decide_eq_true hp] at q
    exact ⟨.bl false, H, I.tok _, rfl, q⟩
  · rw [v2 hp]
    rw [decide_eq_false hp] at q
    exact ⟨.bl true, H, I.tok _, rfl, q⟩
theorem ix_nk (hu : X.A.units + 64 < cLine) : IxR X (fun x y H Q => ∃ (a b : Addr) (p : Nat × List Nat) (S : List (Nat × List Nat)), x = .ref a ∧ y = .ref b ∧ KeyAt H b p ∧ NkAt X.prog X.w H a S ∧ p ∈ S ∧ Q (nV (S.idxOf p)) H) := by
  intro value slice pins s σ H x y v u Q I rx ry h hsl
  obtain ⟨a, b, p, S, rfl, rfl, hk, hn, hp, q⟩ := h
  cases rx
  cases ry
  obtain ⟨hs, xs, dd, _, hl, _, h4⟩ := hn.dict I.hok
  obtain ⟨v1, v2⟩ := NkAt.val (a := a) hl h4 p
  obtain ⟨i, t, e, ei⟩ := v1 hp
  refine subscriptTail_builtinR (x := .int (i : Int) t) dd.typeIs PySem.F.slot_dict_getitem.lookup (getItem_keyed (knd := nestedKind X.prog X.w) (kvs := pairsH xs) (by show X.A.units + 1 + 8 < cLine; omega) (hk.is I.hok) ⟨xs, dd, rfl⟩ e ?_) hsl
  rw [ei] at q
  exact ⟨rfl, ⟨nV i, H, I.tok _, ⟨_, rfl⟩, q⟩⟩
theorem call_len_nk : CallR X (.builtin "len") (fun xs H Q => ∃ (a : Addr) (S : List (Nat × List Nat)), xs = [.ref a] ∧ NkAt X.prog X.w H a S ∧ Q (nV S.length) H) := by
  intro pins s σ H xs us Q I r h
  obtain ⟨a, S, rfl, hn, q⟩ := h
  obtain ⟨u, rfl, rx⟩ := vals1 r
  obtain rfl : u = .ref a := rx
  obtain ⟨hs, xs, dd, _, hl, hz, h4⟩ := hn.dict I.hok
  refine call_len_dictH hs dd (by omega) ?_
  rw [hl]
  exact ⟨nV S.length, H, I.tok _, ⟨_, rfl⟩, q⟩
theorem set_nk (hu : X.A.units + 64 < cLine) : PSet X (fun o i v H Q => ∃ (a b : Addr) (p : Nat × List Nat) (S : List (Nat × List Nat)), o = .ref a ∧ i = .ref b ∧ v = nV S.length ∧ KeyAt H b p ∧ NkAt X.prog X.w H a S ∧ p ∉ S ∧ S.length < 100000 ∧
    ∀ H', (∀ c, c ≠ a → H' c = H c) → NkAt X.prog X.w H' a (S ++ [p]) → Q H') := by
  intro pins s σ H o i v ov iv u Q I ro ri rv h
  obtain ⟨a, b, p, S, rfl, rfl, rfl, hk, hn, hp, hz, q⟩ := h
  cases ro
  cases ri
  obtain ⟨tv, rfl⟩ := rv
  obtain ⟨hs, xs, dd, hH, hl, _, h4⟩ := hn.dict I.hok
  obtain ⟨v1, v2⟩ := NkAt.val (a := a) hl h4 p
  have hnone := v2 hp
  rw [valueAt_pairsH] at hnone
  have hat : atKey xs (nkOf p) = none := Option.map_eq_none_iff.mp hnone
  refine wpAny_setItem_heap (knd := nestedKind X.prog X.w) (hsz := by rw [hl]; exact szBigLe (by omega)) (by show X.A.units + 1 + 8 < cLine; omega) (hk.is I.hok) dd fun h' dd' hs' => ?_
  have est := storedH_new hat b (.int (S.length : Int) tv)
  rw [est] at dd'
  obtain ⟨o, es, ep, g1, g2, g3, g4, _, g5⟩ := dd'
  have ntup : ∀ c ys, H c = some (.tup ys) → c ≠ a := fun c ys e => ne_of e hH (fun z => by cases z)
  refine ⟨upd H a (NkO X.prog X.w a (xs ++ [(nkOf p, b, .int (S.length : Int) tv)])), d_write I (by rw [hH]; exact True.intro) hs' ⟨o, g1⟩ ⟨⟨hs, o, es, ep, g1, g2, g3, g4, g5⟩, ⟨o, g1⟩, ?_⟩, q _ (fun c hc => upd_ne hc) ⟨_, upd_same, by simp [hl], by simp; omega, fun i r e => ?_⟩⟩
  · rintro g1 g2 ⟨y1, o', es', ep', y2, y3⟩ k
    exact ⟨y1, o', es', ep', k _ y2, y3⟩
  · have kp : ∀ c ys, H c = some (.tup ys) → (upd H a (NkO X.prog X.w a (xs ++ [(nkOf p, b, .int (S.length : Int) tv)]))) c = some (.tup ys) := fun c ys z => by
      rw [upd_ne (ntup c ys z)]
      exact z
    by_cases hi : i < S.length
    · rw [List.getElem?_append_left hi] at e
      obtain ⟨ka, t, e1, e2⟩ := h4 i r e
      exact ⟨ka, t, by rw [List.getElem?_append_left (by omega)]; exact e1, e2.same kp⟩
    · rw [List.getElem?_append_right (by omega)] at e
      have hi0 : i - S.length = 0 := by
        have := (List.getElem?_eq_some_iff.mp e).1
        simp at this
        omega
      rw [hi0] at e
      have er : p = r := Option.some.inj e
      have ei : i = S.length := by omega
      refine ⟨b, tv, ?_, er ▸ hk.same kp⟩
      rw [List.getElem?_append_right (by omega), hl, hi0, ei, er]
      rfl
end
end Rg

namespace K16
open PySem PySem.Spec PyProof.Rows L2 Rg Mach
abbrev sPart : Stmt := topS 15
theorem scPart : FnScope ["rows", "classes", "states", "numbers", "found", "state", "sign", "there"] ["rows", "classes", "states"] (defScope sPart) :=
  ⟨rfl, rfl, rfl, by decide +kernel, rfl, by decide +kernel, by decide +kernel⟩
def spPart : Sp := fun vs H Q _ => ∃ (a d l : Addr) (xs : List Addr) (R : List (List Nat)) (n b : Nat) (L : List Nat) (c : Nat → Nat), vs = [.ref a, .ref d, .ref l] ∧ RowsAt H a xs R ∧ Mok n R ∧ Bfs n R b L ∧ R.length ≤ 5000 ∧ n ≤ 5000 ∧
  H d = some (.dK (dO L fun s => nV (c s))) ∧ H l = some (.lst (nVs L)) ∧
  ∀ (H' : Hp) (p : Addr), Same H H' → H p = none → H' p = some (.dK (dO L fun s => nV (parted R L c s))) → Q (.ref p) H'
section
variable {P : Program} {w : World} {K : PySem.W.Frag} {mg : Str → Option Value} {base : Heap}
theorem ok_part {f : Addr} {fd : FuncData} {k : Nat} (F : Fun K "parted_once" "parted_once" sPart f fd) (ml : mg "len" = none) (mt : mg "tuple" = none) :
    FnOk P w K mg base CX0 (k + 1) f fd ["rows", "classes", "states"] spPart := by
  refine F.ok scPart (fun vs H Q E h => ?_) (fun cdv A outer s H vs Q E hr h => ?_)
  · obtain ⟨a, d, l, xs, R, n, b, L, c, rfl, _⟩ := h
    rfl
  · obtain ⟨a, d, l, xs, R, n, b, L, c, rfl, hR, hM, hB, hsz, hn, hd, hl, q⟩ := h
    have hu := hu_of hr
    refine ⟨_, pss_cons (ps_set (i := 3) scPart.nd rfl (.inl rfl) pe_dnewN)
      (pss_cons (ps_set (i := 4) scPart.nd rfl (.inl rfl) pe_dnewK)
      (pss_cons (ps_for PassesOwn.never rfl (pi_list (pv 2)) (pg_name (i := 5) scPart.nd rfl (.inl rfl))
        (pss_cons (ps_set (i := 6) scPart.nd rfl (.inl rfl) (pe_tup (pa_cons (pe_dget hu (pv 1) (pv 5) (fun _ _ => rfl)) (pa_cons (pe_callTy call_tuple_of (by rfl) mt bTuple (pa_cons
            (pe_lc (own := [("there", 7)]) (g := gName 7) (tt := tYes) rfl scPart.nd (pi_list (pe_ix ix_list (pv 0) (pv 5) (fun _ _ => rfl))) (blkOk_by (own := [("there", 7)]) (N := ["rows", "classes", "states", "numbers", "found", "state", "sign", "there"]) (sc := defScope sPart) (by decide +kernel))
              (fun _ _ _ _ _ => pg_name (i := 7) scPart.nd rfl (Or.inl rfl)) (fun _ _ _ _ _ => pts_nil) (fun _ _ _ _ _ => pe_dget hu (pv 1) (pv 7) (fun _ _ => rfl))) pa_nil)) pa_nil))))
        (C8.pss_cut (ps_if (pt_cmpR (op_notin_nk hr.units) (pv 6) (pv 3) rfl) (pss_one (ps_asg (pe_callB call_len_nk (by rfl) ml bLen (pa_cons (pv 3) pa_nil)) (pg_sub (pv 3) (pv 6) (set_nk hr.units)))) pss_nil)
        (pss_one (ps_dput hu (pv 4) (pv 5) (pe_ix (ix_nk hr.units) (pv 3) (pv 6) (fun _ _ => rfl)) rfl)))))
      (pss_one (ps_ret (pv 4))))), ?_⟩
    intro pn nn
    intro pf nf
    have nnf : pn ≠ pf := fun z => by
      rw [← z, upd_same] at nf
      cases nf
    have nf0 : H pf = none := by
      rw [upd_ne nnf.symm] at nf
      exact nf
    have hlR : ∀ s ∈ L, s < R.length := hB.lt
    have lenL := hB.len
    refine ⟨_, rfl, l, rfl, ⟨_, SqL.of (by rw [upd_ne (ne_of_none hl nf0), upd_ne (ne_of_none hl nn)]; exact hl)⟩, ?_⟩
    refine for_list (K := K) (a := l) (xs := nVs L) (fun i σ H1 => ∃ (y5 y6 : Option V), σ = [some (.ref a), some (.ref d), some (.ref l), some (.ref pn), some (.ref pf), y5, y6, none] ∧ Same H H1 ∧
      NkAt P w H1 pn (D ((L.take i).map (sgn R c))) ∧ H1 pf = some (.dK (dO (L.take i) fun s => nV (parted R L c s)))) ⟨none, none, rfl, ?_, ?_, ?_⟩ (fun i σ H1 _ ⟨_, _, _, s1, _⟩ => SqL.of (s1 _ _ hl)) ?_ ?_
    · exact (same_new nn).trans (same_new nf)
    · refine ⟨[], ?_, rfl, Nat.zero_le _, fun i p e => ?_⟩
      · rw [upd_ne nnf, upd_same]
        rfl
      · cases e
    · rw [upd_same]
      rfl
    · rintro i v σ H1 hi ⟨y5, y6, rfl, s1, hN, hF⟩
      obtain ⟨t, rfl, ht⟩ := nVs_at hi
      have htL : t ∈ L := List.mem_of_getElem? ht
      have hd1 := s1 _ _ hd
      obtain ⟨x, hx1, hx2⟩ := hR.get (hlR t htL)
      -- sign = (classes[state], tuple([..]))
      refine ⟨_, rfl, _, rfl, d, _, rfl, dget_dO hd1 htL, ?_⟩
      refine ⟨_, rfl, _, rfl, a, _, _, _, rfl, rfl, SqL.of (s1 _ _ hR.at_), atI_nat hx1, x, rfl, ⟨_, SqL.of (s1 _ _ hx2)⟩, fun D0 nD => ?_⟩
      refine lc_list (K := K) (a := x) (xs := nVs (rowOf R t)) (fun j H2 => Same H1 H2 ∧ H2 D0 = some (.lst (nVs (((rowOf R t).take j).map c)))) ⟨same_new nD, by rw [upd_same]; rfl⟩ (fun j H2 _ ⟨s2, _⟩ => SqL.of (s2 _ _ (s1 _ _ hx2))) ?_ ?_
      · rintro j v H2 hj ⟨s2, hD⟩
        obtain ⟨u, rfl, hu'⟩ := nVs_at hj
        have huL : u ∈ L := hB.closed htL (List.mem_of_getElem? hu')
        refine ⟨rfl, ?_⟩
        refine ⟨_, rfl, _, rfl, d, _, rfl, dget_dO (s2 _ _ hd1) huL, _, hD, ?_, ?_, ?_⟩
        · rw [nVs_len, List.length_map, List.length_take]
          have := hM.wide t (hlR t htL)
          exact szBig (by omega)
        · intro b o e
          rw [upd_ne (ne_of_none e nD)]
          exact s2 _ _ e
        · rw [upd_same, List.take_add_one, hu', List.map_append]
          exact congrArg (fun z => some (HO.lst z)) (nVs_snoc _ _).symm
      · rintro H2 ⟨s2, hD⟩
        rw [nVs_len, List.take_length] at hD
        refine ⟨D0, _, rfl, .inl ⟨SqL.of hD, fun pt nt => ?_⟩⟩
        refine ⟨by show 2 ≤ sizeLine; decide, fun ps ns => ?_⟩
        have npt : pt ≠ ps := fun z => by
          rw [← z, upd_same] at ns
          cases ns
        have s3 : Same H1 (upd (upd H2 pt (.tup (nVs ((rowOf R t).map c)))) ps (.tup [nV (c t), .ref pt])) := s2.trans ((same_new nt).trans (same_new ns))
        have hkey : KeyAt (upd (upd H2 pt (.tup (nVs ((rowOf R t).map c)))) ps (.tup [nV (c t), .ref pt])) ps (sgn R c t) :=
          ⟨pt, upd_same, by rw [upd_ne npt, upd_same]; rfl⟩
        have hN3 := hN.same s3
        have hF3 := s3 _ _ hF
        have s03 := s1.trans s3
        generalize (upd (upd H2 pt (.tup (nVs ((rowOf R t).map c)))) ps (.tup [nV (c t), .ref pt])) = H3 at s3 hkey hN3 hF3 s03
        have hmap : (L.take (i + 1)).map (sgn R c) = (L.take i).map (sgn R c) ++ [sgn R c t] := by
          rw [List.take_add_one, ht, List.map_append]
          rfl
        have hD1 : D ((L.take (i + 1)).map (sgn R c)) = push (D ((L.take i).map (sgn R c))) (sgn R c t) := by
          rw [hmap, D_append]
          rfl
        have hDl : (D ((L.take i).map (sgn R c))).length ≤ 5000 := by
          have := length_le_of_sub (D_nodup ((L.take i).map (sgn R c))) (fun x hx => mem_D.mp hx)
          rw [List.length_map, List.length_take] at this
          omega
        -- if sign not in numbers: numbers[sign] = len(numbers)
        refine ⟨fun σ H4 => σ = [some (.ref a), some (.ref d), some (.ref l), some (.ref pn), some (.ref pf), some (nV t), some (.ref ps), none] ∧ Same H H4 ∧ KeyAt H4 ps (sgn R c t) ∧
          NkAt P w H4 pn (D ((L.take (i + 1)).map (sgn R c))) ∧ H4 pf = some (.dK (dO (L.take i) fun s => nV (parted R L c s))), ?_, ?_⟩
        · refine ⟨_, rfl, _, rfl, ps, pn, _, _, rfl, rfl, hkey, hN3, _, rfl, ?_⟩
          by_cases hm : sgn R c t ∈ D ((L.take i).map (sgn R c))
          · rw [decide_eq_true hm]
            refine iteF ⟨rfl, s03, hkey, ?_, hF3⟩
            rw [hD1, push_mem hm]
            exact hN3
          · rw [decide_eq_false hm]
            refine iteT ⟨_, rfl, pn, _, rfl, hN3, ?_⟩
            refine ⟨_, rfl, _, rfl, pn, ps, _, _, rfl, rfl, rfl, hkey, hN3, hm, by omega, fun H4 k4 hN4 => ?_⟩
            have hps : ps ≠ pn := by
              obtain ⟨ys, e, _⟩ := hN3.ex
              obtain ⟨tt', e', _⟩ := hkey
              exact ne_of e' e (fun z => by cases z)
            refine ⟨rfl, Same.of_eq_but k4 s03 nn, ?_, ?_, ?_⟩
            · obtain ⟨tt', e1, e2⟩ := hkey
              obtain ⟨ys, e, _⟩ := hN3.ex
              exact ⟨tt', by rw [k4 _ hps]; exact e1, by rw [k4 _ (ne_of e2 e (fun z => by cases z))]; exact e2⟩
            · rw [hD1, push_new hm]
              exact hN4
            · rw [k4 _ nnf.symm]
              exact hF3
        · rintro σ H4 ⟨rfl, s4, hk4, hN4, hF4⟩
          -- found[state] = numbers[sign]
          have hin : sgn R c t ∈ D ((L.take (i + 1)).map (sgn R c)) := by
            rw [hD1]
            exact mem_push.mpr (.inr rfl)
          have hidx : (D ((L.take (i + 1)).map (sgn R c))).idxOf (sgn R c t) = parted R L c t := by
            unfold parted
            obtain ⟨Z, hZ⟩ := pushAll_pre (D ((L.take (i + 1)).map (sgn R c))) ((L.drop (i + 1)).map (sgn R c))
            have : D (L.map (sgn R c)) = D ((L.take (i + 1)).map (sgn R c)) ++ Z := by
              rw [← hZ, ← D_append, ← List.map_append, List.take_append_drop]
            rw [this, idxOf_pre hin]
          refine ⟨_, rfl, _, rfl, pn, ps, _, _, rfl, rfl, hk4, hN4, hin, ?_⟩
          rw [hidx]
          refine ⟨_, rfl, _, rfl, pf, _, rfl, DPut.k (k := kN t) hF4 (by rw [dO_len, List.length_take]; exact szBig (by omega)), ?_⟩
          have hnt : t ∉ L.take i := by
            intro hm
            obtain ⟨j, hj, e⟩ := List.mem_iff_getElem.mp hm
            rw [List.length_take] at hj
            rw [List.getElem_take] at e
            have hi' := (List.getElem?_eq_some_iff.mp ht)
            obtain ⟨h1, h2⟩ := hi'
            have := (List.pairwise_iff_getElem.mp hB.nodup) j i (by omega) h1 (by omega)
            exact this (by rw [e, h2])
          refine ⟨_, _, rfl, ?_, ?_, ?_⟩
          · intro b o e
            rw [upd_ne (ne_of_none e nf0)]
            exact s4 _ _ e
          · refine hN4.upd_other ?_ ?_
            · exact nnf.symm
            · intro ys e
              rw [hF4] at e
              cases e
          · rw [upd_same, List.take_add_one, ht]
            refine congrArg (fun z => some (HO.dK z)) ?_
            exact putK_dO_new (d := fun s => nV (parted R L c s)) hnt (fun _ _ => rfl)
    · rintro σ H1 ⟨y5, y6, rfl, s1, hN, hF⟩
      rw [nVs_len, List.take_length] at hF
      exact ⟨_, rfl, q H1 pf s1 nf0 hF⟩
end
end K16

namespace K16
open PySem PySem.Spec PyProof.Rows L2 Rg Mach
abbrev sHow : Stmt := topS 16
theorem scHow : FnScope ["classes"] ["classes"] (defScope sHow) := ⟨rfl, rfl, rfl, by decide +kernel, rfl, by decide +kernel, by decide +kernel⟩
def spHow : Sp := fun vs H Q _ => ∃ (d : Addr) (L : List Nat) (c : Nat → Nat), vs = [.ref d] ∧ H d = some (.dK (dO L fun s => nV (c s))) ∧ L.length ≤ 4000 ∧
  ∀ (H' : Hp), Same H H' → Q (nV (hm L c)) H'
section
variable {P : Program} {w : World} {K : PySem.W.Frag} {mg : Str → Option Value} {base : Heap}
theorem ok_how {f : Addr} {fd : FuncData} {k : Nat} (F : Fun K "how_many" "how_many" sHow f fd) (ml : mg "len" = none) (ms : mg "set" = none) (mli : mg "list" = none) :
    FnOk P w K mg base CX0 (k + 1) f fd ["classes"] spHow := by
  refine F.ok scHow (fun vs H Q E h => ?_) (fun cdv A outer s H vs Q E hr h => ?_)
  · obtain ⟨d, L, c, rfl, _⟩ := h
    rfl
  · obtain ⟨d, L, c, rfl, hd, hl, q⟩ := h
    refine ⟨_, pss_one (ps_ret (pe_lenSetN (by rfl) ml (by rfl) ms (pe_listVals rfl (pv 0) (by rfl) mli))), ?_⟩
    refine ⟨_, rfl, d, _, rfl, hd, fun p np => ?_⟩
    have ev : (dO L fun s => nV (c s)).map (·.2) = ((L.map c).map fun n : Nat => (n : Int)).map V.int := by
      unfold dO
      simp only [List.map_map]
      rfl
    refine ⟨p, (L.map c).map fun n : Nat => (n : Int), rfl, SqL.of (by rw [upd_same, ev]), by rw [List.length_map, List.length_map]; exact hl, ?_⟩
    have e2 : ((firstMet (fun i => ((L.map c).map fun n : Nat => (n : Int)).getD i 0) ((L.map c).map fun n : Nat => (n : Int)).length).length : Int) = ((hm L c : Nat) : Int) := by
      rw [List.length_map, firstMet_D _ _ (Nat.le_refl _), List.take_length, List.length_map]
      rfl
    rw [e2]
    exact q _ (same_new np)
end
end K16

namespace K16
open PySem PySem.Spec PyProof.Rows L2 Rg Mach
abbrev sCls : Stmt := topS 17
theorem scCls : FnScope ["rows", "ends", "states", "found", "later", "state"] ["rows", "ends", "states"] (defScope sCls) := ⟨rfl, rfl, rfl, by decide +kernel, rfl, by decide +kernel, by decide +kernel⟩
def spCls : Sp := fun vs H Q _ => ∃ (a d l : Addr) (xs : List Addr) (R : List (List Nat)) (n b : Nat) (L E : List Nat), vs = [.ref a, .ref d, .ref l] ∧ RowsAt H a xs R ∧ Mok n R ∧ Bfs n R b L ∧ R.length ≤ 4000 ∧ n ≤ 4000 ∧
  H d = some (.dK (dO E fun _ => .bl true)) ∧ H l = some (.lst (nVs L)) ∧
  ∀ (H' : Hp) (p : Addr) (c : Nat → Nat), Same H H' → H p = none → H' p = some (.dK (dO L fun s => nV (c s))) → (∀ s ∈ L, ∀ t ∈ L, c s = c t ↔ Alk n R E s R E t) → Q (.ref p) H'
section
variable {P : Program} {w : World} {K : PySem.W.Frag} {mg : Str → Option Value} {base : Heap}
theorem ok_cls {f fP fH : Addr} {fd fdP fdH : FuncData} {k : Nat} (F : Fun K "classes_of" "classes_of" sCls f fd)
    (FP : Fun K "parted_once" "parted_once" sPart fP fdP) (bP : Binds K fdP ["rows", "classes", "states"] []) (gP : mg "parted_once" = some (.ref fP))
    (FH : Fun K "how_many" "how_many" sHow fH fdH) (bH : Binds K fdH ["classes"] []) (gH : mg "how_many" = some (.ref fH))
    (ml : mg "len" = none) (mt : mg "tuple" = none) (ms : mg "set" = none) (mli : mg "list" = none) (mi : mg "int" = none) :
    FnOk P w K mg base CX0 (k + 2) f fd ["rows", "ends", "states"] spCls := by
  have GP : FnOk P w K mg base CX0 (k + 1) fP fdP ["rows", "classes", "states"] spPart := ok_part FP ml mt
  have GH : FnOk P w K mg base CX0 (k + 1) fH fdH ["classes"] spHow := ok_how FH ml ms mli
  refine F.ok scCls (fun vs H Q E h => ?_) (fun cdv A outer s H vs Q E hr h => ?_)
  · obtain ⟨a, d, l, xs, R, n, b, L, E', rfl, _⟩ := h
    rfl
  · obtain ⟨a, d, l, xs, R, n, b, L, E, rfl, hR, hM, hB, hsz, hn, hd, hl, q⟩ := h
    have hu := hu_of hr
    refine ⟨_, pss_cons (ps_setDc (i := 3) (own := [("state", 5)]) (g := gName 5) (tt := tYes) rfl scCls.nd rfl rfl (sw_trueD rfl rfl rfl (by decide +kernel)) (pi_list (pv 2)) (blkOk_by (own := [("state", 5)]) (N := ["rows", "ends", "states", "found", "later", "state"]) (sc := defScope sCls) (by decide +kernel))
          (fun _ _ _ _ _ => pg_name (i := 5) scCls.nd rfl (Or.inl rfl)) (fun _ _ _ _ _ => pts_nil) (fun _ _ _ _ _ => pv 5) (fun _ _ _ _ _ => pe_callTy call_int1 (by rfl) mi bInt (pa_cons (pe_cmp (pc_din hu (pv 5) (pv 1)) rfl) pa_nil)))
      (pss_cons (ps_set (i := 4) scCls.nd rfl (.inl rfl) (pe_call GP hr (by rfl) gP FP.kp bP .nil pass0 (pa_cons (pv 0) (pa_cons (pv 3) (pa_cons (pv 2) pa_nil)))))
      (pss_cons (ps_while PassesOwn.never (pt_cmpR op_gt (pe_call GH hr (by rfl) gH FH.kp bH .nil pass0 (pa_cons (pv 4) pa_nil)) (pe_call GH hr (by rfl) gH FH.kp bH .nil pass0 (pa_cons (pv 3) pa_nil)) (nomark _))
        (pss_cons (ps_set (i := 3) scCls.nd rfl (.inl rfl) (pv 4))
        (pss_one (ps_set (i := 4) scCls.nd rfl (.inl rfl) (pe_call GP hr (by rfl) gP FP.kp bP .nil pass0 (pa_cons (pv 0) (pa_cons (pv 3) (pa_cons (pv 2) pa_nil))))))))
      (pss_one (ps_ret (pv 4))))), ?_⟩
    have lenL := hB.len
    refine ⟨_, rfl, l, rfl, ⟨_, SqL.of hl⟩, fun D0 nD => ?_⟩
    refine dc_list (K := K) (a := l) (xs := nVs L) (fun i H1 => Same H H1 ∧ H1 D0 = some (.dK (dO (L.take i) fun s => nV (if s ∈ E then 1 else 0)))) ⟨same_new nD, by rw [upd_same]; rfl⟩ (fun i H1 _ ⟨s1, _⟩ => SqL.of (s1 _ _ hl)) ?_ ?_
    · rintro i v H1 hi ⟨s1, hD⟩
      obtain ⟨t, rfl, ht⟩ := nVs_at hi
      obtain ⟨r, hg, hr'⟩ := din_dO (t := t) (s1 _ _ hd)
      refine ⟨rfl, ?_⟩
      refine ⟨_, rfl, _, rfl, _, rfl, d, r, rfl, hg, .inr ⟨_, rfl, _, kN t, rfl, hD, by rw [dO_len, List.length_take]; exact szBig (by omega), ?_, ?_⟩⟩
      · intro b o e
        rw [upd_ne (ne_of_none e nD)]
        exact s1 _ _ e
      · rw [upd_same, List.take_add_one, ht]
        have hnt : t ∉ L.take i := by
          intro hm
          obtain ⟨j, hj, e⟩ := List.mem_iff_getElem.mp hm
          rw [List.length_take] at hj
          rw [List.getElem_take] at e
          obtain ⟨h1, h2⟩ := List.getElem?_eq_some_iff.mp ht
          exact (List.pairwise_iff_getElem.mp hB.nodup) j i (by omega) h1 (by omega) (by rw [e, h2])
        have ev : V.int (if r.isSome = true then 1 else 0) = nV (if t ∈ E then 1 else 0) := by
          rw [hr']
          by_cases hE : t ∈ E
          · simp [hE, nV]
          · simp [hE, nV]
        rw [ev]
        exact congrArg (fun z => some (HO.dK z)) (putK_dO_new (d := fun s => nV (if s ∈ E then 1 else 0)) hnt (fun _ _ => rfl))
    · rintro H1 ⟨s1, hD⟩
      rw [nVs_len, List.take_length] at hD
      refine ⟨_, rfl, _, rfl, _, rfl, a, D0, l, xs, R, n, b, L, _, rfl, hR.same s1, hM, hB, by omega, by omega, hD, s1 _ _ hl, fun H2 p2 s2 n2 h2 => ?_⟩
      refine ⟨fun m σ H3 => ∃ (df dl : Addr) (c : Nat → Nat), m = L.length - hm L c ∧ σ = [some (.ref a), some (.ref d), some (.ref l), some (.ref df), some (.ref dl), none] ∧ Same H H3 ∧ H dl = none ∧
        H3 df = some (.dK (dO L fun s => nV (c s))) ∧ H3 dl = some (.dK (dO L fun s => nV (parted R L c s))) ∧ MooreAt n R E L c, ⟨_, D0, p2, _, rfl, rfl, s1.trans s2, s1.free n2, s2 _ _ hD, h2, moore_start⟩, ?_⟩
      rintro m σ H3 ⟨df, dl, c, rfl, rfl, s3, ndl, hdf, hdl, hW⟩
      refine ⟨_, rfl, dl, L, _, rfl, hdl, by omega, fun H4 s4 => ?_⟩
      refine ⟨_, rfl, df, L, c, rfl, s4 _ _ hdf, by omega, fun H5 s5 => ?_⟩
      have s45 := s4.trans s5
      refine ⟨_, _, rfl, rfl, _, rfl, ite2 (fun e => ?_) (fun e => ?_)⟩
      · have hlt : hm L c < hm L (parted R L c) := by
          have := of_decide_eq_true e
          omega
        have hle := hm_le L (parted R L c)
        refine ⟨fun σ' H' => ∃ (p : Addr), σ' = [some (.ref a), some (.ref d), some (.ref l), some (.ref dl), some (.ref p), none] ∧ Same H H' ∧ H p = none ∧
          H' dl = some (.dK (dO L fun s => nV (parted R L c s))) ∧ H' p = some (.dK (dO L fun s => nV (parted R L (parted R L c) s))), ?_, ?_⟩
        · rintro σ' H' ⟨p, rfl, s6, np, h6, h7⟩
          exact ⟨L.length - hm L (parted R L c), by omega, dl, p, _, rfl, rfl, s6, np, h6, h7, moore_step hM hB hW⟩
        · refine ⟨_, rfl, ?_⟩
          refine ⟨_, rfl, _, rfl, _, rfl, a, dl, l, xs, R, n, b, L, _, rfl, hR.same (s3.trans s45), hM, hB, by omega, by omega, s45 _ _ hdl, (s3.trans s45) _ _ hl, fun H6 p6 s6 n6 h6 => ?_⟩
          exact ⟨p6, rfl, (s3.trans s45).trans s6, (s3.trans s45).free n6, s6 _ _ (s45 _ _ hdl), h6⟩
      · have hge : hm L (parted R L c) ≤ hm L c := by
          have := of_decide_eq_false (Bool.eq_false_iff.mpr e)
          omega
        exact ⟨_, rfl, q H5 dl _ (s3.trans s45) ndl (s45 _ _ hdl) (moore_end hM hB hW hge)⟩
end
end K16

namespace K16
open PySem PySem.Spec PyProof.Rows L2 Rg Mach
abbrev sReach : Stmt := topS 14
theorem scReach : FnScope ["rows", "begin", "found", "known", "at", "state"] ["rows", "begin"] (defScope sReach) :=
  ⟨rfl, rfl, rfl, by decide +kernel, rfl, by decide +kernel, by decide +kernel⟩
def spReach : Sp := fun vs H Q _ => ∃ (a : Addr) (xs : List Addr) (R : List (List Nat)) (n b : Nat), vs = [.ref a, nV b] ∧ RowsAt H a xs R ∧ Mok n R ∧ b < R.length ∧ R.length ≤ 5000 ∧
  ∀ (H' : Hp) (p : Addr) (L : List Nat), Same H H' → H p = none → H' p = some (.lst (nVs L)) → Bfs n R b L → Q (.ref p) H'
section
variable {P : Program} {w : World} {K : PySem.W.Frag} {mg : Str → Option Value} {base : Heap}
theorem ok_reach {f : Addr} {fd : FuncData} {k : Nat} (F : Fun K "reached_from" "reached_from" sReach f fd) (ml : mg "len" = none) :
    FnOk P w K mg base CX0 (k + 1) f fd ["rows", "begin"] spReach := by
  refine F.ok scReach (fun vs H Q E h => ?_) (fun cdv A outer s H vs Q E hr h => ?_)
  · obtain ⟨a, xs, R, n, b, rfl, _⟩ := h
    rfl
  · obtain ⟨a, xs, R, n, b, rfl, hR, hM, hb, hsz, q⟩ := h
    have hu := hu_of hr
    refine ⟨_, pss_cons (ps_set (i := 2) scReach.nd rfl (.inl rfl) (pe_lst (pa_cons (pv 1) pa_nil)))
      (pss_cons (ps_set (i := 3) scReach.nd rfl (.inl rfl) (pe_disp (pps_cons (pv 1) pe_bl pps_nil) (by rfl) (by rfl) (fun z => by cases z) (by decide)))
      (pss_cons (ps_set (i := 4) scReach.nd rfl (.inl rfl) pe_int)
      (pss_cons (ps_while PassesOwn.never (pt_cmpR op_lt (pv 4) (pe_callB call_len_seq (by rfl) ml bLen (pa_cons (pv 2) pa_nil)) (nomark _))
        (pss_cons (ps_for PassesOwn.never rfl (pi_list (pe_ix ix_list (pv 0) (pe_ix ix_list (pv 2) (pv 4) (fun _ _ => rfl)) (fun _ _ => rfl))) (pg_name (i := 5) scReach.nd rfl (.inl rfl))
          (pss_one (ps_if (pt_cmp (pc_dnotin hu (pv 5) (pv 3))) (pss_cons (ps_dput hu (pv 3) (pv 5) pe_bl rfl)
            (pss_one (ps_expr (pe_bm PySem.F.plainAttrs_list PySem.F.slot_list_append PySem.F.type_list_append mt_append (pv 2) (pa_cons (pv 5) pa_nil))))) pss_nil)))
        (pss_one (ps_set (i := 4) scReach.nd rfl (.inl rfl) (pe_op op_add (pv 4) pe_int)))))
      (pss_one (ps_ret (pv 2)))))), ?_⟩
    -- found = [begin]; known = {begin: True}; at = 0
    refine ⟨_, rfl, by show 1 ≤ sizeLine; decide, fun pf nf => ?_⟩
    intro pk nk
    have nfk : pf ≠ pk := fun z => by
      rw [← z, upd_same] at nk
      cases nk
    have nk0 : H pk = none := by
      rw [upd_ne nfk.symm] at nk
      exact nk
    refine ⟨_, rfl, upd_same, [(kN b, .bl true)], rfl, by show 1 ≤ 15; decide, ?_⟩
    rw [upd_upd]
    refine ⟨fun m σ H1 => ∃ (L : List Nat) (i : Nat) (y : Option V), m = R.length - i ∧ σ = [some (.ref a), some (nV b), some (.ref pf), some (.ref pk), some (nV i), y] ∧ Same H H1 ∧
      H1 pf = some (.lst (nVs L)) ∧ H1 pk = some (.dK (dO L fun _ => .bl true)) ∧ BfsAt n R b L i, ⟨_, [b], 0, none, rfl, rfl, ?_, ?_, ?_, bfs_start hb⟩, ?_⟩
    · exact (same_new nf).trans (same_new nk)
    · rw [upd_ne nfk, upd_same]
      rfl
    · rw [upd_same]
      rfl
    · rintro m σ H1 ⟨L, i, y, rfl, rfl, sm, hf, hk, hW⟩
      have hlen := hW.len
      refine ⟨_, rfl, _, rfl, pf, _, rfl, .inl (SqL.of hf), _, _, rfl, rfl, _, rfl, ite2 (fun e => ?_) (fun e => ?_)⟩
      · have hi : i < L.length := by
          have := of_decide_eq_true e
          rw [nVs_len] at this
          omega
        have hs : L[i]? = some L[i] := List.getElem?_eq_getElem hi
        have hsl : L[i] < R.length := hW.lt _ (List.getElem_mem hi)
        obtain ⟨x, hx1, hx2⟩ := (hR.same sm).get hsl
        refine ⟨fun σ' H' => ∃ (y' : Option V), σ' = [some (.ref a), some (nV b), some (.ref pf), some (.ref pk), some (nV (i + 1)), y'] ∧ Same H H' ∧
          H' pf = some (.lst (nVs (pushAll L (rowOf R L[i])))) ∧ H' pk = some (.dK (dO (pushAll L (rowOf R L[i])) fun _ => .bl true)), ?_, ?_⟩
        · rintro σ' H' ⟨y', rfl, s1, h1, h2⟩
          exact ⟨R.length - (i + 1), by omega, _, i + 1, y', rfl, rfl, s1, h1, h2, bfs_step hM hW hs⟩
        · -- for state in rows[found[at]]
          refine ⟨_, rfl, _, rfl, _, rfl, pf, _, _, _, rfl, rfl, SqL.of hf, atI_nat (nVs_get hs), a, _, _, _, rfl, rfl, SqL.of (sm _ _ hR.at_), atI_nat hx1, x, rfl, ⟨_, SqL.of hx2⟩, ?_⟩
          have hx0 : H x = some (.lst (nVs (rowOf R L[i]))) := by
            obtain ⟨x', h1', h2'⟩ := hR.get hsl
            rw [hx1] at h1'
            cases h1'
            exact h2'
          refine for_list (K := K) (a := x) (xs := nVs (rowOf R L[i])) (fun j σ' H' => ∃ (y' : Option V), σ' = [some (.ref a), some (nV b), some (.ref pf), some (.ref pk), some (nV i), y'] ∧ Same H H' ∧
            H' pf = some (.lst (nVs (pushAll L ((rowOf R L[i]).take j)))) ∧ H' pk = some (.dK (dO (pushAll L ((rowOf R L[i]).take j)) fun _ => .bl true))) ⟨y, rfl, sm, hf, hk⟩ (fun j σ' H' _ ⟨_, _, s1, _, _⟩ => SqL.of (s1 _ _ hx0)) ?_ ?_
          · rintro j v σ' H' hj ⟨y', rfl, s1, hf1, hk1⟩
            obtain ⟨t, rfl, ht⟩ := nVs_at hj
            have htk : (rowOf R L[i]).take (j + 1) = (rowOf R L[i]).take j ++ [t] := by
              rw [List.take_add_one, ht]
              rfl
            have hnext : pushAll L ((rowOf R L[i]).take (j + 1)) = push (pushAll L ((rowOf R L[i]).take j)) t := by
              rw [htk, pushAll_append]
              rfl
            generalize hL1 : pushAll L ((rowOf R L[i]).take j) = L1 at hf1 hk1 hnext
            have hl1 : L1.length ≤ R.length := by
              refine nodup_lt_length ?_ ?_
              · rw [← hL1]
                exact pushAll_nodup hW.nodup
              · intro z hz
                rw [← hL1] at hz
                rcases mem_pushAll.mp hz with z1 | z1
                · exact hW.lt z z1
                · exact hM.lt _ hsl z (List.mem_of_mem_take z1)
            rw [hnext]
            refine ⟨_, rfl, _, rfl, pk, _, rfl, DGet.k (k := kN t) hk1, _, rfl, ?_⟩
            by_cases hm : t ∈ L1
            · rw [valV_dO_in hm, push_mem hm]
              exact iteF ⟨_, rfl, s1, hf1, hk1⟩
            · rw [valV_dO_out hm]
              refine iteT ?_
              refine ⟨_, rfl, _, rfl, pk, _, rfl, DPut.k (k := kN t) hk1 (by rw [dO_len]; exact szBig (by omega)), ?_⟩
              have hf2 : (upd H' pk (.dK (putK (dO L1 fun _ => .bl true) (kN t) (.bl true)))) pf = some (.lst (nVs L1)) := by
                rw [upd_ne nfk]
                exact hf1
              refine ⟨_, rfl, .inl ⟨rfl, _, SqL.of hf2⟩, _, rfl, pf, _, _, rfl, rfl, hf2, by rw [nVs_len]; exact szBig (by omega), ?_⟩
              refine ⟨_, rfl, ?_, ?_, ?_⟩
              · intro c o e
                rw [upd_ne (ne_of_none e nf), upd_ne (ne_of_none e nk0)]
                exact s1 _ _ e
              · rw [upd_same, push_new hm, nVs_snoc]
              · rw [upd_ne nfk.symm, upd_same]
                exact congrArg (fun z => some (HO.dK z)) (putK_dO (L := L1) (c := fun _ => .bl true) (s := t))
          · rintro σ' H' ⟨y', rfl, s1, hf1, hk1⟩
            rw [nVs_len, List.take_length] at hf1 hk1
            exact ⟨_, rfl, _, _, rfl, rfl, y', rfl, s1, hf1, hk1⟩
      · have hi : L.length ≤ i := by
          have := of_decide_eq_false (Bool.eq_false_iff.mpr e)
          rw [nVs_len] at this
          omega
        exact ⟨_, rfl, q H1 pf L sm nf hf (bfs_end hW hi)⟩
end
end K16

namespace K16
open PySem PySem.Spec PyProof.Rows L2 Rg Mach
abbrev sLm : Stmt := topS 18
def nLm : List Str := ["rows", "ends", "begin", "states", "state", "known", "classes", "first", "order", "number", "found", "at", "one", "there"]
theorem scLm : FnScope nLm ["rows", "ends", "begin"] (defScope sLm) := ⟨rfl, rfl, rfl, by decide +kernel, rfl, by decide +kernel, by decide +kernel⟩
def scOne : Scope := match (defBody sLm).getD 7 (.Pass ⟨0, 0, 0, 0⟩) with
  | .Assign _ (.ListComp _ _ sc _) _ => sc
  | _ => defScope sLm
def spLm : Sp := fun vs H Q _ => ∃ (a e : Addr) (xs : List Addr) (R : List (List Nat)) (n b : Nat) (E : List Nat), vs = [.ref a, .ref e, nV b] ∧ RowsAt H a xs R ∧ Mok n R ∧ b < R.length ∧ R.length ≤ 4000 ∧ n ≤ 4000 ∧
  H e = some (.lst (nVs E)) ∧ E.length ≤ 4000 ∧
  ∀ (H' : Hp) (t p e' : Addr) (ys : List Addr) (R' : List (List Nat)) (E' : List Nat), Same H H' → H t = none → H p = none → H e' = none → p ≠ e' → (∀ y ∈ ys, H y = none ∧ y ≠ p ∧ y ≠ e') → ys.Nodup → H' t = some (.tup [.ref p, .ref e']) → RowsAt H' p ys R' → H' e' = some (.lst (nVs E')) →
    Least n R' E' → Alk n R' E' 0 R E b → R'.length ≤ R.length → Q (.ref t) H'
section
variable {P : Program} {w : World} {K : PySem.W.Frag} {mg : Str → Option Value} {base : Heap}
theorem ok_lm {f fR fC fP fH : Addr} {fd fdR fdC fdP fdH : FuncData} {k : Nat} (F : FunD K "least_machine" "least_machine" (defArgs sLm) (defBody sLm) (defScope sLm) [] [("begin", .int 0)] f fd)
    (FR : Fun K "reached_from" "reached_from" sReach fR fdR) (bR : Binds K fdR ["rows", "begin"] []) (gR : mg "reached_from" = some (.ref fR))
    (FC : Fun K "classes_of" "classes_of" sCls fC fdC) (bC : Binds K fdC ["rows", "ends", "states"] []) (gC : mg "classes_of" = some (.ref fC))
    (FP : Fun K "parted_once" "parted_once" sPart fP fdP) (bP : Binds K fdP ["rows", "classes", "states"] []) (gP : mg "parted_once" = some (.ref fP))
    (FH : Fun K "how_many" "how_many" sHow fH fdH) (bH : Binds K fdH ["classes"] []) (gH : mg "how_many" = some (.ref fH))
    (ml : mg "len" = none) (mt : mg "tuple" = none) (ms : mg "set" = none) (mli : mg "list" = none) (mi : mg "int" = none) (mr : mg "range" = none) :
    FnOk P w K mg base CX0 (k + 3) f fd ["rows", "ends", "begin"] spLm := by
  have GR : FnOk P w K mg base CX0 (k + 2) fR fdR ["rows", "begin"] spReach := ok_reach FR ml
  have GC : FnOk P w K mg base CX0 (k + 2) fC fdC ["rows", "ends", "states"] spCls := ok_cls FC FP bP gP FH bH gH ml mt ms mli mi
  refine F.ok scLm (fun vs H Q E h => ?_) (fun cdv A outer s H vs Q E hr h => ?_)
  · obtain ⟨a, e, xs, R, n, b, E', rfl, _⟩ := h
    rfl
  · obtain ⟨a, e, xs, R, n, b, E, rfl, hR, hM, hb, hsz, hn, he, hel, q⟩ := h
    have hu := hu_of hr
    refine ⟨_, PSs.nox (pss_cons (ps_set (i := 3) scLm.nd rfl (.inl rfl) (pe_call GR hr (by rfl) gR FR.kp bR .nil pass0 (pa_cons (pv 0) (pa_cons (pv 2) pa_nil))))
      (pss_cons (ps_set (i := 5) scLm.nd rfl (.inr rfl) (pe_dc (own := [("state", 4)]) (g := gName 4) (tt := tYes) rfl scLm.nd (pi_list (pv 1)) (blkOk_by (own := [("state", 4)]) (N := nLm) (sc := defScope sLm) (by decide +kernel))
          (fun _ _ _ _ _ => pg_name (i := 4) scLm.nd rfl (Or.inl rfl)) (fun _ _ _ _ _ => pts_nil) (fun _ _ _ _ _ => pv 4) (fun _ _ _ _ _ => pe_bl)))
      (pss_cons (ps_set (i := 6) scLm.nd rfl (.inr rfl) (pe_call GC hr (by rfl) gC FC.kp bC .nil pass0 (pa_cons (pv 0) (pa_cons (pv 5) (pa_cons (pv 3) pa_nil)))))
      (pss_cons (ps_set (i := 7) scLm.nd rfl (.inr rfl) pe_dnewK)
      (pss_cons (ps_for PassesOwn.never rfl (pi_list (pv 3)) (pg_name (i := 4) scLm.nd rfl (.inl rfl))
        (pss_one (ps_if (pt_cmp (pc_dnotin hu (pe_dget hu (pv 6) (pv 4) (fun _ _ => rfl)) (pv 7))) (pss_one (ps_dput hu (pv 7) (pe_dget hu (pv 6) (pv 4) (fun _ _ => rfl)) (pv 4) rfl)) pss_nil)))
      (pss_cons (ps_set (i := 8) scLm.nd rfl (.inr rfl) (pe_callTy (call_list_dK rfl) (by rfl) mli bList (pa_cons (pv 7) pa_nil)))
      (pss_cons (ps_set (i := 9) scLm.nd rfl (.inr rfl) (pe_dc (own := [("at", 11)]) (g := gName 11) (tt := tYes) (tk := tOp (rIxL K) (tVar 8) (tVar 11)) rfl scLm.nd (pi_range1 (by rfl) mr (pa_cons (pe_callB call_len_seq (by rfl) ml bLen (pa_cons (pv 8) pa_nil)) pa_nil)) (blkOk_by (own := [("at", 11)]) (N := nLm) (sc := defScope sLm) (by decide +kernel))
          (fun _ _ _ _ _ => pg_name (i := 11) scLm.nd rfl (Or.inl rfl)) (fun _ _ _ _ _ => pts_nil) (fun _ _ _ _ _ => pe_ix ix_list (pv 8) (pv 11) (fun _ _ => rfl)) (fun _ _ _ _ _ => pv 11)))
      (pss_cons (ps_setLc (i := 10) (own := [("one", 12)]) (g := gName 12) (tt := tYes) (te := tLc (iList K (tOp (rIxL K) (tVar 0) (tDGet (tVar 7) (tVar 12)))) (gName 13) tYes (tDGet (tVar 9) (tDGet (tVar 6) (tVar 13))) [13]) rfl scLm.nd rfl rfl (sw_true rfl rfl rfl (by decide +kernel)) (pi_list (pv 8)) (blkOk_by (own := [("one", 12)]) (N := nLm) (sc := defScope sLm) (by decide +kernel))
          (fun _ _ _ _ _ => pg_name (i := 12) scLm.nd rfl (Or.inl rfl)) (fun _ _ _ _ _ => pts_nil)
          (fun _ _ _ _ _ => pe_lc (own := [("there", 13)]) (g := gName 13) (tt := tYes) rfl scLm.nd (pi_list (pe_ix ix_list (pv 0) (pe_dget hu (pv 7) (pv 12) (fun _ _ => rfl)) (fun _ _ => rfl))) (blkOk_by (own := [("there", 13)]) (N := nLm) (sc := relS scOne (defScope sLm)) (by decide +kernel))
            (fun _ _ _ _ _ => pg_name (i := 13) scLm.nd rfl (Or.inl rfl)) (fun _ _ _ _ _ => pts_nil) (fun _ _ _ _ _ => pe_dget hu (pv 9) (pe_dget hu (pv 6) (pv 13) (fun _ _ => rfl)) (fun _ _ => rfl))))
      (pss_one (ps_ret (pe_tup (pa_cons (pv 10) (pa_cons (pe_lc (own := [("one", 12)]) (g := gName 12) (tt := _) rfl scLm.nd (pi_list (pv 8)) (blkOk_by (own := [("one", 12)]) (N := nLm) (sc := defScope sLm) (by decide +kernel))
          (fun _ _ _ _ _ => pg_name (i := 12) scLm.nd rfl (Or.inl rfl)) (fun _ _ _ _ _ => pts_one (pt_cmp (pc_din hu (pe_dget hu (pv 7) (pv 12) (fun _ _ => rfl)) (pv 5)))) (fun _ _ _ _ _ => pe_dget hu (pv 9) (pv 12) (fun _ _ => rfl))) pa_nil))))))))))))), ?_⟩
    -- states
    refine ⟨_, rfl, _, rfl, a, xs, R, n, b, rfl, hR, hM, hb, by omega, fun H1 ps L s1 n1 h1 hB => ?_⟩
    have lenL := hB.len
    -- known
    refine ⟨_, rfl, e, rfl, ⟨_, SqL.of (s1 _ _ he)⟩, fun pk nk => ?_⟩
    refine dc_list (K := K) (a := e) (xs := nVs E) (fun i H2 => Same H1 H2 ∧ H2 pk = some (.dK (dO (D (E.take i)) fun _ => .bl true))) ⟨same_new nk, by rw [upd_same]; rfl⟩ (fun i H2 _ ⟨s2, _⟩ => SqL.of (s2 _ _ (s1 _ _ he))) ?_ ?_
    · rintro i v H2 hi ⟨s2, hD⟩
      obtain ⟨t, rfl, ht⟩ := nVs_at hi
      have hDl : (D (E.take i)).length ≤ 4000 := by
        have := length_le_of_sub (D_nodup (E.take i)) (fun x hx => mem_D.mp hx)
        rw [List.length_take] at this
        omega
      refine ⟨rfl, ?_⟩
      refine ⟨_, rfl, _, kN t, rfl, hD, by rw [dO_len]; exact szBig (by omega), ?_, ?_⟩
      · intro b' o e'
        rw [upd_ne (ne_of_none e' nk)]
        exact s2 _ _ e'
      · rw [upd_same, take_snoc ht, D_append]
        exact congrArg (fun z => some (HO.dK z)) (putK_dO (c := fun _ => .bl true))
    rintro H2 ⟨s2, hk⟩
    rw [nVs_len, List.take_length] at hk
    have s02 := s1.trans s2
    -- classes
    refine ⟨_, rfl, _, rfl, _, rfl, a, pk, ps, xs, R, n, b, L, D E, rfl, hR.same s02, hM, hB, hsz, hn, hk, s2 _ _ h1, fun H3 pc c s3 n3 h3 hc => ?_⟩
    have s03 := s02.trans s3
    have hps3 := s3 _ _ (s2 _ _ h1)
    have hk3 := s3 _ _ hk
    -- first = {}
    intro pf nf
    have nf0 : H pf = none := s03.free nf
    have hfd : ((fsts c L).map Prod.fst).Nodup := by
      rw [fsts_fst]
      exact D_nodup _
    have fl : ∀ j, (fsts c (L.take j)).length ≤ 4000 := by
      intro j
      have h1' : (fsts c (L.take j)).length = (D ((L.take j).map c)).length := by
        rw [← fsts_fst, List.length_map]
      have h2' := length_le_of_sub (D_nodup ((L.take j).map c)) (fun x hx => mem_D.mp hx)
      rw [List.length_map, List.length_take] at h2'
      omega
    refine ⟨_, rfl, ps, rfl, ⟨_, SqL.of (by rw [upd_ne (ne_of_none hps3 nf)]; exact hps3)⟩, ?_⟩
    refine for_list (K := K) (a := ps) (xs := nVs L) (fun i σ H4 => ∃ (y : Option V), σ = [some (.ref a), some (.ref e), some (nV b), some (.ref ps), y, some (.ref pk), some (.ref pc), some (.ref pf), none, none, none, none, none, none] ∧ Same H3 H4 ∧
      H4 pf = some (.dK (fD (fsts c (L.take i))))) ⟨none, rfl, same_new nf, by rw [upd_same]; rfl⟩ (fun i σ H4 _ ⟨_, _, s4, _⟩ => SqL.of (s4 _ _ hps3)) ?_ ?_
    · rintro i v σ H4 hi ⟨y, rfl, s4, hf4⟩
      obtain ⟨t, rfl, ht⟩ := nVs_at hi
      have htL : t ∈ L := List.mem_of_getElem? ht
      refine ⟨_, rfl, _, rfl, pc, _, rfl, dget_dO (s4 _ _ h3) htL, _, rfl, pf, _, rfl, DGet.k (k := kN (c t)) hf4, _, rfl, ?_⟩
      have hsn := fsts_snoc c (L.take i) t
      rw [← take_snoc ht] at hsn
      by_cases hm : c t ∈ (fsts c (L.take i)).map Prod.fst
      · obtain ⟨p, hp, ep⟩ := List.mem_map.mp hm
        have hv : valV (fD (fsts c (L.take i))) (kN (c t)) = some (nV p.2) := valV_fD (by rw [fsts_fst]; exact D_nodup _) (by rw [← ep]; exact hp)
        rw [hv]
        refine iteF ⟨_, rfl, s4, ?_⟩
        rw [hsn, if_pos hm]
        exact hf4
      · rw [valV_fD_out hm]
        refine iteT ?_
        refine ⟨_, rfl, _, rfl, _, rfl, _, rfl, pc, _, rfl, dget_dO (s4 _ _ h3) htL, pf, _, rfl, DPut.k (k := kN (c t)) hf4 (by rw [fD_len]; exact szBig (by have := fl i; omega)), ?_⟩
        refine ⟨_, rfl, ?_, ?_⟩
        · intro b' o e'
          rw [upd_ne (ne_of_none e' nf)]
          exact s4 _ _ e'
        · rw [upd_same, hsn, if_neg hm, fD_snoc, putK_new _ (valV_fD_out hm)]
    rintro σ H4 ⟨y, rfl, s4, hf4⟩
    rw [nVs_len, List.take_length] at hf4
    have s04 := s03.trans s4
    -- order = list(first)
    refine ⟨_, rfl, pf, _, rfl, hf4, fun po no => ?_⟩
    rw [fD_keys, fsts_fst]
    have eO : (fsts c L).map Prod.fst = D (L.map c) := fsts_fst c L
    generalize hO : D (L.map c) = O at eO
    have Ond : O.Nodup := by rw [← hO]; exact D_nodup _
    have lenO : O.length ≤ L.length := by
      have := length_le_of_sub (D_nodup (L.map c)) (fun x hx => mem_D.mp hx)
      rw [List.length_map, hO] at this
      exact this
    have s5 : Same H4 (upd H4 po (.lst (nVs O))) := same_new no
    have ho5 : (upd H4 po (.lst (nVs O))) po = some (.lst (nVs O)) := upd_same
    generalize (upd H4 po (.lst (nVs O))) = H5 at s5 ho5
    have s05 := s04.trans s5
    -- number
    refine ⟨_, rfl, po, _, rfl, .inl (SqL.of ho5), _, rfl, by rw [nVs_len]; omega, by rw [nVs_len]; omega, fun pn nn => ?_⟩
    rw [nVs_len]
    refine dc_range (n := (O.length : Int).toNat) (fun i H6 => Same H5 H6 ∧ H6 pn = some (.dK (dO (O.take i) fun k => nV (O.idxOf k)))) ⟨same_new nn, by rw [upd_same]; rfl⟩ ?_ ?_
    · rintro i H6 hi ⟨s6, hn6⟩
      have hi' : i < O.length := by omega
      have ht : O[i]? = some O[i] := List.getElem?_eq_getElem hi'
      refine ⟨rfl, ?_⟩
      refine ⟨_, rfl, _, rfl, po, _, _, _, rfl, rfl, SqL.of (s6 _ _ ho5), atI_zero_add (nVs_get ht), _, rfl, _, kN O[i], rfl, hn6, by rw [dO_len, List.length_take]; exact szBig (by omega), ?_, ?_⟩
      · intro b' o e'
        rw [upd_ne (ne_of_none e' nn)]
        exact s6 _ _ e'
      · rw [upd_same, take_snoc ht]
        have ev : V.int (0 + (i : Int)) = nV (O.idxOf O[i]) := by
          rw [List.Nodup.idxOf_getElem Ond i hi', Int.zero_add]
          rfl
        rw [ev]
        exact congrArg (fun z => some (HO.dK z)) (putK_dO_new (d := fun k => nV (O.idxOf k)) (nodup_not_take Ond ht) (fun _ _ => rfl))
    rintro H6 ⟨s6, hn6⟩
    have eT : O.take ((O.length : Int).toNat) = O := by
      rw [Int.toNat_natCast, List.take_length]
    rw [eT] at hn6
    have s06 := s05.trans s6
    have ho6 := s6 _ _ ho5
    have hc6 : H6 pc = some (.dK (dO L fun s => nV (c s))) := s6 _ _ (s5 _ _ (s4 _ _ h3))
    have hf6 : H6 pf = some (.dK (fD (fsts c L))) := s6 _ _ (s5 _ _ hf4)
    have hk6 : H6 pk = some (.dK (dO (D E) fun _ => .bl true)) := s6 _ _ (s5 _ _ (s4 _ _ hk3))
    have eF : ∀ i (hi : i < O.length), ∃ s, (fsts c L)[i]? = some (O[i], s) ∧ s ∈ L ∧ ((fsts c L).map Prod.snd)[i]? = some s := by
      intro i hi
      have hil : i < (fsts c L).length := by
        have := congrArg List.length eO
        rw [List.length_map] at this
        omega
      have h1' : ((fsts c L).map Prod.fst)[i]? = some O[i] := by rw [eO, List.getElem?_eq_getElem hi]
      rw [List.getElem?_map, List.getElem?_eq_getElem hil] at h1'
      have h2' : (fsts c L)[i].1 = O[i] := Option.some.inj h1'
      refine ⟨(fsts c L)[i].2, ?_, (fsts_mem c L _ (List.getElem_mem hil)).1, ?_⟩
      · rw [List.getElem?_eq_getElem hil, ← h2']
      · rw [List.getElem?_map, List.getElem?_eq_getElem hil]
        rfl
    have numO : ∀ t ∈ L, c t ∈ O := fun t ht => by
      rw [← hO]
      exact mem_D.mpr (List.mem_map_of_mem ht)
    -- found = [[..] ..]
    refine ⟨_, rfl, po, rfl, ⟨_, SqL.of ho6⟩, fun D1 nD1 => ?_⟩
    refine lc_list (K := K) (a := po) (xs := nVs O) (fun i H7 => Same H6 H7 ∧ ∃ ys : List Addr, ys.length = i ∧ ys.Nodup ∧ (∀ y ∈ ys, H6 y = none ∧ y ≠ D1) ∧ H7 D1 = some (.lst (ys.map V.ref)) ∧
      ∀ (j : Nat) (y : Addr) (s : Nat), ys[j]? = some y → ((fsts c L).map Prod.snd)[j]? = some s → H7 y = some (.lst (nVs ((rowOf R s).map fun t => O.idxOf (c t)))))
      ⟨same_new nD1, [], rfl, List.nodup_nil, fun y hy => (nomatch hy), by rw [upd_same]; rfl, fun j y s hy => by simp at hy⟩ (fun i H7 _ ⟨s7, _⟩ => SqL.of (s7 _ _ ho6)) ?_ ?_
    · rintro i v H7 hi ⟨s7, ys, yl, ynd, ynew, hD1, hrow⟩
      obtain ⟨k, rfl, hk'⟩ := nVs_at hi
      have hi' : i < O.length := (List.getElem?_eq_some_iff.mp hk').1
      have ek : O[i] = k := (List.getElem?_eq_some_iff.mp hk').2
      obtain ⟨st, e1, e2, e3⟩ := eF i hi'
      rw [ek] at e1
      obtain ⟨x, hx1, hx2⟩ := (hR.same (s06.trans s7)).get (hB.lt st e2)
      refine ⟨rfl, ?_⟩
      refine ⟨_, rfl, _, rfl, _, rfl, pf, _, rfl, dgetK (s7 _ _ hf6) (valV_fD hfd (List.mem_of_getElem? e1)), a, _, _, _, rfl, rfl, SqL.of ((s06.trans s7) _ _ hR.at_), atI_nat hx1, x, rfl, ⟨_, SqL.of hx2⟩, fun D2 nD2 => ?_⟩
      refine lc_list (K := K) (a := x) (xs := nVs (rowOf R st)) (fun j H8 => Same H7 H8 ∧ H8 D2 = some (.lst (nVs (((rowOf R st).take j).map fun t => O.idxOf (c t))))) ⟨same_new nD2, by rw [upd_same]; rfl⟩ (fun j H8 _ ⟨s8, _⟩ => SqL.of (s8 _ _ hx2)) ?_ ?_
      · rintro j v H8 hj ⟨s8, hD2⟩
        obtain ⟨u, rfl, hu'⟩ := nVs_at hj
        have huL : u ∈ L := hB.closed e2 (List.mem_of_getElem? hu')
        refine ⟨rfl, ?_⟩
        refine ⟨_, rfl, _, rfl, _, rfl, pc, _, rfl, dget_dO (s8 _ _ (s7 _ _ hc6)) huL, pn, _, rfl, dget_dO (s8 _ _ (s7 _ _ hn6)) (numO u huL), _, hD2, ?_, ?_, ?_⟩
        · rw [nVs_len, List.length_map, List.length_take]
          have := hM.wide st (hB.lt st e2)
          exact szBig (by omega)
        · intro b' o e'
          rw [upd_ne (ne_of_none e' nD2)]
          exact s8 _ _ e'
        · rw [upd_same, take_snoc hu', List.map_append]
          exact congrArg (fun z => some (HO.lst z)) (nVs_snoc _ _).symm
      · rintro H8 ⟨s8, hD2⟩
        rw [nVs_len, List.take_length] at hD2
        have hD1' := s8 _ _ hD1
        have n12 : D2 ≠ D1 := fun z => by
          rw [z, hD1] at nD2
          cases nD2
        refine ⟨_, hD1', by rw [List.length_map]; exact szBig (by omega), ?_, ys ++ [D2], by rw [List.length_append, List.length_singleton, yl], ?_, ?_, ?_, ?_⟩
        · intro b' o e'
          rw [upd_ne (ne_of_none e' nD1)]
          exact (s7.trans s8) _ _ e'
        · rw [List.nodup_append]
          refine ⟨ynd, by simp, ?_⟩
          intro p hp q' hq' e'
          rw [List.mem_singleton] at hq'
          rw [e', hq'] at hp
          obtain ⟨j, hj, ej⟩ := List.mem_iff_getElem.mp hp
          have hjF : ∃ s, ((fsts c L).map Prod.snd)[j]? = some s := by
            obtain ⟨s', _, _, z⟩ := eF j (by omega)
            exact ⟨s', z⟩
          obtain ⟨s', hs'⟩ := hjF
          have := hrow j D2 s' (by rw [List.getElem?_eq_getElem hj, ej]) hs'
          rw [nD2] at this
          cases this
        · intro y' hy'
          rcases List.mem_append.mp hy' with z | z
          · exact ynew y' z
          · rw [List.mem_singleton] at z
            rw [z]
            exact ⟨s7.free nD2, n12⟩
        · rw [upd_same, List.map_append]
          rfl
        · intro j y' s' hy' hs'
          by_cases hj : j < ys.length
          · rw [List.getElem?_append_left hj] at hy'
            have hne := (ynew y' (List.mem_of_getElem? hy')).2
            rw [upd_ne hne]
            exact s8 _ _ (hrow j y' s' hy' hs')
          · rw [List.getElem?_append_right (by omega)] at hy'
            have hj0 : j - ys.length = 0 := by
              have := (List.getElem?_eq_some_iff.mp hy').1
              simp at this
              omega
            rw [hj0] at hy'
            have ey : D2 = y' := Option.some.inj hy'
            have ej : j = i := by omega
            rw [ej, e3] at hs'
            have es : st = s' := Option.some.inj hs'
            rw [← ey, ← es, upd_ne n12]
            exact hD2
    rintro H7 ⟨s7, ys, yl, ynd, ynew, hD1, hrow⟩
    rw [nVs_len] at yl
    -- return (found, [..])
    refine ⟨_, rfl, _, rfl, po, rfl, ⟨_, SqL.of (s7 _ _ ho6)⟩, fun D3 nD3 => ?_⟩
    refine lc_list (K := K) (a := po) (xs := nVs O) (fun i H8 => Same H7 H8 ∧ H8 D3 = some (.lst (nVs (((((fsts c L).map Prod.snd).take i).filter fun s => decide (s ∈ D E)).map fun t => O.idxOf (c t))))) ⟨same_new nD3, by rw [upd_same]; rfl⟩ (fun i H8 _ ⟨s8, _⟩ => SqL.of (s8 _ _ (s7 _ _ ho6))) ?_ ?_
    · rintro i v H8 hi ⟨s8, hD3⟩
      obtain ⟨k, rfl, hk'⟩ := nVs_at hi
      have hi' : i < O.length := (List.getElem?_eq_some_iff.mp hk').1
      have ek : O[i] = k := (List.getElem?_eq_some_iff.mp hk').2
      obtain ⟨st, e1, e2, e3⟩ := eF i hi'
      rw [ek] at e1
      have ekc : c st = k := (fsts_mem c L _ (List.mem_of_getElem? e1)).2
      obtain ⟨r, hg, hr'⟩ := din_dO (t := st) (s8 _ _ (s7 _ _ hk6))
      refine ⟨rfl, ?_⟩
      refine ⟨_, rfl, _, rfl, pf, _, rfl, dgetK (s8 _ _ (s7 _ _ hf6)) (valV_fD hfd (List.mem_of_getElem? e1)), _, rfl, pk, r, rfl, hg, _, rfl, ?_⟩
      rw [take_snoc e3, List.filter_append]
      by_cases hE : st ∈ D E
      · rw [hr', decide_eq_true hE]
        refine ⟨_, rfl, _, rfl, pn, _, rfl, dget_dO (s8 _ _ (s7 _ _ hn6)) (List.mem_of_getElem? hk'), _, hD3, ?_, ?_, ?_⟩
        · rw [nVs_len, List.length_map]
          have := List.length_filter_le (fun s => decide (s ∈ D E)) (((fsts c L).map Prod.snd).take i)
          rw [List.length_take] at this
          exact szBig (by omega)
        · intro b' o e'
          rw [upd_ne (ne_of_none e' nD3)]
          exact s8 _ _ e'
        · rw [upd_same, List.filter_cons_of_pos (by exact decide_eq_true hE), List.filter_nil, List.map_append]
          refine congrArg (fun z => some (HO.lst z)) ?_
          rw [← ekc]
          exact (nVs_snoc _ _).symm
      · rw [hr', decide_eq_false hE]
        refine ⟨s8, ?_⟩
        rw [List.filter_cons_of_neg (by simpa using hE), List.filter_nil, List.append_nil]
        exact hD3
    rintro H8 ⟨s8, hD3⟩
    have eT2 : ((fsts c L).map Prod.snd).take (nVs O).length = (fsts c L).map Prod.snd := by
      apply List.take_of_length_le
      have := congrArg List.length eO
      rw [List.length_map] at this
      rw [nVs_len, List.length_map]
      omega
    rw [eT2] at hD3
    refine ⟨by show 2 ≤ sizeLine; decide, fun pt nt => ?_⟩
    have hml := made_least (E := D E) hM hB hc
    unfold made at hml
    rw [hO] at hml
    have s08 := (s06.trans s7).trans s8
    have s9 : Same H8 (upd H8 pt (.tup [.ref D1, .ref D3])) := same_new nt
    have n13 : D1 ≠ D3 := fun z => by
      rw [← z, hD1] at nD3
      cases nD3
    have hFl : ((fsts c L).map Prod.snd).length = O.length := by
      have := congrArg List.length eO
      rw [List.length_map] at this
      rw [List.length_map]
      exact this
    refine q _ pt D1 D3 ys _ _ (s08.trans s9) (s08.free nt) (s06.free nD1) ((s06.trans s7).free nD3) n13 ?_ ynd upd_same ?_ ?_ hml.1 ?_ ?_
    · intro y' hy'
      obtain ⟨z1, z2⟩ := ynew y' hy'
      refine ⟨s06.free z1, z2, ?_⟩
      intro z
      obtain ⟨j, hj, ej⟩ := List.mem_iff_getElem.mp hy'
      obtain ⟨s', _, _, hs'⟩ := eF j (by omega)
      have := hrow j y' s' (by rw [List.getElem?_eq_getElem hj, ej]) hs'
      rw [z, nD3] at this
      cases this
    · refine ⟨s9 _ _ (s8 _ _ hD1), by rw [yl, List.length_map]; exact hFl.symm, fun j y' hy' => ?_⟩
      have hj : j < ys.length := (List.getElem?_eq_some_iff.mp hy').1
      obtain ⟨s', _, _, hs'⟩ := eF j (by omega)
      rw [s9 _ _ (s8 _ _ (hrow j y' s' hy' hs'))]
      have er : rowOf (((fsts c L).map Prod.snd).map fun s => (rowOf R s).map fun t => O.idxOf (c t)) j = (rowOf R s').map fun t => O.idxOf (c t) := by
        rw [show rowOf (((fsts c L).map Prod.snd).map fun s => (rowOf R s).map fun t => O.idxOf (c t)) j = (((fsts c L).map Prod.snd).map fun s => (rowOf R s).map fun t => O.idxOf (c t)).getD j [] from rfl, List.getD_eq_getElem?_getD, List.getElem?_map, hs']
        rfl
      rw [er]
    · exact s9 _ _ hD3
    · exact fun w hw => (hml.2 w hw).trans mem_D
    · rw [List.length_map, hFl]
      omega
end
end K16

namespace K16
open PySem PySem.Spec PyProof.Rows L2 Rg Mach
abbrev sTexts : Stmt := topS 28
abbrev sInit : Stmt := inClass sTexts 0
abbrev sSg : Stmt := inClass sTexts 1
abbrev sTab : Stmt := inClass sTexts 2
abbrev sEnd : Stmt := inClass sTexts 3
abbrev sEq : Stmt := inClass sTexts 18
abbrev sRepr : Stmt := inClass sTexts 21
def nInit : List Str := ["self", "signs", "rows", "ends", "state"]
theorem scInit : FnScope nInit ["self", "signs", "rows", "ends"] (defScope sInit) := ⟨rfl, rfl, rfl, by decide +kernel, rfl, by decide +kernel, by decide +kernel⟩
theorem scSg : FnScope ["self"] ["self"] (defScope sSg) := ⟨rfl, rfl, rfl, by decide +kernel, rfl, by decide +kernel, by decide +kernel⟩
def nTab : List Str := ["self", "row"]
theorem scTab : FnScope nTab ["self"] (defScope sTab) := ⟨rfl, rfl, rfl, by decide +kernel, rfl, by decide +kernel, by decide +kernel⟩
theorem scEnd : FnScope ["self"] ["self"] (defScope sEnd) := ⟨rfl, rfl, rfl, by decide +kernel, rfl, by decide +kernel, by decide +kernel⟩
theorem scEq : FnScope ["self", "other"] ["self", "other"] (defScope sEq) := ⟨rfl, rfl, rfl, by decide +kernel, rfl, by decide +kernel, by decide +kernel⟩
theorem scRepr : FnScope ["self"] ["self"] (defScope sRepr) := ⟨rfl, rfl, rfl, by decide +kernel, rfl, by decide +kernel, by decide +kernel⟩
section
variable {P : Program} {w : World} {K : PySem.W.Frag} {mg : Str → Option Value} {base : Heap}
theorem ok_init {f C fS fR fN fM : Addr} {fd fdS fdR fdN fdM : FuncData} {k : Nat} {ds : List Value} (F : Fun K "__init__" "Texts.__init__" sInit f fd) (T : TxC K C)
    (GS : FnOk P w K mg base CX0 k fS fdS ["thing"] spIsSg) (FS : Fun K "is_signs" "is_signs" sIsSg fS fdS) (bS : Binds K fdS ["thing"] []) (gS : mg "is_signs" = some (.ref fS))
    (GR : FnOk P w K mg base CX0 k fR fdR ["wide", "thing"] spAreR) (FR : Fun K "are_rows" "are_rows" sAreR fR fdR) (bR : Binds K fdR ["wide", "thing"] []) (gR : mg "are_rows" = some (.ref fR))
    (GN : FnOk P w K mg base CX0 k fN fdN ["many", "thing"] spIsNum) (FN : Fun K "is_number" "is_number" sIsNum fN fdN) (bN : Binds K fdN ["many", "thing"] []) (gN : mg "is_number" = some (.ref fN))
    (GM : FnOk P w K mg base CX0 k fM fdM ["rows", "ends", "begin"] spLm) (kM : PySem.W.keepIn K (.ref fM) = true) (gM : mg "least_machine" = some (.ref fM)) (vd : Vals [.int 0] ds) (bd : Binds K fdM ["rows", "ends", "begin"] ds)
    (mis : mg "isinstance" = none) (mli : mg "list" = none) (ml : mg "len" = none) (ma : mg "all" = none) :
    FnOk P w K mg base CX0 (k + 1) f fd ["self", "signs", "rows", "ends"] (spInit C) := by
  refine F.ok scInit (fun vs H Q E h => ?_) (fun cdv A outer s H vs Q E hr h => ?_)
  · obtain ⟨p, dx, a, e, z, xs, R, E', rfl, _⟩ := h
    rfl
  · obtain ⟨p, dx, a, e, z, xs, R, E, rfl, hp, hz, hR, hM, h0, hl, he, hE, hEl, q⟩ := h
    refine ⟨_, pss_cons (ps_if (pt_not (pt_val (pe_call GS hr (by rfl) gS FS.kp bS .nil pass0 (pa_cons (pv 1) pa_nil)))) (pss_one ps_never) pss_nil)
      (pss_cons (ps_if (pt_not (pt_val (pe_call GR hr (by rfl) gR FR.kp bR .nil pass0 (pa_cons (pe_callB call_len_str (by rfl) ml bLen (pa_cons (pv 1) pa_nil)) (pa_cons (pv 2) pa_nil))))) (pss_one ps_never) pss_nil)
      (pss_cons (ps_if (pw_or (pt_not (pt_val (pe_callB call_isi (by rfl) mis bIsi (pa_cons (pv 3) (pa_cons (pe_bltn (v := .ty "list") (by rfl) mli bList rfl) pa_nil)))))
          (pw_or1 (pt_not (pt_val (pe_callB (cr_all rfl) (by rfl) ma bAll (pa_cons (pe_lc (own := [("state", 4)]) (g := gName 4) (tt := tYes) (te := tCall spIsNum [] E0 (tCons (tCB (fun xs H Q => ∃ p ys, xs = [V.ref p] ∧ (SqL K H p ys ∨ SqT K H p ys) ∧ Q (V.int (ys.length : Nat)) H) (tCons (tVar 2) tNil)) (tCons (tVar 4) tNil))) rfl scInit.nd (pi_list (pv 3)) (blkOk_by (own := [("state", 4)]) (N := nInit) (sc := defScope sInit) (by decide +kernel))
            (fun _ _ _ _ _ => pg_name (i := 4) scInit.nd rfl (Or.inl rfl)) (fun _ _ _ _ _ => pts_nil) (fun _ _ _ _ _ => pe_call GN hr (by rfl) gN FN.kp bN .nil pass0 (pa_cons (pe_callB call_len_seq (by rfl) ml bLen (pa_cons (pv 2) pa_nil)) (pa_cons (pv 4) pa_nil)))) pa_nil)))))).pt (pss_one ps_never) pss_nil)
      (pss_cons (ps_fld (pv 0) (pv 1) rfl)
      (pss_one (ps_asg (pe_call GM hr (by rfl) gM kM bd vd pass0 (pa_cons (pv 2) (pa_cons (pv 3) pa_nil))) (pg_tup rfl (pgs_cons (pg_fld (pv 0)) (pgs_cons (pg_fld (pv 0)) pgs_nil)))))))), ?_⟩
    have hzl : z.length = z.cps.size := rfl
    have h4 := hz.few
    refine ⟨_, rfl, z, rfl, hz, fun H1 s1 => ⟨true, rfl, ?_⟩⟩
    refine ⟨_, rfl, z, rfl, szBigLe (by omega), _, rfl, z.cps.size, a, xs, R, rfl, hR.same s1, hM, h0, hl, by omega, fun H2 s2 => ⟨true, rfl, ?_⟩⟩
    have s12 := s1.trans s2
    have he2 := s12 _ _ he
    have hR2 := hR.same s12
    refine ⟨_, rfl, _, _, _, _, true, rfl, .ty "list", .base (.lst he2), kit_ty (by decide +kernel), true, rfl, ?_⟩
    refine ⟨_, rfl, e, rfl, ⟨_, SqL.of he2⟩, fun D1 nD1 => ?_⟩
    refine lc_list (K := K) (a := e) (xs := nVs E) (fun i H3 => Same H2 H3 ∧ H3 D1 = some (.lst (List.replicate i (V.bl true)))) ⟨same_new nD1, upd_same⟩ (fun i H3 _ ⟨s3, _⟩ => SqL.of (s3 _ _ he2)) ?_ ?_
    · rintro i v H3 hi ⟨s3, hD⟩
      obtain ⟨t, rfl, ht⟩ := nVs_at hi
      have hil := (List.getElem?_eq_some_iff.mp ht).1
      have htl := hE t (List.mem_of_getElem? ht)
      have hxl := hR2.len
      refine ⟨rfl, ?_⟩
      refine ⟨_, rfl, a, _, rfl, .inl (SqL.of (s3 _ _ hR2.at_)), _, rfl, _, _, rfl, _, hD, by rw [List.length_replicate]; exact szBig (by omega), ?_, ?_⟩
      · intro b o e
        rw [upd_ne (ne_of_none e nD1)]
        exact s3 _ _ e
      · rw [upd_same, decide_eq_true (show (0 : Int) ≤ (t : Int) by omega), decide_eq_true (show (t : Int) < ((xs.map V.ref).length : Nat) by rw [List.length_map]; omega), Bool.and_self, rep_snoc]
    rintro H3 ⟨s3, hD⟩
    refine ⟨D1, List.replicate (nVs E).length true, rfl, SqL.of (by rw [replicate_bl]; exact hD), _, rfl, ?_⟩
    rw [all_true (fun b hb => List.eq_of_mem_replicate hb)]
    have s03 := s12.trans s3
    -- self.its_signs = signs
    have hp3 := s03 _ _ hp
    refine ⟨_, rfl, _, rfl, p, C, dx, [], rfl, hp3, T.cl, T.nS, by show 0 < 1000; decide, ?_⟩
    have k4 : ∀ b o, H b = some o → b ≠ p → (upd H3 p (.ins C dx (putF "its_signs" (.str z) []))) b = some o := fun b o eb hb => by
      rw [upd_ne hb]
      exact s03 _ _ eb
    have hp4 : (upd H3 p (.ins C dx (putF "its_signs" (.str z) []))) p = some (.ins C dx (putF "its_signs" (.str z) [])) := upd_same
    have n4 : ∀ b, (upd H3 p (.ins C dx (putF "its_signs" (.str z) []))) b = none → H b = none := fun b hb => by
      cases e1 : H b with
      | none => rfl
      | some o =>
        by_cases hbp : b = p
        · rw [hbp, hp4] at hb
          cases hb
        · rw [k4 b o e1 hbp] at hb
          cases hb
    generalize (upd H3 p (.ins C dx (putF "its_signs" (.str z) []))) = H4 at k4 hp4 n4
    have hap : a ≠ p := ne_of hR.at_ hp (fun z => by cases z)
    have hep : e ≠ p := ne_of he hp (fun z => by cases z)
    have hR4 : RowsAt H4 a xs R := ⟨k4 _ _ hR.at_ hap, hR.len, fun i x hx => k4 _ _ (hR.row i x hx) (ne_of (hR.row i x hx) hp (fun z => by cases z))⟩
    -- least machine
    refine ⟨_, rfl, _, rfl, a, e, xs, R, z.cps.size, 0, E, rfl, hR4, hM, h0, hl, by omega, k4 _ _ he hep, hEl, fun H5 t pr pe ys R' E' s5 nt nr ne npe ny nd ht hr5 he5 hL hA hll => ?_⟩
    refine ⟨t, _, rfl, SqT.of ht, rfl, _, _, rfl, ?_⟩
    have hp5 := s5 _ _ hp4
    have prp : pr ≠ p := (ne_of_none hp4 nr).symm
    have pep : pe ≠ p := (ne_of_none hp4 ne).symm
    refine ⟨_, rfl, p, C, dx, _, rfl, hp5, T.cl, T.nT, by show 1 < 1000; decide, _, _, rfl, ?_⟩
    refine ⟨_, rfl, p, C, dx, _, rfl, upd_same, T.cl, T.nE, ?_, rfl, ?_⟩
    · show (putF "its_table" (V.ref pr) (putF "its_signs" (V.str z) [])).length < 1000
      have : (putF "its_table" (V.ref pr) (putF "its_signs" (V.str z) [])).length = 2 := by
        show (if ("its_signs" : Str) = "its_table" then [(("its_signs" : Str), V.ref pr)] else (("its_signs" : Str), V.str z) :: putF "its_table" (V.ref pr) []).length = 2
        rw [if_neg tf_st]
        rfl
      omega
    have kk : ∀ b o, H5 b = some o → b ≠ p → (upd (upd H5 p (.ins C dx (putF "its_table" (.ref pr) (putF "its_signs" (.str z) [])))) p (.ins C dx (tfl z pr pe))) b = some o := fun b o eb hb => by
      rw [upd_ne hb, upd_ne hb]
      exact eb
    refine q _ pr pe ys R' E' (fun b o eb hb => kk b o (s5 _ _ (k4 b o eb hb)) hb) ⟨⟨dx, upd_same⟩, ⟨kk _ _ hr5.at_ prp, hr5.len, fun i x hx => kk _ _ (hr5.row i x hx) ?_⟩, kk _ _ he5 pep⟩ (n4 _ nr) (n4 _ ne) npe (fun y hy => ⟨n4 _ (ny y hy).1, (ny y hy).2⟩) nd hL hA hll
    exact (ne_of_none hp4 (ny x (List.mem_of_getElem? hx)).1).symm
theorem ok_sg {f C : Addr} {fd : FuncData} {k : Nat} (F : Fun K "signs" "Texts.signs" sSg f fd) (T : TxC K C) : FnOk P w K mg base CX0 (k + 1) f fd ["self"] (spSg C) := by
  refine F.ok scSg (fun vs H Q E h => ?_) (fun cdv A outer s H vs Q E hr h => ?_)
  · obtain ⟨p, z, t, e, ys, R, E', rfl, _⟩ := h
    rfl
  · obtain ⟨p, z, t, e, ys, R, E, rfl, ⟨⟨dx, ob⟩, _⟩, q⟩ := h
    refine ⟨_, pss_one (ps_ret (pe_fld (pv 0) rfl)), ?_⟩
    exact ⟨_, rfl, p, C, dx, _, _, rfl, ob, T.cl, T.nS, tfl_signs _ _ _, q⟩
theorem ok_tab {f C : Addr} {fd : FuncData} {k : Nat} (F : Fun K "table" "Texts.table" sTab f fd) (T : TxC K C) (mli : mg "list" = none) : FnOk P w K mg base CX0 (k + 1) f fd ["self"] (spTab C) := by
  refine F.ok scTab (fun vs H Q E h => ?_) (fun cdv A outer s H vs Q E hr h => ?_)
  · obtain ⟨p, z, t, e, ys, R, E', rfl, _⟩ := h
    rfl
  · obtain ⟨p, z, t, e, ys, R, E, rfl, ⟨⟨dx, ob⟩, hR, _⟩, hl, q⟩ := h
    have hyl := hR.len
    refine ⟨_, pss_one (ps_ret (pe_lc (own := [("row", 1)]) (g := gName 1) (tt := tYes) (te := tCB (fun xs H Q => ∃ p ys, xs = [V.ref p] ∧ (SqL K H p ys ∨ SqT K H p ys) ∧ ∀ l, H l = none → Q (.ref l) (upd H l (.lst ys))) (tCons (tVar 1) tNil)) rfl scTab.nd (pi_list (pe_fld (pv 0) rfl)) (blkOk_by (own := [("row", 1)]) (N := nTab) (sc := defScope sTab) (by decide +kernel))
      (fun _ _ _ _ _ => pg_name (i := 1) scTab.nd rfl (Or.inl rfl)) (fun _ _ _ _ _ => pts_nil) (fun _ _ _ _ _ => pe_callTy call_list_of (by rfl) mli bList (pa_cons (pv 1) pa_nil)))), ?_⟩
    refine ⟨_, rfl, p, C, dx, _, _, rfl, ob, T.cl, T.nT, tfl_table _ _ _, t, rfl, ⟨_, SqL.of hR.at_⟩, fun D1 nD1 => ?_⟩
    refine lc_list (K := K) (a := t) (xs := ys.map V.ref) (fun i H7 => Same H H7 ∧ ∃ ks : List Addr, ks.length = i ∧ H7 D1 = some (.lst (ks.map V.ref)) ∧ (∀ y ∈ ks, H y = none ∧ y ≠ D1) ∧ ks.Nodup ∧ ∀ (j : Nat) (y : Addr), ks[j]? = some y → H7 y = some (.lst (nVs (rowOf R j))))
      ⟨same_new nD1, [], rfl, by rw [upd_same]; rfl, fun y hy => (nomatch hy), List.nodup_nil, fun j y hy => by simp at hy⟩ (fun i H7 _ ⟨s7, _⟩ => SqL.of (s7 _ _ hR.at_)) ?_ ?_
    · rintro i v H7 hi ⟨s7, ks, kl, hD1, kn, knd, hrow⟩
      rw [List.getElem?_map] at hi
      obtain ⟨x, hx, rfl⟩ := Option.map_eq_some_iff.mp hi
      have hx7 := s7 _ _ (hR.row i x hx)
      have hil := (List.getElem?_eq_some_iff.mp hx).1
      refine ⟨rfl, ?_⟩
      refine ⟨_, rfl, x, _, rfl, .inl (SqL.of hx7), fun y ny => ?_⟩
      have nyD : y ≠ D1 := (ne_of_none hD1 ny).symm
      have nyk : y ∉ ks := fun hy => by
        obtain ⟨j, hj, e⟩ := List.mem_iff_getElem.mp hy
        have := hrow j y (by rw [List.getElem?_eq_getElem hj, e])
        rw [this] at ny
        cases ny
      refine ⟨_, by rw [upd_ne nyD.symm]; exact hD1, by rw [List.length_map]; exact szBig (by omega), ?_, ks ++ [y], by rw [List.length_append, List.length_singleton, kl], ?_, ?_, ?_, ?_⟩
      · intro b' o eb
        rw [upd_ne (ne_of_none eb nD1), upd_ne (ne_of_none (s7 _ _ eb) ny)]
        exact s7 _ _ eb
      · rw [upd_same, List.map_append]
        rfl
      · intro y' hy'
        rcases List.mem_append.mp hy' with z | z
        · exact kn y' z
        · rw [List.mem_singleton] at z
          rw [z]
          exact ⟨s7.free ny, nyD⟩
      · rw [List.nodup_append]
        refine ⟨knd, by simp, fun a ha b hb e => ?_⟩
        rw [List.mem_singleton] at hb
        rw [hb] at e
        rw [e] at ha
        exact nyk ha
      · intro j y' hy'
        by_cases hj : j < ks.length
        · rw [List.getElem?_append_left hj] at hy'
          have h1 := hrow j y' hy'
          rw [upd_ne (kn y' (List.mem_of_getElem? hy')).2, upd_ne (ne_of_none h1 ny)]
          exact h1
        · have hj2 : j = ks.length := by
            have := (List.getElem?_eq_some_iff.mp hy').1
            rw [List.length_append, List.length_singleton] at this
            omega
          rw [hj2, List.getElem?_concat_length] at hy'
          cases hy'
          rw [upd_ne nyD, upd_same, hj2, kl]
    · rintro H7 ⟨s7, ks, kl, hD1, kn, knd, hrow⟩
      rw [List.length_map] at kl
      exact q H7 D1 ks s7 nD1 kn knd ⟨hD1, by omega, hrow⟩
theorem ok_end {f C : Addr} {fd : FuncData} {k : Nat} (F : Fun K "ends" "Texts.ends" sEnd f fd) (T : TxC K C) (mli : mg "list" = none) : FnOk P w K mg base CX0 (k + 1) f fd ["self"] (spEnd C) := by
  refine F.ok scEnd (fun vs H Q E h => ?_) (fun cdv A outer s H vs Q E hr h => ?_)
  · obtain ⟨p, z, t, e, ys, R, E', rfl, _⟩ := h
    rfl
  · obtain ⟨p, z, t, e, ys, R, E, rfl, ⟨⟨dx, ob⟩, hR, he⟩, q⟩ := h
    refine ⟨_, pss_one (ps_ret (pe_callTy call_list_of (by rfl) mli bList (pa_cons (pe_fld (pv 0) rfl) pa_nil))), ?_⟩
    refine ⟨_, rfl, p, C, dx, _, _, rfl, ob, T.cl, T.nE, tfl_ends _ _ _, e, _, rfl, .inl (SqL.of he), fun l nl => ?_⟩
    exact q _ l (same_new nl) nl upd_same
theorem ok_eq {f C : Addr} {fd : FuncData} {k : Nat} (F : Fun K "__eq__" "Texts.__eq__" sEq f fd) (T : TxC K C) (gC : mg "Texts" = some (.ref C)) (mis : mg "isinstance" = none)
    (ha : PySem.W.findIn K (.ref C) "__class__" = some (some (.builtin "object.__class__"))) (hn : PySem.W.specialIn K (.builtin "object.__class__") "__get__" = some (some (.builtin "getset_descriptor.__get__"))) (htk : PySem.W.takesIn K (.builtin "object.__class__") = some true) (hm : PySem.W.mroIn K C (.type "object") = some true)
    (hk : PySem.W.kitOne K (.ref C) (.ref C) = some true) : FnOk P w K mg base CX0 (k + 1) f fd ["self", "other"] (spEq K C) := by
  refine F.ok scEq (fun vs H Q E h => ?_) (fun cdv A outer s H vs Q E hr h => ?_)
  · obtain ⟨p, z, t, e, ys, R, E', y, rfl, _⟩ := h
    rfl
  · obtain ⟨p, z, t, e, ys, R, E, y, rfl, ⟨⟨dx, ob⟩, hR, he⟩, q⟩ := h
    refine ⟨_, pss_cons (ps_if (pw_or (pt_not (pt_val (pe_callB call_isi (by rfl) mis bIsi (pa_cons (pv 1) (pa_cons (pe_glob (v := .ref C) (by rfl) gC rfl) pa_nil)))))
        (pw_or1 (pt_cmpR op_ne (pe_fld (pv 0) rfl) (pe_fld (pv 1) rfl) (nomark _)))).pt (pss_one (ps_ret pe_bl)) pss_nil)
      (pss_one (ps_ret (pe_and (pe_cmpR (op_eqD hr.units) (pe_fld (pv 0) rfl) (pe_fld (pv 1) rfl) (nomark _)) (pe_one (pe_cmpR (op_eqD hr.units) (pe_fld (pv 0) rfl) (pe_fld (pv 1) rfl) (nomark _)))))), ?_⟩
    rcases q with ⟨ty, hty, hk', q⟩ | ⟨p2, z2, t2, e2, ys2, R2, E2, rfl, ⟨⟨dx2, ob2⟩, hR2, he2⟩, q⟩
    · exact ⟨_, rfl, _, _, ty, _, false, rfl, .own C, hty, hk', false, rfl, q⟩
    · refine ⟨_, rfl, _, _, _, _, true, rfl, .own C, .base (.ins ob2 T.cl ha hn htk hm), hk, true, rfl, ?_⟩
      refine ⟨_, rfl, p, C, dx, _, _, rfl, ob, T.cl, T.nS, tfl_signs _ _ _, _, rfl, p2, C, dx2, _, _, rfl, ob2, T.cl, T.nS, tfl_signs _ _ _, rfl, _, rfl, ?_⟩
      by_cases hz : z = z2
      · subst hz
        rw [decide_eq_true rfl, Bool.true_and] at q
        rw [decide_eq_true rfl]
        refine ⟨_, rfl, p, C, dx, _, _, rfl, ob, T.cl, T.nT, tfl_table _ _ _, _, rfl, p2, C, dx2, _, _, rfl, ob2, T.cl, T.nT, tfl_table _ _ _, dRs R, dRs R2, dp_rows hR, dp_rows hR2, shp_dRs _, shp_dRs _, ?_⟩
        rw [eqv_dRs]
        refine ⟨_, rfl, ?_⟩
        by_cases hRR : R = R2
        · rw [decide_eq_true hRR, Bool.true_and] at q
          rw [decide_eq_true hRR]
          refine ⟨_, rfl, p, C, dx, _, _, rfl, ob, T.cl, T.nE, tfl_ends _ _ _, _, rfl, p2, C, dx2, _, _, rfl, ob2, T.cl, T.nE, tfl_ends _ _ _, dNs E, dNs E2, dp_nVs he, dp_nVs he2, shp_dNs _, shp_dNs _, ?_⟩
          rw [eqv_dNs]
          exact q
        · rw [decide_eq_false hRR, Bool.false_and] at q
          rw [decide_eq_false hRR]
          exact q
      · rw [decide_eq_false hz, Bool.false_and] at q
        rw [decide_eq_false (fun y => hz (V.str.inj y))]
        exact q
theorem str_empty_app (x : Str) : Str.empty ++ x = x := by
  show (⟨Str.empty.cps ++ x.cps⟩ : Str) = x
  obtain ⟨c⟩ := x
  show (⟨#[] ++ c⟩ : Str) = ⟨c⟩
  simp
theorem str_app_len (x y : Str) : (x ++ y).length = x.length + y.length := by
  show (x.cps ++ y.cps).size = _
  rw [Array.size_append]
  rfl
theorem ok_repr {f C : Addr} {fd : FuncData} {k : Nat} (F : Fun K "__repr__" "Texts.__repr__" sRepr f fd) (T : TxC K C) : GFn P w K mg base CX0 (k + 1) f fd ["self"] (spRepr C) := by
  refine fun_okG F scRepr (fun vs H Q E h => ?_) (fun cdv A outer s H vs Q E hr hg h => ?_)
  · obtain ⟨p, z, t, e, ys, R, E', rfl, _⟩ := h
    rfl
  · obtain ⟨p, z, t, e, ys, R, E, rfl, ⟨⟨dx, ob⟩, hR, he⟩, hz, gR, gE, q⟩ := h
    refine ⟨_, pss_one (ps_ret (pe_joined (.cons pe_str (.cons (pe_fmtR (pe_fld (pv 0) rfl)) (.cons pe_str (.cons (pe_fmtRD hg hr.units (pe_fld (pv 0) rfl)) (.cons pe_str (.cons (pe_fmtRD hg hr.units (pe_fld (pv 0) rfl)) (.cons pe_str .nil))))))))), ?_⟩
    have l1 := hz.rep
    have l2 := gR.len
    have l3 := gE.len
    have c1 : ("Texts(" : Str).length = 6 := by decide +kernel
    have c2 : (", " : Str).length = 2 := by decide +kernel
    have c3 : (")" : Str).length = 1 := by decide +kernel
    have sl : sizeLine = 16777216 := sizeLine_eq
    refine ⟨_, rfl, by rw [str_app_len, c1]; show 0 + 6 ≤ _; omega, ?_⟩
    rw [str_empty_app]
    refine ⟨_, rfl, p, C, dx, _, _, rfl, ob, T.cl, T.nS, tfl_signs _ _ _, .inl ⟨z, rfl, by omega, _, rfl, by rw [str_app_len, c1]; omega, ?_⟩⟩
    refine ⟨_, rfl, by rw [str_app_len, str_app_len, c1, c2]; omega, ?_⟩
    refine ⟨_, rfl, p, C, dx, _, _, rfl, ob, T.cl, T.nT, tfl_table _ _ _, t, dRs R, rfl, dp_rows hR, gR.shw, gR.nod, Nat.le_trans gR.dep (by decide), by omega, _, rfl, by rw [str_app_len, str_app_len, str_app_len, c1, c2]; omega, ?_⟩
    refine ⟨_, rfl, by rw [str_app_len, str_app_len, str_app_len, str_app_len, c1, c2]; omega, ?_⟩
    refine ⟨_, rfl, p, C, dx, _, _, rfl, ob, T.cl, T.nE, tfl_ends _ _ _, e, dNs E, rfl, dp_nVs he, gE.shw, gE.nod, Nat.le_trans gE.dep (by decide), by omega, _, rfl, by rw [str_app_len, str_app_len, str_app_len, str_app_len, str_app_len, c1, c2]; omega, ?_⟩
    exact ⟨_, rfl, by rw [str_app_len, str_app_len, str_app_len, str_app_len, str_app_len, str_app_len, c1, c2, c3]; omega, q⟩
end
end K16

namespace K16
open PySem PySem.Spec PyProof.Rows L2 Rg Mach
abbrev sCont : Stmt := inClass sTexts 20
abbrev sIsText : Stmt := topS 11
abbrev sBehind : Stmt := topS 29
abbrev sNone : Stmt := topS 37
theorem scCont : FnScope ["self", "thing"] ["self", "thing"] (defScope sCont) := ⟨rfl, rfl, rfl, by decide +kernel, rfl, by decide +kernel, by decide +kernel⟩
def nIsText : List Str := ["signs", "thing", "letter"]
theorem scIsText : FnScope nIsText ["signs", "thing"] (defScope sIsText) := ⟨rfl, rfl, rfl, by decide +kernel, rfl, by decide +kernel, by decide +kernel⟩
theorem scBehind : FnScope ["signs", "rows", "text", "state", "letter"] ["signs", "rows", "text"] (defScope sBehind) := ⟨rfl, rfl, rfl, by decide +kernel, rfl, by decide +kernel, by decide +kernel⟩
theorem scNone : FnScope ["signs"] ["signs"] (defScope sNone) := ⟨rfl, rfl, rfl, by decide +kernel, rfl, by decide +kernel, by decide +kernel⟩
section
variable {P : Program} {w : World} {K : PySem.W.Frag} {mg : Str → Option Value} {base : Heap}
theorem ok_isText {f : Addr} {fd : FuncData} {k : Nat} (F : Fun K "is_text" "is_text" sIsText f fd) (mis : mg "isinstance" = none) (ms : mg "str" = none) (ma : mg "all" = none) :
    FnOk P w K mg base CX0 (k + 1) f fd ["signs", "thing"] spIsText := by
  refine F.ok scIsText (fun vs H Q E h => ?_) (fun cdv A outer s H vs Q E hr h => ?_)
  · obtain ⟨z, x, rfl, _⟩ := h
    rfl
  · obtain ⟨z, x, rfl, hw, hl, q⟩ := h
    refine ⟨_, pss_one (ps_ret (pe_and (pe_callB call_isi (by rfl) mis bIsi (pa_cons (pv 1) (pa_cons (pe_bltn (v := .ty "str") (by rfl) ms bStr rfl) pa_nil)))
      (pe_one (pe_callB (cr_all rfl) (by rfl) ma bAll (pa_cons (pe_lc (own := [("letter", 2)]) (g := gName 2) (tt := tYes) (te := tOp (fun x y H Q => ∃ (c : Nat) (z : Str), x = .str ⟨#[c]⟩ ∧ y = .str z ∧ Q (.bl (decide (c ∈ z.cps.toList))) H) (tVar 2) (tVar 0)) rfl scIsText.nd (pi_str (pv 1)) (blkOk_by (own := [("letter", 2)]) (N := nIsText) (sc := defScope sIsText) (by decide +kernel))
          (fun _ _ _ _ _ => pg_name (i := 2) scIsText.nd rfl (Or.inl rfl)) (fun _ _ _ _ _ => pts_nil) (fun _ _ _ _ _ => pe_cmpR op_in_sign (pv 2) (pv 0) rfl)) pa_nil))))), ?_⟩
    refine ⟨_, rfl, _, _, _, _, true, rfl, .ty "str", .base (.str (txt z x)), kit_ty (by decide +kernel), _, rfl, ?_⟩
    refine ⟨_, rfl, txt z x, rfl, fun D1 nD1 => ?_⟩
    refine lc_str (x := txt z x) (fun i H1 => Same H H1 ∧ H1 D1 = some (.lst (List.replicate i (V.bl true)))) ⟨same_new nD1, upd_same⟩ ?_ ?_
    · rintro i c H1 hc ⟨s1, hD⟩
      have hil : i < x.length := by
        have := (Array.getElem?_eq_some_iff.mp hc).1
        rwa [txt_size] at this
      obtain ⟨k', hk, ek⟩ := txt_at hc
      have hkz := hw k' (List.mem_of_getElem? hk)
      have hcin : c ∈ z.cps.toList := by
        have : c = z.cps.getD k' 0 := by
          unfold one at ek
          injection ek with h1
          have := congrArg Array.toList h1
          simpa using this
        rw [this]
        exact one_mem hkz
      refine ⟨rfl, ?_⟩
      refine ⟨_, rfl, _, rfl, c, z, rfl, rfl, _, hD, by rw [List.length_replicate]; exact szBig (by omega), ?_, ?_⟩
      · intro b o e
        rw [upd_ne (ne_of_none e nD1)]
        exact s1 _ _ e
      · rw [upd_same, decide_eq_true hcin, rep_snoc]
    rintro H1 ⟨s1, hD⟩
    refine ⟨D1, List.replicate (txt z x).cps.size true, rfl, SqL.of (by rw [replicate_bl]; exact hD), ?_⟩
    rw [all_true (fun b hb => List.eq_of_mem_replicate hb)]
    exact q H1 s1
theorem ok_behind {f : Addr} {fd : FuncData} {k : Nat} (F : Fun K "state_behind" "state_behind" sBehind f fd) : FnOk P w K mg base CX0 (k + 1) f fd ["signs", "rows", "text"] spBehind := by
  refine F.ok scBehind (fun vs H Q E h => ?_) (fun cdv A outer s H vs Q E hr h => ?_)
  · obtain ⟨z, a, xs, R, x, rfl, _⟩ := h
    rfl
  · obtain ⟨z, a, xs, R, x, rfl, hix, hR, hM, h0, hw, hl, q⟩ := h
    refine ⟨_, pss_cons (ps_set (i := 3) scBehind.nd rfl (.inl rfl) pe_int) (pss_cons (ps_for PassesOwn.never rfl (pi_str (pv 2)) (pg_name (i := 4) scBehind.nd rfl (.inl rfl))
      (pss_one (ps_set (i := 3) scBehind.nd rfl (.inl rfl) (pe_ix ix_list (pe_ix ix_list (pv 1) (pv 3) (fun _ _ => rfl)) (pe_bm PySem.F.plainAttrs_str PySem.F.slot_str_index PySem.F.type_str_index mt_sindex (pv 0) (pa_cons (pv 4) pa_nil)) (fun _ _ => rfl)))))
      (pss_one (ps_ret (pv 3)))), ?_⟩
    refine ⟨_, rfl, _, rfl, ?_⟩
    refine for_it (walk_str (z := txt z x)) (fun i σ H1 => H1 = H ∧ ∃ le : Option V, σ = [some (.str z), some (.ref a), some (.str (txt z x)), some (nV (runM R 0 (x.take i))), le]) ⟨rfl, none, rfl⟩ (fun _ _ _ _ _ => trivial) ?_ ?_
    · rintro i v σ H1 H1' hi ⟨rfl, le, rfl⟩ ⟨rfl, c, hc, rfl⟩
      obtain ⟨k', hk, ek⟩ := txt_at hc
      have hkz := hw k' (List.mem_of_getElem? hk)
      obtain ⟨rest, hoc⟩ := hix k' hkz
      have hlt := runM_lt hM h0 (w := x.take i) (fun j hj => hw j (List.mem_of_mem_take hj))
      obtain ⟨y, hy1, hy2⟩ := hR.get hlt
      have hrow : (rowOf R (runM R 0 (x.take i)))[k']? = some (Mach.dl R (runM R 0 (x.take i)) k') := by
        have h1 : k' < (rowOf R (runM R 0 (x.take i))).length := by rw [hM.wide _ hlt]; exact hkz
        unfold Mach.dl
        rw [List.getD_eq_getElem?_getD, List.getElem?_eq_getElem h1]
        rfl
      refine ⟨_, rfl, _, rfl, a, _, _, _, rfl, rfl, SqL.of hR.at_, atI_nat hy1, _, rfl, rfl, _, rfl, z, ⟨#[c]⟩, k', rest, rfl, rfl, by rw [ek]; exact hoc, y, _, _, _, rfl, rfl, SqL.of hy2, atI_nat (nVs_get hrow), rfl, some (.str ⟨#[c]⟩), ?_⟩
      rw [take_snoc hk, runM_append]
      rfl
    · rintro σ H1 ⟨rfl, le, rfl⟩
      rw [txt_size, List.take_length]
      exact ⟨_, rfl, q⟩
theorem ok_cont {f C fT fB : Addr} {fd fdT fdB : FuncData} {k : Nat} (F : Fun K "__contains__" "Texts.__contains__" sCont f fd) (T : TxC K C)
    (GT : FnOk P w K mg base CX0 k fT fdT ["signs", "thing"] spIsText) (FT : Fun K "is_text" "is_text" sIsText fT fdT) (bT : Binds K fdT ["signs", "thing"] []) (gT : mg "is_text" = some (.ref fT))
    (GB : FnOk P w K mg base CX0 k fB fdB ["signs", "rows", "text"] spBehind) (FB : Fun K "state_behind" "state_behind" sBehind fB fdB) (bB : Binds K fdB ["signs", "rows", "text"] []) (gB : mg "state_behind" = some (.ref fB)) :
    FnOk P w K mg base CX0 (k + 1) f fd ["self", "thing"] (spIn C) := by
  refine F.ok scCont (fun vs H Q E h => ?_) (fun cdv A outer s H vs Q E hr h => ?_)
  · obtain ⟨p, z, m, L, x, rfl, _⟩ := h
    rfl
  · obtain ⟨p, z, m, L, x, rfl, hix, ⟨t1, e1, ys1, R, E, ⟨⟨dx, ob⟩, hR, hE⟩, hL1, hg1, hm1⟩, hw, hl, q⟩ := h
    refine ⟨_, pss_cons (ps_if (pt_not (pt_val (pe_call GT hr (by rfl) gT FT.kp bT .nil pass0 (pa_cons (pe_fld (pv 0) rfl) (pa_cons (pv 1) pa_nil))))) (pss_one (ps_ret pe_bl)) pss_nil)
      (pss_one (ps_ret (pe_cmpR op_in_seq (pe_call GB hr (by rfl) gB FB.kp bB .nil pass0 (pa_cons (pe_fld (pv 0) rfl) (pa_cons (pe_fld (pv 0) rfl) (pa_cons (pv 1) pa_nil)))) (pe_fld (pv 0) rfl) (by rfl)))), ?_⟩
    refine ⟨_, rfl, p, C, dx, _, _, rfl, ob, T.cl, T.nS, tfl_signs _ _ _, _, rfl, z, x, rfl, hw, hl, fun H1 s1 => ⟨true, rfl, ?_⟩⟩
    refine ⟨_, rfl, p, C, dx, _, _, rfl, s1 _ _ ob, T.cl, T.nS, tfl_signs _ _ _, _, rfl, p, C, dx, _, _, rfl, s1 _ _ ob, T.cl, T.nT, tfl_table _ _ _, _, rfl, z, t1, ys1, R, x, rfl, hix, hR.same s1, hL1.ok, hL1.ne, hw, hl, ?_⟩
    refine ⟨_, rfl, p, C, dx, _, _, rfl, s1 _ _ ob, T.cl, T.nE, tfl_ends _ _ _, e1, _, rfl, .inl (SqL.of (s1 _ _ hE)), rfl, flat_nVs _, ?_⟩
    rw [if_neg Bool.false_ne_true, inV_nVs, hg1 x hw]
    exact q H1 s1
theorem ok_none {f C fI : Addr} {fd fdI : FuncData} {k : Nat} (F : Fun K "none" "none" sNone f fd) (M : Mk K C fI) (gC : mg "Texts" = some (.ref C))
    (GI : FnOk P w K mg base CX0 k fI fdI ["self", "signs", "rows", "ends"] (spInit C)) (bI : Binds K fdI ["self", "signs", "rows", "ends"] []) (ml : mg "len" = none) :
    FnOk P w K mg base CX0 (k + 2) f fd ["signs"] (spEvery C false) := by
  refine F.ok scNone (fun vs H Q E h => ?_) (fun cdv A outer s H vs Q E hr h => ?_)
  · obtain ⟨z, rfl, _⟩ := h
    rfl
  · obtain ⟨z, rfl, hz, post⟩ := h
    refine ⟨_, pss_one (ps_ret (pe_make M GI hr (by rfl) gC bI .nil pass0 (pa_cons (pv 0) (pa_cons (pe_lst (pa_cons (pe_op op_rep (pe_lst (pa_cons pe_int pa_nil)) (pe_callB call_len_str (by rfl) ml bLen (pa_cons (pv 0) pa_nil))) pa_nil)) (pa_cons (pe_lst pa_nil) pa_nil))))), ?_⟩
    have hzl : z.length = z.cps.size := rfl
    have h4 := hz.few
    refine ⟨_, rfl, by show 1 ≤ sizeLine; decide, fun p1 n1 => ?_⟩
    refine ⟨_, rfl, z, rfl, szBigLe (by omega), p1, (z.length : Int), _, rfl, rfl, upd_same, by omega, by omega, by rw [Int.toNat_natCast]; exact szBigLe (by show 1 * z.length ≤ 100000; omega), fun p2 n2 => ?_⟩
    rw [Int.toNat_natCast, show ([V.int 0] : List V) = [nV 0] from rfl, rep_nVs]
    refine ⟨by show 1 ≤ sizeLine; decide, fun p3 n3 => ?_⟩
    refine ⟨by show 0 ≤ sizeLine; decide, fun p4 n4 => ?_⟩
    have s4 : Same H (upd (upd (upd (upd H p1 (.lst [nV 0])) p2 (.lst (nVs (List.replicate z.length 0)))) p3 (.lst [.ref p2])) p4 (.lst [])) := (((same_new n1).trans (same_new n2)).trans (same_new n3)).trans (same_new n4)
    have h2 : (upd (upd (upd (upd H p1 (.lst [nV 0])) p2 (.lst (nVs (List.replicate z.length 0)))) p3 (.lst [.ref p2])) p4 (.lst [])) p2 = some (.lst (nVs (List.replicate z.length 0))) := same_new n4 _ _ (same_new n3 _ _ upd_same)
    have h3 : (upd (upd (upd (upd H p1 (.lst [nV 0])) p2 (.lst (nVs (List.replicate z.length 0)))) p3 (.lst [.ref p2])) p4 (.lst [])) p3 = some (.lst [.ref p2]) := same_new n4 _ _ upd_same
    have h5 : (upd (upd (upd (upd H p1 (.lst [nV 0])) p2 (.lst (nVs (List.replicate z.length 0)))) p3 (.lst [.ref p2])) p4 (.lst [])) p4 = some (.lst (nVs [])) := upd_same
    intro x dx nx ndx nex
    have s1 := upd_mk (C := C) nx ndx nex
    refine ⟨x, dx, p3, p4, z, [p2], [List.replicate z.length 0], [], rfl, upd_same, hz, (rows_mk h3 (.cons h2 .nil)).same s1, every_mok _, by show 0 < 1; decide, by show 1 ≤ 4000; decide, s1 _ _ h5, (fun y hy => nomatch hy), by show 0 ≤ 4000; decide,
      fun H' t e' ys R' E' kp hT nt ne' _ ny nd hL hA hll => ⟨rfl, ?_⟩⟩
    exact post H' x (fun b o eb => kp b o (s1 _ _ (s4 _ _ eb)) (ne_of_none (s4 _ _ eb) nx)) ⟨t, e', ys, R', E', hT, hL, lg_alk (lg_none _) hA, hll⟩
end
end K16

/-! hashes of pairs with the same first number are distinct -/
namespace Rg
open PySem PySem.Spec PyProof.Rows L2 Mach
theorem hashInt_nat {p : Nat} (h : p < 1000) : hashInt (p : Int) = p := by
  have h1 : rawHash (p : Int) = p := by
    unfold rawHash
    have h2 : p % (2 ^ 61 - 1) = p := Nat.mod_eq_of_lt (by omega)
    have h3 : ((p : Int).natAbs : Int) % ((2 ^ 61 - 1 : Nat) : Int) = (p : Int) := by
      rw [Int.natAbs_natCast]; omega
    simp only [h3]
    rw [if_neg (show ¬ ((p : Int) < 0) by omega), if_neg (by simp)]
  unfold hashInt
  rw [h1, if_neg (by simp)]
def hSt (m p1 p2 : Nat) (acc : Nat) (h : Int) : Nat := (((((acc + (h % (m : Int)).toNat * p2) % m) * 2 ^ 31) % m + ((acc + (h % (m : Int)).toNat * p2) % m) / 2 ^ 33) * p1) % m
def hCt (m : Nat) (acc : Nat) : Int := if acc == m - 1 then 1546275796 else if acc < 2 ^ 63 then acc else (acc : Int) - m
def hTt (m p1 p2 p5 : Nat) (hs : List Int) : Int := hCt m ((hs.foldl (hSt m p1 p2) p5 + (hs.length ^^^ (p5 ^^^ 3527539))) % m)
theorem th_is (hs : List Int) : Builtin.Tuple.tupleHashOf hs = hTt (2 ^ 64) 11400714785074694791 14029467366897019727 2870177450012600261 hs := by
  rfl
theorem th_two (m p1 p2 p5 : Nat) (a b : Int) : hTt m p1 p2 p5 [a, b] = hCt m ((hSt m p1 p2 (hSt m p1 p2 p5 a) b + (2 ^^^ (p5 ^^^ 3527539))) % m) := by
  have h : [a, b].length = 2 := rfl
  unfold hTt
  rw [h, List.foldl_cons, List.foldl_cons, List.foldl_nil]
def hAm (m p2 acc h : Nat) : Nat := (acc + h * p2) % m
def hRm (m a : Nat) : Nat := (a * 2 ^ 31) % m + a / 2 ^ 33
def hSn (m p1 p2 : Nat) (acc h : Nat) : Nat := (hRm m (hAm m p2 acc h) * p1) % m
def hFm (m p1 p2 p5 p q : Nat) : Nat := (hSn m p1 p2 (hSn m p1 p2 p5 p) q + (2 ^^^ (p5 ^^^ 3527539))) % m
theorem hSt_of {m p1 p2 acc x : Nat} (hx : ((x : Int) % (m : Int)).toNat = x) : hSt m p1 p2 acc (x : Int) = hSn m p1 p2 acc x := by
  unfold hSt hSn hRm hAm
  rw [hx]
theorem toNat_small {x : Nat} (hx : x < 1000) : (((x : Int) % ((2 ^ 64 : Nat) : Int)).toNat) = x := by omega
theorem th_nat {m p1 p2 p5 p q : Nat} (hp : ((p : Int) % (m : Int)).toNat = p) (hq : ((q : Int) % (m : Int)).toNat = q) : hTt m p1 p2 p5 [(p : Int), (q : Int)] = hCt m (hFm m p1 p2 p5 p q) := by
  rw [th_two, hSt_of hp, hSt_of hq, hFm]
def hF (p q : Nat) : Nat := hFm (2 ^ 64) 11400714785074694791 14029467366897019727 2870177450012600261 p q
theorem hs2_is {p q : Nat} (hp : p < 1000) (hq : q < 1000) : hs2 p q = reduceHash (hCt (2 ^ 64) (hF p q)) := by
  unfold hs2 hF
  rw [hashInt_nat hp, hashInt_nat hq, th_is, th_nat (toNat_small hp) (toNat_small hq)]
theorem mul_inj {m c d x y : Nat} (hcd : c * d % m = 1) (hx : x < m) (hy : y < m) (h : x * c % m = y * c % m) : x = y := by
  have key : ∀ z, z < m → (z * c % m) * d % m = z := fun z hz => by
    rw [Nat.mod_mul_mod, Nat.mul_assoc, Nat.mul_mod, hcd, Nat.mul_one, Nat.mod_mod, Nat.mod_eq_of_lt hz]
  rw [← key x hx, ← key y hy, h]
theorem add_inj (a X Y : Nat) (h : (a + X) % 2 ^ 64 = (a + Y) % 2 ^ 64) : X % 2 ^ 64 = Y % 2 ^ 64 := by omega
theorem inv1 : 14029467366897019727 * 839798700976720815 % 2 ^ 64 = 1 := by decide +kernel
theorem inv2 : 11400714785074694791 * 614540362697595703 % 2 ^ 64 = 1 := by decide +kernel
theorem small {x : Nat} (h : x < 1000) : x < 2 ^ 64 := by omega
theorem hA_inj {p2 d a x y : Nat} (hd : p2 * d % 2 ^ 64 = 1) (hx : x < 1000) (hy : y < 1000) (h : hAm (2 ^ 64) p2 a x = hAm (2 ^ 64) p2 a y) : x = y :=
  mul_inj hd (small hx) (small hy) (add_inj _ _ _ h)
theorem hR_lt {a : Nat} (h : a < 2 ^ 64) : hRm (2 ^ 64) a < 2 ^ 64 := by
  unfold hRm
  omega
theorem hR_is (a : Nat) : hRm (2 ^ 64) a = a % 2 ^ 33 * 2 ^ 31 + a / 2 ^ 33 := by
  unfold hRm
  rw [show (2 : Nat) ^ 64 = 2 ^ 33 * 2 ^ 31 from by decide +kernel, Nat.mul_mod_mul_right]
theorem hR_inj {a b : Nat} (ha : a < 2 ^ 64) (hb : b < 2 ^ 64) (h : hRm (2 ^ 64) a = hRm (2 ^ 64) b) : a = b := by
  rw [hR_is, hR_is] at h
  have e64 : (2 : Nat) ^ 33 * 2 ^ 31 = 2 ^ 64 := by decide +kernel
  have a1 : a % 2 ^ 33 < 2 ^ 33 := Nat.mod_lt _ (by decide)
  have b1 : b % 2 ^ 33 < 2 ^ 33 := Nat.mod_lt _ (by decide)
  have a2 : a / 2 ^ 33 < 2 ^ 31 := Nat.div_lt_of_lt_mul (by rw [e64]; exact ha)
  have b2 : b / 2 ^ 33 < 2 ^ 31 := Nat.div_lt_of_lt_mul (by rw [e64]; exact hb)
  have a3 := Nat.div_add_mod a (2 ^ 33)
  have b3 := Nat.div_add_mod b (2 ^ 33)
  clear ha hb e64
  generalize a % 2 ^ 33 = u at *
  generalize b % 2 ^ 33 = u' at *
  generalize a / 2 ^ 33 = v at *
  generalize b / 2 ^ 33 = v' at *
  have e1 : u = u' := by omega
  have e2 : v = v' := by omega
  rw [← a3, ← b3, e1, e2]
theorem hA_lt (p2 a x : Nat) : hAm (2 ^ 64) p2 a x < 2 ^ 64 := Nat.mod_lt _ (by decide)
theorem hS_lt (p1 p2 a x : Nat) : hSn (2 ^ 64) p1 p2 a x < 2 ^ 64 := Nat.mod_lt _ (by decide)
theorem add_inj' {X Y c : Nat} (hX : X < 2 ^ 64) (hY : Y < 2 ^ 64) (h : (X + c) % 2 ^ 64 = (Y + c) % 2 ^ 64) : X = Y := by omega
theorem hF_inj' {p1 p2 p5 d1 d2 p x y : Nat} (h1 : p1 * d1 % 2 ^ 64 = 1) (h2 : p2 * d2 % 2 ^ 64 = 1) (hx : x < 1000) (hy : y < 1000) (h : hFm (2 ^ 64) p1 p2 p5 p x = hFm (2 ^ 64) p1 p2 p5 p y) : x = y :=
  hA_inj h2 hx hy (hR_inj (hA_lt _ _ _) (hA_lt _ _ _) (mul_inj h1 (hR_lt (hA_lt _ _ _)) (hR_lt (hA_lt _ _ _)) (add_inj' (hS_lt _ _ _ _) (hS_lt _ _ _ _) h)))
theorem hF_inj {p x y : Nat} (hx : x < 1000) (hy : y < 1000) (h : hF p x = hF p y) : x = y := by
  unfold hF at h
  exact hF_inj' inv2 inv1 hx hy h
def hsNe (n : Nat) : Bool := (List.range n).all fun p => (List.range n).all fun q => Nat.blt (hF p q) (2 ^ 64 - 1)
theorem hs_ne : hsNe 200 = true := by decide +kernel
theorem hF_ne {p q : Nat} (hp : p < 200) (hq : q < 200) : hF p q < 2 ^ 64 - 1 := by
  have h0 := hs_ne
  generalize hf : hF = f at h0 ⊢
  unfold hsNe at h0
  rw [hf] at h0
  have h1 := List.all_eq_true.mp (List.all_eq_true.mp h0 p (List.mem_range.mpr hp)) q (List.mem_range.mpr hq)
  exact Nat.blt_eq.mp h1
theorem hC_is (a : Nat) (ha : a < 2 ^ 64 - 1) : reduceHash (hCt (2 ^ 64) a) = if a < 2 ^ 63 then (a : Int) else (a : Int) - (2 ^ 64 : Nat) := by
  unfold hCt
  rw [if_neg (by simp only [beq_iff_eq]; omega)]
  generalize hz : (if a < 2 ^ 63 then (a : Int) else (a : Int) - (2 ^ 64 : Nat)) = z
  have h1 : -(2 ^ 63 : Int) ≤ z ∧ z < 2 ^ 63 ∧ z ≠ -1 := by split at hz <;> omega
  unfold reduceHash
  rw [if_pos (by rw [decide_eq_true h1.1, decide_eq_true h1.2.1]; rfl), if_neg (by simp only [beq_iff_eq]; exact h1.2.2)]
theorem hC_inj {a b : Nat} (ha : a < 2 ^ 64 - 1) (hb : b < 2 ^ 64 - 1) (h : reduceHash (hCt (2 ^ 64) a) = reduceHash (hCt (2 ^ 64) b)) : a = b := by
  rw [hC_is a ha, hC_is b hb] at h
  split at h <;> split at h <;> omega
theorem hs_injN {p a b : Nat} (hp : p < 200) (ha : a < 200) (hb : b < 200) (h : hs2 p a = hs2 p b) : a = b := by
  rw [hs2_is (by omega) (by omega), hs2_is (by omega) (by omega)] at h
  exact hF_inj (p := p) (by omega) (by omega) (hC_inj (hF_ne hp ha) (hF_ne hp hb) h)
theorem hs_nodupN {p : Nat} (hp : p < 200) : ∀ (M : List Nat), M.Nodup → (∀ q ∈ M, q < 200) → (M.map fun q => hs2 p q).Nodup
  | [], _, _ => List.nodup_nil
  | a :: M, hn, hM => by
    rw [List.nodup_cons] at hn
    rw [List.map_cons, List.nodup_cons]
    refine ⟨fun z => ?_, hs_nodupN hp M hn.2 fun q hq => hM q (List.mem_cons_of_mem _ hq)⟩
    obtain ⟨b, hb, eb⟩ := List.mem_map.mp z
    have := hs_injN hp (hM b (List.mem_cons_of_mem _ hb)) (hM a List.mem_cons_self) eb
    exact hn.1 (by rw [← this]; exact hb)
theorem hs_tON {p : Nat} (hp : p < 200) {M : List Nat} (hn : M.Nodup) (hM : ∀ q ∈ M, q < 200) (P : Program) (w : World) :
    ((tO (M.map fun q => (p, q))).map fun x => (tupleKind (mixKind P w)).hash x.1).Nodup := by
  rw [tO_map, hs_list]
  exact hs_nodupN hp M hn hM
end Rg

namespace Rg
open PySem PySem.Spec PyProof.Rows L2 Mach
/-- the least machine, as the law makes it -/
def spLeast : Sp := fun vs H Q _ => ∃ (a e : Addr) (xs : List Addr) (R : List (List Nat)) (n : Nat) (E : List Nat), vs = [.ref a, .ref e] ∧ RowsAt H a xs R ∧ Mok n R ∧ 0 < R.length ∧ R.length ≤ 192 ∧ n ≤ 100 ∧
  H e = some (.lst (nVs E)) ∧ E.length ≤ 4000 ∧
  ∀ (H' : Hp) (t p e' : Addr) (ys : List Addr) (R' : List (List Nat)) (E' : List Nat), Same H H' → H t = none → H p = none → H e' = none → (∀ y ∈ ys, H y = none) → H' t = some (.tup [.ref p, .ref e']) → RowsAt H' p ys R' → H' e' = some (.lst (nVs E')) →
    Least n R' E' → Alk n R' E' 0 R E 0 → R'.length ≤ R.length → Q (.ref t) H'
end Rg
namespace K16
open PySem PySem.Spec PyProof.Rows L2 Rg Mach
abbrev sLs : Stmt := topS 48
def nLs : List Str := ["_law_rows", "_law_ends", "_law_met", "_law_at", "_law_apart", "_law_grown", "_law_p", "_law_q", "_law_led_here", "_law_firsts", "_law_number", "_law_state", "_law_same", "_law_there", "_law_one", "_law_k"]
theorem scLs : FnScope nLs ["_law_rows", "_law_ends"] (defScope sLs) := ⟨rfl, rfl, rfl, by decide +kernel, rfl, by decide +kernel, by decide +kernel⟩
def scLsOut : Scope := match (defBody sLs).getD 7 (.Pass ⟨0, 0, 0, 0⟩) with
  | .Return (some (.Tuple ((.ListComp _ _ sc _) :: _) _ _)) _ => sc
  | _ => defScope sLs
section
variable {P : Program} {w : World} {K : PySem.W.Frag} {mg : Str → Option Value} {base : Heap}
theorem ok_least {f : Addr} {fd : FuncData} {k : Nat} (F : Fun K "_law_least" "_law_least" sLs f fd) (ml : mg "len" = none) (md : mg "dict" = none) (mr : mg "range" = none) :
    FnOk P w K mg base CX0 (k + 1) f fd ["_law_rows", "_law_ends"] spLeast := by
  refine F.ok scLs (fun vs H Q E h => ?_) (fun cdv A outer s H vs Q E hr h => ?_)
  · obtain ⟨a, e, xs, R, n, E', rfl, _⟩ := h
    rfl
  · obtain ⟨a, e, xs, R, n, E, rfl, hR, hM, hR0, hsz, hn, he, hel, q⟩ := h
    have hu := hu_of hr
    refine ⟨_, pss_cons (ps_asg (pe_tup (pa_cons (pe_lst (pa_cons pe_int pa_nil)) (pa_cons pe_int pa_nil))) (pg_tup rfl (pgs_cons (pg_name (i := 2) scLs.nd rfl (.inr rfl)) (pgs_cons (pg_name (i := 3) scLs.nd rfl (.inl rfl)) pgs_nil))))
      (pss_cons (ps_while PassesOwn.never (pt_cmpR op_lt (pv 3) (pe_callB call_len_seq (by rfl) ml bLen (pa_cons (pv 2) pa_nil)) (nomark _))
        (pss_cons (ps_set (i := 2) scLs.nd rfl (.inr rfl) (pe_op op_cat (pv 2) (pe_lc (own := [("_law_there", 13)]) (g := gName 13) (tt := tTest (tOp (rIn K true) (tVar 13) (tVar 2))) rfl scLs.nd
            (pi_keysNew (pe_callTy (call_dictP rfl) (by rfl) md bDict (pa_cons (pe_lc (own := [("_law_one", 14)]) (g := gName 14) (tt := tYes) rfl scLs.nd (pi_list (pe_ix ix_list (pv 0) (pe_ix ix_list (pv 2) (pv 3) (fun _ _ => rfl)) (fun _ _ => rfl))) (blkOk_by (own := [("_law_one", 14)]) (N := nLs) (sc := defScope sLs) (by decide +kernel))
                (fun _ _ _ _ _ => pg_name (i := 14) scLs.nd rfl (Or.inl rfl)) (fun _ _ _ _ _ => pts_nil) (fun _ _ _ _ _ => pe_tup (pa_cons (pv 14) (pa_cons pe_bl pa_nil)))) pa_nil)))
            (blkOk_by (own := [("_law_there", 13)]) (N := nLs) (sc := defScope sLs) (by decide +kernel)) (fun _ _ _ _ _ => pg_name (i := 13) scLs.nd rfl (Or.inl rfl)) (fun _ _ _ _ _ => pts_one (pt_cmpR op_notIn_seq (pv 13) (pv 2) rfl)) (fun _ _ _ _ _ => pv 13))))
        (pss_one (ps_aug (i := 3) scLs.nd rfl (.inl rfl) pe_int ip_add))))
      (pss_cons (ps_asg (pe_tup (pa_cons pe_dnewT (pa_cons pe_bl pa_nil))) (pg_tup rfl (pgs_cons (pg_name (i := 4) scLs.nd rfl (.inr rfl)) (pgs_cons (pg_name (i := 5) scLs.nd rfl (.inl rfl)) pgs_nil))))
      (pss_cons (ps_for PassesOwn.never rfl (pi_list (pv 2)) (pg_name (i := 6) scLs.nd rfl (.inr rfl)) (pss_one (ps_expr (pe_bm PySem.F.plainAttrs_dict PySem.F.slot_dict_update PySem.F.type_dict_update (mt_updateT hr.units) (pv 4) (pa_cons
          (pe_callTy (call_dictT rfl hr.units) (by rfl) md bDict (pa_cons (pe_lc (own := [("_law_q", 7)]) (g := gName 7) (tt := tTest (tOp rNe (tOp (rIn K false) (tVar 6) (tVar 1)) (tOp (rIn K false) (tVar 7) (tVar 1)))) rfl scLs.nd (pi_list (pv 2)) (blkOk_by (own := [("_law_q", 7)]) (N := nLs) (sc := defScope sLs) (by decide +kernel))
            (fun _ _ _ _ _ => pg_name (i := 7) scLs.nd rfl (Or.inl rfl)) (fun _ _ _ _ _ => pts_one (pt_cmpR op_ne (pe_cmpR op_in_seq (pv 6) (pv 1) rfl) (pe_cmpR op_in_seq (pv 7) (pv 1) rfl) (nomark _)))
            (fun _ _ _ _ _ => pe_tup (pa_cons (pe_tup (pa_cons (pv 6) (pa_cons (pv 7) pa_nil))) (pa_cons pe_bl pa_nil)))) pa_nil)) pa_nil)))))
      (pss_cons (ps_while PassesOwn.never (pt_val (pv 5)) (pss_cons (ps_set (i := 5) scLs.nd rfl (.inl rfl) pe_bl)
        (pss_one (ps_for PassesOwn.never rfl (pi_list (pv 2)) (pg_name (i := 6) scLs.nd rfl (.inr rfl)) (pss_one (ps_for PassesOwn.never rfl (pi_list (pv 2)) (pg_name (i := 7) scLs.nd rfl (.inr rfl))
          (pss_cons (ps_setLc (i := 8) (own := [("_law_k", 15)]) (g := gName 15) (tt := tB (tDIn (tTup (tCons (tOp (rIxL K) (tOp (rIxL K) (tVar 0) (tVar 6)) (tVar 15)) (tCons (tOp (rIxL K) (tOp (rIxL K) (tVar 0) (tVar 7)) (tVar 15)) tNil))) (tVar 4))) rfl scLs.nd rfl rfl (sw_true rfl rfl rfl (by decide +kernel))
              (pi_range1 (by rfl) mr (pa_cons (pe_callB call_len_seq (by rfl) ml bLen (pa_cons (pe_ix ix_list (pv 0) (pv 6) (fun _ _ => rfl)) pa_nil)) pa_nil)) (blkOk_by (own := [("_law_k", 15)]) (N := nLs) (sc := defScope sLs) (by decide +kernel))
              (fun _ _ _ _ _ => pg_name (i := 15) scLs.nd rfl (Or.inl rfl))
              (fun _ _ _ _ _ => pts_one (pt_cmp (pc_din hu (pe_tup (pa_cons (pe_ix ix_list (pe_ix ix_list (pv 0) (pv 6) (fun _ _ => rfl)) (pv 15) (fun _ _ => rfl)) (pa_cons (pe_ix ix_list (pe_ix ix_list (pv 0) (pv 7) (fun _ _ => rfl)) (pv 15) (fun _ _ => rfl)) pa_nil))) (pv 4)))) (fun _ _ _ _ _ => pv 15))
          (pss_one (ps_if (pw_and (pt_cmp (pc_dnotin hu (pe_tup (pa_cons (pv 6) (pa_cons (pv 7) pa_nil))) (pv 4))) (pw_and1 (pt_cmpR (op_neD hr.units) (pv 8) (pe_lst pa_nil) (nomark _)))).pt
            (pss_one (ps_asg (pe_tup (pa_cons pe_bl (pa_cons pe_bl pa_nil))) (pg_tup rfl (pgs_cons (pg_sub (pv 4) (pe_tup (pa_cons (pv 6) (pa_cons (pv 7) pa_nil))) (set_dict hu)) (pgs_cons (pg_name (i := 5) scLs.nd rfl (.inl rfl)) pgs_nil))))) pss_nil)))))))))
      (pss_cons (ps_asg (pe_tup (pa_cons (pe_lst pa_nil) (pa_cons pe_dnewK pa_nil))) (pg_tup rfl (pgs_cons (pg_name (i := 9) scLs.nd rfl (.inr rfl)) (pgs_cons (pg_name (i := 10) scLs.nd rfl (.inr rfl)) pgs_nil))))
      (pss_cons (ps_for PassesOwn.never rfl (pi_list (pv 2)) (pg_name (i := 11) scLs.nd rfl (.inr rfl))
        (pss_cons (ps_setLc (i := 12) (own := [("_law_k", 15)]) (g := gName 15) (tt := tB (tDNotIn (tTup (tCons (tOp (rIxL K) (tVar 9) (tVar 15)) (tCons (tVar 11) tNil))) (tVar 4))) rfl scLs.nd rfl rfl (sw_true rfl rfl rfl (by decide +kernel))
              (pi_range1 (by rfl) mr (pa_cons (pe_callB call_len_seq (by rfl) ml bLen (pa_cons (pv 9) pa_nil)) pa_nil)) (blkOk_by (own := [("_law_k", 15)]) (N := nLs) (sc := defScope sLs) (by decide +kernel))
              (fun _ _ _ _ _ => pg_name (i := 15) scLs.nd rfl (Or.inl rfl))
              (fun _ _ _ _ _ => pts_one (pt_cmp (pc_dnotin hu (pe_tup (pa_cons (pe_ix ix_list (pv 9) (pv 15) (fun _ _ => rfl)) (pa_cons (pv 11) pa_nil))) (pv 4)))) (fun _ _ _ _ _ => pv 15))
        (pss_cons (ps_dput hu (pv 10) (pv 11) (pe_ifExp (pt_cmpR (op_neD hr.units) (pv 12) (pe_lst pa_nil) (nomark _)) (pe_ix ix_list (pv 12) pe_int (fun _ _ => rfl)) (pe_callB call_len_seq (by rfl) ml bLen (pa_cons (pv 9) pa_nil))) rfl)
        (pss_one (ps_if (pt_cmpR (op_eqD hr.units) (pv 12) (pe_lst pa_nil) (nomark _)) (pss_one (ps_expr (pe_bm PySem.F.plainAttrs_list PySem.F.slot_list_append PySem.F.type_list_append mt_append (pv 9) (pa_cons (pv 11) pa_nil)))) pss_nil)))))
      (pss_one (ps_ret (pe_tup (pa_cons (pe_lc (own := [("_law_one", 14)]) (g := gName 14) (tt := tYes) (te := tLc (iList K (tOp (rIxL K) (tVar 0) (tVar 14))) (gName 13) tYes (tDGet (tVar 10) (tVar 13)) [13]) rfl scLs.nd (pi_list (pv 9)) (blkOk_by (own := [("_law_one", 14)]) (N := nLs) (sc := defScope sLs) (by decide +kernel))
            (fun _ _ _ _ _ => pg_name (i := 14) scLs.nd rfl (Or.inl rfl)) (fun _ _ _ _ _ => pts_nil)
            (fun _ _ _ _ _ => pe_lc (own := [("_law_there", 13)]) (g := gName 13) (tt := tYes) rfl scLs.nd (pi_list (pe_ix ix_list (pv 0) (pv 14) (fun _ _ => rfl))) (blkOk_by (own := [("_law_there", 13)]) (N := nLs) (sc := relS scLsOut (defScope sLs)) (by decide +kernel))
              (fun _ _ _ _ _ => pg_name (i := 13) scLs.nd rfl (Or.inl rfl)) (fun _ _ _ _ _ => pts_nil) (fun _ _ _ _ _ => pe_dget hu (pv 10) (pv 13) (fun _ _ => rfl))))
          (pa_cons (pe_lc (own := [("_law_one", 14)]) (g := gName 14) (tt := tTest (tOp (rIn K false) (tVar 14) (tVar 1))) rfl scLs.nd (pi_list (pv 9)) (blkOk_by (own := [("_law_one", 14)]) (N := nLs) (sc := defScope sLs) (by decide +kernel))
            (fun _ _ _ _ _ => pg_name (i := 14) scLs.nd rfl (Or.inl rfl)) (fun _ _ _ _ _ => pts_one (pt_cmpR op_in_seq (pv 14) (pv 1) rfl)) (fun _ _ _ _ _ => pe_dget hu (pv 10) (pv 14) (fun _ _ => rfl))) pa_nil))))))))))), ?_⟩
    -- met, at = [0], 0
    refine ⟨by show 1 ≤ sizeLine; decide, fun pm nm => ?_⟩
    refine ⟨by show 2 ≤ sizeLine; decide, fun t0 n0 => ?_⟩
    refine ⟨t0, _, rfl, SqT.of upd_same, rfl, _, _, rfl, _, _, rfl, rfl, ?_⟩
    have s2 : Same H (upd (upd H pm (.lst [.int 0])) t0 (.tup [.ref pm, .int 0])) := (same_new nm).trans (same_new n0)
    have hm2 : (upd (upd H pm (.lst [.int 0])) t0 (.tup [.ref pm, .int 0])) pm = some (.lst (nVs [0])) := same_new n0 _ _ upd_same
    generalize (upd (upd H pm (.lst [.int 0])) t0 (.tup [.ref pm, .int 0])) = H2 at s2 hm2
    refine ⟨fun m σ H1 => ∃ (pm : Addr) (M : List Nat) (i : Nat), m = R.length - i ∧ σ = [some (.ref a), some (.ref e), some (.ref pm), some (nV i), none, none, none, none, none, none, none, none, none, none, none, none] ∧ Same H H1 ∧ H1 pm = some (.lst (nVs M)) ∧ BfsAt n R 0 M i,
      ⟨_, pm, [0], 0, rfl, rfl, s2, hm2, bfs_start hR0⟩, ?_⟩
    rintro m σ H1 ⟨pm, M, i, rfl, rfl, s1, hm, hW⟩
    have hlen := hW.len
    refine ⟨_, rfl, _, rfl, pm, _, rfl, .inl (SqL.of hm), _, _, rfl, rfl, _, rfl, ite2 (fun ei => ?_) (fun ei => ?_)⟩
    · have hi : i < M.length := by
        have := of_decide_eq_true ei
        rw [nVs_len] at this
        omega
      have hs : M[i]? = some M[i] := List.getElem?_eq_getElem hi
      have hsl : M[i] < R.length := hW.lt _ (List.getElem_mem hi)
      obtain ⟨x, hx1, hx2⟩ := (hR.same s1).get hsl
      have hwide := hM.wide _ hsl
      refine ⟨fun σ' H' => ∃ (pm' : Addr), σ' = [some (.ref a), some (.ref e), some (.ref pm'), some (nV (i + 1)), none, none, none, none, none, none, none, none, none, none, none, none] ∧ Same H H' ∧ H' pm' = some (.lst (nVs (pushAll M (rowOf R M[i])))), ?_, ?_⟩
      · rintro σ' H' ⟨pm', rfl, s1', hm'⟩
        exact ⟨R.length - (i + 1), by omega, pm', _, i + 1, rfl, rfl, s1', hm', bfs_step hM hW hs⟩
      · refine ⟨_, rfl, ?_⟩
        refine ⟨_, rfl, _, rfl, _, rfl, pm, _, _, _, rfl, rfl, SqL.of hm, atI_nat (nVs_get hs), a, _, _, _, rfl, rfl, SqL.of (s1 _ _ hR.at_), atI_nat hx1, x, rfl, ⟨_, SqL.of hx2⟩, fun D1 nD1 => ?_⟩
        refine lc_list (K := K) (a := x) (xs := nVs (rowOf R M[i])) (fun j H3 => Same H1 H3 ∧ ∃ ts : List Addr, H3 D1 = some (.lst (ts.map V.ref)) ∧ ts.length = j ∧ (∀ t ∈ ts, t ≠ D1) ∧ Paired (fun (t : Addr) (s : Nat) => H3 t = some (.tup [nV s, .bl true])) ts ((rowOf R M[i]).take j))
          ⟨same_new nD1, [], by rw [upd_same]; rfl, rfl, (fun t z => nomatch z), .nil⟩ (fun j H3 _ ⟨s3, _⟩ => SqL.of (s3 _ _ hx2)) ?_ ?_
        · rintro j v H3 hj ⟨s3, ts, hD1, tl, tn, tp⟩
          obtain ⟨u, rfl, hu'⟩ := nVs_at hj
          have hj' := (List.getElem?_eq_some_iff.mp hu').1
          refine ⟨rfl, ?_⟩
          refine ⟨_, rfl, by show 2 ≤ sizeLine; decide, fun t nt => ?_⟩
          have ntD : t ≠ D1 := fun z => by
            rw [z, hD1] at nt
            cases nt
          refine ⟨_, by rw [upd_ne ntD.symm]; exact hD1, by rw [List.length_map]; exact szBig (by omega), ?_, ts ++ [t], ?_, by rw [List.length_append, List.length_singleton, tl], ?_, ?_⟩
          · intro b o eb
            rw [upd_ne (ne_of_none eb nD1), upd_ne (ne_of_none (s3 _ _ eb) nt)]
            exact s3 _ _ eb
          · rw [upd_same, List.map_append]
            rfl
          · intro y hy
            rcases List.mem_append.mp hy with z | z
            · exact tn y z
            · rw [List.mem_singleton] at z
              rw [z]
              exact ntD
          · rw [take_snoc hu']
            refine paired_snoc (paired_keep tp fun y hy r hyr => ?_) ?_
            · rw [upd_ne (tn y hy), upd_ne (ne_of_none hyr nt)]
              exact hyr
            · rw [upd_ne ntD, upd_same]
        · rintro H3 ⟨s3, ts, hD1, tl, tn, tp⟩
          rw [nVs_len, List.take_length] at tp
          refine ⟨D1, ts, (rowOf R M[i]).map fun s => (kN s, V.bl true), rfl, SqL.of hD1, paired_map (fun s => (kN s, V.bl true)) (fun _ _ z => SqT.of z) tp, fun d nd => ?_⟩
          have em : mergeK [] ((rowOf R M[i]).map fun s => (kN s, V.bl true)) = dO (D (rowOf R M[i])) (fun _ => .bl true) := mergeK_dO (fun _ => .bl true) (rowOf R M[i]) []
          rw [em]
          refine ⟨d, _, rfl, upd_same, fun o => ?_⟩
          rw [upd_upd]
          have s4 : Same H3 (upd H3 d (.frz o (.dK (dO (D (rowOf R M[i])) fun _ => .bl true)))) := same_new nd
          have hd4 : (upd H3 d (.frz o (.dK (dO (D (rowOf R M[i])) fun _ => .bl true)))) d = some (.frz o (.dK (dO (D (rowOf R M[i])) fun _ => .bl true))) := upd_same
          generalize (upd H3 d (.frz o (.dK (dO (D (rowOf R M[i])) fun _ => .bl true)))) = H4 at s4 hd4
          have s14 := s3.trans s4
          intro D2 nD2
          refine lc_keys (d := d) (o := o) (kvs := dO (D (rowOf R M[i])) fun _ => .bl true) (fun j H5 => Same H4 H5 ∧ H5 D2 = some (.lst (nVs (((D (rowOf R M[i])).take j).filter fun y => decide (y ∉ M))))) ⟨same_new nD2, by rw [upd_same]; rfl⟩ (fun j H5 _ ⟨s5, _⟩ => s5 _ _ hd4) ?_ ?_
          · rintro j k v H5 hj ⟨s5, hD2⟩
            obtain ⟨u, hu', rfl, rfl⟩ := dO_at hj
            refine ⟨rfl, ?_⟩
            refine ⟨_, rfl, _, rfl, pm, _, rfl, .inl (SqL.of (s5 _ _ (s14 _ _ hm))), rfl, flat_nVs _, _, rfl, ?_⟩
            rw [take_snoc hu', filter_snoc]
            have hDl : (((D (rowOf R M[i])).take j).filter fun y => decide (y ∉ M)).length ≤ 5000 := by
              have h1' := List.length_filter_le (fun y => decide (y ∉ M)) ((D (rowOf R M[i])).take j)
              have h2' := length_le_of_sub (D_nodup (rowOf R M[i])) (fun y hy => mem_D.mp hy)
              rw [List.length_take] at h1'
              omega
            have ein : (if true = true then !inV (kV (kN u)) (nVs M) else inV (kV (kN u)) (nVs M)) = decide (u ∉ M) := by
              rw [if_pos rfl, show kV (kN u) = nV u from rfl, inV_nVs]
              simp
            rw [ein]
            by_cases hu2 : u ∈ M
            · rw [decide_eq_false (by simpa using hu2)]
              refine ⟨s5, ?_⟩
              simpa using hD2
            · rw [decide_eq_true hu2]
              refine ⟨_, rfl, _, hD2, by rw [nVs_len]; exact szBig (by omega), ?_, ?_⟩
              · intro b o' eb
                rw [upd_ne (ne_of_none eb nD2)]
                exact s5 _ _ eb
              · rw [upd_same, if_pos rfl, nVs_snoc]
                rfl
          · rintro H5 ⟨s5, hD2⟩
            rw [dO_len, List.take_length] at hD2
            have hlen2 : (pushAll M (rowOf R M[i])).length ≤ R.length := by
              have := (bfs_step hM hW hs).len
              exact this
            rw [pushAll_filter, List.length_append] at hlen2
            refine ⟨pm, D2, _, _, rfl, rfl, s5 _ _ (s14 _ _ hm), hD2, by rw [nVs_len, nVs_len]; exact szBigLe (by omega), fun p np => ?_⟩
            refine ⟨_, rfl, _, _, rfl, rfl, p, rfl, (((s1.trans s14).trans s5).trans (same_new np)), ?_⟩
            rw [upd_same, pushAll_filter]
            unfold nVs
            rw [List.map_append]
    · have hi : M.length ≤ i := by
        have := of_decide_eq_false (Bool.eq_false_iff.mpr ei)
        rw [nVs_len] at this
        omega
      have hB := bfs_end hW hi
      clear hW ei hi
      -- apart, grown = {}, True
      intro pa na
      refine ⟨by show 2 ≤ sizeLine; decide, fun t1 n1 => ?_⟩
      refine ⟨t1, _, rfl, SqT.of upd_same, rfl, _, _, rfl, _, _, rfl, rfl, ?_⟩
      have s3 : Same H1 (upd (upd H1 pa (.dT [])) t1 (.tup [.ref pa, .bl true])) := (same_new na).trans (same_new n1)
      have ha3 : (upd (upd H1 pa (.dT [])) t1 (.tup [.ref pa, .bl true])) pa = some (.dT (tO [])) := same_new n1 _ _ upd_same
      generalize (upd (upd H1 pa (.dT [])) t1 (.tup [.ref pa, .bl true])) = H3 at s3 ha3
      have he1 := s1 _ _ he
      have lenM := hB.len
      have Mlt : ∀ y ∈ M, y < 200 := fun y hy => Nat.lt_of_lt_of_le (hB.lt y hy) (Nat.le_trans hsz (by decide))
      refine ⟨_, rfl, pm, rfl, ⟨_, SqL.of (s3 _ _ hm)⟩, ?_⟩
      refine for_list (K := K) (a := pm) (xs := nVs M) (fun j σ H4 => ∃ (y : Option V), σ = [some (.ref a), some (.ref e), some (.ref pm), some (nV i), some (.ref pa), some (.bl true), y, none, none, none, none, none, none, none, none, none] ∧ Same H1 H4 ∧
        H4 pa = some (.dT (tO (D ((M.take j).flatMap (prE E M)))))) ⟨none, rfl, s3, ha3⟩ (fun j σ H4 _ ⟨_, _, s4, _⟩ => SqL.of (s4 _ _ hm)) ?_ ?_
      · rintro j v σ H4 hj ⟨y, rfl, s4, ha4⟩
        obtain ⟨p, rfl, hp⟩ := nVs_at hj
        have hpM : p ∈ M := List.mem_of_getElem? hp
        refine ⟨_, rfl, .inr (.inr (.inl ⟨rfl, .inr ⟨_, ha4⟩⟩)), ?_⟩
        refine ⟨_, rfl, pm, rfl, ⟨_, SqL.of (s4 _ _ hm)⟩, fun D1 nD1 => ?_⟩
        refine lc_list (K := K) (a := pm) (xs := nVs M) (fun l H5 => Same H4 H5 ∧ ∃ (ts : List Addr) (qs : List (List Key × Addr × V)), H5 D1 = some (.lst (ts.map V.ref)) ∧ ts.length ≤ l ∧ PairsT H5 ts qs ∧ (qs.map fun q => (q.1, q.2.2)) = tO (prE E (M.take l) p))
          ⟨same_new nD1, [], [], by rw [upd_same]; rfl, Nat.le_refl _, .nil, rfl⟩ (fun l H5 _ ⟨s5, _⟩ => SqL.of (s5 _ _ (s4 _ _ hm))) ?_ ?_
        · rintro l v H5 hl ⟨s5, ts, qs, hD1, tl, tp, tq⟩
          obtain ⟨u, rfl, hu'⟩ := nVs_at hl
          have hl' := (List.getElem?_eq_some_iff.mp hu').1
          have he5 := s5 _ _ (s4 _ _ he1)
          refine ⟨rfl, ?_⟩
          refine ⟨_, rfl, _, rfl, e, _, rfl, .inl (SqL.of he5), rfl, flat_nVs _, _, rfl, _, rfl, e, _, rfl, .inl (SqL.of he5), rfl, flat_nVs _, rfl, _, rfl, ?_⟩
          have eT : (!decide (V.bl (if false = true then !inV (nV p) (nVs E) else inV (nV p) (nVs E)) = V.bl (if false = true then !inV (nV u) (nVs E) else inV (nV u) (nVs E)))) = decide (decide (p ∈ E) ≠ decide (u ∈ E)) := by
            rw [if_neg Bool.false_ne_true, if_neg Bool.false_ne_true, inV_nVs, inV_nVs]
            by_cases h1 : decide (p ∈ E) = decide (u ∈ E)
            · rw [h1]
              simp
            · have h2 : ¬ V.bl (decide (p ∈ E)) = V.bl (decide (u ∈ E)) := fun z => h1 (V.bl.inj z)
              rw [decide_eq_false h2, decide_eq_true h1]
              rfl
          rw [eT]
          have epr : prE E (M.take (l + 1)) p = prE E (M.take l) p ++ (if decide (decide (p ∈ E) ≠ decide (u ∈ E)) = true then [(p, u)] else []) := by
            unfold prE
            rw [take_snoc hu', filter_snoc, List.map_append]
            congr 1
            split <;> rfl
          rw [epr]
          by_cases hne : decide (p ∈ E) ≠ decide (u ∈ E)
          · rw [decide_eq_true hne]
            refine ⟨_, rfl, _, rfl, by show 2 ≤ sizeLine; decide, fun kt nkt => ?_⟩
            refine ⟨by show 2 ≤ sizeLine; decide, fun t nt => ?_⟩
            have s6 : Same H5 (upd (upd H5 kt (.tup [nV p, nV u])) t (.tup [.ref kt, .bl true])) := (same_new nkt).trans (same_new nt)
            have hk6 : (upd (upd H5 kt (.tup [nV p, nV u])) t (.tup [.ref kt, .bl true])) kt = some (.tup [nV p, nV u]) := same_new nt _ _ upd_same
            have ht6 : (upd (upd H5 kt (.tup [nV p, nV u])) t (.tup [.ref kt, .bl true])) t = some (.tup [.ref kt, .bl true]) := upd_same
            generalize (upd (upd H5 kt (.tup [nV p, nV u])) t (.tup [.ref kt, .bl true])) = H6 at s6 hk6 ht6
            have hD6 := s6 _ _ hD1
            have ntup : ∀ b ys, H6 b = some (.tup ys) → (upd H6 D1 (.lst (ts.map V.ref ++ [.ref t]))) b = some (.tup ys) := fun b ys z => by
              rw [upd_ne (ne_of z hD6 (fun w => by cases w))]
              exact z
            refine ⟨_, hD6, by rw [List.length_map]; exact szBig (by omega), ?_, ts ++ [t], qs ++ [(kP (p, u), kt, .bl true)], ?_, by rw [List.length_append, List.length_singleton]; omega, ?_, ?_⟩
            · intro b o eb
              rw [upd_ne (ne_of_none eb nD1)]
              exact s6 _ _ (s5 _ _ eb)
            · rw [upd_same, List.map_append]
              rfl
            · refine paired_snoc (paired_keep tp fun b _ q hb => ⟨ntup _ _ (s6 _ _ hb.1), ntup _ _ (s6 _ _ hb.2)⟩) ⟨ntup _ _ ht6, ntup _ _ hk6⟩
            · rw [List.map_append, tq, if_pos rfl]
              unfold tO
              rw [List.map_append]
              rfl
          · rw [decide_eq_false hne, if_neg Bool.false_ne_true, List.append_nil]
            exact ⟨s5, ts, qs, hD1, by omega, tp, tq⟩
        · rintro H5 ⟨s5, ts, qs, hD1, tl, tp, tq⟩
          rw [nVs_len, List.take_length] at tq
          refine ⟨D1, ts, qs, rfl, hD1, tp, fun d nd => ?_⟩
          rw [tq, show mergeT [] (tO (prE E M p)) = tO (prE E M p) from by
            rw [show ([] : List (List Key × V)) = tO [] from rfl, mergeT_tO]
            exact congrArg tO (D_of_nodup (prE_nodup hB.nodup p))]
          have s6 : Same H5 (upd H5 d (.dT (tO (prE E M p)))) := same_new nd
          have hd6 : (upd H5 d (.dT (tO (prE E M p)))) d = some (.dT (tO (prE E M p))) := upd_same
          generalize (upd H5 d (.dT (tO (prE E M p)))) = H6 at s6 hd6
          have ha6 := s6 _ _ (s5 _ _ ha4)
          have hne : pa ≠ d := fun z => by
            rw [← z, s5 _ _ ha4] at nd
            cases nd
          have hsz1 : (prE E M p).length ≤ 192 := by
            unfold prE
            rw [List.length_map]
            have := List.length_filter_le (fun q => decide (decide (p ∈ E) ≠ decide (q ∈ E))) M
            omega
          have hsz2 : (D ((M.take j).flatMap (prE E M))).length ≤ 36864 := by
            have h1 : ∀ x ∈ D ((M.take j).flatMap (prE E M)), x ∈ D (M.flatMap (prE E M)) := by
              intro x hx
              obtain ⟨p', hp', hx'⟩ := List.mem_flatMap.mp (mem_D.mp hx)
              exact mem_D.mpr (List.mem_flatMap.mpr ⟨p', List.mem_of_mem_take hp', hx'⟩)
            have h2 := length_le_of_sub (D_nodup _) h1
            have h3 := (apart_start (n := n) (R := R) (E := E) (L := M)).len
            have h4 : M.length * M.length ≤ 192 * 192 := Nat.mul_le_mul (by omega) (by omega)
            omega
          refine ⟨pa, d, _, _, rfl, rfl, ha6, hd6, hne, .inr ?_, by rw [tO_len, tO_len]; exact szBigLe (by omega), ?_⟩
          · exact hs_tON (Mlt p hpM) (hB.nodup.filter _) (fun q hq => Mlt q (List.mem_filter.mp hq).1) _ _
          · refine ⟨_, rfl, ?_, ?_⟩
            · intro b o eb
              rw [upd_ne (ne_of_none eb na)]
              exact s6 _ _ (s5 _ _ (s4 _ _ eb))
            · rw [upd_same, mergeT_tO, take_snoc hp, List.flatMap_append, D_append]
              simp
      · rintro σ H4 ⟨y, rfl, s4, ha4⟩
        rw [nVs_len, List.take_length] at ha4
        have hA0 := apart_start (n := n) (R := R) (E := E) (L := M)
        generalize D (M.flatMap (prE E M)) = A0 at ha4 hA0
        clear ha3 s3
        have hAm : ∀ A : List (Nat × Nat), Apart n R E M A → A.length ≤ 36864 := fun A hA => by
          have h1 := hA.len
          have h2 : M.length * M.length ≤ 192 * 192 := Nat.mul_le_mul (by omega) (by omega)
          omega
        refine ⟨fun m σ H5 => ∃ (A : List (Nat × Nat)) (g : Bool) (y6 y7 y8 : Option V), m = 2 * (36864 - A.length) + (if g = true then 1 else 0) ∧ σ = [some (.ref a), some (.ref e), some (.ref pm), some (nV i), some (.ref pa), some (.bl g), y6, y7, y8, none, none, none, none, none, none, none] ∧ Same H1 H5 ∧ H5 pa = some (.dT (tO A)) ∧ Apart n R E M A ∧ (g = false → ∀ p ∈ M, ∀ q ∈ M, Cl n R A p q),
          ⟨_, A0, true, y, none, none, rfl, rfl, s4, ha4, hA0, (fun z => nomatch z)⟩, ?_⟩
        clear hA0 ha4 s4
        rintro m σ H5 ⟨A, g, y6, y7, y8, rfl, rfl, s5, ha5, hA, hg⟩
        have hAl := hAm A hA
        refine ⟨_, rfl, g, rfl, ?_⟩
        cases g with
        | true =>
          rw [if_pos rfl]
          refine ⟨fun σ' H' => ∃ (A' : List (Nat × Nat)) (g' : Bool) (y6 y7 y8 : Option V), σ' = [some (.ref a), some (.ref e), some (.ref pm), some (nV i), some (.ref pa), some (.bl g'), y6, y7, y8, none, none, none, none, none, none, none] ∧ Same H1 H' ∧ H' pa = some (.dT (tO A')) ∧ Pass n R E M A A' g' (fun p q => p ∈ M ∧ q ∈ M), ?_, ?_⟩
          · rintro σ' H' ⟨A', g', z6, z7, z8, rfl, s', ha', hP⟩
            refine ⟨_, ?_, A', g', z6, z7, z8, rfl, rfl, s', ha', hP.ap, fun z p hp q hq => (hP.f z).2 p q ⟨hp, hq⟩⟩
            have hl' := hAm A' hP.ap
            have hle := hP.le
            cases g' with
            | true =>
              have := hP.t rfl
              simp only [if_pos]
              omega
            | false =>
              simp
              omega
          · refine ⟨_, rfl, pm, rfl, ⟨_, SqL.of (s5 _ _ hm)⟩, ?_⟩
            refine for_list (K := K) (a := pm) (xs := nVs M) (fun j σ H6 => ∃ (A' : List (Nat × Nat)) (g' : Bool) (y6 y7 y8 : Option V), σ = [some (.ref a), some (.ref e), some (.ref pm), some (nV i), some (.ref pa), some (.bl g'), y6, y7, y8, none, none, none, none, none, none, none] ∧ Same H1 H6 ∧ H6 pa = some (.dT (tO A')) ∧ Pass n R E M A A' g' (fun p q => p ∈ M.take j ∧ q ∈ M))
              ⟨A, false, y6, y7, y8, rfl, s5, ha5, pass_old (pass_start hA) (fun p q z => nomatch z.1)⟩ (fun j σ H6 _ ⟨_, _, _, _, _, _, s6, _⟩ => SqL.of (s6 _ _ hm)) ?_ ?_
            · rintro j v σ H6 hj ⟨A', g', y6, y7, y8, rfl, s6, ha6, hP⟩
              obtain ⟨p, rfl, hp⟩ := nVs_at hj
              have hpM : p ∈ M := List.mem_of_getElem? hp
              refine ⟨_, rfl, pm, rfl, ⟨_, SqL.of (s6 _ _ hm)⟩, ?_⟩
              refine for_list (K := K) (a := pm) (xs := nVs M) (fun l σ H6 => ∃ (A' : List (Nat × Nat)) (g' : Bool) (y7 y8 : Option V), σ = [some (.ref a), some (.ref e), some (.ref pm), some (nV i), some (.ref pa), some (.bl g'), some (nV p), y7, y8, none, none, none, none, none, none, none] ∧ Same H1 H6 ∧ H6 pa = some (.dT (tO A')) ∧ Pass n R E M A A' g' (fun p' q' => (p' ∈ M.take j ∧ q' ∈ M) ∨ (p' = p ∧ q' ∈ M.take l)))
                ⟨A', g', y7, y8, rfl, s6, ha6, pass_old hP (fun p' q' z => .inl (z.elim id (fun y => nomatch y.2)))⟩ (fun j σ H6 _ ⟨_, _, _, _, _, s6, _⟩ => SqL.of (s6 _ _ hm)) ?_ ?_
              · clear hP ha6 s6 A' g' y6 y7 y8 H6
                rintro l v σ H6 hl ⟨A', g', y7, y8, rfl, s6, ha6, hP⟩
                obtain ⟨u, rfl, hu'⟩ := nVs_at hl
                have huM : u ∈ M := List.mem_of_getElem? hu'
                obtain ⟨x, hx1, hx2⟩ := ((hR.same s1).same s6).get (hB.lt p hpM)
                obtain ⟨z, hz1, hz2⟩ := ((hR.same s1).same s6).get (hB.lt u huM)
                have ha6' := ((hR.same s1).same s6).at_
                have wp := hM.wide p (hB.lt p hpM)
                have wu := hM.wide u (hB.lt u huM)
                refine ⟨_, rfl, _, rfl, a, _, _, _, rfl, rfl, SqL.of ha6', atI_nat hx1, x, _, rfl, .inl (SqL.of hx2), _, rfl, ?_, ?_, fun D1 nD1 => ?_⟩
                · rw [nVs_len]
                  omega
                · rw [nVs_len]
                  omega
                refine lc_range (n := ((nVs (rowOf R p)).length : Int).toNat) (fun l H7 => Same H6 H7 ∧ H7 D1 = some (.lst (nVs ((List.range l).filter fun k => decide ((Mach.dl R p k, Mach.dl R u k) ∈ A'))))) ⟨same_new nD1, by rw [upd_same]; rfl⟩ ?_ ?_
                · rintro k H7 hk ⟨s7, hD1⟩
                  have hk' : k < n := by
                    rw [nVs_len, wp] at hk
                    omega
                  have ek1 : (nVs (rowOf R p))[k]? = some (nV (Mach.dl R p k)) := nVs_get (by
                    unfold Mach.dl
                    rw [List.getD_eq_getElem?_getD, List.getElem?_eq_getElem (by omega)]
                    rfl)
                  have ek2 : (nVs (rowOf R u))[k]? = some (nV (Mach.dl R u k)) := nVs_get (by
                    unfold Mach.dl
                    rw [List.getD_eq_getElem?_getD, List.getElem?_eq_getElem (by omega)]
                    rfl)
                  refine ⟨rfl, ?_⟩
                  refine ⟨_, rfl, _, rfl, a, _, _, _, rfl, rfl, SqL.of (s7 _ _ ha6'), atI_nat hx1, _, rfl, x, _, _, _, rfl, rfl, SqL.of (s7 _ _ hx2), atI_zero_add ek1, _, rfl, _, rfl, a, _, _, _, rfl, rfl, SqL.of (s7 _ _ ha6'), atI_nat hz1, _, rfl, z, _, _, _, rfl, rfl, SqL.of (s7 _ _ hz2), atI_zero_add ek2, by show 2 ≤ sizeLine; decide, fun kt nkt => ?_⟩
                  obtain ⟨r, hg1, hr1⟩ := dgetT (p := Mach.dl R p k) (q := Mach.dl R u k) (same_new nkt _ _ (s7 _ _ ha6)) (upd_same (H := H7) (a := kt) (o := .tup [nV (Mach.dl R p k), nV (Mach.dl R u k)]))
                  refine ⟨_, rfl, pa, r, rfl, hg1, _, rfl, ?_⟩
                  rw [List.range_succ, filter_snoc, hr1]
                  have hfl := List.length_filter_le (fun k => decide ((Mach.dl R p k, Mach.dl R u k) ∈ A')) (List.range k)
                  rw [List.length_range] at hfl
                  by_cases hin : (Mach.dl R p k, Mach.dl R u k) ∈ A'
                  · rw [decide_eq_true hin]
                    refine ⟨_, rfl, _, same_new nkt _ _ hD1, by rw [nVs_len]; exact szBig (by omega), ?_, ?_⟩
                    · intro b o eb
                      rw [upd_ne (ne_of_none eb nD1)]
                      exact same_new nkt _ _ (s7 _ _ eb)
                    · rw [upd_same, if_pos rfl, nVs_snoc, Int.zero_add]
                      rfl
                  · rw [decide_eq_false hin]
                    refine ⟨s7.trans (same_new nkt), ?_⟩
                    rw [if_neg Bool.false_ne_true, List.append_nil]
                    exact same_new nkt _ _ hD1
                · rintro H7 ⟨s7, hD1⟩
                  rw [nVs_len, wp, Int.toNat_natCast] at hD1
                  -- if (p, q) not in apart and led != []
                  have ha7 := s7 _ _ ha6
                  have hrest : ∀ Hx, Same H7 Hx → ((p, u) ∈ A' ∨ ((List.range n).filter fun k => decide ((Mach.dl R p k, Mach.dl R u k) ∈ A')) = []) → ∃ (A2 : List (Nat × Nat)) (g2 : Bool) (z7 z8 : Option V), ([some (V.ref a), some (.ref e), some (.ref pm), some (nV i), some (.ref pa), some (.bl g'), some (nV p), some (nV u), some (.ref D1), none, none, none, none, none, none, none] : L2.St) = [some (.ref a), some (.ref e), some (.ref pm), some (nV i), some (.ref pa), some (.bl g2), some (nV p), z7, z8, none, none, none, none, none, none, none] ∧ Same H1 Hx ∧ Hx pa = some (.dT (tO A2)) ∧ Pass n R E M A A2 g2 (fun p' q' => (p' ∈ M.take j ∧ q' ∈ M) ∨ (p' = p ∧ q' ∈ M.take (l + 1))) := by
                    intro Hx sx hc
                    refine ⟨A', g', _, _, rfl, (s6.trans s7).trans sx, sx _ _ ha7, pass_old hP fun p' q' z => ?_⟩
                    rcases z with z | ⟨z1, z2⟩
                    · exact .inl (.inl z)
                    · rw [take_snoc hu'] at z2
                      rcases List.mem_append.mp z2 with z2 | z2
                      · exact .inl (.inr ⟨z1, z2⟩)
                      · rw [List.mem_singleton] at z2
                        rw [z1, z2]
                        refine .inr fun h1 k hk h2 => ?_
                        rcases hc with hc | hc
                        · exact h1 hc
                        · have : k ∈ ((List.range n).filter fun k => decide ((Mach.dl R p k, Mach.dl R u k) ∈ A')) := List.mem_filter.mpr ⟨List.mem_range.mpr hk, decide_eq_true h2⟩
                          rw [hc] at this
                          cases this
                  refine ⟨_, rfl, _, rfl, by show 2 ≤ sizeLine; decide, fun kt nkt => ?_⟩
                  have s8 : Same H7 (upd H7 kt (.tup [nV p, nV u])) := same_new nkt
                  obtain ⟨r, hg1, hr1⟩ := dgetT (p := p) (q := u) (s8 _ _ ha7) (upd_same (H := H7) (a := kt) (o := .tup [nV p, nV u]))
                  refine ⟨_, rfl, pa, r, rfl, hg1, _, rfl, ?_⟩
                  rw [hr1]
                  clear hg1 hr1
                  generalize (upd H7 kt (.tup [nV p, nV u])) = H8 at s8
                  by_cases hin : (p, u) ∈ A'
                  · rw [decide_eq_true hin]
                    exact hrest _ s8 (.inl hin)
                  · rw [decide_eq_false hin]
                    refine ⟨_, rfl, by show 0 ≤ sizeLine; decide, fun e0 ne0 => ?_⟩
                    have s9 : Same H8 (upd H8 e0 (.lst [])) := same_new ne0
                    have he9 : (upd H8 e0 (.lst [])) e0 = some (.lst []) := upd_same
                    generalize (upd H8 e0 (.lst [])) = H9 at s9 he9
                    have s79 := s8.trans s9
                    have hlt : ∀ k ∈ ((List.range n).filter fun k => decide ((Mach.dl R p k, Mach.dl R u k) ∈ A')), k < n ∧ (Mach.dl R p k, Mach.dl R u k) ∈ A' := fun k hk => by
                      obtain ⟨h1, h2⟩ := List.mem_filter.mp hk
                      exact ⟨List.mem_range.mp h1, of_decide_eq_true h2⟩
                    generalize ((List.range n).filter fun k => decide ((Mach.dl R p k, Mach.dl R u k) ∈ A')) = S at hD1 hrest hlt
                    refine ⟨dNs S, .list [], dp_nVs (s79 _ _ hD1), .lst (SqL.of he9) .nil, shp_dNs S, shp_nil, _, rfl, ?_⟩
                    rw [eqv_dNs_nil]
                    cases S with
                    | nil => exact hrest _ s79 (.inr rfl)
                    | cons k0 S' =>
                      obtain ⟨hk0, hk1⟩ := hlt k0 List.mem_cons_self
                      refine ⟨by show 2 ≤ sizeLine; decide, fun t0 nt0 => ?_⟩
                      refine ⟨t0, _, rfl, SqT.of upd_same, rfl, _, _, rfl, _, rfl, _, rfl, _, rfl, by show 2 ≤ sizeLine; decide, fun k2 nk2 => ?_⟩
                      have s10 : Same H9 (upd (upd H9 t0 (.tup [.bl true, .bl true])) k2 (.tup [nV p, nV u])) := (same_new nt0).trans (same_new nk2)
                      have hk10 : (upd (upd H9 t0 (.tup [.bl true, .bl true])) k2 (.tup [nV p, nV u])) k2 = some (.tup [nV p, nV u]) := upd_same
                      generalize (upd (upd H9 t0 (.tup [.bl true, .bl true])) k2 (.tup [nV p, nV u])) = H10 at s10 hk10
                      have ha10 := s10 _ _ (s79 _ _ ha7)
                      refine ⟨pa, _, rfl, DPut.t (k := kP (p, u)) ha10 hk10 (by rw [tO_len]; exact szBig (by have := hAm A' hP.ap; omega)), _, _, rfl, rfl, ?_⟩
                      refine ⟨A' ++ [(p, u)], true, _, _, rfl, ?_, ?_, pass_new hM hB hP hpM huM hk0 hin hk1⟩
                      · intro b o eb
                        rw [upd_ne (ne_of_none eb na)]
                        exact s10 _ _ (s79 _ _ (s7 _ _ (s6 _ _ eb)))
                      · rw [upd_same, putK_tO, push_new hin]
              · rintro σ H6 ⟨A', g', y7, y8, rfl, s6, ha6, hP⟩
                rw [nVs_len, List.take_length] at hP
                refine ⟨A', g', _, y7, y8, rfl, s6, ha6, pass_old hP fun p' q' z => .inl ?_⟩
                rw [take_snoc hp] at z
                rcases List.mem_append.mp z.1 with z' | z'
                · exact .inl ⟨z', z.2⟩
                · exact .inr ⟨List.mem_singleton.mp z', z.2⟩
            · rintro σ H6 ⟨A', g', y6, y7, y8, rfl, s6, ha6, hP⟩
              rw [nVs_len, List.take_length] at hP
              exact ⟨A', g', y6, y7, y8, rfl, s6, ha6, hP⟩
        | false =>
          rw [if_neg Bool.false_ne_true]
          have hcl := pass_end hM hB hA (hg rfl)
          have hAs : ∀ p ∈ M, ∀ q ∈ M, (p, q) ∉ A → (q, p) ∉ A := fun p hp q hq z => (hcl q hq p hp).mpr (((hcl p hp q hq).mp z).symm)
          have hAt : ∀ p ∈ M, ∀ q ∈ M, ∀ r ∈ M, (p, q) ∉ A → (q, r) ∉ A → (p, r) ∉ A := fun p hp q hq r hr z z' => (hcl p hp r hr).mpr (((hcl p hp q hq).mp z).trans ((hcl q hq r hr).mp z'))
          have hAr : ∀ p ∈ M, (p, p) ∉ A := fun p hp => (hcl p hp p hp).mpr (Alk.refl _ _ _ _)
          -- firsts, number = [], {}
          refine ⟨by show 0 ≤ sizeLine; decide, fun pf nf => ?_⟩
          intro pn nn
          refine ⟨by show 2 ≤ sizeLine; decide, fun t2 n2 => ?_⟩
          refine ⟨t2, _, rfl, SqT.of upd_same, rfl, _, _, rfl, _, _, rfl, rfl, ?_⟩
          have s6 : Same H5 (upd (upd (upd H5 pf (.lst [])) pn (.dK [])) t2 (.tup [.ref pf, .ref pn])) := ((same_new nf).trans (same_new nn)).trans (same_new n2)
          have hf6 : (upd (upd (upd H5 pf (.lst [])) pn (.dK [])) t2 (.tup [.ref pf, .ref pn])) pf = some (.lst (nVs [])) := same_new n2 _ _ (same_new nn _ _ upd_same)
          have hn6 : (upd (upd (upd H5 pf (.lst [])) pn (.dK [])) t2 (.tup [.ref pf, .ref pn])) pn = some (.dK (dO (M.take 0) fun _ => nV 0)) := same_new n2 _ _ upd_same
          generalize (upd (upd (upd H5 pf (.lst [])) pn (.dK [])) t2 (.tup [.ref pf, .ref pn])) = H6 at s6 hf6 hn6
          have nn5 : H5 pn = none := (same_new nf).free nn
          have nfn : pf ≠ pn := fun z => by
            rw [z, hn6] at hf6
            cases hf6
          refine ⟨_, rfl, pm, rfl, ⟨_, SqL.of (s6 _ _ (s5 _ _ hm))⟩, ?_⟩
          refine for_list (K := K) (a := pm) (xs := nVs M) (fun j σ H7 => ∃ (F : List Nat) (num : Nat → Nat) (y11 y12 : Option V), σ = [some (.ref a), some (.ref e), some (.ref pm), some (nV i), some (.ref pa), some (.bl false), y6, y7, y8, some (.ref pf), some (.ref pn), y11, y12, none, none, none] ∧ Same H5 H7 ∧ H7 pf = some (.lst (nVs F)) ∧ H7 pn = some (.dK (dO (M.take j) fun s => nV (num s))) ∧ Num (fun s t => (s, t) ∉ A) (M.take j) F num)
            ⟨[], fun _ => 0, none, none, rfl, s6, hf6, hn6, num_start _ _⟩ (fun j σ H7 _ ⟨_, _, _, _, _, s7, _⟩ => SqL.of (s7 _ _ (s5 _ _ hm))) ?_ ?_
          · clear s6 hf6 hn6
            rintro j v σ H7 hj ⟨F, num, y11, y12, rfl, s7, hf7, hn7, hN⟩
            obtain ⟨t, rfl, ht⟩ := nVs_at hj
            have htM : t ∈ M := List.mem_of_getElem? ht
            have hnt := nodup_not_take hB.nodup ht
            have hsub : ∀ s ∈ M.take j, s ∈ M := fun s hs => List.mem_of_mem_take hs
            have hFl : F.length ≤ 192 := by
              have h1 := congrArg List.length hN.d
              rw [List.length_range] at h1
              have h2 := length_le_of_sub (D_nodup ((M.take j).map num)) (fun x hx => mem_D.mp hx)
              rw [List.length_map, List.length_take] at h2
              omega
            refine ⟨_, rfl, pf, _, rfl, .inl (SqL.of hf7), _, rfl, ?_, ?_, fun D1 nD1 => ?_⟩
            · rw [nVs_len]
              omega
            · rw [nVs_len]
              omega
            refine lc_range (n := ((nVs F).length : Int).toNat) (fun l H8 => Same H7 H8 ∧ H8 D1 = some (.lst (nVs ((List.range l).filter fun k => decide ((F.getD k 0, t) ∉ A))))) ⟨same_new nD1, by rw [upd_same]; rfl⟩ ?_ ?_
            · rintro k H8 hk ⟨s8, hD1⟩
              have hk' : k < F.length := by
                rw [nVs_len] at hk
                omega
              have ek : (nVs F)[k]? = some (nV (F.getD k 0)) := nVs_get (by
                rw [List.getD_eq_getElem?_getD, List.getElem?_eq_getElem hk']
                rfl)
              refine ⟨rfl, ?_⟩
              refine ⟨_, rfl, _, rfl, pf, _, _, _, rfl, rfl, SqL.of (s8 _ _ hf7), atI_zero_add ek, _, rfl, by show 2 ≤ sizeLine; decide, fun kt nkt => ?_⟩
              obtain ⟨r, hg1, hr1⟩ := dgetT (p := F.getD k 0) (q := t) (same_new nkt _ _ (s8 _ _ (s7 _ _ ha5))) (upd_same (H := H8) (a := kt) (o := .tup [nV (F.getD k 0), nV t]))
              refine ⟨_, rfl, pa, r, rfl, hg1, _, rfl, ?_⟩
              rw [List.range_succ, filter_snoc, hr1]
              have hfl := List.length_filter_le (fun k => decide ((F.getD k 0, t) ∉ A)) (List.range k)
              rw [List.length_range] at hfl
              by_cases hin : (F.getD k 0, t) ∈ A
              · rw [decide_eq_true hin, decide_eq_false (fun z => z hin)]
                refine ⟨s8.trans (same_new nkt), ?_⟩
                rw [if_neg Bool.false_ne_true, List.append_nil]
                exact same_new nkt _ _ hD1
              · rw [decide_eq_false hin, decide_eq_true hin]
                refine ⟨_, rfl, _, same_new nkt _ _ hD1, by rw [nVs_len]; exact szBig (by omega), ?_, ?_⟩
                · intro b o eb
                  rw [upd_ne (ne_of_none eb nD1)]
                  exact same_new nkt _ _ (s8 _ _ eb)
                · rw [upd_same, if_pos rfl, nVs_snoc, Int.zero_add]
                  rfl
            · rintro H8 ⟨s8, hD1⟩
              rw [nVs_len, Int.toNat_natCast] at hD1
              have hS : ∀ k, k ∈ ((List.range F.length).filter fun k => decide ((F.getD k 0, t) ∉ A)) ↔ k < F.length ∧ (F.getD k 0, t) ∉ A := fun k => by
                rw [List.mem_filter, List.mem_range, decide_eq_true_eq]
              generalize ((List.range F.length).filter fun k => decide ((F.getD k 0, t) ∉ A)) = S at hD1 hS
              refine ⟨_, rfl, by show 0 ≤ sizeLine; decide, fun e0 ne0 => ?_⟩
              have s9 : Same H8 (upd H8 e0 (.lst [])) := same_new ne0
              have he9 : (upd H8 e0 (.lst [])) e0 = some (.lst []) := upd_same
              generalize (upd H8 e0 (.lst [])) = H9 at s9 he9
              have s79 := s8.trans s9
              have hn9 := s79 _ _ hn7
              have hf9 := s79 _ _ hf7
              refine ⟨dNs S, .list [], dp_nVs (s9 _ _ hD1), .lst (SqL.of he9) .nil, shp_dNs S, shp_nil, _, rfl, ?_⟩
              rw [eqv_dNs_nil]
              cases S with
              | nil =>
                refine ⟨_, rfl, pf, _, rfl, .inl (SqL.of hf9), _, rfl, _, rfl, pn, _, rfl, DPut.k (k := kN t) hn9 (by rw [dO_len, List.length_take]; exact szBig (by omega)), ?_⟩
                have hput : putK (dO (M.take j) fun s => nV (num s)) (kN t) (.int ((nVs F).length : Int)) = dO (M.take j ++ [t]) (fun s => nV (put num t F.length s)) := by
                  have h1 := putK_dO_new (L := M.take j) (c := fun s => nV (num s)) (d := fun s => nV (put num t F.length s)) (s := t) hnt (fun s hs => by
                    show nV (put num t F.length s) = nV (num s)
                    rw [put_ne (fun z => hnt (by rw [← z]; exact hs))])
                  rw [← h1, put_same, nVs_len]
                  rfl
                rw [hput]
                have hf10 : (upd H9 pn (.dK (dO (M.take j ++ [t]) fun s => nV (put num t F.length s)))) pf = some (.lst (nVs F)) := by
                  rw [upd_ne nfn]
                  exact hf9
                have hn10 : (upd H9 pn (.dK (dO (M.take j ++ [t]) fun s => nV (put num t F.length s)))) pn = some (.dK (dO (M.take j ++ [t]) fun s => nV (put num t F.length s))) := upd_same
                have s10 : Same H5 (upd H9 pn (.dK (dO (M.take j ++ [t]) fun s => nV (put num t F.length s)))) := fun b o eb => by
                  rw [upd_ne (ne_of_none eb nn5)]
                  exact s79 _ _ (s7 _ _ eb)
                have hD10 : (upd H9 pn (.dK (dO (M.take j ++ [t]) fun s => nV (put num t F.length s)))) D1 = some (.lst (nVs [])) := by
                  rw [upd_ne (ne_of (s9 _ _ hD1) hn9 (fun w => by cases w))]
                  exact s9 _ _ hD1
                generalize (upd H9 pn (.dK (dO (M.take j ++ [t]) fun s => nV (put num t F.length s)))) = H10 at hf10 hn10 s10 hD10
                refine ⟨_, rfl, by show 0 ≤ sizeLine; decide, fun e1 ne1 => ?_⟩
                have s11 : Same H10 (upd H10 e1 (.lst [])) := same_new ne1
                have he11 : (upd H10 e1 (.lst [])) e1 = some (.lst []) := upd_same
                generalize (upd H10 e1 (.lst [])) = H11 at s11 he11
                refine ⟨dNs [], .list [], dp_nVs (s11 _ _ hD10), .lst (SqL.of he11) .nil, shp_nil, shp_nil, _, rfl, ?_⟩
                rw [eqv_dNs_nil]
                have hf11 := s11 _ _ hf10
                refine ⟨_, rfl, .inl ⟨rfl, _, SqL.of hf11⟩, _, rfl, pf, _, _, rfl, rfl, hf11, by rw [nVs_len]; exact szBig (by omega), ?_⟩
                refine ⟨F ++ [t], put num t F.length, _, _, rfl, ?_, ?_, ?_, ?_⟩
                · intro b o eb
                  rw [upd_ne (ne_of_none eb nf)]
                  exact s11 _ _ (s10 _ _ eb)
                · rw [upd_same, nVs_snoc]
                · rw [upd_ne nfn.symm, take_snoc ht]
                  exact s11 _ _ hn10
                · rw [take_snoc ht]
                  refine num_new hN hnt (hAr t htM) (fun s hs z => hAs t htM s (hsub s hs) z) (fun s hs u hu z => hAs s (hsub s hs) u (hsub u hu) z) (fun s hs u hu z z' => hAt s (hsub s hs) u (hsub u hu) t htM z z') (fun k hk z => ?_)
                  have := (hS k).mpr ⟨hk, by rw [List.getD_eq_getElem?_getD, List.getElem?_eq_getElem hk]; exact z⟩
                  cases this
              | cons k0 S' =>
                obtain ⟨hk0, hk1⟩ := (hS k0).mp List.mem_cons_self
                have hk1' : (F[k0], t) ∉ A := by
                  rw [List.getD_eq_getElem?_getD, List.getElem?_eq_getElem hk0] at hk1
                  exact hk1
                refine ⟨_, rfl, D1, _, _, _, rfl, rfl, SqL.of (s9 _ _ hD1), atI_nat (j := 0) (nVs_get (ns := k0 :: S') (i := 0) (n := k0) rfl), _, rfl, _, rfl, pn, _, rfl, DPut.k (k := kN t) hn9 (by rw [dO_len, List.length_take]; exact szBig (by omega)), ?_⟩
                have hput : putK (dO (M.take j) fun s => nV (num s)) (kN t) (nV k0) = dO (M.take j ++ [t]) (fun s => nV (put num t k0 s)) := by
                  have h1 := putK_dO_new (L := M.take j) (c := fun s => nV (num s)) (d := fun s => nV (put num t k0 s)) (s := t) hnt (fun s hs => by
                    show nV (put num t k0 s) = nV (num s)
                    rw [put_ne (fun z => hnt (by rw [← z]; exact hs))])
                  rw [← h1, put_same]
                rw [hput]
                have hf10 : (upd H9 pn (.dK (dO (M.take j ++ [t]) fun s => nV (put num t k0 s)))) pf = some (.lst (nVs F)) := by
                  rw [upd_ne nfn]
                  exact hf9
                have hn10 : (upd H9 pn (.dK (dO (M.take j ++ [t]) fun s => nV (put num t k0 s)))) pn = some (.dK (dO (M.take j ++ [t]) fun s => nV (put num t k0 s))) := upd_same
                have s10 : Same H5 (upd H9 pn (.dK (dO (M.take j ++ [t]) fun s => nV (put num t k0 s)))) := fun b o eb => by
                  rw [upd_ne (ne_of_none eb nn5)]
                  exact s79 _ _ (s7 _ _ eb)
                have hD10 : (upd H9 pn (.dK (dO (M.take j ++ [t]) fun s => nV (put num t k0 s)))) D1 = some (.lst (nVs (k0 :: S'))) := by
                  rw [upd_ne (ne_of (s9 _ _ hD1) hn9 (fun w => by cases w))]
                  exact s9 _ _ hD1
                generalize (upd H9 pn (.dK (dO (M.take j ++ [t]) fun s => nV (put num t k0 s)))) = H10 at hf10 hn10 s10 hD10
                refine ⟨_, rfl, by show 0 ≤ sizeLine; decide, fun e1 ne1 => ?_⟩
                have s11 : Same H10 (upd H10 e1 (.lst [])) := same_new ne1
                have he11 : (upd H10 e1 (.lst [])) e1 = some (.lst []) := upd_same
                generalize (upd H10 e1 (.lst [])) = H11 at s11 he11
                refine ⟨dNs (k0 :: S'), .list [], dp_nVs (s11 _ _ hD10), .lst (SqL.of he11) .nil, shp_dNs _, shp_nil, _, rfl, ?_⟩
                rw [eqv_dNs_nil]
                refine ⟨F, put num t k0, _, _, rfl, s10.trans s11, s11 _ _ hf10, ?_, ?_⟩
                · rw [take_snoc ht]
                  exact s11 _ _ hn10
                · rw [take_snoc ht]
                  exact num_old hN hnt (hAr t htM) (fun s hs z => hAs s (hsub s hs) t htM z) (fun s hs z => hAs t htM s (hsub s hs) z) (fun s hs u hu z z' => hAt s (hsub s hs) u (hsub u hu) t htM z z') (fun s hs u hu z z' => hAt s (hsub s hs) t htM u (hsub u hu) z z') hk0 hk1'
          · rintro σ H7 ⟨F, num, y11, y12, rfl, s7, hf7, hn7, hN⟩
            rw [nVs_len, List.take_length] at hn7 hN
            have hq := quot_least hM hB (fun s hs t ht => (hN.iff s hs t ht).trans (hcl s hs t ht)) hN.sub hN.fn hN.d
            have hFl : F.length ≤ M.length := by
              have h1 := congrArg List.length hN.d
              rw [List.length_range] at h1
              have h2 := length_le_of_sub (D_nodup (M.map num)) (fun x hx => mem_D.mp hx)
              rw [List.length_map] at h2
              omega
            -- return
            have hs07 : Same H H7 := (s1.trans s5).trans s7
            refine ⟨_, rfl, pf, rfl, ⟨_, SqL.of hf7⟩, fun D1 nD1 => ?_⟩
            refine lc_list (K := K) (a := pf) (xs := nVs F) (fun i H8 => Same H7 H8 ∧ ∃ ys : List Addr, ys.length = i ∧ (∀ y ∈ ys, H7 y = none) ∧ H8 D1 = some (.lst (ys.map V.ref)) ∧ (∀ y ∈ ys, y ≠ D1) ∧
              ∀ (j : Nat) (y : Addr) (s : Nat), ys[j]? = some y → F[j]? = some s → H8 y = some (.lst (nVs ((rowOf R s).map num))))
              ⟨same_new nD1, [], rfl, fun y hy => (nomatch hy), by rw [upd_same]; rfl, fun y hy => (nomatch hy), fun j y s hy => by simp at hy⟩ (fun i H8 _ ⟨s8, _⟩ => SqL.of (s8 _ _ hf7)) ?_ ?_
            · rintro i v H8 hi ⟨s8, ys, yl, ynew, hD1, yne, hrow⟩
              obtain ⟨st, rfl, hst⟩ := nVs_at hi
              have hi' : i < F.length := (List.getElem?_eq_some_iff.mp hst).1
              have hsM : st ∈ M := hN.sub _ (List.mem_of_getElem? hst)
              obtain ⟨x, hx1, hx2⟩ := (hR.same (hs07.trans s8)).get (hB.lt st hsM)
              refine ⟨rfl, ?_⟩
              refine ⟨_, rfl, _, rfl, a, _, _, _, rfl, rfl, SqL.of ((hs07.trans s8) _ _ hR.at_), atI_nat hx1, x, rfl, ⟨_, SqL.of hx2⟩, fun D2 nD2 => ?_⟩
              refine lc_list (K := K) (a := x) (xs := nVs (rowOf R st)) (fun j H9 => Same H8 H9 ∧ H9 D2 = some (.lst (nVs (((rowOf R st).take j).map num)))) ⟨same_new nD2, by rw [upd_same]; rfl⟩ (fun j H9 _ ⟨s9, _⟩ => SqL.of (s9 _ _ hx2)) ?_ ?_
              · rintro j v H9 hj ⟨s9, hD2⟩
                obtain ⟨u, rfl, hu'⟩ := nVs_at hj
                have huM : u ∈ M := hB.closed hsM (List.mem_of_getElem? hu')
                have hj' := (List.getElem?_eq_some_iff.mp hu').1
                have hw := hM.wide st (hB.lt st hsM)
                refine ⟨rfl, ?_⟩
                refine ⟨_, rfl, _, rfl, pn, _, rfl, dget_dO (s9 _ _ (s8 _ _ hn7)) huM, _, hD2, ?_, ?_, ?_⟩
                · rw [nVs_len, List.length_map, List.length_take]
                  exact szBig (by omega)
                · intro b o eb
                  rw [upd_ne (ne_of_none eb nD2)]
                  exact s9 _ _ eb
                · rw [upd_same, take_snoc hu', List.map_append]
                  exact congrArg (fun z => some (HO.lst z)) (nVs_snoc _ _).symm
              · rintro H9 ⟨s9, hD2⟩
                rw [nVs_len, List.take_length] at hD2
                have hD1' := s9 _ _ hD1
                have n12 : D2 ≠ D1 := fun z => by
                  rw [z, hD1] at nD2
                  cases nD2
                refine ⟨_, hD1', by rw [List.length_map]; exact szBig (by omega), ?_, ys ++ [D2], by rw [List.length_append, List.length_singleton, yl], ?_, ?_, ?_, ?_⟩
                · intro b o eb
                  rw [upd_ne (ne_of_none eb nD1)]
                  exact (s8.trans s9) _ _ eb
                · intro y hy
                  rcases List.mem_append.mp hy with z | z
                  · exact ynew y z
                  · rw [List.mem_singleton] at z
                    rw [z]
                    exact s8.free nD2
                · rw [upd_same, List.map_append]
                  rfl
                · intro y hy
                  rcases List.mem_append.mp hy with z | z
                  · exact yne y z
                  · rw [List.mem_singleton] at z
                    rw [z]
                    exact n12
                · intro j y s' hy hs'
                  by_cases hj : j < ys.length
                  · rw [List.getElem?_append_left hj] at hy
                    rw [upd_ne (yne y (List.mem_of_getElem? hy))]
                    exact s9 _ _ (hrow j y s' hy hs')
                  · have hj2 : j = ys.length := by
                      have := (List.getElem?_eq_some_iff.mp hy).1
                      rw [List.length_append, List.length_singleton] at this
                      omega
                    rw [hj2, yl, hst] at hs'
                    rw [hj2, List.getElem?_concat_length] at hy
                    cases hs'
                    cases hy
                    rw [upd_ne n12]
                    exact hD2
            · rintro H8 ⟨s8, ys, yl, ynew, hD1, yne, hrow⟩
              refine ⟨_, rfl, pf, rfl, ⟨_, SqL.of (s8 _ _ hf7)⟩, fun D3 nD3 => ?_⟩
              refine lc_list (K := K) (a := pf) (xs := nVs F) (fun i H9 => Same H8 H9 ∧ H9 D3 = some (.lst (nVs (((F.take i).filter fun s => decide (s ∈ E)).map num)))) ⟨same_new nD3, by rw [upd_same]; rfl⟩ (fun i H9 _ ⟨s9, _⟩ => SqL.of (s9 _ _ (s8 _ _ hf7))) ?_ ?_
              · rintro i v H9 hi ⟨s9, hD3⟩
                obtain ⟨st, rfl, hst⟩ := nVs_at hi
                have hi' : i < F.length := (List.getElem?_eq_some_iff.mp hst).1
                have hsM : st ∈ M := hN.sub _ (List.mem_of_getElem? hst)
                refine ⟨rfl, ?_⟩
                refine ⟨_, rfl, _, rfl, e, _, rfl, .inl (SqL.of (s9 _ _ (s8 _ _ (hs07 _ _ he)))), rfl, flat_nVs _, _, rfl, ?_⟩
                rw [take_snoc hst, filter_snoc, if_neg Bool.false_ne_true, inV_nVs]
                have hfl := List.length_filter_le (fun s => decide (s ∈ E)) (F.take i)
                rw [List.length_take] at hfl
                by_cases hE : st ∈ E
                · rw [decide_eq_true hE]
                  refine ⟨_, rfl, _, rfl, pn, _, rfl, dget_dO (s9 _ _ (s8 _ _ hn7)) hsM, _, hD3, ?_, ?_, ?_⟩
                  · rw [nVs_len, List.length_map]
                    exact szBig (by omega)
                  · intro b o eb
                    rw [upd_ne (ne_of_none eb nD3)]
                    exact s9 _ _ eb
                  · rw [upd_same, if_pos rfl, List.map_append]
                    exact congrArg (fun z => some (HO.lst z)) (nVs_snoc _ _).symm
                · rw [decide_eq_false hE]
                  refine ⟨s9, ?_⟩
                  rw [if_neg Bool.false_ne_true, List.append_nil]
                  exact hD3
              · rintro H9 ⟨s9, hD3⟩
                rw [nVs_len, List.take_length] at hD3
                refine ⟨by show 2 ≤ sizeLine; decide, fun pt nt => ?_⟩
                have s08 := (hs07.trans s8).trans s9
                have s10 : Same H9 (upd H9 pt (.tup [.ref D1, .ref D3])) := same_new nt
                refine q _ pt D1 D3 ys _ _ (s08.trans s10) (s08.free nt) (hs07.free nD1) ((hs07.trans s8).free nD3) (fun y hy => hs07.free (ynew y hy)) upd_same ?_ (s10 _ _ hD3) hq.1 hq.2 ?_
                · rw [nVs_len] at yl
                  refine ⟨s10 _ _ (s9 _ _ hD1), by rw [yl, List.length_map], fun j y hy => ?_⟩
                  have hj : j < F.length := by
                    have := (List.getElem?_eq_some_iff.mp hy).1
                    omega
                  rw [s10 _ _ (s9 _ _ (hrow j y F[j] hy (List.getElem?_eq_getElem hj)))]
                  have er : rowOf (F.map fun s => (rowOf R s).map num) j = (rowOf R F[j]).map num := by
                    rw [show rowOf (F.map fun s => (rowOf R s).map num) j = (F.map fun s => (rowOf R s).map num).getD j [] from rfl, List.getD_eq_getElem?_getD, List.getElem?_map, List.getElem?_eq_getElem hj]
                    rfl
                  rw [er]
                · rw [List.length_map]
                  omega
end
end K16

namespace Rg
open PySem PySem.Spec PyProof.Rows L2 Mach
/-- the bag made of a script -/
def spBag (K : PySem.W.Frag) : Sp := fun vs H Q _ => ∃ (a : Addr) (ns : List Int), vs = [.ref a] ∧ SqL K H a (ns.map V.int) ∧ ns.length ≤ 63 ∧
  ∀ (H' : Hp) (g l : Addr), Same H H' → H g = none → H l = none → Bag H' g l → Q (.ref g) H'
def sgnsOk (z : Str) : Prop := 1 ≤ z.length ∧ z.length ≤ 4
def spSigns : Sp := fun vs H Q _ => ∃ (g c : Addr), vs = [.ref g] ∧ Bag H g c ∧ ∀ (H' : Hp) (z : Str), sgnsOk z → Bag H' g c → But g H H' → Q (.str z) H'
def spMixed : Sp := fun vs H Q _ => ∃ (g c l : Addr) (E : List Nat), vs = [.ref g, .ref l] ∧ Bag H g c ∧ H l = some (.lst (nVs E)) ∧ l ≠ g ∧ E.length ≤ 4000 ∧
  ∀ (H' : Hp) (p : Addr) (E' : List Nat), Bag H' g c → But g H H' → H p = none → H' p = some (.lst (nVs E')) → E'.Perm E → Q (.ref p) H'
end Rg
namespace K16
open PySem PySem.Spec PyProof.Rows L2 Rg Mach
abbrev sBag : Stmt := topS 39
abbrev sSigns : Stmt := topS 42
theorem scBag : FnScope ["_law_script", "_law_cell"] ["_law_script"] (defScope sBag) := ⟨rfl, rfl, rfl, by decide +kernel, rfl, by decide +kernel, by decide +kernel⟩
theorem scSigns : FnScope ["_law_bag_here"] ["_law_bag_here"] (defScope sSigns) := ⟨rfl, rfl, rfl, by decide +kernel, rfl, by decide +kernel, by decide +kernel⟩
section
variable {P : Program} {w : World} {K : PySem.W.Frag} {mg : Str → Option Value} {base : Heap}
theorem ok_bag {f : Addr} {fd : FuncData} {k : Nat} (F : Fun K "_law_bag" "_law_bag" sBag f fd) (ma : mg "abs" = none) :
    FnOk P w K mg base CX0 (k + 1) f fd ["_law_script"] (spBag K) := by
  refine F.ok scBag (fun vs H Q E h => ?_) (fun cdv A outer s H vs Q E hr h => ?_)
  · obtain ⟨a, ns, rfl, _⟩ := h
    rfl
  · obtain ⟨a, ns, rfl, hS, hl, q⟩ := h
    refine ⟨_, pss_one (ps_ret (pe_lst (pa_cons pe_int (pa_cons pe_int (pa_cons pe_int (pa_cons
      (pe_lc (own := [("_law_cell", 1)]) (g := gName 1) (tt := tYes) rfl scBag.nd (pi_list (pe_slice sl_list (pv 0) po_none (po_some pe_int))) (blkOk_by (own := [("_law_cell", 1)]) (N := ["_law_script", "_law_cell"]) (sc := defScope sBag) (by decide +kernel))
        (fun _ _ _ _ _ => pg_name (i := 1) scBag.nd rfl (Or.inl rfl)) (fun _ _ _ _ _ => pts_nil) (fun _ _ _ _ _ => pe_callB call_abs (by rfl) ma bAbs (pa_cons (pv 1) pa_nil))) pa_nil)))))), ?_⟩
    refine ⟨_, rfl, 63, rfl, a, _, rfl, hS, fun p1 n1 => ?_⟩
    obtain ⟨zs, ez, hz, hzl⟩ := cut_ints ns none (some 63)
    rw [ez]
    have h1 : (upd H p1 (.lst (zs.map V.int))) p1 = some (.lst (zs.map V.int)) := upd_same
    have s1 : Same H (upd H p1 (.lst (zs.map V.int))) := same_new n1
    generalize (upd H p1 (.lst (zs.map V.int))) = H1 at h1 s1
    refine ⟨p1, rfl, ⟨_, SqL.of h1⟩, fun D0 nD => ?_⟩
    refine lc_list (K := K) (a := p1) (xs := zs.map V.int) (fun i H2 => Same H1 H2 ∧ ∃ cs : List Int, cs.length = i ∧ (∀ c ∈ cs, 0 ≤ c) ∧ H2 D0 = some (.lst (cs.map V.int))) ⟨same_new nD, [], rfl, fun c hc => (nomatch hc), by rw [upd_same]; rfl⟩
      (fun i H2 _ ⟨s2, _⟩ => SqL.of (s2 _ _ h1)) ?_ ?_
    · rintro i v H2 hi ⟨s2, cs, cl, cp, hD⟩
      rw [List.getElem?_map] at hi
      obtain ⟨c, hc, rfl⟩ := Option.map_eq_some_iff.mp hi
      have hi' : i < zs.length := (List.getElem?_eq_some_iff.mp hc).1
      refine ⟨rfl, ?_⟩
      refine ⟨_, rfl, _, rfl, _, hD, by rw [List.length_map]; exact szBig (by omega), ?_, cs ++ [if c < 0 then -c else c], by rw [List.length_append, List.length_singleton, cl], ?_, ?_⟩
      · intro b o e
        rw [upd_ne (ne_of_none e nD)]
        exact s2 _ _ e
      · intro x hx
        rcases List.mem_append.mp hx with z | z
        · exact cp x z
        · rw [List.mem_singleton] at z
          rw [z]
          split <;> omega
      · rw [upd_same, List.map_append]
        rfl
    · rintro H2 ⟨s2, cs, cl, cp, hD⟩
      rw [List.length_map] at cl
      refine ⟨by show 4 ≤ sizeLine; decide, fun g ng => ?_⟩
      have s3 : Same H2 (upd H2 g (BagL 0 1234567891 0 D0)) := same_new ng
      refine q _ g D0 (s1.trans (s2.trans s3)) ((s1.trans s2).free ng) (s1.free nD) ⟨0, 1234567891, 0, cs, upd_same, s3 _ _ hD, by decide, by decide, by decide, cp, by omega⟩
theorem ok_signs {f fT : Addr} {fd fdT : FuncData} {k : Nat} (F : Fun K "_law_signs" "_law_signs" sSigns f fd)
    (FT : Fun K "_law_take" "_law_take" sTake fT fdT) (bT : Binds K fdT ["_law_bag_here", "_law_many"] []) (gT : mg "_law_take" = some (.ref fT)) (mi : mg "int" = none) :
    FnOk P w K mg base CX0 (k + 2) f fd ["_law_bag_here"] spSigns := by
  have GT : FnOk P w K mg base CX0 (k + 1) fT fdT ["_law_bag_here", "_law_many"] spTake := ok_take FT mi
  refine F.ok scSigns (fun vs H Q E h => ?_) (fun cdv A outer s H vs Q E hr h => ?_)
  · obtain ⟨g, c, rfl, _⟩ := h
    rfl
  · obtain ⟨g, c, rfl, hB, q⟩ := h
    refine ⟨_, pss_one (ps_ret (pe_ix ix_list (pe_lst (pa_cons pe_str (pa_cons pe_str (pa_cons pe_str (pa_cons pe_str (pa_cons pe_str (pa_cons pe_str (pa_cons pe_str pa_nil)))))))) (pe_call GT hr (by rfl) gT FT.kp bT .nil pass0 (pa_cons (pv 0) (pa_cons pe_int pa_nil))) (fun _ _ => rfl))), ?_⟩
    refine ⟨by show 7 ≤ sizeLine; decide, fun p np => ?_⟩
    refine ⟨_, rfl, g, c, 7, rfl, hB.new np, by decide, by decide, fun H' r hr' hB' B' => ?_⟩
    have hp := B' p _ (hB.ne np) upd_same
    have hall : ∀ r : Nat, r < 7 → ∃ z : Str, ([.str "ab", .str "ab", .str "abc", .str "xz", .str "a", .str "mno", .str "akyz"] : List V)[r]? = some (.str z) ∧ sgnsOk z := by
      intro r hr7
      match r, hr7 with
      | 0, _ => exact ⟨_, rfl, by unfold sgnsOk; decide⟩
      | 1, _ => exact ⟨_, rfl, by unfold sgnsOk; decide⟩
      | 2, _ => exact ⟨_, rfl, by unfold sgnsOk; decide⟩
      | 3, _ => exact ⟨_, rfl, by unfold sgnsOk; decide⟩
      | 4, _ => exact ⟨_, rfl, by unfold sgnsOk; decide⟩
      | 5, _ => exact ⟨_, rfl, by unfold sgnsOk; decide⟩
      | 6, _ => exact ⟨_, rfl, by unfold sgnsOk; decide⟩
    obtain ⟨z, ez, hz⟩ := hall r (by omega)
    exact ⟨p, _, _, _, rfl, rfl, SqL.of hp, atI_nat ez, q H' z hz hB' (((But.refl g H).new np).trans B')⟩
end
end K16

namespace Rg
open PySem PySem.Spec PyProof.Rows L2 Mach
/-- a machine made by drawing, of at most m states -/
def spMachS : Sp := fun vs H Q _ => ∃ (g c : Addr) (z : Str) (m : Nat), vs = [.ref g, .str z, nV m] ∧ Bag H g c ∧ 1 ≤ z.length ∧ z.length ≤ 4 ∧ 1 ≤ m ∧ m ≤ 40 ∧
  ∀ (H' : Hp) (t pr pe : Addr) (xs : List Addr) (R : List (List Nat)) (E : List Nat), Bag H' g c → But g H H' → (∀ x ∈ t :: pr :: pe :: xs, H x = none) → H' t = some (.tup [.ref pr, .ref pe]) → RowsAt H' pr xs R → H' pe = some (.lst (nVs E)) →
    Mok z.length R → 0 < R.length → R.length ≤ m → (∀ x ∈ E, x < R.length) → E.length ≤ 50 → Q (.ref t) H'
end Rg

namespace K16
open PySem PySem.Spec PyProof.Rows L2 Rg Mach
abbrev sMach : Stmt := topS 46
def nMach : List Str := ["_law_bag_here", "_law_signs_here", "_law_states", "_law_wide", "_law_way", "_law_first", "_law_many", "_law_rows", "_law_k", "_law_j"]
theorem scMach : FnScope nMach ["_law_bag_here", "_law_signs_here", "_law_states"] (defScope sMach) := ⟨rfl, rfl, rfl, by decide +kernel, rfl, by decide +kernel, by decide +kernel⟩
def scRows : Scope := match (defBody sMach).getD 5 (.Pass ⟨0, 0, 0, 0⟩) with
  | .Assign _ (.ListComp _ _ sc _) _ => sc
  | _ => defScope sMach
section
variable {P : Program} {w : World} {K : PySem.W.Frag} {mg : Str → Option Value} {base : Heap}
theorem ok_mach {f fT : Addr} {fd fdT : FuncData} {k : Nat} (F : Fun K "_law_machine" "_law_machine" sMach f fd)
    (FT : Fun K "_law_take" "_law_take" sTake fT fdT) (bT : Binds K fdT ["_law_bag_here", "_law_many"] []) (gT : mg "_law_take" = some (.ref fT)) (mi : mg "int" = none) (ml : mg "len" = none) (mr : mg "range" = none) :
    FnOk P w K mg base CX0 (k + 2) f fd ["_law_bag_here", "_law_signs_here", "_law_states"] spMachS := by
  have GT : FnOk P w K mg base CX0 (k + 1) fT fdT ["_law_bag_here", "_law_many"] spTake := ok_take FT mi
  refine F.ok scMach (fun vs H Q E h => ?_) (fun cdv A outer s H vs Q E hr h => ?_)
  · obtain ⟨g, c, z, m, rfl, _⟩ := h
    rfl
  · obtain ⟨g, c, z, m, rfl, hB, hz1, hz4, hm1, hm2, q⟩ := h
    refine ⟨_, pss_cons (ps_asg (pe_tup (pa_cons (pe_callB call_len_str (by rfl) ml bLen (pa_cons (pv 1) pa_nil)) (pa_cons (pe_call GT hr (by rfl) gT FT.kp bT .nil pass0 (pa_cons (pv 0) (pa_cons pe_int pa_nil))) pa_nil)))
        (pg_tup rfl (pgs_cons (pg_name (i := 3) scMach.nd rfl (.inr rfl)) (pgs_cons (pg_name (i := 4) scMach.nd rfl (.inl rfl)) pgs_nil))))
      (pss_cons (ps_if (pt_cmpR op_eq (pv 4) pe_int (nomark _)) (pss_one (ps_ret (pe_tup (pa_cons (pe_lst (pa_cons (pe_op op_rep (pe_lst (pa_cons pe_int pa_nil)) (pv 3)) pa_nil))
          (pa_cons (pe_op op_rep (pe_lst (pa_cons pe_int pa_nil)) (pe_call GT hr (by rfl) gT FT.kp bT .nil pass0 (pa_cons (pv 0) (pa_cons pe_int pa_nil)))) pa_nil))))) pss_nil)
      (C8.pss_cut (ps_if (pw_and (pt_cmpR op_lt (pv 4) pe_int (nomark _)) (pw_and1 (pt_cmpR op_gt (pv 2) pe_int (nomark _)))).pt
        (pss_cons (ps_setLc (i := 5) (own := [("_law_k", 8)]) (g := gName 8) (tt := tYes) rfl scMach.nd rfl rfl (sw_true rfl rfl rfl (by decide +kernel)) (pi_range1 (by rfl) mr (pa_cons (pv 3) pa_nil)) (blkOk_by (own := [("_law_k", 8)]) (N := nMach) (sc := defScope sMach) (by decide +kernel))
            (fun _ _ _ _ _ => pg_name (i := 8) scMach.nd rfl (Or.inl rfl)) (fun _ _ _ _ _ => pts_nil) (fun _ _ _ _ _ => pe_callTy call_int1 (by rfl) mi bInt (pa_cons (pe_cmpR op_eq (pv 8) pe_int (nomark _)) pa_nil)))
        (pss_one (ps_ret (pe_tup (pa_cons (pe_lst (pa_cons (pv 5) (pa_cons (pe_ix ix_list (pe_lst (pa_cons (pv 5) (pa_cons
            (pe_lc (own := [("_law_k", 8)]) (g := gName 8) (tt := tYes) rfl scMach.nd (pi_range1 (by rfl) mr (pa_cons (pv 3) pa_nil)) (blkOk_by (own := [("_law_k", 8)]) (N := nMach) (sc := defScope sMach) (by decide +kernel))
              (fun _ _ _ _ _ => pg_name (i := 8) scMach.nd rfl (Or.inl rfl)) (fun _ _ _ _ _ => pts_nil) (fun _ _ _ _ _ => pe_callTy call_int1 (by rfl) mi bInt (pa_cons (pe_cmpR op_gt (pv 8) pe_int (nomark _)) pa_nil))) pa_nil)))
            (pe_op op_sub (pv 4) pe_int) (fun _ _ => rfl)) pa_nil))) (pa_cons (pe_lst (pa_cons (pe_call GT hr (by rfl) gT FT.kp bT .nil pass0 (pa_cons (pv 0) (pa_cons pe_int pa_nil))) pa_nil)) pa_nil)))))) pss_nil)
      (C8.pss_cut (ps_if (pw_and (pt_cmpR op_eq (pv 4) pe_int (nomark _)) (pw_and1 (pt_cmpR op_gt (pv 2) pe_int (nomark _)))).pt
        (pss_one (ps_ret (pe_tup (pa_cons (pe_lst (pa_cons (pe_op op_cat (pe_lst (pa_cons pe_int pa_nil)) (pe_op op_rep (pe_lst (pa_cons pe_int pa_nil)) (pe_op op_sub (pv 3) pe_int)))
            (pa_cons (pe_op op_rep (pe_lst (pa_cons pe_int pa_nil)) (pv 3)) (pa_cons (pe_op op_rep (pe_lst (pa_cons pe_int pa_nil)) (pv 3)) pa_nil))))
            (pa_cons (pe_lst (pa_cons (pe_call GT hr (by rfl) gT FT.kp bT .nil pass0 (pa_cons (pv 0) (pa_cons pe_int pa_nil))) pa_nil)) pa_nil))))) pss_nil)
      (pss_cons (ps_set (i := 6) scMach.nd rfl (.inr rfl) (pe_op op_add pe_int (pe_call GT hr (by rfl) gT FT.kp bT .nil pass0 (pa_cons (pv 0) (pa_cons (pv 2) pa_nil)))))
      (pss_cons (ps_setLc (i := 7) (own := [("_law_k", 8)]) (g := gName 8) (tt := tYes) (te := tLc (iRng1 (tCons (tVar 3) tNil)) (gName 9) tYes (tCall spTake [] E0 (tCons (tVar 0) (tCons (tVar 6) tNil))) [9]) rfl scMach.nd rfl rfl (sw_true rfl rfl rfl (by decide +kernel)) (pi_range1 (by rfl) mr (pa_cons (pv 6) pa_nil)) (blkOk_by (own := [("_law_k", 8)]) (N := nMach) (sc := defScope sMach) (by decide +kernel))
            (fun _ _ _ _ _ => pg_name (i := 8) scMach.nd rfl (Or.inl rfl)) (fun _ _ _ _ _ => pts_nil)
            (fun _ _ _ _ _ => pe_lc (own := [("_law_j", 9)]) (g := gName 9) (tt := tYes) rfl scMach.nd (pi_range1 (by rfl) mr (pa_cons (pv 3) pa_nil)) (blkOk_by (own := [("_law_j", 9)]) (N := nMach) (sc := relS scRows (defScope sMach)) (by decide +kernel))
              (fun _ _ _ _ _ => pg_name (i := 9) scMach.nd rfl (Or.inl rfl)) (fun _ _ _ _ _ => pts_nil) (fun _ _ _ _ _ => pe_call GT hr (by rfl) gT FT.kp bT .nil pass0 (pa_cons (pv 0) (pa_cons (pv 6) pa_nil)))))
      (pss_one (ps_ret (pe_tup (pa_cons (pv 7) (pa_cons
            (pe_lc (own := [("_law_k", 8)]) (g := gName 8) (tt := _) rfl scMach.nd (pi_range1 (by rfl) mr (pa_cons (pv 6) pa_nil)) (blkOk_by (own := [("_law_k", 8)]) (N := nMach) (sc := defScope sMach) (by decide +kernel))
              (fun _ _ _ _ _ => pg_name (i := 8) scMach.nd rfl (Or.inl rfl)) (fun _ _ _ _ _ => pts_one (pt_cmpR op_eq (pe_call GT hr (by rfl) gT FT.kp bT .nil pass0 (pa_cons (pv 0) (pa_cons pe_int pa_nil))) pe_int (nomark _))) (fun _ _ _ _ _ => pv 8)) pa_nil)))))))))), ?_⟩
    have fin : ∀ (H9 : Hp) (t pr pe : Addr) (xs : List Addr) (R : List (List Nat)) (E : List Nat), Dr g c H H9 → (∀ x ∈ t :: pr :: pe :: xs, H x = none) → H9 t = some (.tup [.ref pr, .ref pe]) → RowsAt H9 pr xs R → H9 pe = some (.lst (nVs E)) →
        Mok z.length R → 0 < R.length → R.length ≤ m → (∀ x ∈ E, x < R.length) → E.length ≤ 50 → Q (.ref t) H9 := fun H9 t pr pe xs R E d => q H9 t pr pe xs R E d.bag d.but
    have zs : z.length ≤ sizeLine := szBigLe (by omega)
    -- wide, way
    refine ⟨_, rfl, z, rfl, zs, _, rfl, g, c, 8, rfl, hB, by decide, by decide, fun H1 way hw hB1 B1 => ?_⟩
    refine ⟨by show 2 ≤ sizeLine; decide, fun t0 n0 => ?_⟩
    refine ⟨t0, _, rfl, SqT.of upd_same, rfl, _, _, rfl, _, _, rfl, rfl, ?_⟩
    have d2 : Dr g c H (upd H1 t0 (.tup [.int (z.length : Int), nV way])) := (Dr.mk hB1 B1).same (same_new n0)
    generalize (upd H1 t0 (.tup [.int (z.length : Int), nV way])) = H2 at d2
    refine ⟨_, rfl, rfl, _, rfl, ite2 (fun e0 => ?_) (fun e0 => ?_)⟩
    · -- way 0
      refine ⟨by show 1 ≤ sizeLine; decide, fun p1 n1 => ?_⟩
      refine ⟨_, rfl, p1, (z.length : Int), _, rfl, rfl, upd_same, by omega, by omega, by rw [Int.toNat_natCast]; exact szBigLe (by show 1 * z.length ≤ 100000; omega), fun p2 n2 => ?_⟩
      rw [Int.toNat_natCast, show ([V.int 0] : List V) = [nV 0] from rfl, rep_nVs]
      have s2 : Same H2 (upd (upd H2 p1 (.lst [nV 0])) p2 (.lst (nVs (List.replicate z.length 0)))) := (same_new n1).trans (same_new n2)
      have h2 : (upd (upd H2 p1 (.lst [nV 0])) p2 (.lst (nVs (List.replicate z.length 0)))) p2 = some (.lst (nVs (List.replicate z.length 0))) := upd_same
      have n2' : H2 p2 = none := (same_new n1).free n2
      generalize (upd (upd H2 p1 (.lst [nV 0])) p2 (.lst (nVs (List.replicate z.length 0)))) = H3 at s2 h2
      refine ⟨by show 1 ≤ sizeLine; decide, fun p3 n3 => ?_⟩
      have s3 : Same H3 (upd H3 p3 (.lst [.ref p2])) := same_new n3
      have h3 : (upd H3 p3 (.lst [.ref p2])) p3 = some (.lst [.ref p2]) := upd_same
      generalize (upd H3 p3 (.lst [.ref p2])) = H4 at s3 h3
      refine ⟨by show 1 ≤ sizeLine; decide, fun p4 n4 => ?_⟩
      have s4 : Same H4 (upd H4 p4 (.lst [.int 0])) := same_new n4
      have h4 : (upd H4 p4 (.lst [.int 0])) p4 = some (.lst [.int 0]) := upd_same
      generalize (upd H4 p4 (.lst [.int 0])) = H5 at s4 h4
      have d5 := ((d2.same s2).same s3).same s4
      refine ⟨_, rfl, g, c, 2, rfl, d5.bag, by decide, by decide, fun H6 r hr6 hB6 B6 => ?_⟩
      have d56 : Dr g c H5 H6 := ⟨hB6, B6⟩
      have d6 := d5.trans d56
      have g4 : p4 ≠ g := ((d2.same s2).same s3).ne n4
      have g3 : p3 ≠ g := (d2.same s2).ne n3
      have g2 : p2 ≠ g := d2.ne n2'
      refine ⟨p4, (r : Int), _, rfl, rfl, d56.keep h4 g4, by omega, by omega, by rw [Int.toNat_natCast]; exact szBigLe (by show 1 * r ≤ 100000; omega), fun p5 n5 => ?_⟩
      rw [Int.toNat_natCast, show ([V.int 0] : List V) = [nV 0] from rfl, rep_nVs]
      have s6 : Same H6 (upd H6 p5 (.lst (nVs (List.replicate r 0)))) := same_new n5
      have h6 : (upd H6 p5 (.lst (nVs (List.replicate r 0)))) p5 = some (.lst (nVs (List.replicate r 0))) := upd_same
      generalize (upd H6 p5 (.lst (nVs (List.replicate r 0)))) = H7 at s6 h6
      refine ⟨by show 2 ≤ sizeLine; decide, fun t nt => ?_⟩
      have s7 : Same H7 (upd H7 t (.tup [.ref p3, .ref p5])) := same_new nt
      have d7 := d6.same s6
      refine fin _ t p3 p5 [p2] [List.replicate z.length 0] (List.replicate r 0) (d7.same s7) ?_ upd_same (rows_mk (s7 _ _ (s6 _ _ (d56.keep (s4 _ _ h3) g3))) (.cons (s7 _ _ (s6 _ _ (d56.keep (s4 _ _ (s3 _ _ h2)) g2))) .nil)) (s7 _ _ h6) ?_ (by show 0 < 1; decide) (by show 1 ≤ m; omega) ?_ ?_
      · intro x hx
        simp only [List.mem_cons, List.not_mem_nil, or_false] at hx
        rcases hx with rfl | rfl | rfl | rfl
        · exact d7.free nt
        · exact (d2.same s2).free n3
        · exact d6.free n5
        · exact d2.free n2'
      · refine mok_of fun row hrow => ?_
        rw [List.mem_singleton] at hrow
        rw [hrow]
        exact ⟨List.length_replicate, fun x hx => by rw [List.eq_of_mem_replicate hx]; show 0 < 1; decide⟩
      · intro x hx
        rw [List.eq_of_mem_replicate hx]
        show 0 < 1
        decide
      · rw [List.length_replicate]
        omega
    · refine ⟨fun σ' H' => σ' = [some (.ref g), some (.str z), some (nV m), some (.int (z.length : Int)), some (nV way), none, none, none, none, none] ∧ H' = H2, ?_, ?_⟩
      · refine ⟨_, rfl, _, _, rfl, rfl, _, rfl, ite2 (fun e1 => ?_) (fun e1 => iteF ⟨rfl, rfl⟩)⟩
        refine ⟨_, rfl, _, _, rfl, rfl, _, rfl, ite2 (fun e2 => ?_) (fun e2 => ⟨rfl, rfl⟩)⟩
        have e2m := of_decide_eq_true e2
        have hw3 : way < 3 := by
          have := of_decide_eq_true e1
          omega
        have hw0 : way ≠ 0 := by
          intro zz
          rw [zz] at e0
          exact e0 (decide_eq_true rfl)
        refine ⟨_, rfl, _, rfl, by omega, by omega, fun p1 n1 => ?_⟩
        refine lc_range (n := (z.length : Int).toNat) (fun i H3 => Same H2 H3 ∧ ∃ row : List Nat, row.length = i ∧ (∀ x ∈ row, x < 2) ∧ H3 p1 = some (.lst (nVs row))) ⟨same_new n1, [], rfl, fun x hx => (nomatch hx), by rw [upd_same]; rfl⟩ ?_ ?_
        · rintro i H3 hi ⟨s3, row, rl, rx, h1⟩
          refine ⟨rfl, ?_⟩
          refine ⟨_, rfl, rfl, .inr ⟨_, rfl, _, h1, by rw [nVs_len]; exact szBig (by omega), ?_, row ++ [if V.int (0 + (i : Int)) = V.int 0 then 1 else 0], by rw [List.length_append, List.length_singleton, rl], ?_, ?_⟩⟩
          · intro b o e
            rw [upd_ne (ne_of_none e n1)]
            exact s3 _ _ e
          · intro x hx
            rcases List.mem_append.mp hx with y | y
            · exact rx x y
            · rw [List.mem_singleton] at y
              rw [y]
              split <;> omega
          · rw [upd_same, nVs_snoc]
            refine congrArg (fun l => some (HO.lst (nVs row ++ [l]))) ?_
            by_cases hh : V.int (0 + (i : Int)) = V.int 0
            · rw [if_pos hh, decide_eq_true hh]
              rfl
            · rw [if_neg hh, decide_eq_false hh]
              rfl
        · rintro H3 ⟨s3, row, rl, rx, h1⟩
          rw [Int.toNat_natCast] at rl
          have d3 := d2.same s3
          have g1 : p1 ≠ g := d2.ne n1
          -- return ([first, [first, [..]][way - 1]], [take])
          refine ⟨_, rfl, _, rfl, _, rfl, _, rfl, by omega, by omega, fun p2 n2 => ?_⟩
          refine lc_range (n := (z.length : Int).toNat) (fun i H4 => Same H3 H4 ∧ ∃ row2 : List Nat, row2.length = i ∧ (∀ x ∈ row2, x < 2) ∧ H4 p2 = some (.lst (nVs row2))) ⟨same_new n2, [], rfl, fun x hx => (nomatch hx), by rw [upd_same]; rfl⟩ ?_ ?_
          · rintro i H4 hi ⟨s4, row2, rl2, rx2, h2⟩
            refine ⟨rfl, ?_⟩
            refine ⟨_, rfl, _, _, rfl, rfl, .inr ⟨_, rfl, _, h2, by rw [nVs_len]; exact szBig (by omega), ?_, row2 ++ [if (0 : Int) < 0 + (i : Int) then 1 else 0], by rw [List.length_append, List.length_singleton, rl2], ?_, ?_⟩⟩
            · intro b o e
              rw [upd_ne (ne_of_none e n2)]
              exact s4 _ _ e
            · intro x hx
              rcases List.mem_append.mp hx with y | y
              · exact rx2 x y
              · rw [List.mem_singleton] at y
                rw [y]
                split <;> omega
            · rw [upd_same, nVs_snoc]
              refine congrArg (fun l => some (HO.lst (nVs row2 ++ [l]))) ?_
              by_cases hh : (0 : Int) < 0 + (i : Int)
              · rw [if_pos hh, decide_eq_true hh]
                rfl
              · rw [if_neg hh, decide_eq_false hh]
                rfl
          · rintro H4 ⟨s4, row2, rl2, rx2, h2⟩
            rw [Int.toNat_natCast] at rl2
            refine ⟨by show 2 ≤ sizeLine; decide, fun p3 n3 => ?_⟩
            have s5 : Same H4 (upd H4 p3 (.lst [.ref p1, .ref p2])) := same_new n3
            have h3 : (upd H4 p3 (.lst [.ref p1, .ref p2])) p3 = some (.lst [.ref p1, .ref p2]) := upd_same
            generalize (upd H4 p3 (.lst [.ref p1, .ref p2])) = H5 at s5 h3
            have d5 := (d3.same s4).same s5
            have g2 : p2 ≠ g := d3.ne n2
            -- which of the two
            obtain ⟨px, rowx, ex, epx, rlx, rxx, hpx, gpx, npx⟩ : ∃ (px : Addr) (rowx : List Nat), ([.ref p1, .ref p2] : List V)[way - 1]? = some (.ref px) ∧ ((way : Int) - 1 = ((way - 1 : Nat) : Int)) ∧ rowx.length = z.length ∧ (∀ x ∈ rowx, x < 2) ∧ H5 px = some (.lst (nVs rowx)) ∧ px ≠ g ∧ H px = none := by
              by_cases h1w : way = 1
              · exact ⟨p1, row, by rw [h1w]; rfl, by omega, rl, rx, s5 _ _ (s4 _ _ h1), g1, d2.free n1⟩
              · have h2w : way = 2 := by omega
                exact ⟨p2, row2, by rw [h2w]; rfl, by omega, rl2, rx2, s5 _ _ h2, g2, d3.free n2⟩
            refine ⟨_, rfl, _, _, rfl, rfl, p3, _, ((way - 1 : Nat) : Int), _, rfl, by rw [← epx], SqL.of h3, atI_nat ex, ?_⟩
            refine ⟨by show 2 ≤ sizeLine; decide, fun p4 n4 => ?_⟩
            have s6 : Same H5 (upd H5 p4 (.lst [.ref p1, .ref px])) := same_new n4
            have h4 : (upd H5 p4 (.lst [.ref p1, .ref px])) p4 = some (.lst [.ref p1, .ref px]) := upd_same
            generalize (upd H5 p4 (.lst [.ref p1, .ref px])) = H6 at s6 h4
            have d6 := d5.same s6
            have g4 : p4 ≠ g := d5.ne n4
            refine ⟨_, rfl, g, c, 2, rfl, d6.bag, by decide, by decide, fun H7 r hr7 hB7 B7 => ?_⟩
            have d67 : Dr g c H6 H7 := ⟨hB7, B7⟩
            refine ⟨by show 1 ≤ sizeLine; decide, fun p5 n5 => ?_⟩
            have s8 : Same H7 (upd H7 p5 (.lst [nV r])) := same_new n5
            have h5 : (upd H7 p5 (.lst [nV r])) p5 = some (.lst (nVs [r])) := upd_same
            generalize (upd H7 p5 (.lst [nV r])) = H8 at s8 h5
            refine ⟨by show 2 ≤ sizeLine; decide, fun t nt => ?_⟩
            have s9 : Same H8 (upd H8 t (.tup [.ref p4, .ref p5])) := same_new nt
            have d8 := (d6.trans d67).same s8
            have kp : ∀ {p : Addr} {o : HO}, H6 p = some o → p ≠ g → (upd H8 t (.tup [.ref p4, .ref p5])) p = some o := fun h n => s9 _ _ (s8 _ _ (d67.keep h n))
            refine fin _ t p4 p5 [p1, px] [row, rowx] [r] (d8.same s9) ?_ upd_same (rows_mk (kp h4 g4) (.cons (kp (s6 _ _ (s5 _ _ (s4 _ _ h1))) g1) (.cons (kp (s6 _ _ hpx) gpx) .nil))) (s9 _ _ h5) ?_ (by show 0 < 2; decide) (by show 2 ≤ m; omega) ?_ (by show 1 ≤ 50; decide)
            · intro x hx
              simp only [List.mem_cons, List.not_mem_nil, or_false] at hx
              rcases hx with rfl | rfl | rfl | rfl | rfl
              · exact d8.free nt
              · exact d5.free n4
              · exact (d6.trans d67).free n5
              · exact d2.free n1
              · exact npx
            · refine mok_of fun rr hrr => ?_
              simp only [List.mem_cons, List.not_mem_nil, or_false] at hrr
              rcases hrr with rfl | rfl
              · exact ⟨rl, rx⟩
              · exact ⟨rlx, rxx⟩
            · intro x hx
              rw [List.mem_singleton] at hx
              rw [hx]
              show r < 2
              omega
      · rintro σ' H' ⟨rfl, rfl⟩
        refine ⟨fun σ' H'' => σ' = [some (.ref g), some (.str z), some (nV m), some (.int (z.length : Int)), some (nV way), none, none, none, none, none] ∧ H'' = H', ?_, ?_⟩
        · refine ⟨_, rfl, rfl, _, rfl, ite2 (fun e1 => ?_) (fun e1 => iteF ⟨rfl, rfl⟩)⟩
          refine ⟨_, rfl, _, _, rfl, rfl, _, rfl, ite2 (fun e2 => ?_) (fun e2 => ⟨rfl, rfl⟩)⟩
          have e2m := of_decide_eq_true e2
          -- way 3
          refine ⟨by show 1 ≤ sizeLine; decide, fun p1 n1 => ?_⟩
          have s1 : Same H' (upd H' p1 (.lst [.int 1])) := same_new n1
          have h1 : (upd H' p1 (.lst [.int 1])) p1 = some (.lst [.int 1]) := upd_same
          generalize (upd H' p1 (.lst [.int 1])) = H3 at s1 h1
          refine ⟨by show 1 ≤ sizeLine; decide, fun p2 n2 => ?_⟩
          have s2 : Same H3 (upd H3 p2 (.lst [.int 2])) := same_new n2
          have h2 : (upd H3 p2 (.lst [.int 2])) p2 = some (.lst [nV 2]) := upd_same
          generalize (upd H3 p2 (.lst [.int 2])) = H4 at s2 h2
          refine ⟨_, rfl, _, _, rfl, rfl, p2, (z.length : Int) - 1, _, rfl, rfl, h2, by omega, by omega, ?_, fun p3 n3 => ?_⟩
          · exact szBigLe (by show 1 * ((z.length : Int) - 1).toNat ≤ 100000; omega)
          rw [rep_nVs]
          have s3 : Same H4 (upd H4 p3 (.lst (nVs (List.replicate ((z.length : Int) - 1).toNat 2)))) := same_new n3
          have h3 : (upd H4 p3 (.lst (nVs (List.replicate ((z.length : Int) - 1).toNat 2)))) p3 = some (.lst (nVs (List.replicate ((z.length : Int) - 1).toNat 2))) := upd_same
          generalize (upd H4 p3 (.lst (nVs (List.replicate ((z.length : Int) - 1).toNat 2)))) = H5 at s3 h3
          refine ⟨p1, p3, _, _, rfl, rfl, s3 _ _ (s2 _ _ h1), h3, ?_, fun p4 n4 => ?_⟩
          · rw [nVs_len, List.length_replicate]
            exact szBigLe (by show 1 + ((z.length : Int) - 1).toNat ≤ 100000; omega)
          have s4 : Same H5 (upd H5 p4 (.lst ([V.int 1] ++ nVs (List.replicate ((z.length : Int) - 1).toNat 2)))) := same_new n4
          have h4 : (upd H5 p4 (.lst ([V.int 1] ++ nVs (List.replicate ((z.length : Int) - 1).toNat 2)))) p4 = some (.lst (nVs (1 :: List.replicate ((z.length : Int) - 1).toNat 2))) := upd_same
          generalize (upd H5 p4 (.lst ([V.int 1] ++ nVs (List.replicate ((z.length : Int) - 1).toNat 2)))) = H6 at s4 h4
          -- [2] * wide, twice
          refine ⟨by show 1 ≤ sizeLine; decide, fun p5 n5 => ?_⟩
          have s5 : Same H6 (upd H6 p5 (.lst [.int 2])) := same_new n5
          have h5 : (upd H6 p5 (.lst [.int 2])) p5 = some (.lst [nV 2]) := upd_same
          generalize (upd H6 p5 (.lst [.int 2])) = H7 at s5 h5
          refine ⟨_, rfl, p5, (z.length : Int), _, rfl, rfl, h5, by omega, by omega, by exact szBigLe (by show 1 * (z.length : Int).toNat ≤ 100000; omega), fun p6 n6 => ?_⟩
          rw [rep_nVs, Int.toNat_natCast]
          have s6 : Same H7 (upd H7 p6 (.lst (nVs (List.replicate z.length 2)))) := same_new n6
          have h6 : (upd H7 p6 (.lst (nVs (List.replicate z.length 2)))) p6 = some (.lst (nVs (List.replicate z.length 2))) := upd_same
          generalize (upd H7 p6 (.lst (nVs (List.replicate z.length 2)))) = H8 at s6 h6
          refine ⟨by show 1 ≤ sizeLine; decide, fun p7 n7 => ?_⟩
          have s7 : Same H8 (upd H8 p7 (.lst [.int 2])) := same_new n7
          have h7 : (upd H8 p7 (.lst [.int 2])) p7 = some (.lst [nV 2]) := upd_same
          generalize (upd H8 p7 (.lst [.int 2])) = H9 at s7 h7
          refine ⟨_, rfl, p7, (z.length : Int), _, rfl, rfl, h7, by omega, by omega, by exact szBigLe (by show 1 * (z.length : Int).toNat ≤ 100000; omega), fun p8 n8 => ?_⟩
          rw [rep_nVs, Int.toNat_natCast]
          have s8 : Same H9 (upd H9 p8 (.lst (nVs (List.replicate z.length 2)))) := same_new n8
          have h8 : (upd H9 p8 (.lst (nVs (List.replicate z.length 2)))) p8 = some (.lst (nVs (List.replicate z.length 2))) := upd_same
          generalize (upd H9 p8 (.lst (nVs (List.replicate z.length 2)))) = Ha at s8 h8
          refine ⟨by show 3 ≤ sizeLine; decide, fun p9 n9 => ?_⟩
          have s9 : Same Ha (upd Ha p9 (.lst [.ref p4, .ref p6, .ref p8])) := same_new n9
          have h9 : (upd Ha p9 (.lst [.ref p4, .ref p6, .ref p8])) p9 = some (.lst [.ref p4, .ref p6, .ref p8]) := upd_same
          generalize (upd Ha p9 (.lst [.ref p4, .ref p6, .ref p8])) = Hb at s9 h9
          have s15 := (s1.trans s2).trans s3
          have s17 := ((s15.trans s4).trans s5)
          have s19 := (s17.trans s6).trans s7
          have d5 := d2.same s15
          have d7 := d2.same s17
          have d9 := d2.same s19
          have da := d9.same s8
          have db := da.same s9
          refine ⟨_, rfl, g, c, 2, rfl, db.bag, by decide, by decide, fun Hc r hrc hBc Bc => ?_⟩
          have dbc : Dr g c Hb Hc := ⟨hBc, Bc⟩
          refine ⟨by show 1 ≤ sizeLine; decide, fun pe ne => ?_⟩
          have se : Same Hc (upd Hc pe (.lst [nV r])) := same_new ne
          have he : (upd Hc pe (.lst [nV r])) pe = some (.lst (nVs [r])) := upd_same
          generalize (upd Hc pe (.lst [nV r])) = Hd at se he
          refine ⟨by show 2 ≤ sizeLine; decide, fun t nt => ?_⟩
          have st : Same Hd (upd Hd t (.tup [.ref p9, .ref pe])) := same_new nt
          have dd := (db.trans dbc).same se
          have kp : ∀ {p : Addr} {o : HO}, Hb p = some o → p ≠ g → (upd Hd t (.tup [.ref p9, .ref pe])) p = some o := fun h n => st _ _ (se _ _ (dbc.keep h n))
          refine fin _ t p9 pe [p4, p6, p8] [1 :: List.replicate ((z.length : Int) - 1).toNat 2, List.replicate z.length 2, List.replicate z.length 2] [r] (dd.same st) ?_ upd_same
            (rows_mk (kp h9 (da.ne n9)) (.cons (kp (s9 _ _ (s8 _ _ (s7 _ _ (s6 _ _ (s5 _ _ h4))))) (d5.ne n4)) (.cons (kp (s9 _ _ (s8 _ _ (s7 _ _ h6))) (d7.ne n6)) (.cons (kp (s9 _ _ h8) (d9.ne n8)) .nil)))) (st _ _ he) ?_ (by show 0 < 3; decide) (by show 3 ≤ m; omega) ?_ (by show 1 ≤ 50; decide)
          · intro x hx
            simp only [List.mem_cons, List.not_mem_nil, or_false] at hx
            rcases hx with rfl | rfl | rfl | rfl | rfl | rfl
            · exact dd.free nt
            · exact da.free n9
            · exact (db.trans dbc).free ne
            · exact d5.free n4
            · exact d7.free n6
            · exact d9.free n8
          · refine mok_of fun rr hrr => ?_
            simp only [List.mem_cons, List.not_mem_nil, or_false] at hrr
            rcases hrr with rfl | rfl | rfl
            · refine ⟨by rw [List.length_cons, List.length_replicate]; omega, fun x hx => ?_⟩
              rcases List.mem_cons.mp hx with y | y
              · rw [y]
                show 1 < 3
                decide
              · rw [List.eq_of_mem_replicate y]
                show 2 < 3
                decide
            · exact ⟨List.length_replicate, fun x hx => by rw [List.eq_of_mem_replicate hx]; show 2 < 3; decide⟩
            · exact ⟨List.length_replicate, fun x hx => by rw [List.eq_of_mem_replicate hx]; show 2 < 3; decide⟩
          · intro x hx
            rw [List.mem_singleton] at hx
            rw [hx]
            show r < 3
            omega
        · rintro σ' H'' ⟨rfl, rfl⟩
          -- a drawn one
          refine ⟨_, rfl, _, rfl, g, c, (m : Int), rfl, d2.bag, by omega, by omega, fun H3 r3 hr3 hB3 B3 => ?_⟩
          have d3 := d2.trans (Dr.mk hB3 B3)
          refine ⟨1, (r3 : Int), rfl, rfl, ?_⟩
          have hM1 : 1 ≤ 1 + r3 ∧ 1 + r3 ≤ 100 := by omega
          -- rows
          refine ⟨_, rfl, 1 + (r3 : Int), rfl, by omega, by omega, fun p1 n1 => ?_⟩
          have np1 : H p1 = none := d3.free n1
          have g1 : p1 ≠ g := d3.ne n1
          have c1 : p1 ≠ c := d3.ne2 n1
          refine lc_range (n := (1 + (r3 : Int)).toNat) (fun i H4 => Dr g c H H4 ∧ ∃ (xs : List Addr) (R : List (List Nat)), xs.length = i ∧ (∀ x ∈ xs, H x = none ∧ x ≠ g ∧ x ≠ c ∧ x ≠ p1) ∧ (∀ r ∈ R, r.length = z.length ∧ ∀ x ∈ r, x < 1 + r3) ∧ H4 p1 = some (.lst (xs.map V.ref)) ∧ Paired (fun (x : Addr) (r : List Nat) => H4 x = some (.lst (nVs r))) xs R)
            ⟨d3.same (same_new n1), [], [], rfl, fun x hx => (nomatch hx), fun x hx => (nomatch hx), by rw [upd_same]; rfl, .nil⟩ ?_ ?_
          · rintro i H4 hi ⟨d4, xs, R, xl, xn, rr, hp1, pr⟩
            refine ⟨rfl, ?_⟩
            refine ⟨_, rfl, (z.length : Int), rfl, by omega, by omega, fun p2 n2 => ?_⟩
            have np2 : H p2 = none := d4.free n2
            have g2 : p2 ≠ g := d4.ne n2
            have c2 : p2 ≠ c := d4.ne2 n2
            refine lc_range (n := (z.length : Int).toNat) (fun j H5 => Dr g c H4 H5 ∧ ∃ row : List Nat, row.length = j ∧ (∀ x ∈ row, x < 1 + r3) ∧ H5 p2 = some (.lst (nVs row))) ⟨(Dr.refl d4.bag).same (same_new n2), [], rfl, fun x hx => (nomatch hx), by rw [upd_same]; rfl⟩ ?_ ?_
            · rintro j H5 hj ⟨d5, row, rl, rx, hp2⟩
              refine ⟨rfl, ?_⟩
              refine ⟨_, rfl, _, rfl, g, c, 1 + (r3 : Int), rfl, d5.bag, by omega, by omega, fun H6 r6 hr6 hB6 B6 => ?_⟩
              have d56 : Dr g c H5 H6 := ⟨hB6, B6⟩
              refine ⟨_, d56.keep hp2 g2, by rw [nVs_len]; exact szBig (by omega), ?_, row ++ [r6], by rw [List.length_append, List.length_singleton, rl], ?_, ?_⟩
              · exact (d5.trans d56).upd_own n2 g2 c2
              · intro x hx
                rcases List.mem_append.mp hx with y | y
                · exact rx x y
                · rw [List.mem_singleton] at y
                  omega
              · rw [upd_same, nVs_snoc]
            · rintro H5 ⟨d5, row, rl, rx, hp2⟩
              rw [Int.toNat_natCast] at rl
              have n12 : p2 ≠ p1 := fun y => by
                rw [y, hp1] at n2
                cases n2
              refine ⟨_, d5.keep hp1 g1, by rw [List.length_map]; exact szBig (by omega), ?_, xs ++ [p2], R ++ [row], by rw [List.length_append, List.length_singleton, xl], ?_, ?_, ?_, ?_⟩
              · exact (d4.trans d5).upd_own np1 g1 c1
              · intro x hx
                rcases List.mem_append.mp hx with y | y
                · exact xn x y
                · rw [List.mem_singleton] at y
                  rw [y]
                  exact ⟨np2, g2, c2, n12⟩
              · intro x hx
                rcases List.mem_append.mp hx with y | y
                · exact rr x y
                · rw [List.mem_singleton] at y
                  rw [y]
                  exact ⟨rl, rx⟩
              · rw [upd_same, List.map_append]
                rfl
              · refine paired_snoc (paired_keep pr fun x hx r hxr => ?_) ?_
                · obtain ⟨_, xg, _, xp⟩ := xn x hx
                  rw [upd_ne xp]
                  exact d5.keep hxr xg
                · rw [upd_ne n12]
                  exact hp2
          · rintro H4 ⟨d4, xs, R, xl, xn, rr, hp1, pr⟩
            have xlM : xs.length = 1 + r3 := by omega
            -- return (rows, [..])
            refine ⟨_, rfl, _, rfl, 1 + (r3 : Int), rfl, by omega, by omega, fun p3 n3 => ?_⟩
            have np3 : H p3 = none := d4.free n3
            have g3 : p3 ≠ g := d4.ne n3
            have c3 : p3 ≠ c := d4.ne2 n3
            refine lc_range (n := (1 + (r3 : Int)).toNat) (fun i H5 => Dr g c H4 H5 ∧ ∃ E : List Nat, E.length ≤ i ∧ (∀ x ∈ E, x < i) ∧ H5 p3 = some (.lst (nVs E))) ⟨(Dr.refl d4.bag).same (same_new n3), [], Nat.le_refl _, fun x hx => (nomatch hx), by rw [upd_same]; rfl⟩ ?_ ?_
            · rintro i H5 hi ⟨d5, E, el, ex, hp3⟩
              refine ⟨rfl, ?_⟩
              refine ⟨_, rfl, g, c, 2, rfl, d5.bag, by decide, by decide, fun H6 r6 hr6 hB6 B6 => ?_⟩
              have d56 : Dr g c H5 H6 := ⟨hB6, B6⟩
              refine ⟨rfl, _, rfl, ite2 (fun e6 => ?_) (fun e6 => ?_)⟩
              · refine ⟨_, rfl, _, d56.keep hp3 g3, by rw [nVs_len]; exact szBig (by omega), (d5.trans d56).upd_own n3 g3 c3, E ++ [i], by rw [List.length_append, List.length_singleton]; omega, ?_, ?_⟩
                · intro x hx
                  rcases List.mem_append.mp hx with y | y
                  · have := ex x y
                    omega
                  · rw [List.mem_singleton] at y
                    omega
                · rw [upd_same, nVs_snoc]
                  have ei : V.int (0 + (i : Int)) = nV i := by
                    rw [Int.zero_add]
                    rfl
                  rw [ei]
              · exact ⟨d5.trans d56, E, by omega, fun x hx => by have := ex x hx; omega, d56.keep hp3 g3⟩
            · rintro H5 ⟨d5, E, el, ex, hp3⟩
              refine ⟨by show 2 ≤ sizeLine; decide, fun t nt => ?_⟩
              have st : Same H5 (upd H5 t (.tup [.ref p1, .ref p3])) := same_new nt
              have dd := d4.trans d5
              have hRl : R.length = 1 + r3 := by
                rw [← Paired.length pr]
                exact xlM
              refine fin _ t p1 p3 xs R E (dd.same st) ?_ upd_same (rows_mk (st _ _ (d5.keep hp1 g1)) (paired_keep pr fun x hx r hxr => st _ _ (d5.keep hxr (xn x hx).2.1))) (st _ _ hp3) ?_ (by omega) (by omega) ?_ (by omega)
              · intro x hx
                rcases List.mem_cons.mp hx with rfl | hx
                · exact dd.free nt
                rcases List.mem_cons.mp hx with rfl | hx
                · exact np1
                rcases List.mem_cons.mp hx with rfl | hx
                · exact np3
                · exact (xn x hx).1
              · refine mok_of fun r hr' => ?_
                rw [hRl]
                exact rr r hr'
              · intro x hx
                have := ex x hx
                omega
end
end K16

namespace Rg
open PySem PySem.Spec PyProof.Rows L2 Mach
def sgDrawn : List Str := ["ab", "abc", "xz", "a", "mno", "akyz"]
theorem drawn_menu {z : Str} (h : z ∈ sgDrawn) : z ∈ sgMenu := by
  have key : ∀ z ∈ sgDrawn, z ∈ sgMenu := by decide +kernel
  exact key z h
def spSgM : Sp := fun vs H Q _ => ∃ (g c : Addr), vs = [.ref g] ∧ Bag H g c ∧ ∀ (H' : Hp) (z : Str), z ∈ sgDrawn → Bag H' g c → But g H H' → Q (.str z) H'
def spTof (C : Addr) : Sp := fun vs H Q _ => ∃ (m a e : Addr) (z : Str) (xs : List Addr) (R : List (List Nat)) (E : List Nat), vs = [.str z, .ref m] ∧ H m = some (.tup [.ref a, .ref e]) ∧ SgOk z ∧ RowsAt H a xs R ∧ Mok z.cps.size R ∧ 0 < R.length ∧ R.length ≤ 4000 ∧
  H e = some (.lst (nVs E)) ∧ (∀ x ∈ E, x < R.length) ∧ E.length ≤ 4000 ∧
  ∀ (H' : Hp) (p t e' : Addr) (ys : List Addr) (R' : List (List Nat)) (E' : List Nat), Same H H' → H p = none → TxAt C H' p z t e' ys R' E' → (∀ x ∈ t :: e' :: ys, H x = none) → Least z.cps.size R' E' → Alk z.cps.size R' E' 0 R E 0 → R'.length ≤ R.length → Q (.ref p) H'
end Rg
namespace K16
open PySem PySem.Spec PyProof.Rows L2 Rg Mach
abbrev sTof : Stmt := topS 47
theorem scTof : FnScope ["_law_signs_here", "_law_machine_here"] ["_law_signs_here", "_law_machine_here"] (defScope sTof) := ⟨rfl, rfl, rfl, by decide +kernel, rfl, by decide +kernel, by decide +kernel⟩
section
variable {P : Program} {w : World} {K : PySem.W.Frag} {mg : Str → Option Value} {base : Heap}
theorem ok_signsM {f fT : Addr} {fd fdT : FuncData} {k : Nat} (F : Fun K "_law_signs" "_law_signs" sSigns f fd)
    (FT : Fun K "_law_take" "_law_take" sTake fT fdT) (bT : Binds K fdT ["_law_bag_here", "_law_many"] []) (gT : mg "_law_take" = some (.ref fT)) (mi : mg "int" = none) :
    FnOk P w K mg base CX0 (k + 2) f fd ["_law_bag_here"] spSgM := by
  have GT : FnOk P w K mg base CX0 (k + 1) fT fdT ["_law_bag_here", "_law_many"] spTake := ok_take FT mi
  refine F.ok scSigns (fun vs H Q E h => ?_) (fun cdv A outer s H vs Q E hr h => ?_)
  · obtain ⟨g, c, rfl, _⟩ := h
    rfl
  · obtain ⟨g, c, rfl, hB, q⟩ := h
    refine ⟨_, pss_one (ps_ret (pe_ix ix_list (pe_lst (pa_cons pe_str (pa_cons pe_str (pa_cons pe_str (pa_cons pe_str (pa_cons pe_str (pa_cons pe_str (pa_cons pe_str pa_nil)))))))) (pe_call GT hr (by rfl) gT FT.kp bT .nil pass0 (pa_cons (pv 0) (pa_cons pe_int pa_nil))) (fun _ _ => rfl))), ?_⟩
    refine ⟨by show 7 ≤ sizeLine; decide, fun p np => ?_⟩
    refine ⟨_, rfl, g, c, 7, rfl, hB.new np, by decide, by decide, fun H' r hr' hB' B' => ?_⟩
    have hp := B' p _ (hB.ne np) upd_same
    have hall : ∀ r : Nat, r < 7 → ∃ z : Str, ([.str "ab", .str "ab", .str "abc", .str "xz", .str "a", .str "mno", .str "akyz"] : List V)[r]? = some (.str z) ∧ z ∈ sgDrawn := by
      intro r hr7
      match r, hr7 with
      | 0, _ => exact ⟨_, rfl, by decide +kernel⟩
      | 1, _ => exact ⟨_, rfl, by decide +kernel⟩
      | 2, _ => exact ⟨_, rfl, by decide +kernel⟩
      | 3, _ => exact ⟨_, rfl, by decide +kernel⟩
      | 4, _ => exact ⟨_, rfl, by decide +kernel⟩
      | 5, _ => exact ⟨_, rfl, by decide +kernel⟩
      | 6, _ => exact ⟨_, rfl, by decide +kernel⟩
    obtain ⟨z, ez, hz⟩ := hall r (by omega)
    exact ⟨p, _, _, _, rfl, rfl, SqL.of hp, atI_nat ez, q H' z hz hB' (((But.refl g H).new np).trans B')⟩
theorem ok_tof {f C fI : Addr} {fd fdI : FuncData} {k : Nat} (F : Fun K "_law_texts_of" "_law_texts_of" sTof f fd) (M : Mk K C fI) (gC : mg "Texts" = some (.ref C))
    (GI : FnOk P w K mg base CX0 k fI fdI ["self", "signs", "rows", "ends"] (spInit C)) (bI : Binds K fdI ["self", "signs", "rows", "ends"] []) :
    FnOk P w K mg base CX0 (k + 2) f fd ["_law_signs_here", "_law_machine_here"] (spTof C) := by
  refine F.ok scTof (fun vs H Q E h => ?_) (fun cdv A outer s H vs Q E hr h => ?_)
  · obtain ⟨m, a, e, z, xs, R, E', rfl, _⟩ := h
    rfl
  · obtain ⟨m, a, e, z, xs, R, E, rfl, hm, hz, hR, hM, h0, hl, he, hE, hEl, q⟩ := h
    refine ⟨_, pss_one (ps_ret (pe_make M GI hr (by rfl) gC bI .nil pass0 (pa_cons (pv 0) (pa_cons (pe_ix ix_tup (pv 1) pe_int (fun _ _ => rfl)) (pa_cons (pe_ix ix_tup (pv 1) pe_int (fun _ _ => rfl)) pa_nil))))), ?_⟩
    refine ⟨_, rfl, _, rfl, m, _, _, _, rfl, rfl, SqT.of hm, (rfl : atI [V.ref a, V.ref e] 0 = some (.ref a)), _, rfl, m, _, _, _, rfl, rfl, SqT.of hm, (rfl : atI [V.ref a, V.ref e] 1 = some (.ref e)), fun x dx nx ndx nex => ?_⟩
    have s1 := upd_mk (C := C) nx ndx nex
    refine ⟨x, dx, a, e, z, xs, R, E, rfl, upd_same, hz, hR.same s1, hM, h0, hl, s1 _ _ he, hE, hEl, fun H' t e' ys R' E' kp hT nt ne' _ ny nd hL hA hll => ⟨rfl, ?_⟩⟩
    refine q H' x t e' ys R' E' (fun b o eb => kp b o (s1 _ _ eb) (ne_of_none eb nx)) nx hT (fun y hy => ?_) hL hA hll
    rcases List.mem_cons.mp hy with y1 | hy
    · rw [y1]
      exact s1.free nt
    · rcases List.mem_cons.mp hy with y1 | hy
      · rw [y1]
        exact s1.free ne'
      · exact s1.free (ny y hy).1
end
end K16

namespace Rg
open PySem PySem.Spec PyProof.Rows L2 Mach
/-- alike: the same data -/
def spAlk (K : PySem.W.Frag) : Sp := fun vs H Q _ => ∃ (a b : Addr) (d : PyData) (i k : Nat), vs = [.ref a, .ref b] ∧ Dp K H (.ref a) d ∧ Dp K H (.ref b) d ∧ Gd i k d ∧ i ≤ 60 ∧ k ≤ 100000 ∧ Q (.bl true) H
end Rg
namespace K16
open PySem PySem.Spec PyProof.Rows L2 Rg Mach
abbrev sAlk : Stmt := topS 41
theorem scAlk : FnScope ["_law_found", "_law_due"] ["_law_found", "_law_due"] (defScope sAlk) := ⟨rfl, rfl, rfl, by decide +kernel, rfl, by decide +kernel, by decide +kernel⟩
section
variable {P : Program} {w : World} {K : PySem.W.Frag} {mg : Str → Option Value} {base : Heap}
theorem ok_alk {f : Addr} {fd : FuncData} {k : Nat} (F : Fun K "_law_alike" "_law_alike" sAlk f fd) (mre : mg "repr" = none) :
    GFn P w K mg base CX0 (k + 1) f fd ["_law_found", "_law_due"] (spAlk K) := by
  refine fun_okG F scAlk (fun vs H Q E h => ?_) (fun cdv A outer s H vs Q E hr hg h => ?_)
  · obtain ⟨a, b, d, i, k, rfl, _⟩ := h
    rfl
  · obtain ⟨a, b, d, i, k', rfl, ha, hb, hd, hi, hk, q⟩ := h
    refine ⟨_, pss_one (ps_ret (pe_and (pe_cmpR (op_eqD hr.units) (pv 0) (pv 1) (nomark _))
      (pe_one (pe_cmpR op_eq (pe_callB (call_repr_data hg hr.units) (by rfl) mre bRepr (pa_cons (pv 0) pa_nil)) (pe_callB (call_repr_data hg hr.units) (by rfl) mre bRepr (pa_cons (pv 1) pa_nil)) (nomark _))))), ?_⟩
    refine ⟨_, rfl, _, rfl, d, d, ha, hb, hd.shp hi, hd.shp hi, ?_⟩
    rw [eqv_same hd.lay]
    have hdp := hd.dep
    refine ⟨_, rfl, _, rfl, a, d, rfl, ha, hd.shw, hd.nod, by omega, hd.short hi hk, _, rfl, b, d, rfl, hb, hd.shw, hd.nod, by omega, hd.short hi hk, rfl, ?_⟩
    rw [decide_eq_true rfl]
    exact q
end
end K16

namespace K16
open PySem PySem.Spec PyProof.Rows L2 Rg Mach
abbrev sTexts45 : Stmt := topS 43
abbrev sLedT : Stmt := topS 44
abbrev sHasT : Stmt := topS 45
abbrev sToldBy : Stmt := topS 54
def nTx : List Str := ["_law_signs_here", "_law_longest", "_law_found", "_law_at", "_law_sign"]
theorem scTx : FnScope nTx ["_law_signs_here", "_law_longest"] (defScope sTexts45) := ⟨rfl, rfl, rfl, by decide +kernel, rfl, by decide +kernel, by decide +kernel⟩
theorem scLedT : FnScope ["_law_signs_here", "_law_rows", "_law_state", "_law_text", "_law_sign"] ["_law_signs_here", "_law_rows", "_law_state", "_law_text"] (defScope sLedT) := ⟨rfl, rfl, rfl, by decide +kernel, rfl, by decide +kernel, by decide +kernel⟩
theorem scHasT : FnScope ["_law_signs_here", "_law_machine_here", "_law_text"] ["_law_signs_here", "_law_machine_here", "_law_text"] (defScope sHasT) := ⟨rfl, rfl, rfl, by decide +kernel, rfl, by decide +kernel, by decide +kernel⟩
theorem scToldBy : FnScope ["_law_texts_here"] ["_law_texts_here"] (defScope sToldBy) := ⟨rfl, rfl, rfl, by decide +kernel, rfl, by decide +kernel, by decide +kernel⟩
section
variable {P : Program} {w : World} {K : PySem.W.Frag} {mg : Str → Option Value} {base : Heap}
theorem ok_texts {f : Addr} {fd : FuncData} {k : Nat} (F : Fun K "_law_texts" "_law_texts" sTexts45 f fd) (ml : mg "len" = none) : FnOk P w K mg base CX0 (k + 1) f fd ["_law_signs_here", "_law_longest"] spTexts := by
  refine F.ok scTx (fun vs H Q E h => ?_) (fun cdv A outer s H vs Q E hr h => ?_)
  · obtain ⟨z, m, rfl, _⟩ := h
    rfl
  · obtain ⟨z, m, rfl, hz, hm, q⟩ := h
    refine ⟨_, pss_cons (ps_asg (pe_tup (pa_cons (pe_lst (pa_cons pe_str pa_nil)) (pa_cons pe_int pa_nil))) (pg_tup rfl (pgs_cons (pg_name (i := 2) scTx.nd rfl (.inr rfl)) (pgs_cons (pg_name (i := 3) scTx.nd rfl (.inr rfl)) pgs_nil))))
      (pss_cons (ps_while PassesOwn.never (pt_cmpR op_lt (pe_callB call_len_str (by rfl) ml bLen (pa_cons (pe_ix ix_list (pv 2) (pv 3) (fun _ _ => rfl)) pa_nil)) (pv 1) (nomark _))
        (pss_cons (ps_expr (pe_bm PySem.F.plainAttrs_list PySem.F.slot_list_extend PySem.F.type_list_extend mt_extend (pv 2) (pa_cons (pe_lc (own := [("_law_sign", 4)]) (g := gName 4) (tt := tYes) (te := tOp (fun x y H Q => ∃ i j, x = V.str i ∧ y = V.str j ∧ i.length + j.length ≤ sizeLine ∧ Q (.str (i ++ j)) H) (tOp (rIxL K) (tVar 2) (tVar 3)) (tVar 4)) rfl scTx.nd (pi_str (pv 0)) (blkOk_by (own := [("_law_sign", 4)]) (N := nTx) (sc := defScope sTexts45) (by decide +kernel))
            (fun _ _ _ _ _ => pg_name (i := 4) scTx.nd rfl (Or.inl rfl)) (fun _ _ _ _ _ => pts_nil) (fun _ _ _ _ _ => pe_op op_add_str (pe_ix ix_list (pv 2) (pv 3) (fun _ _ => rfl)) (pv 4))) pa_nil)))
        (pss_one (ps_aug (i := 3) scTx.nd rfl (.inr rfl) pe_int ip_add))))
      (pss_one (ps_ret (pv 2)))), ?_⟩
    have hz4 := hz.few
    have hz1 := hz.pos
    have h6 : 6 ^ (m + 1) ≤ 46656 := Nat.le_trans (Nat.pow_le_pow_right (by decide) (show m + 1 ≤ 6 by omega)) (by decide)
    refine ⟨by show 1 ≤ sizeLine; decide, fun pf nf => ?_⟩
    refine ⟨by show 2 ≤ sizeLine; decide, fun t0 n0 => ?_⟩
    refine ⟨t0, _, rfl, SqT.of upd_same, rfl, _, _, rfl, _, _, rfl, rfl, ?_⟩
    have s0 : Same H (upd (upd H pf (.lst [.str ""])) t0 (.tup [.ref pf, .int 0])) := (same_new nf).trans (same_new n0)
    have hf0 : (upd (upd H pf (.lst [.str ""])) t0 (.tup [.ref pf, .int 0])) pf = some (.lst (txs z [[]])) := same_new n0 _ _ upd_same
    generalize (upd (upd H pf (.lst [.str ""])) t0 (.tup [.ref pf, .int 0])) = H0 at s0 hf0
    have npf := nf
    refine ⟨fun μ σ H1 => ∃ (ws : List (List Nat)) (i : Nat), μ = wts m (ws.drop i) ∧ σ = [some (.str z), some (nV m), some (.ref pf), some (nV i), none] ∧ Same H H1 ∧ H1 pf = some (.lst (txs z ws)) ∧ GrowAt z.cps.size m ws i,
      ⟨_, [[]], 0, rfl, rfl, s0, hf0, grow_start _ _⟩, ?_⟩
    rintro μ σ H1 ⟨ws, i, rfl, rfl, s1, hf, hW⟩
    obtain ⟨x, hx⟩ : ∃ x, ws[i]? = some x := ⟨_, List.getElem?_eq_getElem hW.lt⟩
    obtain ⟨hxW, hxl⟩ := hW.ok x (List.mem_of_getElem? hx)
    have hx2 : (txs z ws)[i]? = some (.str (txt z x)) := by
      unfold txs
      rw [List.getElem?_map, hx]
      rfl
    refine ⟨_, rfl, _, rfl, pf, _, _, _, rfl, rfl, SqL.of hf, atI_nat hx2, _, rfl, by rw [txt_len]; exact szBigLe (by omega), _, rfl, _, _, rfl, rfl, _, rfl, ite2 (fun e => ?_) (fun e => ?_)⟩
    · have hlt : x.length < m := by
        have := of_decide_eq_true e
        rw [txt_len] at this
        omega
      obtain ⟨hW', hlt'⟩ := grow_step hz1 hz4 hW hx hlt
      refine ⟨fun σ' H' => σ' = [some (.str z), some (nV m), some (.ref pf), some (nV (i + 1)), none] ∧ Same H H' ∧ H' pf = some (.lst (txs z (ws ++ (List.range z.cps.size).map fun c => x ++ [c]))), ?_, ?_⟩
      · rintro σ' H' ⟨rfl, s1', hf'⟩
        exact ⟨_, hlt', _, i + 1, rfl, rfl, s1', hf', hW'⟩
      · refine ⟨_, rfl, .inl ⟨rfl, _, SqL.of hf⟩, _, rfl, z, rfl, fun D1 nD1 => ?_⟩
        have D1f : D1 ≠ pf := (ne_of_none hf nD1).symm
        refine lc_str (x := z) (fun l H3 => Same H1 H3 ∧ H3 D1 = some (.lst (txs z ((List.range l).map fun c => x ++ [c])))) ⟨same_new nD1, upd_same⟩ ?_ ?_
        · rintro l c H3 hc ⟨s3, hD⟩
          have hil : l < z.cps.size := (Array.getElem?_eq_some_iff.mp hc).1
          have ec : (⟨#[c]⟩ : Str) = one z l := by
            unfold one
            rw [Array.getD_eq_getD_getElem?, hc]
            rfl
          refine ⟨rfl, ?_⟩
          refine ⟨_, rfl, _, rfl, pf, _, _, _, rfl, rfl, SqL.of (s3 _ _ hf), atI_nat hx2, _, rfl, _, _, rfl, rfl, ?_, ?_⟩
          · rw [txt_len]
            exact szBigLe (by show x.length + 1 ≤ _; omega)
          rw [ec, txt_snoc]
          refine ⟨_, hD, ?_, ?_, ?_⟩
          · unfold txs
            rw [List.length_map, List.length_map, List.length_range]
            exact szBig (by omega)
          · intro b o eb
            rw [upd_ne (ne_of_none eb nD1)]
            exact s3 _ _ eb
          · rw [upd_same, List.range_succ, List.map_append]
            unfold txs
            rw [List.map_append]
            rfl
        rintro H3 ⟨s3, hD⟩
        have hl1 := hW.len
        refine ⟨pf, D1, _, _, rfl, rfl, s3 _ _ hf, hD, ?_, ?_⟩
        · unfold txs
          rw [List.length_map, List.length_map, List.length_map, List.length_range]
          exact szBigLe (by omega)
        refine ⟨_, rfl, _, _, rfl, rfl, rfl, ?_, ?_⟩
        · intro b o eb
          rw [upd_ne (ne_of_none eb npf)]
          exact s3 _ _ (s1 _ _ eb)
        · rw [upd_same]
          unfold txs
          rw [List.map_append]
    · exact ⟨_, rfl, q H1 pf ws s1 hf hW.ok⟩
theorem ok_ledT {f : Addr} {fd : FuncData} {k : Nat} (F : Fun K "_law_led" "_law_led" sLedT f fd) : FnOk P w K mg base CX0 (k + 1) f fd ["_law_signs_here", "_law_rows", "_law_state", "_law_text"] spLedT := by
  refine F.ok scLedT (fun vs H Q E h => ?_) (fun cdv A outer s H vs Q E hr h => ?_)
  · obtain ⟨z, a, xs, R, x, rfl, _⟩ := h
    rfl
  · obtain ⟨z, a, xs, R, x, rfl, hix, hR, hM, h0, hw, hl, q⟩ := h
    refine ⟨_, pss_cons (ps_for PassesOwn.never rfl (pi_str (pv 3)) (pg_name (i := 4) scLedT.nd rfl (.inl rfl))
      (pss_one (ps_set (i := 2) scLedT.nd rfl (.inl rfl) (pe_ix ix_list (pe_ix ix_list (pv 1) (pv 2) (fun _ _ => rfl)) (pe_bm PySem.F.plainAttrs_str PySem.F.slot_str_index PySem.F.type_str_index mt_sindex (pv 0) (pa_cons (pv 4) pa_nil)) (fun _ _ => rfl)))))
      (pss_one (ps_ret (pv 2))), ?_⟩
    refine ⟨_, rfl, _, rfl, ?_⟩
    refine for_it (walk_str (z := txt z x)) (fun i σ H1 => H1 = H ∧ ∃ le : Option V, σ = [some (.str z), some (.ref a), some (nV (runM R 0 (x.take i))), some (.str (txt z x)), le]) ⟨rfl, none, rfl⟩ (fun _ _ _ _ _ => trivial) ?_ ?_
    · rintro i v σ H1 H1' hi ⟨rfl, le, rfl⟩ ⟨rfl, c, hc, rfl⟩
      obtain ⟨k', hk, ek⟩ := txt_at hc
      have hkz := hw k' (List.mem_of_getElem? hk)
      obtain ⟨rest, hoc⟩ := hix k' hkz
      have hlt := runM_lt hM h0 (w := x.take i) (fun j hj => hw j (List.mem_of_mem_take hj))
      obtain ⟨y, hy1, hy2⟩ := hR.get hlt
      have hrow : (rowOf R (runM R 0 (x.take i)))[k']? = some (Mach.dl R (runM R 0 (x.take i)) k') := by
        have h1 : k' < (rowOf R (runM R 0 (x.take i))).length := by rw [hM.wide _ hlt]; exact hkz
        unfold Mach.dl
        rw [List.getD_eq_getElem?_getD, List.getElem?_eq_getElem h1]
        rfl
      refine ⟨_, rfl, _, rfl, a, _, _, _, rfl, rfl, SqL.of hR.at_, atI_nat hy1, _, rfl, rfl, _, rfl, z, ⟨#[c]⟩, k', rest, rfl, rfl, by rw [ek]; exact hoc, y, _, _, _, rfl, rfl, SqL.of hy2, atI_nat (nVs_get hrow), rfl, some (.str ⟨#[c]⟩), ?_⟩
      rw [take_snoc hk, runM_append]
      rfl
    · rintro σ H1 ⟨rfl, le, rfl⟩
      rw [txt_size, List.take_length]
      exact ⟨_, rfl, q⟩
theorem ok_hasT {f fL : Addr} {fd fdL : FuncData} {k : Nat} (F : Fun K "_law_has" "_law_has" sHasT f fd)
    (GL : FnOk P w K mg base CX0 k fL fdL ["_law_signs_here", "_law_rows", "_law_state", "_law_text"] spLedT) (FL : Fun K "_law_led" "_law_led" sLedT fL fdL) (bL : Binds K fdL ["_law_signs_here", "_law_rows", "_law_state", "_law_text"] []) (gL : mg "_law_led" = some (.ref fL)) :
    FnOk P w K mg base CX0 (k + 1) f fd ["_law_signs_here", "_law_machine_here", "_law_text"] spHasT := by
  refine F.ok scHasT (fun vs H Q E h => ?_) (fun cdv A outer s H vs Q E hr h => ?_)
  · obtain ⟨z, t, a, e, xs, R, E, x, rfl, _⟩ := h
    rfl
  · obtain ⟨z, t, a, e, xs, R, E, x, rfl, hix, ht, hR, hM, h0, he, hw, hl, q⟩ := h
    refine ⟨_, pss_one (ps_ret (pe_cmpR op_in_seq (pe_call GL hr (by rfl) gL FL.kp bL .nil pass0 (pa_cons (pv 0) (pa_cons (pe_ix ix_tup (pv 1) pe_int (fun _ _ => rfl)) (pa_cons pe_int (pa_cons (pv 2) pa_nil))))) (pe_ix ix_tup (pv 1) pe_int (fun _ _ => rfl)) (by rfl))), ?_⟩
    refine ⟨_, rfl, _, rfl, t, _, _, _, rfl, rfl, SqT.of ht, (rfl : atI [V.ref a, V.ref e] 0 = some (.ref a)), _, rfl, z, a, xs, R, x, rfl, hix, hR, hM, h0, hw, hl, ?_⟩
    refine ⟨_, rfl, t, _, _, _, rfl, rfl, SqT.of ht, (rfl : atI [V.ref a, V.ref e] 1 = some (.ref e)), e, _, rfl, .inl (SqL.of he), rfl, flat_nVs _, ?_⟩
    rw [if_neg Bool.false_ne_true, inV_nVs]
    exact q
theorem ok_toldBy {f C f2 f3 : Addr} {fd fd2 fd3 : FuncData} {k : Nat} (F : Fun K "_law_told_by" "_law_told_by" sToldBy f fd) (T : TxC K C)
    (GT : FnOk P w K mg base CX0 k f2 fd2 ["self"] (spTab C)) (bT : Binds K fd2 ["self"] []) (mT : Meth K C "table" f2)
    (GE : FnOk P w K mg base CX0 k f3 fd3 ["self"] (spEnd C)) (bE : Binds K fd3 ["self"] []) (mE : Meth K C "ends" f3) :
    FnOk P w K mg base CX0 (k + 1) f fd ["_law_texts_here"] (spToldBy C) := by
  refine F.ok scToldBy (fun vs H Q E h => ?_) (fun cdv A outer s H vs Q E hr h => ?_)
  · obtain ⟨p, z, t, e, ys, R, E', rfl, _⟩ := h
    rfl
  · obtain ⟨p, z, t, e, ys, R, E, rfl, hT, hl, q⟩ := h
    refine ⟨_, pss_one (ps_ret (pe_tup (pa_cons (pe_meth0 (pv 0) T.cl mT GT hr bT .nil pass0) (pa_cons (pe_meth0 (pv 0) T.cl mE GE hr bE .nil pass0) pa_nil)))), ?_⟩
    obtain ⟨⟨dx, ob⟩, hR, hE⟩ := id hT
    refine ⟨_, rfl, p, dx, _, rfl, ob, tfl_no _ _ _ (by decide +kernel) (by decide +kernel) (by decide +kernel), p, z, t, e, ys, R, E, rfl, hT, hl, fun H1 q1 xs s1 nq1 nxs nd hR1 => ?_⟩
    refine ⟨_, rfl, p, dx, _, rfl, s1 _ _ ob, tfl_no _ _ _ (by decide +kernel) (by decide +kernel) (by decide +kernel), p, z, t, e, ys, R, E, rfl, hT.same s1, fun H2 q2 s2 nq2 hE2 => ?_⟩
    refine ⟨by show 2 ≤ sizeLine; decide, fun tt ntt => ?_⟩
    have s3 := same_new (o := .tup [.ref q1, .ref q2]) ntt
    exact q _ tt q1 q2 xs ((s1.trans s2).trans s3) (fun x hx => by
      rcases List.mem_cons.mp hx with y | hx
      · rw [y]; exact (s1.trans s2).free ntt
      rcases List.mem_cons.mp hx with y | hx
      · rw [y]; exact nq1
      rcases List.mem_cons.mp hx with y | hx
      · rw [y]; exact s1.free nq2
      exact (nxs x hx).1) upd_same ((hR1.same s2).same s3) (s3 _ _ hE2)
end
end K16

namespace K16
open PySem PySem.Spec PyProof.Rows L2 Rg Mach
abbrev sSil : Stmt := topS 19
def nSil : List Str := ["states", "silent", "found", "known", "at", "there", "state"]
theorem scSil : FnScope nSil ["states", "silent"] (defScope sSil) := ⟨rfl, rfl, rfl, by decide +kernel, rfl, by decide +kernel, by decide +kernel⟩
section
variable {P : Program} {w : World} {K : PySem.W.Frag} {mg : Str → Option Value} {base : Heap}
theorem ok_sil {f : Addr} {fd : FuncData} {k : Nat} (F : Fun K "silent_from" "silent_from" sSil f fd) (ml : mg "len" = none) (mli : mg "list" = none) (md : mg "dict" = none) (mt : mg "tuple" = none) (mso : mg "sorted" = none) :
    FnOk P w K mg base CX0 (k + 1) f fd ["states", "silent"] spSilU := by
  refine F.ok scSil (fun vs H Q E h => ?_) (fun cdv A outer s H vs Q E hr h => ?_)
  · obtain ⟨a, d, S, mv, rfl, _⟩ := h
    rfl
  · obtain ⟨a, d, S, mv, rfl, ha, hd, hSl, hml, q⟩ := h
    have hu := hu_of hr
    refine ⟨_, pss_cons (ps_set (i := 2) scSil.nd rfl (.inl rfl) (pe_callTy call_list_of (by rfl) mli bList (pa_cons (pv 0) pa_nil)))
      (pss_cons (ps_set (i := 3) scSil.nd rfl (.inl rfl) (pe_callTy (call_dictP rfl) (by rfl) md bDict (pa_cons (pe_lc (own := [("state", 6)]) (g := gName 6) (tt := tYes) rfl scSil.nd (pi_list (pv 0)) (blkOk_by (own := [("state", 6)]) (N := nSil) (sc := defScope sSil) (by decide +kernel))
          (fun _ _ _ _ _ => pg_name (i := 6) scSil.nd rfl (Or.inl rfl)) (fun _ _ _ _ _ => pts_nil) (fun _ _ _ _ _ => pe_tup (pa_cons (pv 6) (pa_cons pe_bl pa_nil)))) pa_nil)))
      (pss_cons (ps_set (i := 4) scSil.nd rfl (.inl rfl) pe_int)
      (pss_cons (ps_while PassesOwn.never (pt_cmpR op_lt (pv 4) (pe_callB call_len_seq (by rfl) ml bLen (pa_cons (pv 2) pa_nil)) (nomark _))
        (pss_cons (ps_for PassesOwn.never rfl (pi_list (pe_dget2 hu (pv 1) (pe_ix ix_list (pv 2) (pv 4) (fun _ _ => rfl)) (pe_lst pa_nil) ⟨rfl, rfl, rfl, rfl⟩)) (pg_name (i := 5) scSil.nd rfl (.inl rfl))
          (pss_one (ps_if (pt_cmp (pc_dnotin hu (pv 5) (pv 3))) (pss_cons (ps_dput hu (pv 3) (pv 5) pe_bl rfl)
            (pss_one (ps_expr (pe_bm PySem.F.plainAttrs_list PySem.F.slot_list_append PySem.F.type_list_append mt_append (pv 2) (pa_cons (pv 5) pa_nil))))) pss_nil)))
        (pss_one (ps_set (i := 4) scSil.nd rfl (.inl rfl) (pe_op op_add (pv 4) pe_int)))))
      (pss_one (ps_ret (pe_callTy call_tuple_of (by rfl) mt bTuple (pa_cons (pe_callB cr_sortedI (by rfl) mso bSorted (pa_cons (pe_callTy (call_listD rfl) (by rfl) mli bList (pa_cons (pv 3) pa_nil)) pa_nil)) pa_nil))))))), ?_⟩
    -- found
    refine ⟨_, rfl, a, _, rfl, .inl (SqL.of ha), fun pf nf => ?_⟩
    have s1 : Same H (upd H pf (.lst (nVs S))) := same_new nf
    have hf1 : (upd H pf (.lst (nVs S))) pf = some (.lst (nVs S)) := upd_same
    generalize (upd H pf (.lst (nVs S))) = H1 at s1 hf1
    -- known
    refine ⟨_, rfl, a, rfl, ⟨_, SqL.of (s1 _ _ ha)⟩, fun D1 nD1 => ?_⟩
    refine lc_list (K := K) (a := a) (xs := nVs S) (fun j H3 => Same H1 H3 ∧ ∃ ts : List Addr, H3 D1 = some (.lst (ts.map V.ref)) ∧ ts.length = j ∧ (∀ t ∈ ts, t ≠ D1) ∧ Paired (fun (t : Addr) (s : Nat) => H3 t = some (.tup [nV s, .bl true])) ts (S.take j))
      ⟨same_new nD1, [], by rw [upd_same]; rfl, rfl, (fun t z => nomatch z), .nil⟩ (fun j H3 _ ⟨s3, _⟩ => SqL.of (s3 _ _ (s1 _ _ ha))) ?_ ?_
    · rintro j v H3 hj ⟨s3, ts, hD1, tl, tn, tp⟩
      obtain ⟨u, rfl, hu'⟩ := nVs_at hj
      have hj' := (List.getElem?_eq_some_iff.mp hu').1
      refine ⟨rfl, ?_⟩
      refine ⟨_, rfl, by show 2 ≤ sizeLine; decide, fun t nt => ?_⟩
      have ntD : t ≠ D1 := fun z => by
        rw [z, hD1] at nt
        cases nt
      refine ⟨_, by rw [upd_ne ntD.symm]; exact hD1, by rw [List.length_map]; exact szBig (by omega), ?_, ts ++ [t], ?_, by rw [List.length_append, List.length_singleton, tl], ?_, ?_⟩
      · intro b o eb
        rw [upd_ne (ne_of_none eb nD1), upd_ne (ne_of_none (s3 _ _ eb) nt)]
        exact s3 _ _ eb
      · rw [upd_same, List.map_append]
        rfl
      · intro y hy
        rcases List.mem_append.mp hy with z | z
        · exact tn y z
        · rw [List.mem_singleton] at z
          rw [z]
          exact ntD
      · rw [take_snoc hu']
        refine paired_snoc (paired_keep tp fun y hy r hyr => ?_) ?_
        · rw [upd_ne (tn y hy), upd_ne (ne_of_none hyr nt)]
          exact hyr
        · rw [upd_ne ntD, upd_same]
    rintro H3 ⟨s3, ts, hD1, tl, tn, tp⟩
    rw [nVs_len, List.take_length] at tp
    refine ⟨D1, ts, S.map fun s => (kN s, V.bl true), rfl, SqL.of hD1, paired_map (fun s => (kN s, V.bl true)) (fun _ _ z => SqT.of z) tp, fun pk nk => ?_⟩
    have em : mergeK [] (S.map fun s => (kN s, V.bl true)) = dO (D S) (fun _ => .bl true) := mergeK_dO (fun _ => .bl true) S []
    rw [em]
    have s4 : Same H3 (upd H3 pk (.dK (dO (D S) fun _ => .bl true))) := same_new nk
    have hk4 : (upd H3 pk (.dK (dO (D S) fun _ => .bl true))) pk = some (.dK (dO (D S) fun _ => .bl true)) := upd_same
    generalize (upd H3 pk (.dK (dO (D S) fun _ => .bl true))) = H4 at s4 hk4
    have nk1 : H1 pk = none := s3.free nk
    have hf4 := s4 _ _ (s3 _ _ hf1)
    have s04 : Same H H4 := (s1.trans s3).trans s4
    have nk0 : H pk = none := s1.free nk1
    have nfk : pf ≠ pk := fun z => by
      rw [z, hk4] at hf4
      cases hf4
    have hd4 := hd.same s04
    clear em tp tn tl hD1 ts nD1
    -- while
    refine ⟨fun m σ H5 => ∃ (L Y : List Nat) (i : Nat) (y : Option V), m = S.length + mv.length - i ∧ σ = [some (.ref a), some (.ref d), some (.ref pf), some (.ref pk), some (nV i), y, none] ∧ Same H H5 ∧ H5 pf = some (.lst (nVs L)) ∧ H5 pk = some (.dK (dO (D L) fun _ => .bl true)) ∧ L = pushAll S Y ∧ (∀ y ∈ Y, y ∈ tgs mv) ∧ Clo mv (fun x => x ∈ S) L i,
      ⟨_, S, [], 0, none, rfl, rfl, s04, hf4, hk4, rfl, (fun y hy => nomatch hy), ⟨fun x hx => hx, fun x hx => .base hx, fun j hj => absurd hj (Nat.not_lt_zero j)⟩⟩, ?_⟩
    clear hf4 hk4 s04 hd4 s4 s3 nk1 nk hf1 s1
    rintro m σ H5 ⟨L, Y, i, y, rfl, rfl, s5, hf5, hk5, eL, hY, hC⟩
    have hLl : L.length ≤ S.length + mv.length := by
      rw [eL]
      exact pushAll_len hY
    refine ⟨_, rfl, _, rfl, pf, _, rfl, .inl (SqL.of hf5), _, _, rfl, rfl, _, rfl, ite2 (fun ei => ?_) (fun ei => ?_)⟩
    · have hi : i < L.length := by
        have := of_decide_eq_true ei
        rw [nVs_len] at this
        omega
      have hs : L[i]? = some L[i] := List.getElem?_eq_getElem hi
      generalize hX : stp mv (-1) L[i] = X
      have hXt : ∀ x ∈ X, (L[i], (-1 : Int), x) ∈ mv := fun x hx => mem_stp.mp (by rw [hX]; exact hx)
      have hXg : ∀ x ∈ X, x ∈ tgs mv := fun x hx => List.mem_map.mpr ⟨_, hXt x hx, rfl⟩
      have hXl : X.length ≤ 4000 := by
        rw [← hX]
        exact Nat.le_trans (stp_len _ _ _) hml
      refine ⟨fun σ' H' => ∃ (y : Option V), σ' = [some (.ref a), some (.ref d), some (.ref pf), some (.ref pk), some (nV (i + 1)), y, none] ∧ Same H H' ∧ H' pf = some (.lst (nVs (pushAll L X))) ∧ H' pk = some (.dK (dO (D (pushAll L X)) fun _ => .bl true)), ?_, ?_⟩
      · rintro σ' H' ⟨y', rfl, s6, hf6, hk6⟩
        refine ⟨S.length + mv.length - (i + 1), by omega, pushAll L X, Y ++ X, i + 1, y', rfl, rfl, s6, hf6, hk6, ?_, ?_, ?_⟩
        · rw [eL, pushAll_append]
        · intro z hz
          rcases List.mem_append.mp hz with h | h
          · exact hY z h
          · exact hXg z h
        · have e1 := pushAll_filter L X
          rw [e1]
          refine hC.step hi (fun x hx => hXt x (mem_D.mp (List.mem_filter.mp hx).1)) (fun x hx => ?_)
          rw [← e1]
          refine mem_pushAll.mpr (.inr ?_)
          rw [← hX]
          exact mem_stp.mpr hx
      · -- for there in silent.get(..)
        have hdd := hd
        obtain ⟨kvs, hkv, hkl, hval⟩ := hdd
        refine ⟨_, rfl, d, rfl, .inl ⟨_, .inl (s5 _ _ hkv)⟩, _, rfl, _, rfl, pf, _, _, _, rfl, rfl, SqL.of hf5, atI_nat (nVs_get hs), by show 0 ≤ sizeLine; decide, fun e0 ne0 => ?_⟩
        have s6 : Same H5 (upd H5 e0 (.lst [])) := same_new ne0
        have he6 : (upd H5 e0 (.lst [])) e0 = some (.lst (nVs [])) := upd_same
        generalize (upd H5 e0 (.lst [])) = H6 at s6 he6
        have key : ∃ (o : Option V) (l : Addr), DGet H6 d (nV L[i]) o ∧ o.getD (.ref e0) = .ref l ∧ H6 l = some (.lst (nVs X)) ∧ l ≠ pf ∧ l ≠ pk := by
          refine ⟨valV kvs (kN L[i]), ?_⟩
          rcases hval L[i] with ⟨z1, z2⟩ | ⟨l, z1, z2⟩
          · refine ⟨e0, DGet.k (k := kN L[i]) (s6 _ _ (s5 _ _ hkv)), by rw [z1]; rfl, ?_, (ne_of_none hf5 ne0).symm, (ne_of_none hk5 ne0).symm⟩
            rw [hX] at z2
            rw [z2]
            exact he6
          · rw [hX] at z2
            exact ⟨l, DGet.k (k := kN L[i]) (s6 _ _ (s5 _ _ hkv)), by rw [z1]; rfl, s6 _ _ (s5 _ _ z2), ne_of_none z2 nf, ne_of_none z2 nk0⟩
        obtain ⟨o, l, hg, el, hl, nlf, nlk⟩ := key
        refine ⟨o, hg, ?_⟩
        rw [el]
        refine ⟨l, rfl, ⟨_, SqL.of hl⟩, ?_⟩
        refine for_list (K := K) (a := l) (xs := nVs X) (fun j σ H7 => ∃ (y : Option V), σ = [some (.ref a), some (.ref d), some (.ref pf), some (.ref pk), some (nV i), y, none] ∧ Same H H7 ∧ H7 l = some (.lst (nVs X)) ∧ H7 pf = some (.lst (nVs (pushAll L (X.take j)))) ∧ H7 pk = some (.dK (dO (D (pushAll L (X.take j))) fun _ => .bl true)))
          ⟨y, rfl, s5.trans s6, hl, s6 _ _ hf5, s6 _ _ hk5⟩ (fun j σ H7 _ ⟨_, _, _, hl7, _⟩ => SqL.of hl7) ?_ ?_
        · rintro j v σ H7 hj ⟨y', rfl, s7, hl7, hf7, hk7⟩
          obtain ⟨t, rfl, ht⟩ := nVs_at hj
          have hnext : pushAll L (X.take (j + 1)) = push (pushAll L (X.take j)) t := by
            rw [take_snoc ht, pushAll_append]
            rfl
          have hsz : (pushAll L (X.take j)).length ≤ 8000 := by
            rw [eL, ← pushAll_append]
            have := pushAll_len (S := S) (Y := Y ++ X.take j) (mv := mv) (fun z hz => by
              rcases List.mem_append.mp hz with h | h
              · exact hY z h
              · exact hXg z (List.mem_of_mem_take h))
            omega
          have hDl : (D (pushAll L (X.take j))).length ≤ 8000 := Nat.le_trans (length_le_of_sub (D_nodup _) fun z hz => mem_D.mp hz) hsz
          rw [hnext]
          generalize pushAll L (X.take j) = L1 at hf7 hk7 hsz hDl
          obtain ⟨r, hg7, hr7⟩ := din_dO (t := t) hk7
          refine ⟨_, rfl, _, rfl, pk, r, rfl, hg7, _, rfl, ?_⟩
          rw [hr7]
          by_cases hin : t ∈ L1
          · rw [decide_eq_true (mem_D.mpr hin), push_mem hin]
            exact ⟨_, rfl, s7, hl7, hf7, hk7⟩
          · rw [decide_eq_false (fun z => hin (mem_D.mp z))]
            refine ⟨_, rfl, _, rfl, pk, _, rfl, DPut.k (k := kN t) hk7 (by rw [dO_len]; exact szBig (by omega)), ?_⟩
            have hf8 : (upd H7 pk (.dK (putK (dO (D L1) fun _ => .bl true) (kN t) (.bl true)))) pf = some (.lst (nVs L1)) := by
              rw [upd_ne nfk]
              exact hf7
            refine ⟨_, rfl, .inl ⟨rfl, _, SqL.of hf8⟩, _, rfl, pf, _, _, rfl, rfl, hf8, by rw [nVs_len]; exact szBig (by omega), ?_⟩
            refine ⟨_, rfl, ?_, ?_, ?_, ?_⟩
            · intro b o' eb
              rw [upd_ne (ne_of_none eb nf), upd_ne (ne_of_none eb nk0)]
              exact s7 _ _ eb
            · rw [upd_ne nlf, upd_ne nlk]
              exact hl7
            · rw [upd_same, push_new hin, nVs_snoc]
            · rw [upd_ne nfk.symm, upd_same, push_new hin, D_append]
              exact congrArg (fun z => some (HO.dK z)) (putK_dO (L := D L1) (c := fun _ => .bl true) (s := t))
        · rintro σ H7 ⟨y', rfl, s7, hl7, hf7, hk7⟩
          rw [nVs_len, List.take_length] at hf7 hk7
          exact ⟨_, rfl, _, _, rfl, rfl, y', rfl, s7, hf7, hk7⟩
    · have hi : L.length ≤ i := by
        have := of_decide_eq_false (Bool.eq_false_iff.mpr ei)
        rw [nVs_len] at this
        omega
      have hfin := hC.fin hi
      -- tuple(sorted(list(known)))
      refine ⟨_, rfl, pk, _, rfl, .inl hk5, fun p1 n1 => ?_⟩
      have e1 : ((dO (D L) fun _ => V.bl true).map fun kv => kV kv.1) = ((D L).map fun n : Nat => (n : Int)).map V.int := by
        rw [← nVs_ints]
        unfold dO nVs
        rw [List.map_map]
        rfl
      rw [e1]
      have s6 : Same H5 (upd H5 p1 (.lst (((D L).map fun n : Nat => (n : Int)).map V.int))) := same_new n1
      have h16 : (upd H5 p1 (.lst (((D L).map fun n : Nat => (n : Int)).map V.int))) p1 = some (.lst (((D L).map fun n : Nat => (n : Int)).map V.int)) := upd_same
      generalize (upd H5 p1 (.lst (((D L).map fun n : Nat => (n : Int)).map V.int))) = H6 at s6 h16
      refine ⟨p1, _, rfl, SqL.of h16, fun ns p2 hp hsr n2 => ?_⟩
      obtain ⟨T, eT, hT1, hT2, hT3⟩ := sorted_nums (D_nodup L) hp hsr
      rw [eT]
      have s7 : Same H6 (upd H6 p2 (.lst (nVs T))) := same_new n2
      have h27 : (upd H6 p2 (.lst (nVs T))) p2 = some (.lst (nVs T)) := upd_same
      generalize (upd H6 p2 (.lst (nVs T))) = H7 at s7 h27
      refine ⟨p2, _, rfl, .inl ⟨SqL.of h27, fun t nt => ?_⟩⟩
      have s57 := (s5.trans s6).trans s7
      exact q _ t T (s57.trans (same_new nt)) (s57.free nt) upd_same ⟨hT1, fun x => by rw [hT2, mem_D]; exact hfin x⟩
end
end K16

namespace K16
open PySem PySem.Spec PyProof.Rows L2 Rg Mach
abbrev sLed : Stmt := topS 20
def nLed : List Str := ["states", "place", "reading", "state", "there"]
theorem scLed : FnScope nLed ["states", "place", "reading"] (defScope sLed) := ⟨rfl, rfl, rfl, by decide +kernel, rfl, by decide +kernel, by decide +kernel⟩
section
variable {P : Program} {w : World} {K : PySem.W.Frag} {mg : Str → Option Value} {base : Heap}
theorem ok_led {f : Addr} {fd : FuncData} {k : Nat} (F : Fun K "led_to" "led_to" sLed f fd) :
    FnOk P w K mg base CX0 (k + 1) f fd ["states", "place", "reading"] spLedU := by
  refine F.ok scLed (fun vs H Q E h => ?_) (fun cdv A outer s H vs Q E hr h => ?_)
  · obtain ⟨a, d, T, mv, n, rfl, _⟩ := h
    rfl
  · obtain ⟨a, d, T, mv, n, rfl, ha, hd, hTl, hml, hfl, q⟩ := h
    have hu := hu_of hr
    refine ⟨_, pss_one (ps_ret (pe_lc2 (own := [("state", 3), ("there", 4)]) (vs1 := [4]) (g := gName 3) (g1 := gName 4) (tt := tYes) (tt1 := tYes) (te := tVar 4) (wi1 := iList K (tDGet2 (tVar 2) (tTup (tCons (tVar 3) (tCons (tVar 1) tNil))) (tLst tNil))) rfl scLed.nd (pi_tup (pv 0)) (blkOk_by (own := [("state", 3), ("there", 4)]) (N := nLed) (sc := defScope sLed) (by decide +kernel))
      (by decide) (fun _ _ _ _ _ => pg_name (i := 3) scLed.nd rfl (Or.inl rfl)) (fun _ _ _ _ _ => pts_nil)
      (fun _ _ _ _ _ => pi_list (pe_dget2 hu (pv 2) (pe_tup (pa_cons (pv 3) (pa_cons (pv 1) pa_nil))) (pe_lst pa_nil) ⟨rfl, rfl, rfl, rfl⟩)) (fun _ _ _ _ _ => pg_name (i := 4) scLed.nd rfl (Or.inl rfl)) (fun _ _ _ _ _ => pts_nil) (fun _ _ _ _ _ => pv 4))), ?_⟩
    obtain ⟨kvs, hkv, hkl, hval⟩ := id hd
    refine ⟨_, rfl, a, rfl, ⟨_, SqT.of ha⟩, fun D1 nD1 => ?_⟩
    refine go_tup (K := K) (a := a) (xs := nVs T) (fun i H1 => Same H H1 ∧ H1 D1 = some (.lst (nVs ((T.take i).flatMap (stp mv (n : Int)))))) ⟨same_new nD1, by rw [upd_same]; rfl⟩ (fun i H1 _ ⟨s1, _⟩ => SqT.of (s1 _ _ ha)) ?_ ?_
    · rintro i v H1 hi ⟨s1, hD1⟩
      obtain ⟨x, rfl, hx⟩ := nVs_at hi
      have hTi : (T.take i).length ≤ 1000 := by
        rw [List.length_take]
        omega
      have hsz : ((T.take i).flatMap (stp mv (n : Int))).length ≤ 4000 := Nat.le_trans (flat_take_le _ _ _) hfl
      have hX := stp_len mv (n : Int) x
      refine ⟨rfl, ?_⟩
      refine ⟨_, rfl, d, rfl, .inr ⟨_, .inl (s1 _ _ hkv)⟩, _, rfl, _, rfl, by show 2 ≤ sizeLine; decide, fun kt nkt => ?_⟩
      refine ⟨by show 0 ≤ sizeLine; decide, fun e0 ne0 => ?_⟩
      have s2 : Same H1 (upd (upd H1 kt (.tup [nV x, nV n])) e0 (.lst [])) := (same_new nkt).trans (same_new ne0)
      have hk2 : (upd (upd H1 kt (.tup [nV x, nV n])) e0 (.lst [])) kt = some (.tup [nV x, nV n]) := same_new ne0 _ _ upd_same
      have he2 : (upd (upd H1 kt (.tup [nV x, nV n])) e0 (.lst [])) e0 = some (.lst (nVs [])) := upd_same
      have ne1 : H1 e0 = none := (same_new nkt).free ne0
      generalize (upd (upd H1 kt (.tup [nV x, nV n])) e0 (.lst [])) = H2 at s2 hk2 he2
      have key : ∃ (o : Option V) (l : Addr), DGet H2 d (.ref kt) o ∧ o.getD (.ref e0) = .ref l ∧ H2 l = some (.lst (nVs (stp mv (n : Int) x))) ∧ l ≠ D1 := by
        refine ⟨valV kvs (kP (x, n)), ?_⟩
        rcases hval x n with ⟨z1, z2⟩ | ⟨l, z1, z2⟩
        · refine ⟨e0, DGet.t (k := kP (x, n)) (s2 _ _ (s1 _ _ hkv)) hk2, by rw [z1]; rfl, ?_, (ne_of_none hD1 ne1).symm⟩
          have z3 : stp mv (n : Int) x = [] := z2
          rw [z3]
          exact he2
        · exact ⟨l, DGet.t (k := kP (x, n)) (s2 _ _ (s1 _ _ hkv)) hk2, by rw [z1]; rfl, s2 _ _ (s1 _ _ z2), ne_of_none z2 nD1⟩
      obtain ⟨o, l, hg, el, hl, nl⟩ := key
      refine ⟨o, hg, ?_⟩
      rw [el]
      refine ⟨l, rfl, ⟨_, SqL.of hl⟩, ?_⟩
      refine go_list (K := K) (a := l) (xs := nVs (stp mv (n : Int) x)) (fun j H3 => Same H H3 ∧ H3 l = some (.lst (nVs (stp mv (n : Int) x))) ∧ H3 D1 = some (.lst (nVs ((T.take i).flatMap (stp mv (n : Int)) ++ (stp mv (n : Int) x).take j)))) ⟨s1.trans s2, hl, by rw [List.take_zero, List.append_nil]; exact s2 _ _ hD1⟩ (fun j H3 _ ⟨_, hl3, _⟩ => SqL.of hl3) ?_ ?_
      · rintro j v H3 hj ⟨s3, hl3, hD3⟩
        obtain ⟨y, rfl, hy⟩ := nVs_at hj
        have hjl := (List.getElem?_eq_some_iff.mp hy).1
        refine ⟨rfl, ?_⟩
        refine ⟨_, rfl, _, hD3, by rw [nVs_len, List.length_append, List.length_take]; exact szBig (by omega), ?_, ?_, ?_⟩
        · intro b o' eb
          rw [upd_ne (ne_of_none eb nD1)]
          exact s3 _ _ eb
        · rw [upd_ne nl]
          exact hl3
        · rw [upd_same, take_snoc hy, ← List.append_assoc, nVs_snoc]
      · rintro H3 ⟨s3, hl3, hD3⟩
        rw [nVs_len, List.take_length] at hD3
        refine ⟨s3, ?_⟩
        rw [take_snoc hx, List.flatMap_append, List.flatMap_cons, List.flatMap_nil, List.append_nil]
        exact hD3
    · rintro H1 ⟨s1, hD1⟩
      rw [nVs_len, List.take_length] at hD1
      exact q H1 D1 s1 nD1 hD1
end
end K16

namespace Rg
open PySem PySem.Spec PyProof.Rows L2 Mach
/-- the machine of paths -/
def spDetU : Sp := fun vs H Q _ => ∃ (b m e : Addr) (ms : List Addr) (mv : List Mv) (n : Nat) (S0 ends : List Nat) (UL : List (List Nat)), vs = [nV n, .ref b, .ref m, .ref e] ∧ H b = some (.lst (nVs S0)) ∧ MvAt H m ms mv ∧ H e = some (.lst (nVs ends)) ∧
  n ≤ 4 ∧ mv.length ≤ 4000 ∧ S0.length ≤ 4000 ∧ ends.length ≤ 4000 ∧ (∀ x ∈ mv, -1 ≤ x.2.1) ∧ Univ mv n (silF mv fun x => x ∈ S0) UL ∧ UL.length ≤ 2000 ∧ (∀ T ∈ UL, T.length ≤ 1000 ∧ ∀ k, k < n → (T.flatMap (stp mv (k : Int))).length ≤ 4000) ∧
  ∀ (H' : Hp) (t p e' : Addr) (ys : List Addr) (R' : List (List Nat)) (E' : List Nat), Same H H' → H t = none → H p = none → H e' = none → p ≠ e' → (∀ y ∈ ys, H y = none ∧ y ≠ p ∧ y ≠ e') → ys.Nodup → H' t = some (.tup [.ref p, .ref e']) → RowsAt H' p ys R' → H' e' = some (.lst (nVs E')) →
    Least n R' E' → (∀ w, Wd n w → (runM R' 0 w ∈ E' ↔ Meets (w.foldl (nxS mv) (silF mv fun x => x ∈ S0)) ends)) → R'.length ≤ UL.length → Q (.ref t) H'
end Rg
namespace K16
open PySem PySem.Spec PyProof.Rows L2 Rg Mach
abbrev sDet : Stmt := topS 21
def nDet : List Str := ["wide", "begins", "moves", "ends", "silent", "reading", "state", "place", "there", "found", "number", "rows", "some", "later", "known"]
theorem scDet : FnScope nDet ["wide", "begins", "moves", "ends"] (defScope sDet) := ⟨rfl, rfl, rfl, by decide +kernel, rfl, by decide +kernel, by decide +kernel⟩
def scDetOut : Scope := match (defBody sDet).getD 8 (.Pass ⟨0, 0, 0, 0⟩) with
  | .Return (some (.Call _ [_, .ListComp _ _ sc _] _ _)) _ => sc
  | _ => defScope sDet
section
variable {P : Program} {w : World} {K : PySem.W.Frag} {mg : Str → Option Value} {base : Heap}
theorem ok_det {f fS fL fM fR fC fP fH : Addr} {fd fdS fdL fdM fdR fdC fdP fdH : FuncData} {k : Nat} (F : Fun K "determined" "determined" sDet f fd)
    (FS : Fun K "silent_from" "silent_from" sSil fS fdS) (bS : Binds K fdS ["states", "silent"] []) (gS : mg "silent_from" = some (.ref fS))
    (FL : Fun K "led_to" "led_to" sLed fL fdL) (bL : Binds K fdL ["states", "place", "reading"] []) (gL : mg "led_to" = some (.ref fL))
    (FM : FunD K "least_machine" "least_machine" (defArgs sLm) (defBody sLm) (defScope sLm) [] [("begin", .int 0)] fM fdM) (bM : ∃ ds, Vals [.int 0] ds ∧ Binds K fdM ["rows", "ends", "begin"] ds) (gM : mg "least_machine" = some (.ref fM))
    (FR : Fun K "reached_from" "reached_from" sReach fR fdR) (bR : Binds K fdR ["rows", "begin"] []) (gR : mg "reached_from" = some (.ref fR))
    (FC : Fun K "classes_of" "classes_of" sCls fC fdC) (bC : Binds K fdC ["rows", "ends", "states"] []) (gC : mg "classes_of" = some (.ref fC))
    (FP : Fun K "parted_once" "parted_once" sPart fP fdP) (bP : Binds K fdP ["rows", "classes", "states"] []) (gP : mg "parted_once" = some (.ref fP))
    (FH : Fun K "how_many" "how_many" sHow fH fdH) (bH : Binds K fdH ["classes"] []) (gH : mg "how_many" = some (.ref fH))
    (ml : mg "len" = none) (mt : mg "tuple" = none) (ms : mg "set" = none) (mli : mg "list" = none) (mi : mg "int" = none) (mr : mg "range" = none) (md : mg "dict" = none) (mso : mg "sorted" = none) (man : mg "any" = none) :
    FnOk P w K mg base CX0 (k + 4) f fd ["wide", "begins", "moves", "ends"] spDetU := by
  have GS : FnOk P w K mg base CX0 (k + 3) fS fdS ["states", "silent"] spSilU := ok_sil FS ml mli md mt mso
  have GL : FnOk P w K mg base CX0 (k + 3) fL fdL ["states", "place", "reading"] spLedU := ok_led FL
  have GM : FnOk P w K mg base CX0 (k + 3) fM fdM ["rows", "ends", "begin"] spLm := ok_lm FM FR bR gR FC bC gC FP bP gP FH bH gH ml mt ms mli mi mr
  obtain ⟨ds, vd, bd⟩ := bM
  refine F.ok scDet (fun vs H Q E h => ?_) (fun cdv A outer s H vs Q E hr h => ?_)
  · obtain ⟨b, m, e, ms, mv, n, S0, ends, UL, rfl, _⟩ := h
    rfl
  · obtain ⟨b, m, e, ms, mv, n, S0, ends, UL, rfl, hb, hm, he, hn, hml, hSl, hel, hpl, hU, hUl, hUs, q⟩ := h
    have hu := hu_of hr
    refine ⟨_, pss_cons (ps_set (i := 4) scDet.nd rfl (.inr rfl) pe_dnewK)
      (pss_cons (ps_set (i := 5) scDet.nd rfl (.inr rfl) pe_dnewT)
      (pss_cons (ps_for PassesOwn.never rfl (pi_list (pv 2)) (pg_tup rfl (pgs_cons (pg_name (i := 6) scDet.nd rfl (.inl rfl)) (pgs_cons (pg_name (i := 7) scDet.nd rfl (.inl rfl)) (pgs_cons (pg_name (i := 8) scDet.nd rfl (.inl rfl)) pgs_nil))))
        (pss_one (ps_if (pt_cmpR op_lt (pv 7) pe_int (nomark _))
          (pss_one (ps_dput hu (pv 4) (pv 6) (pe_op op_cat (pe_dget2 hu (pv 4) (pv 6) (pe_lst pa_nil) ⟨rfl, rfl, rfl, rfl⟩) (pe_lst (pa_cons (pv 8) pa_nil))) rfl))
          (pss_one (ps_dput hu (pv 5) (pe_tup (pa_cons (pv 6) (pa_cons (pv 7) pa_nil))) (pe_op op_cat (pe_dget2 hu (pv 5) (pe_tup (pa_cons (pv 6) (pa_cons (pv 7) pa_nil))) (pe_lst pa_nil) ⟨rfl, rfl, rfl, rfl⟩) (pe_lst (pa_cons (pv 8) pa_nil))) rfl)))))
      (pss_cons (ps_set (i := 9) scDet.nd rfl (.inr rfl) (pe_lst (pa_cons (pe_call GS hr (by rfl) gS FS.kp bS .nil pass0 (pa_cons (pv 1) (pa_cons (pv 4) pa_nil))) pa_nil)))
      (pss_cons (ps_set (i := 10) scDet.nd rfl (.inr rfl) (pe_dispT hu (pe_ix ix_list (pv 9) pe_int (fun _ _ => rfl)) pe_int))
      (pss_cons (ps_set (i := 11) scDet.nd rfl (.inr rfl) (pe_lst pa_nil))
      (pss_cons (ps_while PassesOwn.never (pt_cmpR op_lt (pe_callB call_len_seq (by rfl) ml bLen (pa_cons (pv 11) pa_nil)) (pe_callB call_len_seq (by rfl) ml bLen (pa_cons (pv 9) pa_nil)) (nomark _))
        (pss_cons (ps_setLc (i := 12) (own := [("place", 7)]) (g := gName 7) (tt := tYes) (te := tCall spSilU [] E0 (tCons (tCall spLedU [] E0 (tCons (tOp (rIxL K) (tVar 9) (tCB (fun xs H Q => ∃ p ys, xs = [V.ref p] ∧ (SqL K H p ys ∨ SqT K H p ys) ∧ Q (V.int (ys.length : Nat)) H) (tCons (tVar 11) tNil))) (tCons (tVar 7) (tCons (tVar 5) tNil)))) (tCons (tVar 4) tNil))) rfl scDet.nd rfl rfl (sw_true rfl rfl rfl (by decide +kernel))
            (pi_range1 (by rfl) mr (pa_cons (pv 0) pa_nil)) (blkOk_by (own := [("place", 7)]) (N := nDet) (sc := defScope sDet) (by decide +kernel))
            (fun _ _ _ _ _ => pg_name (i := 7) scDet.nd rfl (Or.inl rfl)) (fun _ _ _ _ _ => pts_nil)
            (fun _ _ _ _ _ => pe_call GS hr (by rfl) gS FS.kp bS .nil pass0 (pa_cons (pe_call GL hr (by rfl) gL FL.kp bL .nil pass0 (pa_cons (pe_ix ix_list (pv 9) (pe_callB call_len_seq (by rfl) ml bLen (pa_cons (pv 11) pa_nil)) (fun _ _ => rfl)) (pa_cons (pv 7) (pa_cons (pv 5) pa_nil)))) (pa_cons (pv 4) pa_nil))))
        (pss_cons (ps_for PassesOwn.never rfl (pi_list (pv 12)) (pg_name (i := 13) scDet.nd rfl (.inl rfl))
          (pss_one (ps_if (pt_cmp (pc_dnotin hu (pv 13) (pv 10))) (pss_cons (ps_dput hu (pv 10) (pv 13) (pe_callB call_len_seq (by rfl) ml bLen (pa_cons (pv 9) pa_nil)) rfl)
            (pss_one (ps_expr (pe_bm PySem.F.plainAttrs_list PySem.F.slot_list_append PySem.F.type_list_append mt_append (pv 9) (pa_cons (pv 13) pa_nil))))) pss_nil)))
        (pss_one (ps_expr (pe_bm PySem.F.plainAttrs_list PySem.F.slot_list_append PySem.F.type_list_append mt_append (pv 11) (pa_cons (pe_lc (own := [("later", 13)]) (g := gName 13) (tt := tYes) (te := tDGet (tVar 10) (tVar 13)) rfl scDet.nd (pi_list (pv 12)) (blkOk_by (own := [("later", 13)]) (N := nDet) (sc := defScope sDet) (by decide +kernel))
            (fun _ _ _ _ _ => pg_name (i := 13) scDet.nd rfl (Or.inl rfl)) (fun _ _ _ _ _ => pts_nil) (fun _ _ _ _ _ => pe_dget hu (pv 10) (pv 13) (fun _ _ => rfl))) pa_nil)))))))
      (pss_cons (ps_set (i := 14) scDet.nd rfl (.inr rfl) (pe_dc (own := [("state", 6)]) (g := gName 6) (tt := tYes) rfl scDet.nd (pi_list (pv 3)) (blkOk_by (own := [("state", 6)]) (N := nDet) (sc := defScope sDet) (by decide +kernel))
          (fun _ _ _ _ _ => pg_name (i := 6) scDet.nd rfl (Or.inl rfl)) (fun _ _ _ _ _ => pts_nil) (fun _ _ _ _ _ => pv 6) (fun _ _ _ _ _ => pe_bl)))
      (pss_one (ps_ret (pe_call GM hr (by rfl) gM FM.kp bd vd pass0 (pa_cons (pv 11) (pa_cons (pe_lc (own := [("some", 12)]) (g := gName 12) (tt := tB (tCB (rAny K) (tCons (tLc (iTup K (tVar 12)) (gName 6) tYes (tDIn (tVar 6) (tVar 14)) [6]) tNil))) (te := tDGet (tVar 10) (tVar 12)) rfl scDet.nd (pi_list (pv 9)) (blkOk_by (own := [("some", 12)]) (N := nDet) (sc := defScope sDet) (by decide +kernel))
          (fun _ _ _ _ _ => pg_name (i := 12) scDet.nd rfl (Or.inl rfl))
          (fun _ _ _ _ _ => pts_one (pt_val (pe_callB (cr_any rfl) (by rfl) man bAny (pa_cons (pe_lc (own := [("state", 6)]) (g := gName 6) (tt := tYes) rfl scDet.nd (pi_tup (pv 12)) (blkOk_by (own := [("state", 6)]) (N := nDet) (sc := relS scDetOut (defScope sDet)) (by decide +kernel))
            (fun _ _ _ _ _ => pg_name (i := 6) scDet.nd rfl (Or.inl rfl)) (fun _ _ _ _ _ => pts_nil) (fun _ _ _ _ _ => pe_cmp (pc_din hu (pv 6) (pv 14)))) pa_nil))))
          (fun _ _ _ _ _ => pe_dget hu (pv 10) (pv 12) (fun _ _ => rfl))) pa_nil)))))))))))), ?_⟩
    -- silent, reading = {}, {}
    intro ps nps pr npr
    have s2 : Same H (upd (upd H ps (.dK [])) pr (.dT [])) := (same_new nps).trans (same_new npr)
    have hs2 : (upd (upd H ps (.dK [])) pr (.dT [])) ps = some (.dK []) := same_new npr _ _ upd_same
    have hr2 : (upd (upd H ps (.dK [])) pr (.dT [])) pr = some (.dT []) := upd_same
    have npr0 : H pr = none := (same_new nps).free npr
    generalize (upd (upd H ps (.dK [])) pr (.dT [])) = H2 at s2 hs2 hr2
    have nsr : ps ≠ pr := fun z => by
      rw [z, hr2] at hs2
      cases hs2
    refine ⟨_, rfl, m, rfl, ⟨_, SqL.of (s2 _ _ hm.1)⟩, ?_⟩
    refine for_list (K := K) (a := m) (xs := ms.map V.ref) (fun j σ H3 => ∃ (y6 y7 y8 : Option V), σ = [some (nV n), some (.ref b), some (.ref m), some (.ref e), some (.ref ps), some (.ref pr), y6, y7, y8, none, none, none, none, none, none] ∧ Same H H3 ∧ ListsKc j H3 ps (stp (mv.take j) (-1)) ∧ ListsPc j H3 pr (fun x k => stp (mv.take j) (k : Int) x))
      ⟨none, none, none, rfl, s2, ⟨[], hs2, Nat.le_refl _, fun x => .inl ⟨rfl, rfl⟩⟩, ⟨[], hr2, Nat.le_refl _, fun x k => .inl ⟨rfl, rfl⟩⟩⟩ (fun j σ H3 _ ⟨_, _, _, _, s3, _⟩ => SqL.of (s3 _ _ hm.1)) ?_ ?_
    · rintro j v σ H3 hj ⟨y6, y7, y8, rfl, s3, hK, hP⟩
      rw [List.getElem?_map] at hj
      obtain ⟨t, ht, rfl⟩ := Option.map_eq_some_iff.mp hj
      obtain ⟨x, hx, htx⟩ := Rg.paired_get hm.2 ht
      have hxm : x ∈ mv := List.mem_of_getElem? hx
      have hpx := hpl x hxm
      have hjl := (List.getElem?_eq_some_iff.mp hx).1
      refine ⟨t, _, rfl, SqT.of (s3 _ _ htx), rfl, _, _, rfl, _, _, rfl, _, _, rfl, rfl, ?_⟩
      refine ⟨_, rfl, _, _, rfl, rfl, _, rfl, ite2 (fun ei => ?_) (fun ei => ?_)⟩
      · have ep : x.2.1 = -1 := by
          have := of_decide_eq_true ei
          omega
        obtain ⟨kvs, hk1, hk2, hk3⟩ := id hK
        refine ⟨_, rfl, ps, rfl, .inl ⟨_, .inl hk1⟩, _, rfl, by show 0 ≤ sizeLine; decide, fun e0 ne0 => ?_⟩
        have s4 : Same H3 (upd H3 e0 (.lst [])) := same_new ne0
        have he4 : (upd H3 e0 (.lst [])) e0 = some (.lst (nVs [])) := upd_same
        generalize (upd H3 e0 (.lst [])) = H4 at s4 he4
        have key : ∃ (o : Option V) (l : Addr), DGet H4 ps (nV x.1) o ∧ o.getD (.ref e0) = .ref l ∧ H4 l = some (.lst (nVs (stp (mv.take j) (-1) x.1))) := by
          refine ⟨valV kvs (kN x.1), ?_⟩
          rcases hk3 x.1 with ⟨z1, z2⟩ | ⟨l, z1, z2⟩
          · refine ⟨e0, DGet.k (k := kN x.1) (s4 _ _ hk1), by rw [z1]; rfl, ?_⟩
            rw [z2]
            exact he4
          · exact ⟨l, DGet.k (k := kN x.1) (s4 _ _ hk1), by rw [z1]; rfl, s4 _ _ z2⟩
        obtain ⟨o, l, hg, el, hl⟩ := key
        refine ⟨o, hg, ?_⟩
        rw [el]
        refine ⟨_, rfl, by show 1 ≤ sizeLine; decide, fun e1 ne1 => ?_⟩
        have s5 : Same H4 (upd H4 e1 (.lst [nV x.2.2])) := same_new ne1
        have he5 : (upd H4 e1 (.lst [nV x.2.2])) e1 = some (.lst [nV x.2.2]) := upd_same
        generalize (upd H4 e1 (.lst [nV x.2.2])) = H5 at s5 he5
        have hsz := stp_len (mv.take j) (-1) x.1
        rw [List.length_take] at hsz
        refine ⟨l, e1, _, _, rfl, rfl, s5 _ _ hl, he5, by rw [nVs_len]; exact szBigLe (by show _ + 1 ≤ _; omega), fun p np => ?_⟩
        rw [← nVs_snoc]
        have s6 : Same H5 (upd H5 p (.lst (nVs (stp (mv.take j) (-1) x.1 ++ [x.2.2])))) := same_new np
        have hp6 : (upd H5 p (.lst (nVs (stp (mv.take j) (-1) x.1 ++ [x.2.2])))) p = some (.lst (nVs (stp (mv.take j) (-1) x.1 ++ [x.2.2]))) := upd_same
        generalize (upd H5 p (.lst (nVs (stp (mv.take j) (-1) x.1 ++ [x.2.2])))) = H6 at s6 hp6
        have s36 := (s4.trans s5).trans s6
        refine ⟨_, rfl, _, rfl, ps, _, rfl, DPut.k (k := kN x.1) (s36 _ _ hk1) (szBig (by omega)), ?_⟩
        have hps6 := s36 _ _ hk1
        refine ⟨_, _, _, rfl, ?_, ?_, ?_⟩
        · intro b' o' eb
          rw [upd_ne (ne_of_none eb nps)]
          exact s36 _ _ (s3 _ _ eb)
        · refine ListsKc.put (H := H6) (f := stp (mv.take j) (-1)) (kvs := kvs) (x := x.1) (l := p) (fun y => ?_) hk2 upd_same (fun b' o' nb eb => by rw [upd_ne nb]; exact eb) (fun xs z => by rw [hps6] at z; cases z) ?_ (fun y hy => ?_)
          · rcases hk3 y with z | ⟨l', z1, z2⟩
            · exact .inl z
            · exact .inr ⟨l', z1, s36 _ _ z2⟩
          · rw [upd_ne (ne_of hp6 hps6 (fun z => by cases z)), take_snoc hx, stp_this ⟨rfl, ep⟩]
            exact hp6
          · rw [take_snoc hx, stp_other (fun z => hy z.1.symm)]
        · refine ((hP.same s36).keep (fun b' xs eb => ?_) (fun b' xs eb => ?_) (fun y k' => ?_)).le (Nat.le_succ _)
          · rw [upd_ne (ne_of eb hps6 (fun z => by cases z))]
            exact eb
          · rw [upd_ne (ne_of eb hps6 (fun z => by cases z))]
            exact eb
          · rw [take_snoc hx, stp_other (fun z => by have := z.2; omega)]
      · have ep : ∃ k : Nat, x.2.1 = k := ⟨x.2.1.toNat, by
          have := of_decide_eq_false (Bool.eq_false_iff.mpr ei)
          omega⟩
        obtain ⟨c, ec⟩ := ep
        rw [ec]
        obtain ⟨kvs, hk1, hk2, hk3⟩ := id hP
        refine ⟨_, rfl, pr, rfl, .inr ⟨_, .inl hk1⟩, _, rfl, _, rfl, by show 2 ≤ sizeLine; decide, fun kt nkt => ?_⟩
        refine ⟨by show 0 ≤ sizeLine; decide, fun e0 ne0 => ?_⟩
        have s4 : Same H3 (upd (upd H3 kt (.tup [nV x.1, nV c])) e0 (.lst [])) := (same_new nkt).trans (same_new ne0)
        have hkt4 : (upd (upd H3 kt (.tup [nV x.1, nV c])) e0 (.lst [])) kt = some (.tup [nV x.1, nV c]) := same_new ne0 _ _ upd_same
        have he4 : (upd (upd H3 kt (.tup [nV x.1, nV c])) e0 (.lst [])) e0 = some (.lst (nVs [])) := upd_same
        generalize hH4 : (upd (upd H3 kt (.tup [nV x.1, nV c])) e0 (.lst [])) = H4 at s4 he4 hkt4
        have hH4' : (upd (upd H3 kt (.tup [nV x.1, .int (c : Int)])) e0 (.lst [])) = H4 := hH4
        rw [hH4']
        clear hH4 hH4'
        have key : ∃ (o : Option V) (l : Addr), DGet H4 pr (.ref kt) o ∧ o.getD (.ref e0) = .ref l ∧ H4 l = some (.lst (nVs (stp (mv.take j) (c : Int) x.1))) := by
          refine ⟨valV kvs (kP (x.1, c)), ?_⟩
          rcases hk3 x.1 c with ⟨z1, z2⟩ | ⟨l, z1, z2⟩
          · refine ⟨e0, DGet.t (k := kP (x.1, c)) (s4 _ _ hk1) hkt4, by rw [z1]; rfl, ?_⟩
            have z3 : stp (mv.take j) (c : Int) x.1 = [] := z2
            rw [z3]
            exact he4
          · exact ⟨l, DGet.t (k := kP (x.1, c)) (s4 _ _ hk1) hkt4, by rw [z1]; rfl, s4 _ _ z2⟩
        obtain ⟨o, l, hg, el, hl⟩ := key
        refine ⟨o, hg, ?_⟩
        rw [el]
        refine ⟨_, rfl, by show 1 ≤ sizeLine; decide, fun e1 ne1 => ?_⟩
        have s5 : Same H4 (upd H4 e1 (.lst [nV x.2.2])) := same_new ne1
        have he5 : (upd H4 e1 (.lst [nV x.2.2])) e1 = some (.lst [nV x.2.2]) := upd_same
        generalize (upd H4 e1 (.lst [nV x.2.2])) = H5 at s5 he5
        have hsz := stp_len (mv.take j) (c : Int) x.1
        rw [List.length_take] at hsz
        refine ⟨l, e1, _, _, rfl, rfl, s5 _ _ hl, he5, by rw [nVs_len]; exact szBigLe (by show _ + 1 ≤ _; omega), fun p np => ?_⟩
        rw [← nVs_snoc]
        have s6 : Same H5 (upd H5 p (.lst (nVs (stp (mv.take j) (c : Int) x.1 ++ [x.2.2])))) := same_new np
        have hp6 : (upd H5 p (.lst (nVs (stp (mv.take j) (c : Int) x.1 ++ [x.2.2])))) p = some (.lst (nVs (stp (mv.take j) (c : Int) x.1 ++ [x.2.2]))) := upd_same
        generalize (upd H5 p (.lst (nVs (stp (mv.take j) (c : Int) x.1 ++ [x.2.2])))) = H6 at s6 hp6
        refine ⟨_, rfl, _, rfl, _, rfl, by show 2 ≤ sizeLine; decide, fun kt2 nkt2 => ?_⟩
        have s7 : Same H6 (upd H6 kt2 (.tup [nV x.1, .int (c : Int)])) := same_new nkt2
        have hk7 : (upd H6 kt2 (.tup [nV x.1, .int (c : Int)])) kt2 = some (.tup [nV x.1, nV c]) := upd_same
        generalize (upd H6 kt2 (.tup [nV x.1, .int (c : Int)])) = H7 at s7 hk7
        have s37 := ((s4.trans s5).trans s6).trans s7
        have hpr7 := s37 _ _ hk1
        refine ⟨pr, _, rfl, DPut.t (k := kP (x.1, c)) hpr7 hk7 (szBig (by omega)), ?_⟩
        refine ⟨_, _, _, rfl, ?_, ?_, ?_⟩
        · intro b' o' eb
          rw [upd_ne (ne_of_none eb npr0)]
          exact s37 _ _ (s3 _ _ eb)
        · refine ((hK.same s37).keep (fun b' xs eb => ?_) (fun b' xs eb => ?_) (fun y => ?_)).le (Nat.le_succ _)
          · rw [upd_ne (ne_of eb hpr7 (fun z => by cases z))]
            exact eb
          · rw [upd_ne (ne_of eb hpr7 (fun z => by cases z))]
            exact eb
          · rw [take_snoc hx, stp_other (fun z => by have := z.2; omega)]
        · refine ListsPc.put (H := H7) (f := fun x k => stp (mv.take j) (k : Int) x) (kvs := kvs) (x := x.1) (k := c) (l := p) (fun y k' => ?_) hk2 upd_same (fun b' o' nb eb => by rw [upd_ne nb]; exact eb) (fun xs z => by rw [hpr7] at z; cases z) ?_ (fun y k' hy => ?_)
          · rcases hk3 y k' with z | ⟨l', z1, z2⟩
            · exact .inl z
            · exact .inr ⟨l', z1, s37 _ _ z2⟩
          · have hp7 := s7 _ _ hp6
            rw [upd_ne (ne_of hp7 hpr7 (fun z => by cases z)), take_snoc hx, stp_this ⟨rfl, ec⟩]
            exact hp7
          · rw [take_snoc hx]
            refine stp_other fun z => hy ?_
            have h1 := z.1
            have h2 := z.2
            rw [ec] at h2
            have h3 : c = k' := by omega
            rw [h1, h3]
    rintro σ Hb ⟨y6, y7, y8, rfl, sb, hK, hP⟩
    rw [List.length_map] at hK hP
    have eml : ms.length = mv.length := paired_length hm.2
    rw [eml, List.take_length] at hK hP
    replace hK := hK.le (show mv.length ≤ 4000 by omega)
    replace hP := hP.le (show mv.length ≤ 4000 by omega)
    clear hs2 hr2 s2 nsr
    -- found = [silent_from(begins, silent)]
    refine ⟨_, rfl, _, rfl, b, ps, S0, mv, rfl, sb _ _ hb, hK, by omega, hml, fun H4 t0 T0 s4 nt0 ht0 hT0 => ?_⟩
    have eT0 : T0 = silF mv fun x => x ∈ S0 := hT0.eq
    have hT0s : T0 ∈ UL := by rw [eT0]; exact hU.zero
    refine ⟨by show 1 ≤ sizeLine; decide, fun pf npf => ?_⟩
    have s5 : Same H4 (upd H4 pf (.lst [.ref t0])) := same_new npf
    have hf5 : (upd H4 pf (.lst [.ref t0])) pf = some (.lst ([t0].map V.ref)) := upd_same
    generalize (upd H4 pf (.lst [.ref t0])) = H5 at s5 hf5
    -- number = {found[0]: 0}
    intro pn npn
    have s6 : Same H5 (upd H5 pn (.dT [])) := same_new npn
    have hn6 : (upd H5 pn (.dT [])) pn = some (.dT []) := upd_same
    refine ⟨_, rfl, pf, _, _, _, rfl, rfl, SqL.of (s6 _ _ hf5), (rfl : atI [V.ref t0] 0 = some (.ref t0)), hn6, t0, kT T0, rfl, by rw [kT_vals]; exact s6 _ _ (s5 _ _ ht0), ?_⟩
    rw [upd_upd]
    have e0 : ([(kT T0, V.int 0)] : List (List Key × V)) = nO [T0] := by
      show [(kT T0, V.int 0)] = [(kT T0, nV ([T0].idxOf T0))]
      rw [List.idxOf_cons_self]
      rfl
    rw [e0]
    clear s6 hn6
    have s6 : Same H5 (upd H5 pn (.dT (nO [T0]))) := same_new npn
    have hn6 : (upd H5 pn (.dT (nO [T0]))) pn = some (.dT (nO [T0])) := upd_same
    generalize (upd H5 pn (.dT (nO [T0]))) = H6 at s6 hn6
    -- rows = []
    refine ⟨by show 0 ≤ sizeLine; decide, fun pw npw => ?_⟩
    have s7 : Same H6 (upd H6 pw (.lst [])) := same_new npw
    have hw7 : (upd H6 pw (.lst [])) pw = some (.lst []) := upd_same
    generalize (upd H6 pw (.lst [])) = H7 at s7 hw7
    have npf0 : Hb pf = none := s4.free npf
    have npn0 : Hb pn = none := (s4.trans s5).free npn
    have npw0 : Hb pw = none := ((s4.trans s5).trans s6).free npw
    have nfw : pf ≠ pw := ne_of_none (s6 _ _ hf5) npw
    have nfn : pf ≠ pn := ne_of_none hf5 npn
    have nnw : pn ≠ pw := ne_of_none hn6 npw
    have hW0 : SetU mv n UL T0 [T0] [] := ⟨by simp, fun T hT => by rw [List.mem_singleton] at hT; rw [hT]; exact hT0s, rfl, by simp, fun i hi => absurd hi (Nat.not_lt_zero _), fun i T hi => absurd hi (Nat.not_lt_zero _)⟩
    refine ⟨fun k' σ H8 => ∃ (F R : List (List Nat)) (ts xs : List Addr) (y6 y7 y8 y12 y13 : Option V), k' = 2000 - R.length ∧ σ = [some (nV n), some (.ref b), some (.ref m), some (.ref e), some (.ref ps), some (.ref pr), y6, y7, y8, some (.ref pf), some (.ref pn), some (.ref pw), y12, y13, none] ∧ Same Hb H8 ∧ H8 pf = some (.lst (ts.map V.ref)) ∧ TupsAt H8 ts F ∧ H8 pn = some (.dT (nO F)) ∧ RowsAt H8 pw xs R ∧ (∀ x ∈ xs, x ≠ pf ∧ x ≠ pw) ∧ SetU mv n UL T0 F R,
      ⟨_, [T0], [], [t0], [], y6, y7, y8, none, none, rfl, rfl, ((s4.trans s5).trans s6).trans s7, s7 _ _ (s6 _ _ hf5), .cons (s7 _ _ (s6 _ _ (s5 _ _ ht0))) .nil, s7 _ _ hn6, ⟨hw7, rfl, fun i x hx => by simp at hx⟩, (fun x hx => nomatch hx), hW0⟩, ?_⟩
    clear hW0 s7 hw7 s6 hn6 hf5 s5 npf npn npw ht0 nt0 s4 e0
    rintro k' σ H8 ⟨F, R, ts, xs, y6, y7, y8, y12, y13, rfl, rfl, s8, hf8, hts8, hn8, hw8, hxn, hW⟩
    have hFl : F.length ≤ 2000 := Nat.le_trans hW.le hUl
    have hRl := hW.len
    have htl := hts8.len
    have hxl := hw8.len
    refine ⟨_, rfl, pw, _, rfl, .inl (SqL.of hw8.at_), _, rfl, pf, _, rfl, .inl (SqL.of hf8), _, _, rfl, rfl, _, rfl, ite2 (fun ei => ?_) (fun ei => ?_)⟩
    · have hlt : R.length < F.length := by
        have := of_decide_eq_true ei
        rw [List.length_map, List.length_map] at this
        omega
      clear ei
      have hT : F[R.length]? = some F[R.length] := List.getElem?_eq_getElem hlt
      generalize F[R.length] = T at hT
      have hTm : T ∈ F := List.mem_of_getElem? hT
      obtain ⟨tT, htT, hTt⟩ := hts8.get hT
      have hTl : T.length ≤ 1000 := (hUs T (hW.sub T hTm)).1
      refine ⟨fun σ' H' => ∃ (F' R' : List (List Nat)) (ts' xs' : List Addr) (y12 y13 : Option V), R'.length = R.length + 1 ∧ σ' = [some (nV n), some (.ref b), some (.ref m), some (.ref e), some (.ref ps), some (.ref pr), y6, y7, y8, some (.ref pf), some (.ref pn), some (.ref pw), y12, y13, none] ∧ Same Hb H' ∧ H' pf = some (.lst (ts'.map V.ref)) ∧ TupsAt H' ts' F' ∧ H' pn = some (.dT (nO F')) ∧ RowsAt H' pw xs' R' ∧ (∀ x ∈ xs', x ≠ pf ∧ x ≠ pw) ∧ SetU mv n UL T0 F' R', ?_, ?_⟩
      · rintro σ' H' ⟨F', R', ts', xs', z12, z13, hl', rfl, s', hf', hts', hn', hw', hxn', hW'⟩
        exact ⟨2000 - R'.length, by omega, F', R', ts', xs', y6, y7, y8, z12, z13, rfl, rfl, s', hf', hts', hn', hw', hxn', hW'⟩
      · -- some
        refine ⟨_, rfl, (n : Int), rfl, by omega, by omega, fun D1 nD1 => ?_⟩
        refine lc_range (n := (n : Int).toNat) (fun i H9 => Same H8 H9 ∧ ∃ us : List Addr, us.length = i ∧ H9 D1 = some (.lst (us.map V.ref)) ∧ TupsAt H9 us ((List.range i).map (nxS mv T)) ∧ ∀ c, c < i → nxS mv T c ∈ UL) ⟨same_new nD1, [], rfl, by rw [upd_same]; rfl, .nil, fun c hc => absurd hc (Nat.not_lt_zero c)⟩ ?_ ?_
        · rintro i H9 hi ⟨s9, us, ul, hD9, hus, hsb⟩
          have hi' : i < n := by omega
          have s89 := s8.trans s9
          refine ⟨rfl, ?_⟩
          refine ⟨_, rfl, _, rfl, pw, _, rfl, .inl (SqL.of (s9 _ _ hw8.at_)), pf, _, _, _, rfl, rfl, SqL.of (s9 _ _ hf8), atI_nat (by rw [List.length_map, hxl, List.getElem?_map, htT]; rfl), _, rfl, _, rfl, tT, pr, T, mv, i, by rw [Int.zero_add]; rfl, s9 _ _ hTt, hP.same s89, hTl, hml, (hUs T (hW.sub T hTm)).2 i hi', fun H10 p s10 np hp => ?_⟩
          have hlen : (T.flatMap (stp mv (i : Int))).length ≤ 4000 := (hUs T (hW.sub T hTm)).2 i hi'
          refine ⟨_, rfl, p, ps, _, mv, rfl, hp, hK.same (s89.trans s10), by omega, hml, fun H11 t T' s11 nt ht hT' => ?_⟩
          have hLed : ∀ x, x ∈ T.flatMap (stp mv (i : Int)) ↔ Led mv T i x := fun x => by
            rw [List.mem_flatMap]
            exact ⟨fun ⟨y, hy, hx⟩ => ⟨y, hy, mem_stp.mp hx⟩, fun ⟨y, hy, hx⟩ => ⟨y, hy, mem_stp.mpr hx⟩⟩
          have eT' : T' = nxS mv T i := hT'.eq' hLed
          have hsub' : T' ∈ UL := by rw [eT']; exact hU.step T (hW.sub T hTm) i hi'
          have s911 := s10.trans s11
          have hD11 := s911 _ _ hD9
          refine ⟨_, hD11, by rw [List.length_map]; exact szBig (by omega), ?_, us ++ [t], by rw [List.length_append, List.length_singleton, ul], ?_, ?_, ?_⟩
          · intro b' o eb
            rw [upd_ne (ne_of_none eb nD1)]
            exact s911 _ _ (s9 _ _ eb)
          · rw [upd_same, List.map_append]
            rfl
          · rw [List.range_succ, List.map_append]
            refine TupsAt.upd_lst (paired_snoc (hus.same s911) ?_) (fun xs z => by rw [hD11] at z; cases z)
            rw [← eT']
            exact ht
          · intro c hc
            by_cases ec : c < i
            · exact hsb c ec
            · have : c = i := by omega
              rw [this, ← eT']
              exact hsub'
        rintro H9 ⟨s9, us, ul, hD9, hus, hsb⟩
        rw [Int.toNat_natCast] at ul hus hsb
        generalize hG : (List.range n).map (nxS mv T) = G at hus
        have hGl : G.length = n := by
          rw [← hG, List.length_map, List.length_range]
        have hGs : ∀ S ∈ G, S ∈ UL := fun S hS => by
          rw [← hG] at hS
          obtain ⟨c, hc, rfl⟩ := List.mem_map.mp hS
          exact hsb c (List.mem_range.mp hc)
        have hGg : ∀ c, c < n → G[c]? = some (nxS mv T c) := fun c hc => by
          rw [← hG, List.getElem?_map, List.getElem?_range hc]
          rfl
        clear hG hsb
        have hF'nd : ∀ X : List (List Nat), (pushAll F X).Nodup := fun X => pushAll_nodup hW.nd
        have hF'sub : ∀ X : List (List Nat), (∀ S ∈ X, S ∈ G) → ∀ S ∈ pushAll F X, S ∈ UL := fun X hX S hS => by
          rcases mem_pushAll.mp hS with z | z
          · exact hW.sub S z
          · exact hGs S (hX S z)
        have hF'l : ∀ X : List (List Nat), (∀ S ∈ X, S ∈ G) → (pushAll F X).length ≤ 2000 := fun X hX => Nat.le_trans (length_le_of_sub (hF'nd X) (hF'sub X hX)) hUl
        -- for later in some
        refine ⟨_, rfl, D1, rfl, ⟨_, SqL.of hD9⟩, ?_⟩
        have nD1f : D1 ≠ pf := (ne_of_none hf8 nD1).symm
        have nD1n : D1 ≠ pn := (ne_of_none hn8 nD1).symm
        refine for_list (K := K) (a := D1) (xs := us.map V.ref) (fun j σ H10 => ∃ (ts' : List Addr) (y13 : Option V), σ = [some (nV n), some (.ref b), some (.ref m), some (.ref e), some (.ref ps), some (.ref pr), y6, y7, y8, some (.ref pf), some (.ref pn), some (.ref pw), some (.ref D1), y13, none] ∧ Same Hb H10 ∧ H10 D1 = some (.lst (us.map V.ref)) ∧ TupsAt H10 us G ∧ H10 pf = some (.lst (ts'.map V.ref)) ∧ TupsAt H10 ts' (pushAll F (G.take j)) ∧ H10 pn = some (.dT (nO (pushAll F (G.take j)))) ∧ RowsAt H10 pw xs R)
          ⟨ts, y13, rfl, s8.trans s9, hD9, hus, s9 _ _ hf8, hts8.same s9, s9 _ _ hn8, hw8.same s9⟩ (fun j σ H10 _ ⟨_, _, _, _, hD10, _⟩ => SqL.of hD10) ?_ ?_
        · rintro j v σ H10 hj ⟨ts', z13, rfl, s10, hD10, hus10, hf10, hts10, hn10, hw10⟩
          rw [List.getElem?_map] at hj
          obtain ⟨u, hu', rfl⟩ := Option.map_eq_some_iff.mp hj
          obtain ⟨U, hU, hUt⟩ := hus10.get' hu'
          have hnext : pushAll F (G.take (j + 1)) = push (pushAll F (G.take j)) U := by
            rw [take_snoc hU, pushAll_append]
            rfl
          have hl1 := hF'l (G.take j) (fun S hS => List.mem_of_mem_take hS)
          have htl1 := hts10.len
          rw [hnext]
          generalize pushAll F (G.take j) = F1 at hts10 hn10 hl1 htl1
          obtain ⟨r, hg, hr1⟩ := din_nO hn10 hUt
          refine ⟨_, rfl, _, rfl, pn, r, rfl, hg, _, rfl, ?_⟩
          rw [hr1]
          by_cases hin : U ∈ F1
          · rw [decide_eq_true hin, push_mem hin]
            exact ⟨ts', _, rfl, s10, hD10, hus10, hf10, hts10, hn10, hw10⟩
          · rw [decide_eq_false hin, push_new hin]
            refine ⟨_, rfl, pf, _, rfl, .inl (SqL.of hf10), _, rfl, _, rfl, pn, _, rfl, DPut.t (k := kT U) hn10 (by rw [kT_vals]; exact hUt) (by rw [nO_len]; exact szBig (by omega)), ?_⟩
            have eput : putK (nO F1) (kT U) (.int ((ts'.map V.ref).length : Int)) = nO (F1 ++ [U]) := by
              rw [← putK_nO hin, List.length_map, htl1]
              rfl
            rw [eput]
            have k11 : ∀ c o, H10 c = some o → c ≠ pn → (upd H10 pn (.dT (nO (F1 ++ [U])))) c = some o := fun c o ec nc => by
              rw [upd_ne nc]
              exact ec
            have hn11 : (upd H10 pn (.dT (nO (F1 ++ [U])))) pn = some (.dT (nO (F1 ++ [U]))) := upd_same
            have hus11 : TupsAt (upd H10 pn (.dT (nO (F1 ++ [U])))) us G := hus10.upd_lst (fun xs z => by rw [hn10] at z; cases z)
            have hts11 : TupsAt (upd H10 pn (.dT (nO (F1 ++ [U])))) ts' F1 := hts10.upd_lst (fun xs z => by rw [hn10] at z; cases z)
            have hU11 : (upd H10 pn (.dT (nO (F1 ++ [U])))) u = some (.tup (nVs U)) := k11 _ _ hUt (ne_of hUt hn10 (fun z => by cases z))
            have hf11 := k11 _ _ hf10 nfn
            have hD11 := k11 _ _ hD10 nD1n
            have hw11 : RowsAt (upd H10 pn (.dT (nO (F1 ++ [U])))) pw xs R := ⟨k11 _ _ hw10.at_ nnw.symm, hw10.len, fun i x hx => k11 _ _ (hw10.row i x hx) (ne_of (hw10.row i x hx) hn10 (fun z => by cases z))⟩
            have s11 : Same Hb (upd H10 pn (.dT (nO (F1 ++ [U])))) := fun c o ec => k11 _ _ (s10 _ _ ec) (ne_of_none ec npn0)
            generalize (upd H10 pn (.dT (nO (F1 ++ [U])))) = H11 at hn11 hus11 hts11 hU11 hf11 hD11 hw11 s11
            clear k11
            refine ⟨_, rfl, .inl ⟨rfl, _, SqL.of hf11⟩, _, rfl, pf, _, _, rfl, rfl, hf11, by rw [List.length_map]; exact szBig (by omega), ?_⟩
            refine ⟨ts' ++ [u], _, rfl, ?_, ?_, ?_, ?_, ?_, ?_, ?_⟩
            · intro c o ec
              rw [upd_ne (ne_of_none ec npf0)]
              exact s11 _ _ ec
            · rw [upd_ne nD1f]
              exact hD11
            · exact hus11.upd_lst (fun xs z => by rw [hf11] at z; cases z)
            · rw [upd_same, List.map_append]
              rfl
            · exact TupsAt.upd_lst (paired_snoc hts11 hU11) (fun xs z => by rw [hf11] at z; cases z)
            · rw [upd_ne nfn.symm]
              exact hn11
            · exact ⟨by rw [upd_ne nfw.symm]; exact hw11.at_, hw11.len, fun i x hx => by rw [upd_ne (hxn x (List.mem_of_getElem? hx)).1]; exact hw11.row i x hx⟩
        · rintro σ H10 ⟨ts', z13, rfl, s10, hD10, hus10, hf10, hts10, hn10, hw10⟩
          rw [List.length_map, ul, ← hGl, List.take_length] at hts10 hn10
          have hnd' := hF'nd G
          have hsub' := hF'sub G (fun S hS => hS)
          have hpre := pushAll_pre F G
          have hGF : ∀ S ∈ G, S ∈ pushAll F G := fun S hS => mem_pushAll.mpr (.inr hS)
          generalize pushAll F G = F1 at hts10 hn10 hnd' hsub' hpre hGF
          -- rows.append
          refine ⟨_, rfl, .inl ⟨rfl, _, SqL.of hw10.at_⟩, _, rfl, D1, rfl, ⟨_, SqL.of hD10⟩, fun D2 nD2 => ?_⟩
          refine lc_list (K := K) (a := D1) (xs := us.map V.ref) (fun i H11 => Same H10 H11 ∧ H11 D2 = some (.lst (nVs ((G.take i).map F1.idxOf)))) ⟨same_new nD2, by rw [upd_same]; rfl⟩ (fun i H11 _ ⟨s11, _⟩ => SqL.of (s11 _ _ hD10)) ?_ ?_
          · rintro i v H11 hi ⟨s11, hD2⟩
            rw [List.getElem?_map] at hi
            obtain ⟨u, hu', rfl⟩ := Option.map_eq_some_iff.mp hi
            obtain ⟨U, hU, hUt⟩ := hus10.get' hu'
            have hil := (List.getElem?_eq_some_iff.mp hU).1
            refine ⟨rfl, ?_⟩
            refine ⟨_, rfl, _, rfl, pn, _, rfl, dget_nO (s11 _ _ hn10) (s11 _ _ hUt) (hGF U (List.mem_of_getElem? hU)), _, hD2, by rw [nVs_len, List.length_map, List.length_take]; exact szBig (by omega), ?_, ?_⟩
            · intro c o ec
              rw [upd_ne (ne_of_none ec nD2)]
              exact s11 _ _ ec
            · rw [upd_same, take_snoc hU, List.map_append]
              exact congrArg (fun z => some (HO.lst z)) (nVs_snoc _ _).symm
          rintro H11 ⟨s11, hD2⟩
          rw [List.length_map, ul, ← hGl, List.take_length] at hD2
          have hw11 := hw10.same s11
          have nD2w : D2 ≠ pw := (ne_of_none hw10.at_ nD2).symm
          refine ⟨pw, _, _, rfl, rfl, hw11.at_, by rw [List.length_map]; exact szBig (by omega), ?_⟩
          refine ⟨F1, R ++ [G.map F1.idxOf], ts', xs ++ [D2], _, _, by rw [List.length_append, List.length_singleton], rfl, ?_, ?_, ?_, ?_, ?_, ?_, ?_⟩
          · intro c o ec
            rw [upd_ne (ne_of_none ec npw0)]
            exact s11 _ _ (s10 _ _ ec)
          · rw [upd_ne nfw]
            exact s11 _ _ hf10
          · exact TupsAt.upd_lst (hts10.same s11) (fun xs z => by rw [hw11.at_] at z; cases z)
          · rw [upd_ne nnw]
            exact s11 _ _ hn10
          · refine RowsAt.snoc hw11 upd_same (by rw [upd_ne nD2w]; exact hD2) (fun x hx o ex => ?_)
            rw [upd_ne (hxn x hx).2]
            exact ex
          · intro x hx
            rcases List.mem_append.mp hx with z | z
            · exact hxn x z
            · rw [List.mem_singleton] at z
              rw [z]
              exact ⟨(ne_of_none hf10 nD2).symm, nD2w⟩
          · refine hW.step hT hpre hnd' hsub' (by rw [List.length_map, hGl]) (fun c hc => ?_)
            have hc' := hGg c hc
            have hm' := hGF _ (List.mem_of_getElem? hc')
            rw [List.getD_eq_getElem?_getD, List.getElem?_map, hc']
            show F1[F1.idxOf (nxS mv T c)]? = some (nxS mv T c)
            have hlt' := List.idxOf_lt_length_iff.mpr hm'
            rw [List.getElem?_eq_getElem hlt', List.getElem_idxOf]
    · have hle : F.length ≤ R.length := by
        have := of_decide_eq_false (Bool.eq_false_iff.mpr ei)
        rw [List.length_map, List.length_map] at this
        omega
      clear ei
      have he8 := s8 _ _ (sb _ _ he)
      -- known
      refine ⟨_, rfl, e, rfl, ⟨_, SqL.of he8⟩, fun pk nk => ?_⟩
      refine dc_list (K := K) (a := e) (xs := nVs ends) (fun i H9 => Same H8 H9 ∧ H9 pk = some (.dK (dO (D (ends.take i)) fun _ => .bl true))) ⟨same_new nk, by rw [upd_same]; rfl⟩ (fun i H9 _ ⟨s9, _⟩ => SqL.of (s9 _ _ he8)) ?_ ?_
      · rintro i v H9 hi ⟨s9, hD⟩
        obtain ⟨t, rfl, ht⟩ := nVs_at hi
        have hDl : (D (ends.take i)).length ≤ 4000 := by
          have := length_le_of_sub (D_nodup (ends.take i)) (fun x hx => mem_D.mp hx)
          rw [List.length_take] at this
          omega
        refine ⟨rfl, ?_⟩
        refine ⟨_, rfl, _, kN t, rfl, hD, by rw [dO_len]; exact szBig (by omega), ?_, ?_⟩
        · intro b' o e'
          rw [upd_ne (ne_of_none e' nk)]
          exact s9 _ _ e'
        · rw [upd_same, take_snoc ht, D_append]
          exact congrArg (fun z => some (HO.dK z)) (putK_dO (c := fun _ => .bl true))
      rintro H9 ⟨s9, hk9⟩
      rw [nVs_len, List.take_length] at hk9
      have hf9 := s9 _ _ hf8
      have hts9 := hts8.same s9
      have hn9 := s9 _ _ hn8
      have hw9 := hw8.same s9
      -- least_machine(rows, [..])
      refine ⟨_, rfl, _, rfl, pf, rfl, ⟨_, SqL.of hf9⟩, fun D3 nD3 => ?_⟩
      refine lc_list (K := K) (a := pf) (xs := ts.map V.ref) (fun i H10 => Same H9 H10 ∧ H10 D3 = some (.lst (nVs ((List.range i).filter fun j => (F.getD j []).any fun s => decide (s ∈ D ends))))) ⟨same_new nD3, by rw [upd_same]; rfl⟩ (fun i H10 _ ⟨s10, _⟩ => SqL.of (s10 _ _ hf9)) ?_ ?_
      · rintro i v H10 hi ⟨s10, hD3⟩
        rw [List.getElem?_map] at hi
        obtain ⟨t, ht, rfl⟩ := Option.map_eq_some_iff.mp hi
        obtain ⟨T, hT, hTt⟩ := hts9.get' ht
        have hil := (List.getElem?_eq_some_iff.mp hT).1
        have hTl : T.length ≤ 1000 := (hUs T (hW.sub T (List.mem_of_getElem? hT))).1
        refine ⟨rfl, ?_⟩
        refine ⟨_, rfl, t, rfl, ⟨_, SqT.of (s10 _ _ hTt)⟩, fun D4 nD4 => ?_⟩
        refine lc_tup (K := K) (a := t) (xs := nVs T) (fun l H11 => Same H10 H11 ∧ H11 D4 = some (.lst (((T.take l).map fun s => decide (s ∈ D ends)).map V.bl))) ⟨same_new nD4, by rw [upd_same]; rfl⟩ (fun l H11 _ ⟨s11, _⟩ => SqT.of (s11 _ _ (s10 _ _ hTt))) ?_ ?_
        · rintro l v H11 hl ⟨s11, hD4⟩
          obtain ⟨x, rfl, hx⟩ := nVs_at hl
          have hll := (List.getElem?_eq_some_iff.mp hx).1
          obtain ⟨r, hg, hr1⟩ := din_dO (t := x) (s11 _ _ (s10 _ _ hk9))
          refine ⟨rfl, ?_⟩
          refine ⟨_, rfl, _, rfl, pk, r, rfl, hg, _, hD4, by rw [List.length_map, List.length_map, List.length_take]; exact szBig (by omega), ?_, ?_⟩
          · intro c o ec
            rw [upd_ne (ne_of_none ec nD4)]
            exact s11 _ _ ec
          · rw [upd_same, take_snoc hx, List.map_append, List.map_append, hr1]
            rfl
        rintro H11 ⟨s11, hD4⟩
        rw [nVs_len, List.take_length] at hD4
        refine ⟨D4, _, rfl, SqL.of hD4, _, rfl, ?_⟩
        have eA : ((T.map fun s => decide (s ∈ D ends)).any id) = (F.getD i []).any fun s => decide (s ∈ D ends) := by
          rw [List.any_map, List.getD_eq_getElem?_getD, hT]
          rfl
        rw [eA, List.range_succ, filter_snoc]
        have hfl := List.length_filter_le (fun j => (F.getD j []).any fun s => decide (s ∈ D ends)) (List.range i)
        rw [List.length_range] at hfl
        cases hA : (F.getD i []).any fun s => decide (s ∈ D ends) with
        | true =>
          have hFi : F.idxOf T = i := by
            have e1 : F[i] = T := (List.getElem?_eq_some_iff.mp hT).2
            rw [← e1]
            exact idxOf_nodup hW.nd hil
          have hdg := dget_nO (s11 _ _ (s10 _ _ hn9)) (s11 _ _ (s10 _ _ hTt)) (List.mem_of_getElem? hT)
          rw [hFi] at hdg
          refine ⟨_, rfl, _, rfl, pn, _, rfl, hdg, _, s11 _ _ hD3, by rw [nVs_len]; exact szBig (by omega), ?_, ?_⟩
          · intro c o ec
            rw [upd_ne (ne_of_none ec nD3)]
            exact s11 _ _ (s10 _ _ ec)
          · rw [upd_same, if_pos rfl, nVs_snoc]
        | false =>
          refine ⟨s10.trans s11, ?_⟩
          rw [if_neg Bool.false_ne_true, List.append_nil]
          exact s11 _ _ hD3
      rintro H10 ⟨s10, hD3⟩
      rw [List.length_map, htl] at hD3
      have hEm : ∀ j T, F[j]? = some T → (j ∈ ((List.range F.length).filter fun j => (F.getD j []).any fun s => decide (s ∈ D ends)) ↔ Meets T ends) := fun j T hT => by
        rw [List.mem_filter, List.mem_range, List.getD_eq_getElem?_getD, hT]
        constructor
        · rintro ⟨_, h2⟩
          obtain ⟨x, hx, h3⟩ := List.any_eq_true.mp h2
          exact ⟨x, hx, mem_D.mp (of_decide_eq_true h3)⟩
        · rintro ⟨x, hx, h3⟩
          exact ⟨(List.getElem?_eq_some_iff.mp hT).1, List.any_eq_true.mpr ⟨x, hx, decide_eq_true (mem_D.mpr h3)⟩⟩
      have hEl := List.length_filter_le (fun j => (F.getD j []).any fun s => decide (s ∈ D ends)) (List.range F.length)
      rw [List.length_range] at hEl
      have hacc := hW.acc hle hEm
      have hF0 : 0 < F.length := (List.getElem?_eq_some_iff.mp hW.zero).1
      generalize ((List.range F.length).filter fun j => (F.getD j []).any fun s => decide (s ∈ D ends)) = EE at hD3 hEl hacc
      have s010 : Same H H10 := ((sb.trans s8).trans s9).trans s10
      refine ⟨pw, D3, xs, R, n, 0, EE, rfl, hw9.same s10, hW.mok hle, by omega, by omega, by omega, hD3, by omega, fun H11 t p e' ys R' E' s11 nt np ne' npe hys ynd ht' hR' hE' hL hA hRl' => ?_⟩
      refine q H11 t p e' ys R' E' (s010.trans s11) (s010.free nt) (s010.free np) (s010.free ne') npe (fun y hy => ⟨s010.free (hys y hy).1, (hys y hy).2⟩) ynd ht' hR' hE' hL (fun w' hw' => ?_) (by have := hW.le; omega)
      rw [← eT0]
      exact (hA w' hw').trans (hacc w' hw')
end
end K16

namespace K16
open PySem PySem.Spec PyProof.Rows L2 Rg Mach
abbrev sMvs : Stmt := topS 30
def nMvs : List Str := ["rows", "begin", "found", "state", "row", "place", "there"]
theorem scMvs : FnScope nMvs ["rows", "begin"] (defScope sMvs) := ⟨rfl, rfl, rfl, by decide +kernel, rfl, by decide +kernel, by decide +kernel⟩
abbrev sJn : Stmt := topS 32
def nJn : List Str := ["one", "other", "many", "moves", "rows", "ends", "state"]
theorem scJn : FnScope nJn ["one", "other"] (defScope sJn) := ⟨rfl, rfl, rfl, by decide +kernel, rfl, by decide +kernel, by decide +kernel⟩
section
variable {P : Program} {w : World} {K : PySem.W.Frag} {mg : Str → Option Value} {base : Heap}
theorem ok_mvs {f : Addr} {fd : FuncData} {k : Nat} (F : Fun K "moves_of" "moves_of" sMvs f fd) (men : mg "enumerate" = none) : FnOk P w K mg base CX0 (k + 1) f fd ["rows", "begin"] spMvs := by
  refine F.ok scMvs (fun vs H Q E h => ?_) (fun cdv A outer s H vs Q E hr h => ?_)
  · obtain ⟨a, xs, R, n, b, rfl, _⟩ := h
    rfl
  · obtain ⟨a, xs, R, n, b, rfl, hR, hM, hn, hl, q⟩ := h
    refine ⟨_, pss_cons (ps_set (i := 2) scMvs.nd rfl (.inl rfl) (pe_lst pa_nil))
      (pss_cons (ps_for PassesOwn.never rfl (pi_enum (by rfl) men (pa_cons (pv 0) pa_nil)) (pg_tup rfl (pgs_cons (pg_name (i := 3) scMvs.nd rfl (.inr rfl)) (pgs_cons (pg_name (i := 4) scMvs.nd rfl (.inl rfl)) pgs_nil)))
        (pss_one (ps_expr (pe_bm PySem.F.plainAttrs_list PySem.F.slot_list_extend PySem.F.type_list_extend mt_extend (pv 2) (pa_cons
          (pe_lc (own := [("place", 5), ("there", 6)]) (g := gTup K 2 (gCons (gName 5) (gCons (gName 6) gNil))) (tt := tYes) (te := tTup (tCons (tOp (rI0 fun i j => V.int (i + j)) (tVar 1) (tVar 3)) (tCons (tVar 5) (tCons (tOp (rI0 fun i j => V.int (i + j)) (tVar 1) (tVar 6)) tNil)))) rfl scMvs.nd (pi_enum (by rfl) men (pa_cons (pv 4) pa_nil))
            (blkOk_by (own := [("place", 5), ("there", 6)]) (N := nMvs) (sc := defScope sMvs) (by decide +kernel))
            (fun _ _ _ _ _ => pg_tup rfl (pgs_cons (pg_name (i := 5) scMvs.nd rfl (Or.inl rfl)) (pgs_cons (pg_name (i := 6) scMvs.nd rfl (Or.inl rfl)) pgs_nil))) (fun _ _ _ _ _ => pts_nil)
            (fun _ _ _ _ _ => pe_tup (pa_cons (pe_op op_add (pv 1) (pv 3)) (pa_cons (pv 5) (pa_cons (pe_op op_add (pv 1) (pv 6)) pa_nil))))) pa_nil)))))
      (pss_one (ps_ret (pv 2)))), ?_⟩
    refine ⟨by show 0 ≤ sizeLine; decide, fun pm nm => ?_⟩
    have s0 : Same H (upd H pm (.lst [])) := same_new nm
    have hm0 : MvAt (upd H pm (.lst [])) pm [] ((List.range 0).flatMap fun i => mvRow b i (rowOf R i)) := ⟨upd_same, .nil⟩
    generalize (upd H pm (.lst [])) = H0 at s0 hm0
    refine ⟨_, rfl, a, _, rfl, SqL.of (s0 _ _ hR.at_), ?_⟩
    refine for_it (walk_enum (K := K) (a := a) (xs := xs.map V.ref)) (fun i σ H1 => ∃ st ro : Option V, σ = [some (.ref a), some (nV b), some (.ref pm), st, ro, none, none] ∧ Same H H1 ∧ ∃ ms, MvAt H1 pm ms ((List.range i).flatMap fun i => mvRow b i (rowOf R i)))
      ⟨none, none, rfl, s0, [], hm0⟩ (fun i σ H1 _ ⟨_, _, _, s1, _⟩ => SqL.of (s1 _ _ hR.at_)) ?_ ?_
    · rintro i v σ H1 H1' hi ⟨st, ro, rfl, s1, ms, hms⟩ ⟨T0, a0, b0, rfl, nT0, rfl, ea, eb⟩
      cases ea
      rw [List.length_map] at hi
      obtain ⟨y, hy, rfl⟩ := ref_at (show (xs.map V.ref)[i]? = some b0 from eb)
      have hiR : i < R.length := by rw [← hR.len]; exact hi
      refine ⟨T0, _, rfl, SqT.of upd_same, rfl, _, _, rfl, _, _, rfl, rfl, ?_⟩
      have s2 := s1.trans (same_new (o := .tup [.int ((i : Nat) : Int), .ref y]) nT0)
      have hms2 := hms.same (same_new (o := .tup [.int ((i : Nat) : Int), .ref y]) nT0)
      generalize (upd H1 T0 (.tup [.int ((i : Nat) : Int), .ref y])) = H2 at s2 hms2
      have hy2 := s2 _ _ (hR.row i y hy)
      have lr := hM.wide i hiR
      refine ⟨_, rfl, .inl ⟨rfl, _, SqL.of hms2.1⟩, _, rfl, y, _, rfl, SqL.of hy2, fun D1 nD1 => ?_⟩
      refine lc_it (walk_enum (K := K) (a := y) (xs := nVs (rowOf R i))) (fun l H5 => Same H2 H5 ∧ ∃ ks : List Addr, H5 D1 = some (.lst (ks.map V.ref)) ∧ Paired (fun (t : Addr) (x : Mv) => H5 t = some (.tup [nV x.1, .int x.2.1, nV x.2.2])) ks ((mvRow b i (rowOf R i)).take l)) ⟨same_new nD1, [], upd_same, .nil⟩
        (fun l H5 _ ⟨s5, _⟩ => SqL.of (s5 _ _ hy2)) ?_ ?_
      · rintro l v H5 H5' hl' ⟨s5, ks, hD, hks⟩ ⟨T2, a2, b2, rfl, nT2, rfl, ea, eb⟩
        cases ea
        obtain ⟨rb, rfl, hrb⟩ := nVs_at (show (nVs (rowOf R i))[l]? = some b2 from eb)
        rw [nVs_len] at hl'
        have e : (mvRow b i (rowOf R i))[l]? = some (b + i, (l : Int), b + rb) := by
          unfold mvRow
          rw [List.getElem?_map, List.getElem?_range (by omega)]
          show some (b + i, (l : Int), b + (rowOf R i).getD l 0) = _
          rw [List.getD_eq_getElem?_getD, hrb]
          rfl
        have kl := paired_length hks
        rw [List.length_take] at kl
        refine ⟨T2, _, rfl, SqT.of upd_same, rfl, _, _, rfl, _, _, rfl, rfl, rfl, ?_⟩
        have s6 := same_new (o := .tup [.int ((l : Nat) : Int), nV rb]) nT2
        refine ⟨_, rfl, _, rfl, _, _, rfl, rfl, _, rfl, _, rfl, _, rfl, _, _, rfl, rfl, by show 3 ≤ sizeLine; decide, fun t nt => ?_⟩
        have s7 := s6.trans (same_new (o := .tup [nV (b + i), .int (l : Int), nV (b + rb)]) nt)
        have nDt : D1 ≠ t := ne_of_none (s6 _ _ hD) nt
        have ht : (upd (upd H5 T2 (.tup [.int ((l : Nat) : Int), nV rb])) t (.tup [nV (b + i), .int (l : Int), nV (b + rb)])) t = some (.tup [nV (b + i), .int (l : Int), nV (b + rb)]) := upd_same
        refine ⟨_, s7 _ _ hD, by rw [List.length_map]; exact szBig (by rw [kl, mvRow_len, lr]; omega), ?_, ks ++ [t], ?_, ?_⟩
        · intro b' o eb'
          rw [upd_ne (ne_of_none eb' nD1)]
          exact (s5.trans s7) _ _ eb'
        · rw [upd_same, List.map_append]
          rfl
        · rw [take_snoc e]
          refine paired_snoc (paired_keep hks fun u _ x hu => ?_) ?_
          · show (upd _ D1 _) u = _
            rw [upd_ne (ne_of hu hD (fun z => by cases z))]
            exact s7 _ _ hu
          · show (upd _ D1 _) t = _
            rw [upd_ne nDt.symm]
            exact ht
      · rintro H5 ⟨s5, ks, hD, hks⟩
        rw [List.take_of_length_le (by rw [mvRow_len, nVs_len]; exact Nat.le_refl _)] at hks
        have hms5 := hms2.same s5
        have l1 := paired_length hms5.2
        rw [flat_len (m := n) _ (fun r hr => by rw [mvRow_len]; exact hM.wide r (Nat.lt_trans (List.mem_range.mp hr) hiR)), List.length_range] at l1
        have l2 := paired_length hks
        rw [mvRow_len, lr] at l2
        have l3 : i * n ≤ 1000 * 4 := Nat.mul_le_mul (by omega) hn
        have nmD : pm ≠ D1 := ne_of_none hms2.1 nD1
        refine ⟨pm, D1, _, _, rfl, rfl, hms5.1, hD, by rw [List.length_map, List.length_map, l1, l2]; exact szBigLe (by omega), ?_⟩
        refine ⟨_, _, rfl, ?_, ms ++ ks, by rw [upd_same, List.map_append], ?_⟩
        · intro b' o eb'
          rw [upd_ne (ne_of_none eb' nm)]
          exact (s2.trans s5) _ _ eb'
        · rw [List.range_succ, List.flatMap_append, List.flatMap_cons, List.flatMap_nil, List.append_nil]
          refine paired_app (paired_keep hms5.2 fun u _ x hu => ?_) (paired_keep hks fun u _ x hu => ?_)
          · show (upd _ pm _) u = _
            rw [upd_ne (ne_of hu hms5.1 (fun z => by cases z))]
            exact hu
          · show (upd _ pm _) u = _
            rw [upd_ne (ne_of hu hms5.1 (fun z => by cases z))]
            exact hu
    · rintro σ H1 ⟨st, ro, rfl, s1, ms, hms⟩
      rw [List.length_map, hR.len] at hms
      exact ⟨_, rfl, q H1 pm ms s1 nm hms⟩
end
end K16

/-! comprehensions that make silent moves, and numbers moved on -/
namespace Rg
open PySem PySem.Spec PyProof.Rows L2 Mach
/-- [(s, -1, many) for s in ends] -/
theorem lc_sil {K : PySem.W.Frag} {H : Hp} {e D : Addr} {E : List Nat} {i j N : Nat} {σ : L2.St} {Qd : Hp → Prop} (hi : i < σ.length) (hj : σ[j]? = some (some (nV N))) (hij : i ≠ j) (he : H e = some (.lst (nVs E))) (hl : E.length ≤ 4000) (nD : H D = none)
    (q : ∀ (H' : Hp) (ks : List Addr), Same H H' → H' D = some (.lst (ks.map V.ref)) → Paired (fun (t : Addr) (x : Mv) => H' t = some (.tup [nV x.1, .int x.2.1, nV x.2.2])) ks (E.map fun s => ((s, (-1 : Int), N) : Mv)) → Qd H') :
    ∃ W : Nat → Nat → Hp → Prop, (∃ m, W 0 m (upd H D (.lst []))) ∧ ∀ l m H, W l m H →
      ((Itl K e).stop l H ∧ Qd H) ∨ ((Itl K e).go l H ∧ ∃ Nx : Hp → Prop, (∀ H', Nx H' → ∃ m', m' < m ∧ W (l + 1) m' H') ∧ ∀ x H', (Itl K e).yld l H x H' → gName i x (wipe σ [i]) H' fun σ2 H2 => wipe σ2 [i] = wipe σ [i] ∧ tYes σ2 H2 fun b H3 =>
        if b = true then tTup (tCons (tVar i) (tCons (tUn (rU fun i => .int (-i)) (tC (.int 1))) (tCons (tVar j) tNil))) σ2 H3 fun y H4 => ∃ acc, H4 D = some (.lst acc) ∧ acc.length < sizeLine ∧ Nx (upd H4 D (.lst (acc ++ [y]))) else Nx H3) := by
  refine lc_list (K := K) (a := e) (xs := nVs E) (fun l H7 => Same H H7 ∧ ∃ ks : List Addr, H7 D = some (.lst (ks.map V.ref)) ∧ Paired (fun (t : Addr) (x : Mv) => H7 t = some (.tup [nV x.1, .int x.2.1, nV x.2.2])) ks ((E.take l).map fun s => ((s, (-1 : Int), N) : Mv)))
    ⟨same_new nD, [], upd_same, .nil⟩ (fun l H7 _ ⟨s7, _⟩ => SqL.of (s7 _ _ he)) ?_ ?_
  · rintro l v H7 hv ⟨s7, ks, hD, hks⟩
    obtain ⟨t, rfl, ht⟩ := nVs_at hv
    have hil := (List.getElem?_eq_some_iff.mp ht).1
    have kl := paired_length hks
    rw [List.length_map, List.length_take] at kl
    show _ ∧ _
    refine ⟨?_, ?_⟩
    · show ((σ.set i none).set i (some (nV t))).set i none = σ.set i none
      rw [List.set_set, List.set_set]
    refine ⟨nV t, ?_, _, rfl, nV N, ?_, by show 3 ≤ sizeLine; decide, fun y ny => ?_⟩
    · show ((σ.set i none).set i (some (nV t)))[i]? = some (some (nV t))
      rw [List.getElem?_set_self (by rw [List.length_set]; exact hi)]
    · show ((σ.set i none).set i (some (nV t)))[j]? = some (some (nV N))
      rw [List.set_set, List.getElem?_set_ne hij]
      exact hj
    have s8 := same_new (o := .tup [nV t, .int (-1), nV N]) ny
    have hyy : (upd H7 y (.tup [nV t, .int (-1), nV N])) y = some (.tup [nV t, .int (-1), nV N]) := upd_same
    have nyD : y ≠ D := (ne_of_none hD ny).symm
    refine ⟨_, s8 _ _ hD, by rw [List.length_map]; exact szBig (by omega), ?_, ks ++ [y], ?_, ?_⟩
    · intro b o eb
      rw [upd_ne (ne_of_none eb nD)]
      exact (s7.trans s8) _ _ eb
    · rw [upd_same, List.map_append]
      rfl
    · rw [take_snoc ht, List.map_append]
      refine paired_snoc (paired_keep hks fun u _ x hu => ?_) ?_
      · show (upd _ D _) u = _
        rw [upd_ne (ne_of hu hD (fun z => by cases z))]
        exact s8 _ _ hu
      · show (upd _ D _) y = _
        rw [upd_ne nyD]
        exact hyy
  · rintro H7 ⟨s7, ks, hD, hks⟩
    rw [nVs_len, List.take_length] at hks
    exact q H7 ks s7 hD hks
/-- [many + s for s in ends] -/
theorem lc_add {K : PySem.W.Frag} {H : Hp} {e D : Addr} {E : List Nat} {i j N : Nat} {σ : L2.St} {Qd : Hp → Prop} (hi : i < σ.length) (hj : σ[j]? = some (some (nV N))) (hij : i ≠ j) (he : H e = some (.lst (nVs E))) (hl : E.length ≤ 4000) (nD : H D = none)
    (q : ∀ (H' : Hp), Same H H' → H' D = some (.lst (nVs (E.map fun x => N + x))) → Qd H') :
    ∃ W : Nat → Nat → Hp → Prop, (∃ m, W 0 m (upd H D (.lst []))) ∧ ∀ l m H, W l m H →
      ((Itl K e).stop l H ∧ Qd H) ∨ ((Itl K e).go l H ∧ ∃ Nx : Hp → Prop, (∀ H', Nx H' → ∃ m', m' < m ∧ W (l + 1) m' H') ∧ ∀ x H', (Itl K e).yld l H x H' → gName i x (wipe σ [i]) H' fun σ2 H2 => wipe σ2 [i] = wipe σ [i] ∧ tYes σ2 H2 fun b H3 =>
        if b = true then tOp (rI0 fun i j => V.int (i + j)) (tVar j) (tVar i) σ2 H3 fun y H4 => ∃ acc, H4 D = some (.lst acc) ∧ acc.length < sizeLine ∧ Nx (upd H4 D (.lst (acc ++ [y]))) else Nx H3) := by
  refine lc_list (K := K) (a := e) (xs := nVs E) (fun l H7 => Same H H7 ∧ H7 D = some (.lst (nVs ((E.take l).map fun x => N + x))))
    ⟨same_new nD, upd_same⟩ (fun l H7 _ ⟨s7, _⟩ => SqL.of (s7 _ _ he)) ?_ ?_
  · rintro l v H7 hv ⟨s7, hD⟩
    obtain ⟨t, rfl, ht⟩ := nVs_at hv
    have hil := (List.getElem?_eq_some_iff.mp ht).1
    show _ ∧ _
    refine ⟨?_, ?_⟩
    · show ((σ.set i none).set i (some (nV t))).set i none = σ.set i none
      rw [List.set_set, List.set_set]
    refine ⟨nV N, ?_, nV t, ?_, _, _, rfl, rfl, _, hD, ?_, ?_, ?_⟩
    · show ((σ.set i none).set i (some (nV t)))[j]? = some (some (nV N))
      rw [List.set_set, List.getElem?_set_ne hij]
      exact hj
    · show ((σ.set i none).set i (some (nV t)))[i]? = some (some (nV t))
      rw [List.getElem?_set_self (by rw [List.length_set]; exact hi)]
    · rw [nVs_len, List.length_map, List.length_take]
      exact szBig (by omega)
    · intro b o eb
      rw [upd_ne (ne_of_none eb nD)]
      exact s7 _ _ eb
    · rw [upd_same, take_snoc ht, List.map_append, List.map_cons, List.map_nil, nVs_snoc]
      rfl
  · rintro H7 ⟨s7, hD⟩
    rw [nVs_len, List.take_length] at hD
    exact q H7 s7 hD
end Rg

namespace Rg
open PySem PySem.Spec PyProof.Rows L2 Mach
theorem pow_mono2 {a b m k : Nat} (h1 : a ≤ m) (h2 : b ≤ k) : a * 2 ^ b ≤ m * 2 ^ k := Nat.mul_le_mul h1 (Nat.pow_le_pow_right (by decide) h2)
theorem mv_cat {H : Hp} {m1 m3 : Addr} {ms1 ms2 : List Addr} {v1 v2 : List Mv} (h1 : MvAt H m1 ms1 v1) (h2 : Paired (fun (t : Addr) (x : Mv) => H t = some (.tup [nV x.1, .int x.2.1, nV x.2.2])) ms2 v2) (n3 : H m3 = none) : MvAt (upd H m3 (.lst (ms1.map V.ref ++ ms2.map V.ref))) m3 (ms1 ++ ms2) (v1 ++ v2) :=
  ⟨by rw [upd_same, List.map_append], paired_app (paired_keep h1.2 fun _ _ _ z => same_new n3 _ _ z) (paired_keep h2 fun _ _ _ z => same_new n3 _ _ z)⟩
theorem flat_one {f : Nat → List Nat} {T : List Nat} {c : Nat} (h : ∀ x, (f x).length ≤ 1) (hT : T.length ≤ c) : (T.flatMap f).length ≤ c := by
  have := flat_le T h
  omega
end Rg
namespace K16
open PySem PySem.Spec PyProof.Rows L2 Rg Mach
abbrev sRepd : Stmt := inClass sTexts 4
def nRepd : List Str := ["self", "many", "moves", "rows", "ends", "state"]
theorem scRepd : FnScope nRepd ["self"] (defScope sRepd) := ⟨rfl, rfl, rfl, by decide +kernel, rfl, by decide +kernel, by decide +kernel⟩
section
variable {P : Program} {w : World} {K : PySem.W.Frag} {mg : Str → Option Value} {base : Heap}
theorem ok_joined {f C fI fV fD : Addr} {fd fdI fdV fdD : FuncData} {k : Nat} (F : Fun K "texts_joined" "texts_joined" sJn f fd) (T : TxC K C) (M : Mk K C fI) (gC : mg "Texts" = some (.ref C))
    (GI : FnOk P w K mg base CX0 k fI fdI ["self", "signs", "rows", "ends"] (spInit C)) (bI : Binds K fdI ["self", "signs", "rows", "ends"] [])
    (GV : FnOk P w K mg base CX0 (k + 1) fV fdV ["rows", "begin"] spMvs) (FV : Fun K "moves_of" "moves_of" sMvs fV fdV) (bV : Binds K fdV ["rows", "begin"] []) (gV : mg "moves_of" = some (.ref fV))
    (GD : FnOk P w K mg base CX0 (k + 1) fD fdD ["wide", "begins", "moves", "ends"] spDetU) (FD : Fun K "determined" "determined" sDet fD fdD) (bD : Binds K fdD ["wide", "begins", "moves", "ends"] []) (gD : mg "determined" = some (.ref fD))
    (ml : mg "len" = none) : FnOk P w K mg base CX0 (k + 2) f fd ["one", "other"] (spJoin C) := by
  refine F.ok scJn (fun vs H Q E h => ?_) (fun cdv A outer s H vs Q E hr h => ?_)
  · obtain ⟨p, q, z, m, k', L, M', rfl, _⟩ := h
    rfl
  · obtain ⟨p, q, z, m, k', L, N, rfl, hz, ⟨t1, e1, ys1, R, E, ⟨⟨dx, ob⟩, hR, hE⟩, hL1, hg1, hm1⟩, ⟨t2, e2, ys2, S, G, ⟨⟨dx2, ob2⟩, hS, hG⟩, hL2, hg2, hm2⟩, hm, hk, hmk, post⟩ := h
    refine ⟨_, pss_cons (ps_if (pt_cmpR op_ne (pe_fld (pv 0) rfl) (pe_fld (pv 1) rfl) (nomark _)) (pss_one ps_never) pss_nil)
      (pss_cons (ps_set (i := 2) scJn.nd rfl (.inr rfl) (pe_callB call_len_seq (by rfl) ml bLen (pa_cons (pe_fld (pv 0) rfl) pa_nil)))
      (pss_cons (ps_set (i := 3) scJn.nd rfl (.inl rfl) (pe_op op_cat (pe_call GV hr (by rfl) gV FV.kp bV .nil pass0 (pa_cons (pe_fld (pv 0) rfl) (pa_cons pe_int pa_nil))) (pe_call GV hr (by rfl) gV FV.kp bV .nil pass0 (pa_cons (pe_fld (pv 1) rfl) (pa_cons (pv 2) pa_nil)))))
      (pss_cons (ps_set (i := 3) scJn.nd rfl (.inl rfl) (pe_op op_cat (pv 3) (pe_lc (own := [("state", 6)]) (g := gName 6) (tt := tYes) (te := tTup (tCons (tVar 6) (tCons (tUn (rU fun i => .int (-i)) (tC (.int 1))) (tCons (tVar 2) tNil)))) rfl scJn.nd (pi_list (pe_fld (pv 0) rfl)) (blkOk_by (own := [("state", 6)]) (N := nJn) (sc := defScope sJn) (by decide +kernel))
          (fun _ _ _ _ _ => pg_name (i := 6) scJn.nd rfl (Or.inl rfl)) (fun _ _ _ _ _ => pts_nil) (fun _ _ _ _ _ => pe_tup (pa_cons (pv 6) (pa_cons (pe_un un_neg pe_int) (pa_cons (pv 2) pa_nil)))))))
      (pss_cons (ps_asg (pe_call GD hr (by rfl) gD FD.kp bD .nil pass0 (pa_cons (pe_callB call_len_str (by rfl) ml bLen (pa_cons (pe_fld (pv 0) rfl) pa_nil)) (pa_cons (pe_lst (pa_cons pe_int pa_nil)) (pa_cons (pv 3) (pa_cons
          (pe_lc (own := [("state", 6)]) (g := gName 6) (tt := tYes) (te := tOp (rI0 fun i j => V.int (i + j)) (tVar 2) (tVar 6)) rfl scJn.nd (pi_list (pe_fld (pv 1) rfl)) (blkOk_by (own := [("state", 6)]) (N := nJn) (sc := defScope sJn) (by decide +kernel))
            (fun _ _ _ _ _ => pg_name (i := 6) scJn.nd rfl (Or.inl rfl)) (fun _ _ _ _ _ => pts_nil) (fun _ _ _ _ _ => pe_op op_add (pv 2) (pv 6))) pa_nil)))))
          (pg_tup rfl (pgs_cons (pg_name (i := 4) scJn.nd rfl (.inl rfl)) (pgs_cons (pg_name (i := 5) scJn.nd rfl (.inl rfl)) pgs_nil))))
      (pss_one (ps_ret (pe_make M GI hr (by rfl) gC bI .nil pass0 (pa_cons (pe_fld (pv 0) rfl) (pa_cons (pv 4) (pa_cons (pv 5) pa_nil)))))))))), ?_⟩
    have hz4 := hz.few
    have hel1 := hL1.elen
    have hel2 := hL2.elen
    refine ⟨_, rfl, p, C, dx, _, _, rfl, ob, T.cl, T.nS, tfl_signs _ _ _, _, rfl, q, C, dx2, _, _, rfl, ob2, T.cl, T.nS, tfl_signs _ _ _, rfl, _, rfl, ?_⟩
    rw [decide_eq_true rfl]
    refine ⟨_, rfl, p, C, dx, _, _, rfl, ob, T.cl, T.nT, tfl_table _ _ _, t1, _, rfl, .inl (SqL.of hR.at_), ?_⟩
    rw [List.length_map, hR.len]
    refine ⟨_, rfl, p, C, dx, _, _, rfl, ob, T.cl, T.nT, tfl_table _ _ _, t1, ys1, R, z.cps.size, 0, rfl, hR, hL1.ok, hz4, by omega, fun H1 a1 ms1 s1 n1 hv1 => ?_⟩
    refine ⟨_, rfl, q, C, dx2, _, _, rfl, s1 _ _ ob2, T.cl, T.nT, tfl_table _ _ _, _, rfl, t2, ys2, S, z.cps.size, R.length, rfl, hS.same s1, hL2.ok, hz4, by omega, fun H2 a2 ms2 s2 n2 hv2 => ?_⟩
    have l1 := paired_length hv1.2
    have l2 := paired_length hv2.2
    rw [mvO_len hL1.ok] at l1
    rw [mvO_len hL2.ok] at l2
    have b1 : R.length * z.cps.size ≤ 600 * 4 := Nat.mul_le_mul (by omega) hz4
    have b2 : S.length * z.cps.size ≤ 10 * 4 := Nat.mul_le_mul (by omega) hz4
    have s02 := s1.trans s2
    refine ⟨a1, a2, _, _, rfl, rfl, (hv1.same s2).1, hv2.1, by rw [List.length_map, List.length_map]; exact szBigLe (by omega), fun a3 n3 => ?_⟩
    have hv3 := mv_cat (hv1.same s2) hv2.2 n3
    have s03 := s02.trans (same_new (o := .lst (ms1.map V.ref ++ ms2.map V.ref)) n3)
    generalize (upd H2 a3 (.lst (ms1.map V.ref ++ ms2.map V.ref))) = H3 at hv3 s03
    refine ⟨_, rfl, _, rfl, p, C, dx, _, _, rfl, s03 _ _ ob, T.cl, T.nE, tfl_ends _ _ _, e1, rfl, ⟨_, SqL.of (s03 _ _ hE)⟩, fun D1 nD1 => ?_⟩
    refine lc_sil (K := K) (i := 6) (j := 2) (N := R.length) (by show 6 < 7; decide) rfl (by decide) (s03 _ _ hE) (by omega) nD1 fun H4 ks s4 hD4 hks => ?_
    have l4 := paired_length hks
    rw [List.length_map] at l4
    have hv4 := hv3.same s4
    have s04 := s03.trans s4
    refine ⟨a3, D1, _, _, rfl, rfl, hv4.1, hD4, by rw [List.length_map, List.length_map, List.length_append]; exact szBigLe (by omega), fun a5 n5 => ?_⟩
    have hv5 := mv_cat hv4 hks n5
    have s05 := s04.trans (same_new (o := .lst ((ms1 ++ ms2).map V.ref ++ ks.map V.ref)) n5)
    generalize (upd H4 a5 (.lst ((ms1 ++ ms2).map V.ref ++ ks.map V.ref))) = H5 at hv5 s05
    refine ⟨_, rfl, p, C, dx, _, _, rfl, s05 _ _ ob, T.cl, T.nS, tfl_signs _ _ _, z, rfl, szBigLe (by show z.cps.size ≤ _; omega), by show 1 ≤ sizeLine; decide, fun b0 nb0 => ?_⟩
    have hb6 : (upd H5 b0 (.lst [.int 0])) b0 = some (.lst (nVs [0])) := upd_same
    have s56 : Same H5 (upd H5 b0 (.lst [.int 0])) := same_new nb0
    generalize (upd H5 b0 (.lst [.int 0])) = H6 at hb6 s56
    have s06 := s05.trans s56
    refine ⟨_, rfl, _, rfl, q, C, dx2, _, _, rfl, s06 _ _ ob2, T.cl, T.nE, tfl_ends _ _ _, e2, rfl, ⟨_, SqL.of (s06 _ _ hG)⟩, fun D2 nD2 => ?_⟩
    refine lc_add (K := K) (i := 6) (j := 2) (N := R.length) (by show 6 < 7; decide) rfl (by decide) (s06 _ _ hG) (by omega) nD2 fun H7 s7 hD7 => ?_
    have s07 := s06.trans s7
    have hU := univ_join (E := E) hL1.ok hL2.ok hL1.ne hL2.ne hL1.elt
    have hlen : (UJ R.length S.length).length ≤ m * 2 ^ k' := by
      rw [UJ_len]
      exact pow_mono2 hm1 hm2
    refine ⟨b0, a5, D2, _, mvJ R E S, z.cps.size, [0], G.map (fun x => R.length + x), UJ R.length S.length, rfl, s7 _ _ hb6, (hv5.same s56).same s7, hD7, hz4, by rw [mvJ_len hL1.ok hL2.ok]; omega, by show 1 ≤ 4000; decide, by rw [List.length_map]; omega, fun x hx => (mvJ_to hL1.ok hL2.ok hL2.ne hx).2, hU, by omega, fun T hT => ?_, fun H8 t p8 e8 ys8 R8 E8 s8 nt np ne npe nys nd ht8 hr8 he8 hL8 hacc hlen8 => ?_⟩
    · obtain ⟨q0, Y, rfl, hq0, hY, hYl, _⟩ := UJ_ok hT
      have : (q0 :: Y).length ≤ 1000 := by rw [List.length_cons]; omega
      exact ⟨this, fun k _ => flat_one (fun x => stp_mvJk R E S k x) (by omega)⟩
    refine ⟨t, _, rfl, SqT.of ht8, rfl, _, _, rfl, _, _, rfl, rfl, ?_⟩
    have s08 := s07.trans s8
    have hel8 := hL8.elen
    refine ⟨_, rfl, p, C, dx, _, _, rfl, s08 _ _ ob, T.cl, T.nS, tfl_signs _ _ _, _, rfl, _, rfl, fun x dx' nx ndx nex => ?_⟩
    have s9 := upd_mk (C := C) nx ndx nex
    refine ⟨x, dx', p8, e8, z, ys8, R8, E8, rfl, upd_same, hz, hr8.same s9, hL8.ok, hL8.ne, by omega, s9 _ _ he8, hL8.elt, by omega, fun H' t' e' ys R' E' kp hT _ _ _ _ _ hL hA hll => ⟨rfl, ?_⟩⟩
    refine post H' x (fun b o eb => kp b o (s9 _ _ (s08 _ _ eb)) (ne_of_none (s08 _ _ eb) nx)) ⟨t', e', ys, R', E', hT, hL, lg_alk (L := catL L N) (fun w' hw' => ?_) hA, by omega⟩
    have hj := join_lang hL1.ok hL2.ok hL1.ne hL2.ne hL1.elt hg1 hg2 hw'
    have hm8 := (hacc w' hw').trans hj
    by_cases hc : catL L N w' = true
    · rw [hc, decide_eq_true (hm8.mpr hc)]
    · rw [decide_eq_false (fun y => hc (hm8.mp y))]
      cases e : catL L N w' with
      | true => exact absurd e hc
      | false => rfl
theorem ok_repd {f C fI fV fD : Addr} {fd fdI fdV fdD : FuncData} {k : Nat} (F : Fun K "repeated" "Texts.repeated" sRepd f fd) (T : TxC K C) (M : Mk K C fI) (gC : mg "Texts" = some (.ref C))
    (GI : FnOk P w K mg base CX0 k fI fdI ["self", "signs", "rows", "ends"] (spInit C)) (bI : Binds K fdI ["self", "signs", "rows", "ends"] [])
    (GV : FnOk P w K mg base CX0 (k + 1) fV fdV ["rows", "begin"] spMvs) (FV : Fun K "moves_of" "moves_of" sMvs fV fdV) (bV : Binds K fdV ["rows", "begin"] []) (gV : mg "moves_of" = some (.ref fV))
    (GD : FnOk P w K mg base CX0 (k + 1) fD fdD ["wide", "begins", "moves", "ends"] spDetU) (FD : Fun K "determined" "determined" sDet fD fdD) (bD : Binds K fdD ["wide", "begins", "moves", "ends"] []) (gD : mg "determined" = some (.ref fD))
    (ml : mg "len" = none) : FnOk P w K mg base CX0 (k + 2) f fd ["self"] (spRep C) := by
  refine F.ok scRepd (fun vs H Q E h => ?_) (fun cdv A outer s H vs Q E hr h => ?_)
  · obtain ⟨p, z, m, L, rfl, _⟩ := h
    rfl
  · obtain ⟨p, z, m, L, rfl, hz, ⟨t1, e1, ys1, R, E, ⟨⟨dx, ob⟩, hR, hE⟩, hL1, hg1, hm1⟩, hm, post⟩ := h
    refine ⟨_, pss_cons (ps_set (i := 1) scRepd.nd rfl (.inr rfl) (pe_callB call_len_seq (by rfl) ml bLen (pa_cons (pe_fld (pv 0) rfl) pa_nil)))
      (pss_cons (ps_set (i := 2) scRepd.nd rfl (.inl rfl) (pe_op op_cat (pe_op op_cat (pe_call GV hr (by rfl) gV FV.kp bV .nil pass0 (pa_cons (pe_fld (pv 0) rfl) (pa_cons pe_int pa_nil)))
          (pe_lc (own := [("state", 5)]) (g := gName 5) (tt := tYes) (te := tTup (tCons (tVar 5) (tCons (tUn (rU fun i => .int (-i)) (tC (.int 1))) (tCons (tVar 1) tNil)))) rfl scRepd.nd (pi_list (pe_fld (pv 0) rfl)) (blkOk_by (own := [("state", 5)]) (N := nRepd) (sc := defScope sRepd) (by decide +kernel))
          (fun _ _ _ _ _ => pg_name (i := 5) scRepd.nd rfl (Or.inl rfl)) (fun _ _ _ _ _ => pts_nil) (fun _ _ _ _ _ => pe_tup (pa_cons (pv 5) (pa_cons (pe_un un_neg pe_int) (pa_cons (pv 1) pa_nil))))))
          (pe_lst (pa_cons (pe_tup (pa_cons (pv 1) (pa_cons (pe_un un_neg pe_int) (pa_cons pe_int pa_nil)))) pa_nil))))
      (pss_cons (ps_asg (pe_call GD hr (by rfl) gD FD.kp bD .nil pass0 (pa_cons (pe_callB call_len_str (by rfl) ml bLen (pa_cons (pe_fld (pv 0) rfl) pa_nil)) (pa_cons (pe_lst (pa_cons (pv 1) pa_nil)) (pa_cons (pv 2) (pa_cons (pe_lst (pa_cons (pv 1) pa_nil)) pa_nil)))))
          (pg_tup rfl (pgs_cons (pg_name (i := 3) scRepd.nd rfl (.inl rfl)) (pgs_cons (pg_name (i := 4) scRepd.nd rfl (.inl rfl)) pgs_nil))))
      (pss_one (ps_ret (pe_make M GI hr (by rfl) gC bI .nil pass0 (pa_cons (pe_fld (pv 0) rfl) (pa_cons (pv 3) (pa_cons (pv 4) pa_nil)))))))), ?_⟩
    have hz4 := hz.few
    have hel1 := hL1.elen
    refine ⟨_, rfl, p, C, dx, _, _, rfl, ob, T.cl, T.nT, tfl_table _ _ _, t1, _, rfl, .inl (SqL.of hR.at_), ?_⟩
    rw [List.length_map, hR.len]
    refine ⟨_, rfl, p, C, dx, _, _, rfl, ob, T.cl, T.nT, tfl_table _ _ _, t1, ys1, R, z.cps.size, 0, rfl, hR, hL1.ok, hz4, by omega, fun H1 a1 ms1 s1 n1 hv1 => ?_⟩
    refine ⟨_, rfl, p, C, dx, _, _, rfl, s1 _ _ ob, T.cl, T.nE, tfl_ends _ _ _, e1, rfl, ⟨_, SqL.of (s1 _ _ hE)⟩, fun D1 nD1 => ?_⟩
    refine lc_sil (K := K) (i := 5) (j := 1) (N := R.length) (by show 5 < 6; decide) rfl (by decide) (s1 _ _ hE) (by omega) nD1 fun H2 ks s2 hD2 hks => ?_
    have l1 := paired_length hv1.2
    rw [mvO_len hL1.ok] at l1
    have l2 := paired_length hks
    rw [List.length_map] at l2
    have b1 : R.length * z.cps.size ≤ 9 * 4 := Nat.mul_le_mul (by omega) hz4
    have s02 := s1.trans s2
    refine ⟨a1, D1, _, _, rfl, rfl, (hv1.same s2).1, hD2, by rw [List.length_map, List.length_map]; exact szBigLe (by omega), fun a3 n3 => ?_⟩
    have hv3 := mv_cat (hv1.same s2) hks n3
    have s03 := s02.trans (same_new (o := .lst (ms1.map V.ref ++ ks.map V.ref)) n3)
    generalize (upd H2 a3 (.lst (ms1.map V.ref ++ ks.map V.ref))) = H3 at hv3 s03
    refine ⟨_, rfl, _, rfl, by show 3 ≤ sizeLine; decide, fun u nu => ?_⟩
    have hu : (upd H3 u (.tup [V.int (R.length : Int), (fun i : Int => V.int (-i)) 1, .int 0])) u = some (.tup [nV R.length, .int (-1), nV 0]) := upd_same
    have s4 : Same H3 (upd H3 u (.tup [V.int (R.length : Int), (fun i : Int => V.int (-i)) 1, .int 0])) := same_new nu
    generalize (upd H3 u (.tup [V.int (R.length : Int), (fun i : Int => V.int (-i)) 1, .int 0])) = H4 at hu s4
    refine ⟨by show 1 ≤ sizeLine; decide, fun u2 nu2 => ?_⟩
    have hu2 : (upd H4 u2 (.lst [.ref u])) u2 = some (.lst ([u].map V.ref)) := upd_same
    have s5 : Same H4 (upd H4 u2 (.lst [.ref u])) := same_new nu2
    generalize (upd H4 u2 (.lst [.ref u])) = H5 at hu2 s5
    have s05 := (s03.trans s4).trans s5
    have hv5 := (hv3.same s4).same s5
    have hu5 : Paired (fun (t : Addr) (x : Mv) => H5 t = some (.tup [nV x.1, .int x.2.1, nV x.2.2])) [u] [((R.length, (-1 : Int), 0) : Mv)] := .cons (s5 _ _ hu) .nil
    refine ⟨a3, u2, _, _, rfl, rfl, hv5.1, hu2, by rw [List.length_map, List.length_map, List.length_append]; exact szBigLe (by show _ + 1 ≤ _; omega), fun a6 n6 => ?_⟩
    have hv6 := mv_cat hv5 hu5 n6
    have s06 := s05.trans (same_new (o := .lst ((ms1 ++ ks).map V.ref ++ [u].map V.ref)) n6)
    generalize (upd H5 a6 (.lst ((ms1 ++ ks).map V.ref ++ [u].map V.ref))) = H6 at hv6 s06
    refine ⟨_, rfl, p, C, dx, _, _, rfl, s06 _ _ ob, T.cl, T.nS, tfl_signs _ _ _, z, rfl, szBigLe (by show z.cps.size ≤ _; omega), _, rfl, by show 1 ≤ sizeLine; decide, fun b0 nb0 => ?_⟩
    have hb7 : (upd H6 b0 (.lst [V.int (R.length : Int)])) b0 = some (.lst (nVs [R.length])) := upd_same
    have s67 : Same H6 (upd H6 b0 (.lst [V.int (R.length : Int)])) := same_new nb0
    generalize (upd H6 b0 (.lst [V.int (R.length : Int)])) = H7 at hb7 s67
    refine ⟨_, rfl, _, rfl, by show 1 ≤ sizeLine; decide, fun c0 nc0 => ?_⟩
    have hc8 : (upd H7 c0 (.lst [V.int (R.length : Int)])) c0 = some (.lst (nVs [R.length])) := upd_same
    have s78 : Same H7 (upd H7 c0 (.lst [V.int (R.length : Int)])) := same_new nc0
    generalize (upd H7 c0 (.lst [V.int (R.length : Int)])) = H8 at hc8 s78
    have s08 := (s06.trans s67).trans s78
    have hU : Univ (mvS R E) z.cps.size (silF (mvS R E) fun x => x ∈ [R.length]) (subs (List.range (R.length + 1))) := univ_lt (fun x hx => by rw [List.mem_singleton.mp hx]; omega) (fun y hy => (mvS_to hL1.ok hy).1)
    have hlen : (subs (List.range (R.length + 1))).length ≤ 2 ^ (m + 1) := by
      rw [subs_len, List.length_range]
      exact Nat.pow_le_pow_right (by decide) (by omega)
    have h1024 : 2 ^ (m + 1) ≤ 1024 := Nat.pow_le_pow_right (by decide) (show m + 1 ≤ 10 by omega)
    refine ⟨b0, a6, c0, _, mvS R E, z.cps.size, [R.length], [R.length], subs (List.range (R.length + 1)), rfl, s78 _ _ hb7, (hv6.same s67).same s78, hc8, hz4, by rw [mvS_len hL1.ok]; omega, by show 1 ≤ 4000; decide, by show 1 ≤ 4000; decide, fun x hx => (mvS_to hL1.ok hx).2, hU, by omega, fun T hT => ?_, fun H9 t p8 e8 ys8 R8 E8 s9 nt np ne npe nys nd ht8 hr8 he8 hL8 hacc hlen8 => ?_⟩
    · have h1 := (subs_sub hT).length_le
      rw [List.length_range] at h1
      exact ⟨by omega, fun k _ => flat_one (fun x => stp_mvSk R E k x) (by omega)⟩
    refine ⟨t, _, rfl, SqT.of ht8, rfl, _, _, rfl, _, _, rfl, rfl, ?_⟩
    have s09 := s08.trans s9
    have hel8 := hL8.elen
    refine ⟨_, rfl, p, C, dx, _, _, rfl, s09 _ _ ob, T.cl, T.nS, tfl_signs _ _ _, _, rfl, _, rfl, fun x dx' nx ndx nex => ?_⟩
    have sm := upd_mk (C := C) nx ndx nex
    refine ⟨x, dx', p8, e8, z, ys8, R8, E8, rfl, upd_same, hz, hr8.same sm, hL8.ok, hL8.ne, by omega, sm _ _ he8, hL8.elt, by omega, fun H' t' e' ys R' E' kp hT _ _ _ _ _ hL hA hll => ⟨rfl, ?_⟩⟩
    refine post H' x (fun b o eb => kp b o (sm _ _ (s09 _ _ eb)) (ne_of_none (s09 _ _ eb) nx)) ⟨t', e', ys, R', E', hT, hL, lg_alk (L := starL L) (fun w' hw' => ?_) hA, by omega⟩
    have hj := star_lang hL1.ok hL1.ne hg1 hw'
    have hm8 := (hacc w' hw').trans hj
    by_cases hc : starL L w' = true
    · rw [hc, decide_eq_true (hm8.mpr hc)]
    · rw [decide_eq_false (fun y => hc (hm8.mp y))]
      cases e : starL L w' with
      | true => exact absurd e hc
      | false => rfl
end
end K16

namespace Rg
open PySem PySem.Spec PyProof.Rows L2 Mach
theorem txs_at {z : Str} {ws : List (List Nat)} {i : Nat} {v : V} (h : (txs z ws)[i]? = some v) : ∃ x, ws[i]? = some x ∧ v = .str (txt z x) := by
  unfold txs at h
  rw [List.getElem?_map] at h
  obtain ⟨x, hx, rfl⟩ := Option.map_eq_some_iff.mp h
  exact ⟨x, hx, rfl⟩
theorem txs_len (z : Str) (ws : List (List Nat)) : (txs z ws).length = ws.length := List.length_map _
theorem eps_dec (w : List Nat) : decide (w ∈ [([] : List Nat)]) = epsL w := by
  cases w with
  | nil => rfl
  | cons a w => simp [epsL]
end Rg
namespace K16
open PySem PySem.Spec PyProof.Rows L2 Rg Mach
abbrev sOw : Stmt := topS 36
def nOw : List Str := ["signs", "words", "moves", "ends", "many", "word", "state", "letter", "rows", "states"]
theorem scOw : FnScope nOw ["signs", "words"] (defScope sOw) := ⟨rfl, rfl, rfl, by decide +kernel, rfl, by decide +kernel, by decide +kernel⟩
abbrev sTm : Stmt := topS 33
def nTm : List Str := ["one", "many", "found", "turn"]
theorem scTm : FnScope nTm ["one", "many"] (defScope sTm) := ⟨rfl, rfl, rfl, by decide +kernel, rfl, by decide +kernel, by decide +kernel⟩
abbrev sAdd : Stmt := inClass sTexts 11
theorem scAdd : FnScope ["self", "other"] ["self", "other"] (defScope sAdd) := ⟨rfl, rfl, rfl, by decide +kernel, rfl, by decide +kernel, by decide +kernel⟩
abbrev sMul : Stmt := inClass sTexts 12
theorem scMul : FnScope ["self", "many"] ["self", "many"] (defScope sMul) := ⟨rfl, rfl, rfl, by decide +kernel, rfl, by decide +kernel, by decide +kernel⟩
section
variable {P : Program} {w : World} {K : PySem.W.Frag} {mg : Str → Option Value} {base : Heap}
theorem ok_ofW {f C fI fD : Addr} {fd fdI fdD : FuncData} {k : Nat} (F : Fun K "of_words" "of_words" sOw f fd) (M : Mk K C fI) (gC : mg "Texts" = some (.ref C))
    (GI : FnOk P w K mg base CX0 k fI fdI ["self", "signs", "rows", "ends"] (spInit C)) (bI : Binds K fdI ["self", "signs", "rows", "ends"] [])
    (GD : FnOk P w K mg base CX0 (k + 1) fD fdD ["wide", "begins", "moves", "ends"] spDetU) (FD : Fun K "determined" "determined" sDet fD fdD) (bD : Binds K fdD ["wide", "begins", "moves", "ends"] []) (gD : mg "determined" = some (.ref fD))
    (ml : mg "len" = none) : FnOk P w K mg base CX0 (k + 2) f fd ["signs", "words"] (spOfW C) := by
  refine F.ok scOw (fun vs H Q E h => ?_) (fun cdv A outer s H vs Q E hr h => ?_)
  · obtain ⟨z, l, ws, rfl, _⟩ := h
    rfl
  · obtain ⟨z, l, ws, rfl, hz, hix, hl, hws, hwl, htot, post⟩ := h
    refine ⟨_, pss_cons (ps_set (i := 2) scOw.nd rfl (.inl rfl) (pe_lst pa_nil)) (pss_cons (ps_set (i := 3) scOw.nd rfl (.inl rfl) (pe_lst pa_nil)) (pss_cons (ps_set (i := 4) scOw.nd rfl (.inl rfl) pe_int)
      (pss_cons (ps_for PassesOwn.never rfl (pi_list (pv 1)) (pg_name (i := 5) scOw.nd rfl (.inl rfl))
        (pss_cons (ps_set (i := 6) scOw.nd rfl (.inl rfl) pe_int)
        (pss_cons (ps_for PassesOwn.never rfl (pi_str (pv 5)) (pg_name (i := 7) scOw.nd rfl (.inl rfl))
          (pss_cons (ps_expr (pe_bm PySem.F.plainAttrs_list PySem.F.slot_list_append PySem.F.type_list_append mt_append (pv 2) (pa_cons (pe_tup (pa_cons (pv 6) (pa_cons (pe_bm PySem.F.plainAttrs_str PySem.F.slot_str_index PySem.F.type_str_index mt_sindex (pv 0) (pa_cons (pv 7) pa_nil)) (pa_cons (pv 4) pa_nil)))) pa_nil)))
          (pss_cons (ps_set (i := 6) scOw.nd rfl (.inl rfl) (pv 4)) (pss_one (ps_set (i := 4) scOw.nd rfl (.inl rfl) (pe_op op_add (pv 4) pe_int))))))
        (pss_one (ps_expr (pe_bm PySem.F.plainAttrs_list PySem.F.slot_list_append PySem.F.type_list_append mt_append (pv 3) (pa_cons (pv 6) pa_nil)))))))
      (pss_cons (ps_asg (pe_call GD hr (by rfl) gD FD.kp bD .nil pass0 (pa_cons (pe_callB call_len_str (by rfl) ml bLen (pa_cons (pv 0) pa_nil)) (pa_cons (pe_lst (pa_cons pe_int pa_nil)) (pa_cons (pv 2) (pa_cons (pv 3) pa_nil)))))
          (pg_tup rfl (pgs_cons (pg_name (i := 8) scOw.nd rfl (.inl rfl)) (pgs_cons (pg_name (i := 9) scOw.nd rfl (.inl rfl)) pgs_nil))))
      (pss_one (ps_ret (pe_make M GI hr (by rfl) gC bI .nil pass0 (pa_cons (pv 0) (pa_cons (pv 8) (pa_cons (pv 9) pa_nil)))))))))), ?_⟩
    have hz4 := hz.few
    refine ⟨by show 0 ≤ sizeLine; decide, fun pm nm => ?_⟩
    refine ⟨by show 0 ≤ sizeLine; decide, fun pe ne => ?_⟩
    have mp : pm ≠ pe := fun z => by rw [← z, upd_same] at ne; cases ne
    have npe : H pe = none := by rw [upd_ne mp.symm] at ne; exact ne
    have P0 : MwAt H (upd (upd H pm (.lst [])) pe (.lst [])) pm pe [] [] [] :=
      ⟨(same_new nm).trans (same_new ne), nm, npe, mp, ⟨by rw [upd_ne mp, upd_same]; rfl, .nil⟩, upd_same⟩
    generalize (upd (upd H pm (.lst [])) pe (.lst [])) = H0 at P0
    refine ⟨_, rfl, l, rfl, ⟨_, SqL.of (P0.same _ _ hl)⟩, ?_⟩
    refine for_list (K := K) (a := l) (xs := txs z ws) (fun i σ H1 => ∃ (many : Nat) (y5 y6 y7 : Option V) (ms : List Addr) (mv : List Mv) (ends : List Nat) (lab : Nat → List Nat), σ = [some (.str z), some (.ref l), some (.ref pm), some (.ref pe), some (nV many), y5, y6, y7, none, none] ∧ MwAt H H1 pm pe ms mv ends ∧ Tri z.cps.size mv many lab ∧ TriE many lab ends (ws.take i) ∧ many = mv.length + 1 ∧ mv.length = lens (ws.take i) ∧ ends.length ≤ i)
      ⟨1, none, none, none, [], [], [], fun _ => [], rfl, P0, Tri.begin _, TriE.begin, rfl, rfl, Nat.le_refl _⟩ (fun i σ H1 _ ⟨_, _, _, _, _, _, _, _, _, h, _⟩ => SqL.of (h.same _ _ hl)) ?_ ?_
    · rintro i v σ H1 hi ⟨many, y5, y6, y7, ms, mv, ends, lab, rfl, hP, hT, hTE, hmany, hlen, hends⟩
      obtain ⟨x, hx, rfl⟩ := txs_at hi
      have hxW := hws x (List.mem_of_getElem? hx)
      have hil : i < ws.length := (List.getElem?_eq_some_iff.mp hx).1
      have hsnoc := lens_snoc (ws.take i) x
      rw [← take_snoc hx] at hsnoc
      have hle := lens_take ws (i + 1)
      refine ⟨_, rfl, _, rfl, ?_⟩
      refine for_it (walk_str (z := txt z x)) (fun j σ H2 => ∃ (many st : Nat) (y7 : Option V) (ms : List Addr) (mv : List Mv) (lab : Nat → List Nat), σ = [some (.str z), some (.ref l), some (.ref pm), some (.ref pe), some (nV many), some (.str (txt z x)), some (nV st), y7, none, none] ∧ MwAt H H2 pm pe ms mv ends ∧ Tri z.cps.size mv many lab ∧ TriE many lab ends (ws.take i) ∧ many = mv.length + 1 ∧ mv.length = lens (ws.take i) + j ∧ st < many ∧ lab st = x.take j)
        ⟨many, 0, y7, ms, mv, lab, rfl, hP, hT, hTE, hmany, hlen, hT.pos, hT.zero⟩ (fun _ _ _ _ _ => trivial) ?_ ?_
      · rintro j v σ H2 H2' hj ⟨many, st, y7, ms, mv, lab, rfl, hP, hT, hTE, hmany, hlen, hst, hlab⟩ ⟨rfl, c, hc, rfl⟩
        obtain ⟨k', hk, ek⟩ := txt_at hc
        have hkz := hxW k' (List.mem_of_getElem? hk)
        obtain ⟨rest, hoc⟩ := hix k' hkz
        have hjl : j < x.length := (List.getElem?_eq_some_iff.mp hk).1
        refine ⟨_, rfl, .inl ⟨rfl, _, SqL.of hP.mvs.1⟩, _, rfl, _, rfl, rfl, _, rfl, z, ⟨#[c]⟩, k', rest, rfl, rfl, by rw [ek]; exact hoc, _, rfl, by show 3 ≤ sizeLine; decide, fun t nt => ?_⟩
        have P2 := hP.keep (same_new (o := .tup [nV st, .int (k' : Int), nV many]) nt)
        have ht : (upd H2' t (.tup [nV st, .int (k' : Int), nV many])) t = some (.tup [nV st, .int (k' : Int), nV many]) := upd_same
        have ml1 := paired_length hP.mvs.2
        refine ⟨pm, _, _, rfl, rfl, P2.mvs.1, by rw [List.length_map]; exact szBig (by omega), ?_⟩
        have P3 := P2.mvd (x := (st, (k' : Int), many)) ht
        refine ⟨_, rfl, _, rfl, _, _, rfl, rfl, ?_⟩
        refine ⟨many + 1, many, _, _, _, _, rfl, P3, hT.more hst hkz, hTE.more, by rw [List.length_append, List.length_singleton]; omega, by rw [List.length_append, List.length_singleton]; omega, by omega, ?_⟩
        show (if many = many then lab st ++ [k'] else lab many) = _
        rw [if_pos rfl, take_snoc hk, hlab]
      · rintro σ H2 ⟨many, st, y7, ms, mv, lab, rfl, hP, hT, hTE, hmany, hlen, hst, hlab⟩
        rw [txt_size] at hlen hlab
        rw [List.take_length] at hlab
        refine ⟨_, rfl, .inl ⟨rfl, _, SqL.of hP.ends⟩, _, rfl, pe, _, _, rfl, rfl, hP.ends, by rw [nVs_len]; exact szBig (by omega), ?_⟩
        exact ⟨many, _, _, _, ms, mv, ends ++ [st], lab, rfl, hP.endd, hT, by rw [take_snoc hx]; exact hTE.endd hst hlab, hmany, by omega, by rw [List.length_append, List.length_singleton]; omega⟩
    · rintro σ H1 ⟨many, y5, y6, y7, ms, mv, ends, lab, rfl, hP, hT, hTE, hmany, hlen, hends⟩
      rw [txs_len] at hTE hlen hends
      rw [List.take_length] at hTE hlen
      refine ⟨_, rfl, z, rfl, szBigLe (by show z.cps.size ≤ _; omega), by show 1 ≤ sizeLine; decide, fun b0 nb0 => ?_⟩
      have hb : (upd H1 b0 (.lst [.int 0])) b0 = some (.lst (nVs [0])) := upd_same
      have P2 := hP.keep (same_new (o := .lst [.int 0]) nb0)
      generalize (upd H1 b0 (.lst [.int 0])) = H2 at hb P2
      refine ⟨_, rfl, _, rfl, b0, pm, pe, ms, mv, z.cps.size, [0], ends, UT mv many lab, rfl, hb, P2.mvs, P2.ends, hz4, by omega, by show 1 ≤ 4000; decide, by omega, fun x hx => ?_, hT.univ, by rw [UT_len]; omega, fun T hT' => ?_, fun H8 t p8 e8 ys8 R8 E8 s8 nt np ne' npe' nys nd ht8 hr8 he8 hL8 hacc hlen8 => ?_⟩
      · obtain ⟨s', k', x'⟩ := x
        obtain ⟨j, hj, _⟩ := hT.mvs s' k' x' hx
        show -1 ≤ k'
        omega
      · have h1 := hT.few hT'
        refine ⟨by omega, fun k' _ => ?_⟩
        have h2 := flat_le (f := stp mv (k' : Int)) (c := 60) T (fun x => Nat.le_trans (stp_len mv _ x) (by omega))
        omega
      rw [UT_len] at hlen8
      refine ⟨t, _, rfl, SqT.of ht8, rfl, _, _, rfl, _, _, rfl, rfl, ?_⟩
      have s08 := P2.same.trans s8
      have hel8 := hL8.elen
      refine ⟨_, rfl, _, rfl, _, rfl, fun x dx' nx ndx nex => ?_⟩
      have s9 := upd_mk (C := C) nx ndx nex
      refine ⟨x, dx', p8, e8, z, ys8, R8, E8, rfl, upd_same, hz, hr8.same s9, hL8.ok, hL8.ne, by omega, s9 _ _ he8, hL8.elt, by omega, fun H' t' e' ys R' E' kp hT' _ _ _ _ _ hL hA hll => ⟨rfl, ?_⟩⟩
      refine post H' x (fun b o eb => kp b o (s9 _ _ (s08 _ _ eb)) (ne_of_none (s08 _ _ eb) nx)) ⟨t', e', ys, R', E', hT', hL, lg_alk (L := fun w => decide (w ∈ ws)) (fun w' hw' => ?_) hA, by omega⟩
      exact decide_eq_decide.mpr ((hacc w' hw').trans (hT.lang hTE hw'))
theorem ok_times {f C fJ fO : Addr} {fd fdJ fdO : FuncData} {k : Nat} (F : Fun K "texts_times" "texts_times" sTm f fd) (T : TxC K C)
    (GJ : FnOk P w K mg base CX0 k fJ fdJ ["one", "other"] (spJoin C)) (FJ : Fun K "texts_joined" "texts_joined" sJn fJ fdJ) (bJ : Binds K fdJ ["one", "other"] []) (gJ : mg "texts_joined" = some (.ref fJ))
    (GO : FnOk P w K mg base CX0 k fO fdO ["signs", "words"] (spOfW C)) (FO : Fun K "of_words" "of_words" sOw fO fdO) (bO : Binds K fdO ["signs", "words"] []) (gO : mg "of_words" = some (.ref fO)) (mr : mg "range" = none) :
    FnOk P w K mg base CX0 (k + 1) f fd ["one", "many"] (spTimes C) := by
  refine F.ok scTm (fun vs H Q E h => ?_) (fun cdv A outer s H vs Q E hr h => ?_)
  · obtain ⟨p, z, m, n, L, rfl, _⟩ := h
    rfl
  · obtain ⟨p, z, m, n, L, rfl, hz, hix, hT1, hm, hn, hb, post⟩ := h
    refine ⟨_, pss_cons (ps_set (i := 2) scTm.nd rfl (.inl rfl) (pe_call GO hr (by rfl) gO FO.kp bO .nil pass0 (pa_cons (pe_fld (pv 0) rfl) (pa_cons (pe_lst (pa_cons pe_str pa_nil)) pa_nil))))
      (pss_cons (ps_for PassesOwn.never rfl (pi_range1 (by rfl) mr (pa_cons (pv 1) pa_nil)) (pg_name (i := 3) scTm.nd rfl (.inl rfl)) (pss_one (ps_set (i := 2) scTm.nd rfl (.inl rfl) (pe_call GJ hr (by rfl) gJ FJ.kp bJ .nil pass0 (pa_cons (pv 2) (pa_cons (pv 0) pa_nil))))))
      (pss_one (ps_ret (pv 2)))), ?_⟩
    obtain ⟨t1, e1, ys1, R, E, ⟨⟨dx, ob⟩, hR, hE⟩, _⟩ := id hT1
    refine ⟨_, rfl, p, C, dx, _, _, rfl, ob, T.cl, T.nS, tfl_signs _ _ _, by show 1 ≤ sizeLine; decide, fun l nl => ?_⟩
    have hl : (upd H l (.lst [.str ""])) l = some (.lst (txs z [[]])) := upd_same
    have s1 : Same H (upd H l (.lst [.str ""])) := same_new nl
    generalize (upd H l (.lst [.str ""])) = H1 at hl s1
    refine ⟨z, l, [[]], rfl, hz, hix, hl, fun w hw => by rw [List.mem_singleton.mp hw]; exact Wd.nil _, by decide, by decide, fun H2 r s2 h2 => ?_⟩
    refine ⟨_, rfl, _, rfl, by omega, by omega, ?_⟩
    rw [Int.toNat_natCast]
    refine for_range (n := n) (fun i σ H3 => ∃ (r : Addr) (y3 : Option V), σ = [some (.ref p), some (nV n), some (.ref r), y3] ∧ Same H H3 ∧ TxL C H3 r z (tb m i) (powL L i))
      ⟨r, none, rfl, s1.trans s2, h2.cong fun w _ => eps_dec w⟩ ?_ ?_
    · rintro i σ H3 hi ⟨r, y3, rfl, s3, h3⟩
      obtain ⟨b1, b2⟩ := hb i hi
      refine ⟨_, rfl, _, rfl, r, p, z, tb m i, m, powL L i, L, rfl, hz, h3, hT1.same s3, b1, hm, b2, fun H4 r' s4 h4 => ?_⟩
      refine ⟨r', _, rfl, s3.trans s4, ?_⟩
      cases i with
      | zero =>
        have h5 := h4.bound (hT1.same (s3.trans s4)) (fun w _ => pow_one (L := L) w)
        exact h5.cong fun w _ => (pow_one (L := L) w).symm
      | succ i => exact h4
    · rintro σ H3 ⟨r, y3, rfl, s3, h3⟩
      exact ⟨_, rfl, post H3 r s3 h3⟩
theorem ok_add {f C fJ : Addr} {fd fdJ : FuncData} {k : Nat} (F : Fun K "__add__" "Texts.__add__" sAdd f fd)
    (GJ : FnOk P w K mg base CX0 k fJ fdJ ["one", "other"] (spJoin C)) (FJ : Fun K "texts_joined" "texts_joined" sJn fJ fdJ) (bJ : Binds K fdJ ["one", "other"] []) (gJ : mg "texts_joined" = some (.ref fJ)) :
    FnOk P w K mg base CX0 (k + 1) f fd ["self", "other"] (spJoin C) := by
  refine F.ok scAdd (fun vs H Q E h => ?_) (fun cdv A outer s H vs Q E hr h => ?_)
  · obtain ⟨p, q, z, m, k', L, M', rfl, _⟩ := h
    rfl
  · obtain ⟨p, q, z, m, k', L, N, rfl, h⟩ := h
    refine ⟨_, pss_one (ps_ret (pe_call GJ hr (by rfl) gJ FJ.kp bJ .nil pass0 (pa_cons (pv 0) (pa_cons (pv 1) pa_nil)))), ?_⟩
    exact ⟨_, rfl, _, rfl, p, q, z, m, k', L, N, rfl, h⟩
theorem ok_mul {f C fT : Addr} {fd fdT : FuncData} {k : Nat} (F : Fun K "__mul__" "Texts.__mul__" sMul f fd)
    (GT : FnOk P w K mg base CX0 k fT fdT ["one", "many"] (spTimes C)) (FT : Fun K "texts_times" "texts_times" sTm fT fdT) (bT : Binds K fdT ["one", "many"] []) (gT : mg "texts_times" = some (.ref fT)) :
    FnOk P w K mg base CX0 (k + 1) f fd ["self", "many"] (spTimes C) := by
  refine F.ok scMul (fun vs H Q E h => ?_) (fun cdv A outer s H vs Q E hr h => ?_)
  · obtain ⟨p, z, m, n, L, rfl, _⟩ := h
    rfl
  · obtain ⟨p, z, m, n, L, rfl, h⟩ := h
    refine ⟨_, pss_one (ps_ret (pe_call GT hr (by rfl) gT FT.kp bT .nil pass0 (pa_cons (pv 0) (pa_cons (pv 1) pa_nil)))), ?_⟩
    exact ⟨_, rfl, _, rfl, p, z, m, n, L, rfl, h⟩
end
end K16

namespace Mach
theorem filter_step {f : Nat → Bool} (i : Nat) : (List.range (i + 1)).filter f = (List.range i).filter f ++ (if f i = true then [i] else []) := by
  rw [List.range_succ, List.filter_append]
  congr 1
  by_cases h : f i = true
  · rw [if_pos h, List.filter_cons_of_pos h]
    rfl
  · rw [if_neg h, List.filter_cons_of_neg h]
    rfl
theorem filter_any {f : Nat → Bool} (l : List Nat) : (!decide (l.filter f = [])) = l.any f := by
  cases e : l.any f with
  | true =>
    obtain ⟨x, h1, h2⟩ := List.any_eq_true.mp e
    rw [decide_eq_false]
    · rfl
    · intro z
      have : x ∈ l.filter f := List.mem_filter.mpr ⟨h1, h2⟩
      rw [z] at this
      cases this
  | false =>
    rw [decide_eq_true]
    · rfl
    · exact List.filter_eq_nil_iff.mpr fun x hx hf => by
        have := List.any_eq_true.mpr ⟨x, hx, hf⟩
        rw [e] at this
        cases this
end Mach
namespace K16
open PySem PySem.Spec PyProof.Rows L2 Rg Mach
abbrev sCu : Stmt := topS 55
def nCu : List Str := ["_law_signs_here", "_law_one", "_law_other", "_law_text", "_law_cuts_here", "_law_k"]
theorem scCu : FnScope nCu ["_law_signs_here", "_law_one", "_law_other", "_law_text"] (defScope sCu) := ⟨rfl, rfl, rfl, by decide +kernel, rfl, by decide +kernel, by decide +kernel⟩
abbrev sAc : Stmt := topS 56
def nAc : List Str := ["_law_signs_here", "_law_one", "_law_text", "_law_good", "_law_end", "_law_begin"]
theorem scAc : FnScope nAc ["_law_signs_here", "_law_one", "_law_text"] (defScope sAc) := ⟨rfl, rfl, rfl, by decide +kernel, rfl, by decide +kernel, by decide +kernel⟩
abbrev sRef : Stmt := topS 57
def nRef : List Str := ["_law_one", "_law_other", "e"]
theorem scRef : FnScope nRef ["_law_one", "_law_other"] (defScope sRef) := ⟨rfl, rfl, rfl, by decide +kernel, rfl, by decide +kernel, by decide +kernel⟩
section
variable {P : Program} {w : World} {K : PySem.W.Frag} {mg : Str → Option Value} {base : Heap}
theorem ok_cuts {f fH : Addr} {fd fdH : FuncData} {k : Nat} (F : Fun K "_law_cuts" "_law_cuts" sCu f fd)
    (GH : FnOk P w K mg base CX0 k fH fdH ["_law_signs_here", "_law_machine_here", "_law_text"] spHasT) (FH : Fun K "_law_has" "_law_has" sHasT fH fdH) (bH : Binds K fdH ["_law_signs_here", "_law_machine_here", "_law_text"] []) (gH : mg "_law_has" = some (.ref fH))
    (ml : mg "len" = none) (mr : mg "range" = none) : FnOk P w K mg base CX0 (k + 1) f fd ["_law_signs_here", "_law_one", "_law_other", "_law_text"] spCuts := by
  refine F.ok scCu (fun vs H Q E h => ?_) (fun cdv A outer s H vs Q E hr h => ?_)
  · obtain ⟨z, t1, t2, m, k', L, M, x, rfl, _⟩ := h
    rfl
  · obtain ⟨z, t1, t2, m, k', L, M, x, rfl, hix, ⟨R, E, ⟨⟨p1, e1, xs1, ht1, hR, hE⟩, hok1, h01, hm1, hlt1, hel1⟩, hg1⟩, ⟨S, G, ⟨⟨p2, e2, xs2, ht2, hS, hG⟩, hok2, h02, hm2, hlt2, hel2⟩, hg2⟩, hw, hl, post⟩ := h
    refine ⟨_, pss_cons (ps_setLc (i := 4) (own := [("_law_k", 5)]) (g := gName 5) (tt := tAnd (tB (tCall spHasT [] E0 (tCons (tVar 0) (tCons (tVar 1) (tCons (tSl rSlS (tVar 3) tNoPart (tPart (tVar 5))) tNil))))) (tB (tCall spHasT [] E0 (tCons (tVar 0) (tCons (tVar 2) (tCons (tSl rSlS (tVar 3) (tPart (tVar 5)) tNoPart) tNil)))))) (te := tVar 5) rfl scCu.nd rfl rfl (sw_true rfl rfl rfl (by decide +kernel))
        (pi_range1 (by rfl) mr (pa_cons (pe_op op_add (pe_callB call_len_str (by rfl) ml bLen (pa_cons (pv 3) pa_nil)) pe_int) pa_nil)) (blkOk_by (own := [("_law_k", 5)]) (N := nCu) (sc := defScope sCu) (by decide +kernel))
        (fun _ _ _ _ _ => pg_name (i := 5) scCu.nd rfl (Or.inl rfl))
        (fun _ _ _ _ _ => pts_one (pw_and (pt_val (pe_call GH hr (by rfl) gH FH.kp bH .nil pass0 (pa_cons (pv 0) (pa_cons (pv 1) (pa_cons (pe_slice sl_str (pv 3) po_none (po_some (pv 5))) pa_nil)))))
          (pw_and1 (pt_val (pe_call GH hr (by rfl) gH FH.kp bH .nil pass0 (pa_cons (pv 0) (pa_cons (pv 2) (pa_cons (pe_slice sl_str (pv 3) (po_some (pv 5)) po_none) pa_nil))))))).pt) (fun _ _ _ _ _ => pv 5))
      (pss_one (ps_ret (pe_cmpR (op_neD hr.units) (pv 4) (pe_lst pa_nil) (nomark _)))), ?_⟩
    have hxl : (txt z x).length = x.length := txt_len z x
    refine ⟨_, rfl, txt z x, rfl, by rw [hxl]; exact szBigLe (by omega), _, _, rfl, rfl, _, rfl, by rw [hxl]; omega, by rw [hxl]; omega, fun D1 nD1 => ?_⟩
    rw [hxl, show (((x.length : Nat) : Int) + 1).toNat = x.length + 1 by omega]
    refine lc_range (n := x.length + 1) (fun i H3 => Same H H3 ∧ H3 D1 = some (.lst (nVs ((List.range i).filter fun k => L (x.take k) && M (x.drop k))))) ⟨same_new nD1, upd_same⟩ ?_ ?_
    · rintro i H3 hi ⟨s3, hD⟩
      rw [Int.zero_add]
      refine ⟨rfl, ?_⟩
      refine ⟨_, rfl, _, rfl, _, rfl, _, rfl, _, rfl, txt z x, rfl, by rw [hxl]; exact szBigLe (by omega), ?_⟩
      rw [txt_to z x (by omega)]
      refine ⟨z, t1, p1, e1, xs1, R, E, x.take i, rfl, hix, s3 _ _ ht1, hR.same s3, hok1, h01, s3 _ _ hE, fun j hj => hw j (List.mem_of_mem_take hj), by rw [List.length_take]; omega, _, rfl, ?_⟩
      rw [hg1 _ (fun j hj => hw j (List.mem_of_mem_take hj))]
      refine ite2 (fun e => ?_) (fun e => ?_)
      · refine ⟨_, rfl, _, rfl, _, rfl, _, rfl, _, rfl, txt z x, rfl, by rw [hxl]; exact szBigLe (by omega), ?_⟩
        rw [txt_from z x (by omega)]
        refine ⟨z, t2, p2, e2, xs2, S, G, x.drop i, rfl, hix, s3 _ _ ht2, hS.same s3, hok2, h02, s3 _ _ hG, fun j hj => hw j (List.mem_of_mem_drop hj), by rw [List.length_drop]; omega, _, rfl, ?_⟩
        rw [hg2 _ (fun j hj => hw j (List.mem_of_mem_drop hj))]
        refine ite2 (fun e2 => ?_) (fun e2 => ?_)
        · refine ⟨_, rfl, _, hD, ?_, ?_, ?_⟩
          · rw [nVs_len]
            exact szBig (by have := List.length_filter_le (fun k => L (x.take k) && M (x.drop k)) (List.range i); rw [List.length_range] at this; omega)
          · intro b o eb
            rw [upd_ne (ne_of_none eb nD1)]
            exact s3 _ _ eb
          · rw [upd_same, filter_step, if_pos (by rw [e, e2]; rfl), nVs_snoc]
            rfl
        · refine ⟨s3, ?_⟩
          rw [filter_step, if_neg (fun z => ?_), List.append_nil]
          · exact hD
          · rw [e, Bool.true_and] at z
            exact e2 z
      · refine ⟨s3, ?_⟩
        rw [filter_step, if_neg (fun z => ?_), List.append_nil]
        · exact hD
        · rw [Bool.and_eq_true] at z
          exact e z.1
    · rintro H3 ⟨s3, hD⟩
      refine ⟨_, rfl, by show 0 ≤ sizeLine; decide, fun n1 nn1 => ?_⟩
      refine ⟨dNs _, .list [], dp_nVs (same_new nn1 _ _ hD), .lst (SqL.of upd_same) .nil, shp_dNs _, by decide +kernel, ?_⟩
      rw [show (PyData.list []) = dNs [] from rfl, eqv_dNs, filter_any]
      exact post _ (s3.trans (same_new nn1))
theorem ok_allCuts {f fH : Addr} {fd fdH : FuncData} {k : Nat} (F : Fun K "_law_all_cuts" "_law_all_cuts" sAc f fd)
    (GH : FnOk P w K mg base CX0 k fH fdH ["_law_signs_here", "_law_machine_here", "_law_text"] spHasT) (FH : Fun K "_law_has" "_law_has" sHasT fH fdH) (bH : Binds K fdH ["_law_signs_here", "_law_machine_here", "_law_text"] []) (gH : mg "_law_has" = some (.ref fH))
    (ml : mg "len" = none) (mr : mg "range" = none) : FnOk P w K mg base CX0 (k + 1) f fd ["_law_signs_here", "_law_one", "_law_text"] spAllCuts := by
  refine F.ok scAc (fun vs H Q E h => ?_) (fun cdv A outer s H vs Q E hr h => ?_)
  · obtain ⟨z, t1, m, L, x, rfl, _⟩ := h
    rfl
  · obtain ⟨z, t1, m, L, x, rfl, hix, ⟨R, E, ⟨⟨p1, e1, xs1, ht1, hR, hE⟩, hok1, h01, hm1, hlt1, hel1⟩, hg1⟩, hw, hl, post⟩ := h
    refine ⟨_, pss_cons (ps_set (i := 3) scAc.nd rfl (.inl rfl) (pe_lst (pa_cons pe_int pa_nil)))
      (pss_cons (ps_for PassesOwn.never rfl (pi_range2 (by rfl) mr (pa_cons pe_int (pa_cons (pe_op op_add (pe_callB call_len_str (by rfl) ml bLen (pa_cons (pv 2) pa_nil)) pe_int) pa_nil))) (pg_name (i := 4) scAc.nd rfl (.inr rfl))
        (pss_one (ps_if (pt_cmpR (op_neD hr.units) (pe_lc (own := [("_law_begin", 5)]) (g := gName 5) (tt := tB (tCall spHasT [] E0 (tCons (tVar 0) (tCons (tVar 1) (tCons (tSl rSlS (tVar 2) (tPart (tVar 5)) (tPart (tVar 4))) tNil))))) (te := tVar 5) rfl scAc.nd (pi_list (pv 3)) (blkOk_by (own := [("_law_begin", 5)]) (N := nAc) (sc := defScope sAc) (by decide +kernel))
            (fun _ _ _ _ _ => pg_name (i := 5) scAc.nd rfl (Or.inl rfl))
            (fun _ _ _ _ _ => pts_one (pt_val (pe_call GH hr (by rfl) gH FH.kp bH .nil pass0 (pa_cons (pv 0) (pa_cons (pv 1) (pa_cons (pe_slice sl_str (pv 2) (po_some (pv 5)) (po_some (pv 4))) pa_nil)))))) (fun _ _ _ _ _ => pv 5)) (pe_lst pa_nil) (nomark _))
          (pss_one (ps_expr (pe_bm PySem.F.plainAttrs_list PySem.F.slot_list_append PySem.F.type_list_append mt_append (pv 3) (pa_cons (pv 4) pa_nil)))) pss_nil)))
      (pss_one (ps_ret (pe_cmpR op_in_seq (pe_callB call_len_str (by rfl) ml bLen (pa_cons (pv 2) pa_nil)) (pv 3) (by rfl))))), ?_⟩
    have hxl : (txt z x).length = x.length := txt_len z x
    refine ⟨by show 1 ≤ sizeLine; decide, fun g ng => ?_⟩
    have s0 : Same H (upd H g (.lst [.int 0])) := same_new ng
    have hg0 : (upd H g (.lst [.int 0])) g = some (.lst (nVs ((List.range (0 + 1)).filter fun e => starL L (x.take e)))) := by
      rw [upd_same, filter_step, if_pos (by rw [List.take_zero]; exact star_nil)]
      rfl
    generalize (upd H g (.lst [.int 0])) = H0 at s0 hg0
    refine ⟨_, rfl, txt z x, rfl, by rw [hxl]; exact szBigLe (by omega), _, _, rfl, rfl, _, _, rfl, by rw [hxl]; omega, ?_⟩
    rw [hxl, show (((x.length : Nat) : Int) + 1 - 1).toNat = x.length by omega]
    refine for_range (n := x.length) (fun i σ H3 => ∃ y4 : Option V, σ = [some (.str z), some (.ref t1), some (.str (txt z x)), some (.ref g), y4, none] ∧ Same H H3 ∧ H3 g = some (.lst (nVs ((List.range (i + 1)).filter fun e => starL L (x.take e)))))
      ⟨none, rfl, s0, hg0⟩ ?_ ?_
    · rintro i σ H3 hi ⟨y4, rfl, s3, hgo⟩
      refine ⟨_, rfl, g, rfl, ⟨_, SqL.of hgo⟩, fun D1 nD1 => ?_⟩
      have hle : ∀ l : Nat, (((List.range (i + 1)).filter fun e => starL L (x.take e)).take l).length ≤ i + 1 := fun l => by
        rw [List.length_take]
        have := List.length_filter_le (fun e => starL L (x.take e)) (List.range (i + 1))
        rw [List.length_range] at this
        omega
      refine lc_list (K := K) (a := g) (xs := nVs ((List.range (i + 1)).filter fun e => starL L (x.take e))) (fun l H4 => Same H3 H4 ∧ H4 D1 = some (.lst (nVs ((((List.range (i + 1)).filter fun e => starL L (x.take e)).take l).filter fun b => L ((x.drop b).take (i + 1 - b)))))) ⟨same_new nD1, upd_same⟩ (fun l H4 _ ⟨s4, _⟩ => SqL.of (s4 _ _ hgo)) ?_ ?_
      · rintro l v H4 hv ⟨s4, hD⟩
        obtain ⟨b, rfl, hb⟩ := nVs_at hv
        have hbm := List.mem_of_getElem? hb
        have hb1 := List.mem_range.mp (List.mem_filter.mp hbm).1
        have s04 := s3.trans s4
        refine ⟨rfl, ?_⟩
        refine ⟨_, rfl, _, rfl, _, rfl, _, rfl, _, rfl, _, rfl, _, rfl, txt z x, rfl, by rw [hxl]; exact szBigLe (by omega), ?_⟩
        rw [show (1 : Int) + (i : Int) = ((i + 1 : Nat) : Int) by omega, txt_mid z x (by omega) (by omega)]
        have hwb : Wd z.cps.size ((x.drop b).take (i + 1 - b)) := fun j hj => hw j (List.mem_of_mem_drop (List.mem_of_mem_take hj))
        refine ⟨z, t1, p1, e1, xs1, R, E, (x.drop b).take (i + 1 - b), rfl, hix, s04 _ _ ht1, hR.same s04, hok1, h01, s04 _ _ hE, hwb, by rw [List.length_take, List.length_drop]; omega, _, rfl, ?_⟩
        rw [hg1 _ hwb, take_snoc hb, List.filter_append]
        refine ite2 (fun e => ?_) (fun e => ?_)
        · refine ⟨_, rfl, _, hD, ?_, ?_, ?_⟩
          · rw [nVs_len]
            have h1 := hle l
            have h2 := List.length_filter_le (fun b => L ((x.drop b).take (i + 1 - b))) (((List.range (i + 1)).filter fun e => starL L (x.take e)).take l)
            exact szBig (by omega)
          · intro b' o eb
            rw [upd_ne (ne_of_none eb nD1)]
            exact s4 _ _ eb
          · rw [upd_same, List.filter_cons_of_pos (p := fun b => L ((x.drop b).take (i + 1 - b))) e, List.filter_nil, nVs_snoc]
        · refine ⟨s4, ?_⟩
          rw [List.filter_cons_of_neg (p := fun b => L ((x.drop b).take (i + 1 - b))) e, List.filter_nil, List.append_nil]
          exact hD
      · rintro H4 ⟨s4, hD⟩
        rw [nVs_len, List.take_length] at hD
        refine ⟨by show 0 ≤ sizeLine; decide, fun n1 nn1 => ?_⟩
        refine ⟨dNs _, .list [], dp_nVs (same_new nn1 _ _ hD), .lst (SqL.of upd_same) .nil, shp_dNs _, by decide +kernel, ?_⟩
        rw [show (PyData.list []) = dNs [] from rfl, eqv_dNs, filter_any, ← star_at (by omega) (by omega)]
        have s5 := s4.trans (same_new (o := .lst []) nn1)
        generalize (upd H4 n1 (.lst [])) = H5 at s5
        refine ⟨_, rfl, ite2 (fun e => ?_) (fun e => ?_)⟩
        · have hg5 := s5 _ _ hgo
          refine ⟨_, rfl, .inl ⟨rfl, _, SqL.of hg5⟩, _, rfl, g, _, _, rfl, rfl, hg5, ?_, ?_⟩
          · rw [nVs_len]
            have h1 := hle (((List.range (i + 1)).filter fun e => starL L (x.take e)).length)
            rw [List.take_length] at h1
            exact szBig (by omega)
          refine ⟨_, rfl, ?_, ?_⟩
          · intro b' o eb
            rw [upd_ne (ne_of_none eb ng)]
            exact (s3.trans s5) _ _ eb
          · rw [upd_same, filter_step (i + 1), if_pos e, nVs_snoc, show (1 : Int) + (i : Int) = ((i + 1 : Nat) : Int) by omega]
            rfl
        · refine ⟨_, rfl, s3.trans s5, ?_⟩
          rw [filter_step (i + 1), if_neg e, List.append_nil]
          exact s5 _ _ hgo
    · rintro σ H3 ⟨y4, rfl, s3, hgo⟩
      refine ⟨_, rfl, txt z x, rfl, by rw [hxl]; exact szBigLe (by omega), _, rfl, g, _, rfl, .inl (SqL.of hgo), rfl, flat_nVs _, ?_⟩
      rw [if_neg Bool.false_ne_true, hxl, show (V.int ((x.length : Nat) : Int)) = nV x.length from rfl, inV_nVs]
      have e : decide (x.length ∈ (List.range (x.length + 1)).filter fun e => starL L (x.take e)) = starL L x := by
        cases e : starL L x with
        | true => exact decide_eq_true (List.mem_filter.mpr ⟨List.mem_range.mpr (by omega), by rw [List.take_length]; exact e⟩)
        | false =>
          refine decide_eq_false fun z => ?_
          have := (List.mem_filter.mp z).2
          rw [List.take_length, e] at this
          cases this
      rw [e]
      exact post H3 s3
theorem ok_joinX {f C U TE : Addr} {fd : FuncData} {k : Nat} (F : Fun K "texts_joined" "texts_joined" sJn f fd) (T : TxC K C) (UK : UnK K mg U TE) : FnOk P w K mg base (L2.CX P w) (k + 1) f fd ["one", "other"] (spBinX C U) := by
  refine F.okX scJn (fun vs H Q E h => ?_) (fun cdv A outer s H vs Q E hr h => ?_)
  · obtain ⟨p, q, rfl, _⟩ := h
    rfl
  · obtain ⟨p, q, rfl, ⟨z, z2, m, k', L, M, ⟨t1, e1, ys1, R, E1, ⟨⟨dx, ob⟩, hR, hE⟩, hL1, hg1, hm1⟩, ⟨t2, e2, ys2, S, G, ⟨⟨dx2, ob2⟩, hS, hG⟩, hL2, hg2, hm2⟩, hne⟩, hx⟩ := h
    refine ⟨_, pss_cons (ps_if (pt_cmpR op_ne (pe_fld (pv 0) rfl) (pe_fld (pv 1) rfl) (nomark _)) (pss_one (ps_raise rfl (takes_of (E := E) rfl rfl rfl rfl) (pmk_own0 PySem.F.excBase_ValueError UK.x UK.g UK.k (raises_own UK.b UK.t) (by rfl)))) pss_nil) pss_never, ?_⟩
    refine ⟨_, rfl, p, C, dx, _, _, rfl, ob, T.cl, T.nS, tfl_signs _ _ _, _, rfl, q, C, dx2, _, _, rfl, ob2, T.cl, T.nS, tfl_signs _ _ _, rfl, _, rfl, ?_⟩
    rw [decide_eq_false (fun y => hne (V.str.inj y))]
    exact hx
theorem ok_addX {f C U fJ : Addr} {fd fdJ : FuncData} {k : Nat} (F : Fun K "__add__" "Texts.__add__" sAdd f fd)
    (GJ : FnOk P w K mg base (L2.CX P w) k fJ fdJ ["one", "other"] (spBinX C U)) (FJ : Fun K "texts_joined" "texts_joined" sJn fJ fdJ) (bJ : Binds K fdJ ["one", "other"] []) (gJ : mg "texts_joined" = some (.ref fJ)) :
    FnOk P w K mg base (L2.CX P w) (k + 1) f fd ["self", "other"] (spBinX C U) := by
  refine F.okX scAdd (fun vs H Q E h => ?_) (fun cdv A outer s H vs Q E hr h => ?_)
  · obtain ⟨p, q, rfl, _⟩ := h
    rfl
  · obtain ⟨p, q, rfl, hs, hx⟩ := h
    refine ⟨_, pss_one (ps_ret (pe_call GJ hr (by rfl) gJ FJ.kp bJ .nil (passOut (takes_of (E := E) rfl rfl rfl rfl)) (pa_cons (pv 0) (pa_cons (pv 1) pa_nil)))), ?_⟩
    exact ⟨_, rfl, _, rfl, p, q, rfl, hs, hx⟩
def spRefJ (C : Addr) : Sp := fun vs H Q _ => ∃ (p q : Addr), vs = [.ref p, .ref q] ∧ Strange C H p q ∧ Q (.bl true) H
def tTry (C U : Addr) (W : WX) : TS := tRet (tOp rIsNo (tOp (rBinOwn C (spBinX C U) [] (AnySt 3 W)) (tVar 0) (tVar 1)) (tC .non))
def tCatch (K : PySem.W.Frag) (U : Addr) : Addr → Value → Option Addr → TS := fun a cls d => tRet (tAndV (tCB (rIsE' K U a cls d) (tCons (tVar 2) (tCons (tC (.ref U)) tNil))) (tCB (rIsE' K U a cls d) (tCons (tVar 2) (tCons (tC (.ty "ValueError")) tNil))))
theorem ok_refused {f C U TE : Addr} {fd : FuncData} {k : Nat} (F : Fun K "_law_refused" "_law_refused" sRef f fd) (T : TxC K C) (UK : UnK K mg U TE) (sf : PySem.W.selfFirst K C = true) (mis : mg "isinstance" = none) (mve : mg "ValueError" = none)
    (GAdd : OpOkX P w K mg base C U k .Add) : FnOk P w K mg base CX0 (k + 1) f fd ["_law_one", "_law_other"] (spRefJ C) := by
  refine F.ok scRef (fun vs H Q E h => ?_) (fun cdv A outer s H vs Q E hr h => ?_)
  · obtain ⟨p, q, rfl, _⟩ := h
    rfl
  · obtain ⟨p, q, rfl, hs, post⟩ := h
    refine ⟨_, pss_one (ps_try_as (i := 2) (tb := tTry C U) (ts := tCatch K U) (Wout := fun _ _ _ _ => False) rfl rfl scRef.nd rfl rfl ⟨rfl, by decide, Or.inl UK.gT⟩ takes0
      (fun W pn xe tk _ => pss_one (ps_ret (pe_cmpR op_isN (pe_op (op_binX sf GAdd hr (passLen tk)) (pv 0) (pv 1)) pe_non rfl)))
      (fun a oe cls d pn hz hf => pss_one (ps_ret (pe_and (pe_callB (call_isE' UK.c hz hf) (by rfl) mis bIsi (pa_cons (pv 2) (pa_cons (pe_glob (v := .ref U) (by rfl) UK.g rfl) pa_nil)))
        (pe_one (pe_callB (call_isE' UK.c hz hf) (by rfl) mis bIsi (pa_cons (pv 2) (pa_cons (pe_bltn (v := .ty "ValueError") (by rfl) mve bVE rfl) pa_nil)))))))), ?_⟩
    have hsl : (nRef).length = 3 := rfl
    have fin : ∀ (D : Ends), D.rt = Q → AnySt 3 (wAs K (.ref TE) 2 (tCatch K U) (fun _ _ _ _ => False) D) (.ref U) none H := fun D hD σ hσ => by
      refine ⟨true, UK.e, fun _ a ha => ?_, fun q => Bool.noConfusion q⟩
      have h3 : (σ.set 2 (some (V.ref a)))[2]? = some (some (V.ref a)) := by
        rw [List.getElem?_set_self (by omega)]
      refine ⟨_, h3, rfl, rfl, .ref U, .ref U, true, rfl, (fun u r => r), kit_self, true, rfl, ?_⟩
      refine ⟨_, h3, rfl, rfl, .ty "ValueError", .type "ValueError", true, rfl, (fun u r => r), UK.v, ?_⟩
      rw [hD]
      exact post
    obtain ⟨z, z2, m, k', L, M, h1, h2, hne⟩ := id hs
    obtain ⟨t1, e1, ys1, R, E1, ⟨⟨dx, ob⟩, hR, hE⟩, hL1, hg1, hm1⟩ := id h1
    obtain ⟨t2, e2, ys2, S, G, ⟨⟨dx2, ob2⟩, hS, hG⟩, hL2, hg2, hm2⟩ := id h2
    exact ⟨_, rfl, _, rfl, p, dx, _, q, dx2, _, rfl, rfl, ob, ob2, p, q, rfl, hs, fin _ rfl⟩
end
end K16

namespace Rg
open PySem PySem.Spec PyProof.Rows L2 Mach
/-- the law's own closing -/
def spSilL : Sp := fun vs H Q _ => ∃ (a m : Addr) (ms : List Addr) (S : List Nat) (mv : List Mv), vs = [.ref a, .ref m] ∧ H a = some (.lst (nVs S)) ∧ MvAt H m ms mv ∧ S.length ≤ 60 ∧ mv.length ≤ 2000 ∧ (∀ x, (stp mv (-1) x).length ≤ 60) ∧
  ∀ (H' : Hp) (t : Addr) (T : List Nat), Same H H' → H t = none → H' t = some (.tup (nVs T)) → IsSil mv (fun x => x ∈ S) T → Q (.ref t) H'
/-- a set of numbers, sorted -/
theorem sorted_set_nums {S : List Nat} {ns : List Int} (hs : ns.Pairwise (· < ·)) (hm : ∀ k : Int, k ∈ ns ↔ decide (k ∈ S.map fun n : Nat => (n : Int)) = true) : ∃ T : List Nat, ns.map V.int = nVs T ∧ T.Pairwise (· < ·) ∧ (∀ x, x ∈ T ↔ x ∈ S) ∧ T.length = ns.length := by
  have h1 : ns.Perm ((D S).map fun n : Nat => (n : Int)) := by
    refine (List.perm_ext_iff_of_nodup ?_ ?_).mpr fun k => ?_
    · exact hs.imp fun h e => by omega
    · rw [List.Nodup, List.pairwise_map]
      exact (D_nodup S).imp fun hab e => hab (by omega)
    · rw [hm k, decide_eq_true_eq, List.mem_map, List.mem_map]
      exact ⟨fun ⟨n, h, e⟩ => ⟨n, mem_D.mpr h, e⟩, fun ⟨n, h, e⟩ => ⟨n, mem_D.mp h, e⟩⟩
  obtain ⟨T, e1, e2, e3, e4⟩ := sorted_nums (D_nodup S) h1 (hs.imp fun h => by omega)
  exact ⟨T, e1, e2, fun x => (e3 x).trans mem_D, by rw [e4, h1.length_eq, List.length_map]⟩
end Rg
namespace K16
open PySem PySem.Spec PyProof.Rows L2 Rg Mach
abbrev sSl : Stmt := topS 49
def nSl : List Str := ["_law_states", "_law_moves_here", "_law_found", "_law_at", "_law_led_here", "_law_one", "_law_place", "_law_there"]
theorem scSl : FnScope nSl ["_law_states", "_law_moves_here"] (defScope sSl) := ⟨rfl, rfl, rfl, by decide +kernel, rfl, by decide +kernel, by decide +kernel⟩
section
variable {P : Program} {w : World} {K : PySem.W.Frag} {mg : Str → Option Value} {base : Heap}
theorem ok_sl {f : Addr} {fd : FuncData} {k : Nat} (F : Fun K "_law_silent" "_law_silent" sSl f fd) (ml : mg "len" = none) (mt : mg "tuple" = none) (ms' : mg "set" = none) (mso : mg "sorted" = none) :
    FnOk P w K mg base CX0 (k + 1) f fd ["_law_states", "_law_moves_here"] spSilL := by
  refine F.ok scSl (fun vs H Q E h => ?_) (fun cdv A outer s H vs Q E hr h => ?_)
  · obtain ⟨a, m, ms, S, mv, rfl, _⟩ := h
    rfl
  · obtain ⟨a, m, ms, S, mv, rfl, ha, hm, hSl, hml, hsl, q⟩ := h
    have hu := hu_of hr
    refine ⟨_, pss_cons (ps_asg (pe_tup (pa_cons (pe_callB (cr_sortedSet rfl) (by rfl) mso bSorted (pa_cons (pe_callTy (call_setN rfl) (by rfl) ms' bSet (pa_cons (pv 0) pa_nil)) pa_nil)) (pa_cons pe_int pa_nil))) (pg_tup rfl (pgs_cons (pg_name (i := 2) scSl.nd rfl (.inr rfl)) (pgs_cons (pg_name (i := 3) scSl.nd rfl (.inr rfl)) pgs_nil))))
      (pss_cons (ps_while PassesOwn.never (pt_cmpR op_lt (pv 3) (pe_callB call_len_seq (by rfl) ml bLen (pa_cons (pv 2) pa_nil)) (nomark _))
        (pss_cons (ps_setLc (i := 4) (own := [("_law_one", 5), ("_law_place", 6), ("_law_there", 7)]) (g := gTup K 3 (gCons (gName 5) (gCons (gName 6) (gCons (gName 7) gNil)))) (tt := tTest (tOp (rEqD K) (tTup (tCons (tVar 5) (tCons (tVar 6) tNil))) (tTup (tCons (tOp (rIxL K) (tVar 2) (tVar 3)) (tCons (tUn (rU fun i => .int (-i)) (tC (.int 1))) tNil))))) (te := tVar 7) rfl scSl.nd rfl rfl (sw_true rfl rfl rfl (by decide +kernel))
            (pi_list (pv 1)) (blkOk_by (own := [("_law_one", 5), ("_law_place", 6), ("_law_there", 7)]) (N := nSl) (sc := defScope sSl) (by decide +kernel))
            (fun _ _ _ _ _ => pg_tup rfl (pgs_cons (pg_name (i := 5) scSl.nd rfl (Or.inl rfl)) (pgs_cons (pg_name (i := 6) scSl.nd rfl (Or.inl rfl)) (pgs_cons (pg_name (i := 7) scSl.nd rfl (Or.inl rfl)) pgs_nil))))
            (fun _ _ _ _ _ => pts_one (pt_cmpR (op_eqD hr.units) (pe_tup (pa_cons (pv 5) (pa_cons (pv 6) pa_nil))) (pe_tup (pa_cons (pe_ix ix_list (pv 2) (pv 3) (fun _ _ => rfl)) (pa_cons (pe_un un_neg pe_int) pa_nil))) (nomark _))) (fun _ _ _ _ _ => pv 7))
        (pss_cons (ps_set (i := 2) scSl.nd rfl (.inr rfl) (pe_op op_cat (pv 2) (pe_lc (own := [("_law_there", 7)]) (g := gName 7) (tt := tTest (tOp (rIn K true) (tVar 7) (tVar 2))) rfl scSl.nd
            (pi_list (pe_callB (cr_sortedSet rfl) (by rfl) mso bSorted (pa_cons (pe_callTy (call_setN rfl) (by rfl) ms' bSet (pa_cons (pv 4) pa_nil)) pa_nil)))
            (blkOk_by (own := [("_law_there", 7)]) (N := nSl) (sc := defScope sSl) (by decide +kernel)) (fun _ _ _ _ _ => pg_name (i := 7) scSl.nd rfl (Or.inl rfl)) (fun _ _ _ _ _ => pts_one (pt_cmpR op_notIn_seq (pv 7) (pv 2) rfl)) (fun _ _ _ _ _ => pv 7))))
        (pss_one (ps_aug (i := 3) scSl.nd rfl (.inr rfl) pe_int ip_add)))))
      (pss_one (ps_ret (pe_callTy call_tuple_of (by rfl) mt bTuple (pa_cons (pe_callB cr_sortedI (by rfl) mso bSorted (pa_cons (pv 2) pa_nil)) pa_nil))))), ?_⟩
    have sqN : ∀ {H' : Hp} {c : Addr} {X : List Nat}, H' c = some (.lst (nVs X)) → SqL K H' c ((X.map fun n : Nat => (n : Int)).map V.int) := fun {H' c X} h => by
      rw [← nVs_ints]
      exact SqL.of h
    -- found, at = sorted(set(states)), 0
    refine ⟨_, rfl, a, _, rfl, sqN ha, by rw [List.length_map]; omega, fun sa na nsa hna => ?_⟩
    rw [List.length_map] at hna
    refine ⟨sa, _, na, rfl, upd_same, by omega, fun ns p hsr hmem hnl np => ?_⟩
    obtain ⟨T0, eT, hT1, hT2, hT3⟩ := sorted_set_nums hsr hmem
    rw [eT]
    have s1 : Same H (upd (upd H sa (SetO w sa (fun k => decide (k ∈ S.map fun n : Nat => (n : Int))) na)) p (.lst (nVs T0))) := (same_new nsa).trans (same_new np)
    have hp1 : (upd (upd H sa (SetO w sa (fun k => decide (k ∈ S.map fun n : Nat => (n : Int))) na)) p (.lst (nVs T0))) p = some (.lst (nVs T0)) := upd_same
    generalize hH1 : (upd (upd H sa (SetO w sa (fun k => decide (k ∈ S.map fun n : Nat => (n : Int))) na)) p (.lst (nVs T0))) = H1 at s1 hp1
    have hH1' : upd (upd H sa (SetO (cxOf CX0 P w K mg base nSl "_law_silent" (defScope sSl) f cdv A outer s H E).nox.w sa (fun k => decide (k ∈ S.map fun n : Nat => (n : Int))) na)) p (.lst (nVs T0)) = H1 := hH1
    rw [hH1']
    clear hH1 hH1'
    refine ⟨by show 2 ≤ sizeLine; decide, fun t0 n0 => ?_⟩
    refine ⟨t0, _, rfl, SqT.of upd_same, rfl, _, _, rfl, _, _, rfl, rfl, ?_⟩
    have s2 : Same H (upd H1 t0 (.tup [.ref p, .int 0])) := s1.trans (same_new n0)
    have hp2 : (upd H1 t0 (.tup [.ref p, .int 0])) p = some (.lst (nVs T0)) := same_new n0 _ _ hp1
    generalize (upd H1 t0 (.tup [.ref p, .int 0])) = H2 at s2 hp2
    refine ⟨fun k' σ H3 => ∃ (pf : Addr) (L : List Nat) (i : Nat) (y : Option V), k' = S.length + mv.length - i ∧ σ = [some (.ref a), some (.ref m), some (.ref pf), some (nV i), y, none, none, none] ∧ Same H H3 ∧ H3 pf = some (.lst (nVs L)) ∧ L.Nodup ∧ (∀ x ∈ L, x ∈ S ++ tgs mv) ∧ Clo mv (fun x => x ∈ S) L i,
      ⟨_, p, T0, 0, none, rfl, rfl, s2, hp2, hT1.imp (fun h => by omega), fun x hx => List.mem_append_left _ ((hT2 x).mp hx), ⟨fun x hx => (hT2 x).mpr hx, fun x hx => .base ((hT2 x).mp hx), fun j hj => absurd hj (Nat.not_lt_zero j)⟩⟩, ?_⟩
    clear hp2 s2 n0 hp1 s1 hT1 hT2 hT3 eT hsr hmem hnl np nsa hna
    rintro k' σ H3 ⟨pf, L, i, y, rfl, rfl, s3, hf3, hLn, hLs, hC⟩
    have hLl : L.length ≤ S.length + mv.length := by
      have h1 := length_le_of_sub hLn hLs
      rw [List.length_append] at h1
      unfold tgs at h1
      rw [List.length_map] at h1
      exact h1
    refine ⟨_, rfl, _, rfl, pf, _, rfl, .inl (SqL.of hf3), _, _, rfl, rfl, _, rfl, ite2 (fun ei => ?_) (fun ei => ?_)⟩
    · have hi : i < L.length := by
        have := of_decide_eq_true ei
        rw [nVs_len] at this
        omega
      have hs : L[i]? = some L[i] := List.getElem?_eq_getElem hi
      generalize hx0 : L[i] = x0 at hs
      refine ⟨fun σ' H' => ∃ (pf' : Addr) (Z : List Nat) (y : Option V), σ' = [some (.ref a), some (.ref m), some (.ref pf'), some (nV (i + 1)), y, none, none, none] ∧ Same H H' ∧ H' pf' = some (.lst (nVs (L ++ Z))) ∧ Z.Nodup ∧ ∀ z, z ∈ Z ↔ (x0, (-1 : Int), z) ∈ mv ∧ z ∉ L, ?_, ?_⟩
      · rintro σ' H' ⟨pf', Z, y', rfl, s4, hf4, hZn, hZ⟩
        refine ⟨S.length + mv.length - (i + 1), by omega, pf', L ++ Z, i + 1, y', rfl, rfl, s4, hf4, ?_, ?_, ?_⟩
        · rw [List.nodup_append]
          exact ⟨hLn, hZn, fun x hx z hz e' => ((hZ z).mp hz).2 (by rw [← e']; exact hx)⟩
        · intro x hx
          rcases List.mem_append.mp hx with z | z
          · exact hLs x z
          · exact List.mem_append_right _ (List.mem_map.mpr ⟨_, ((hZ x).mp z).1, rfl⟩)
        · refine hC.step hi (fun x hx => ?_) (fun x hx => ?_)
          · rw [hx0]
            exact ((hZ x).mp hx).1
          · rw [hx0] at hx
            by_cases h : x ∈ L
            · exact List.mem_append_left _ h
            · exact List.mem_append_right _ ((hZ x).mpr ⟨hx, h⟩)
      · -- led
        refine ⟨_, rfl, m, rfl, ⟨_, SqL.of (s3 _ _ hm.1)⟩, fun D1 nD1 => ?_⟩
        refine lc_list (K := K) (a := m) (xs := ms.map V.ref) (fun j H4 => Same H3 H4 ∧ H4 D1 = some (.lst (nVs (stp (mv.take j) (-1) x0)))) ⟨same_new nD1, by rw [upd_same]; rfl⟩ (fun j H4 _ ⟨s4, _⟩ => SqL.of (s4 _ _ (s3 _ _ hm.1))) ?_ ?_
        · rintro j v H4 hj ⟨s4, hD1⟩
          rw [List.getElem?_map] at hj
          obtain ⟨t, ht, rfl⟩ := Option.map_eq_some_iff.mp hj
          obtain ⟨x, hx, htx⟩ := Rg.paired_get hm.2 ht
          have hjl := (List.getElem?_eq_some_iff.mp hx).1
          refine ⟨t, _, rfl, SqT.of (s4 _ _ (s3 _ _ htx)), rfl, _, _, rfl, _, _, rfl, _, _, rfl, rfl, rfl, ?_⟩
          refine ⟨_, rfl, _, rfl, by show 2 ≤ sizeLine; decide, fun ta nta => ?_⟩
          have s5 : Same H4 (upd H4 ta (.tup [nV x.1, .int x.2.1])) := same_new nta
          have ha5 : (upd H4 ta (.tup [nV x.1, .int x.2.1])) ta = some (.tup [nV x.1, .int x.2.1]) := upd_same
          generalize (upd H4 ta (.tup [nV x.1, .int x.2.1])) = H5 at s5 ha5
          refine ⟨_, rfl, _, rfl, pf, _, _, _, rfl, rfl, SqL.of (s5 _ _ (s4 _ _ hf3)), atI_nat (nVs_get hs), 1, rfl, by show 2 ≤ sizeLine; decide, fun tb ntb => ?_⟩
          have s6 : Same H5 (upd H5 tb (.tup [nV x0, .int (-1)])) := same_new ntb
          have hb6 : (upd H5 tb (.tup [nV x0, .int (-1)])) tb = some (.tup [nV x0, .int (-1)]) := upd_same
          generalize (upd H5 tb (.tup [nV x0, .int (-1)])) = H6 at s6 hb6
          have s46 := s5.trans s6
          refine ⟨.tuple [.int (x.1 : Int), .int x.2.1], .tuple [.int (x0 : Int), .int (-1)], .tup (SqT.of (s6 _ _ ha5)) (.cons (.int _) (.cons (.int _) .nil)), .tup (SqT.of hb6) (.cons (.int _) (.cons (.int _) .nil)), rfl, rfl, _, rfl, ?_⟩
          have eeq : PyData.eqv (.tuple [.int (x.1 : Int), .int x.2.1]) (.tuple [.int (x0 : Int), .int (-1)]) = decide (x.1 = x0 ∧ x.2.1 = -1) := by
            simp only [PyData.eqv, PyData.eqvAll, Bool.and_true]
            by_cases h1 : x.1 = x0
            · by_cases h2 : x.2.1 = -1
              · rw [decide_eq_true ⟨h1, h2⟩, h1, h2]
                simp
              · rw [decide_eq_false (fun z => h2 z.2), beq_eq_false_iff_ne.mpr h2, Bool.and_false]
            · rw [decide_eq_false (fun z => h1 z.1), beq_eq_false_iff_ne.mpr (fun z => h1 (by omega)), Bool.false_and]
          rw [eeq]
          have hsl := stp_len (mv.take j) (-1) x0
          rw [List.length_take] at hsl
          rw [take_snoc hx, stp_snoc]
          by_cases hc : x.1 = x0 ∧ x.2.1 = -1
          · rw [decide_eq_true hc, if_pos hc]
            refine ⟨_, rfl, _, s46 _ _ hD1, by rw [nVs_len]; exact szBig (by omega), ?_, ?_⟩
            · intro c o ec
              rw [upd_ne (ne_of_none ec nD1)]
              exact s46 _ _ (s4 _ _ ec)
            · rw [upd_same, nVs_snoc]
          · rw [decide_eq_false hc, if_neg hc, List.append_nil]
            exact ⟨s4.trans s46, s46 _ _ hD1⟩
        rintro H4 ⟨s4, hD1⟩
        rw [List.length_map, paired_length hm.2, List.take_length] at hD1
        have hXl := hsl x0
        have hXm : ∀ z, z ∈ stp mv (-1) x0 ↔ (x0, (-1 : Int), z) ∈ mv := fun z => mem_stp
        generalize stp mv (-1) x0 = X at hD1 hXl hXm
        have hf4 := s4 _ _ hf3
        -- found = found + [..]
        refine ⟨_, rfl, _, rfl, D1, _, rfl, sqN hD1, by rw [List.length_map]; omega, fun sa na nsa hna => ?_⟩
        rw [List.length_map] at hna
        refine ⟨sa, _, na, rfl, upd_same, by omega, fun ns p hsr hmem hnl np => ?_⟩
        obtain ⟨T, eT, hT1, hT2, hT3⟩ := sorted_set_nums hsr hmem
        rw [eT]
        have s5 : Same H4 (upd (upd H4 sa (SetO w sa (fun k => decide (k ∈ X.map fun n : Nat => (n : Int))) na)) p (.lst (nVs T))) := (same_new nsa).trans (same_new np)
        have hp5 : (upd (upd H4 sa (SetO w sa (fun k => decide (k ∈ X.map fun n : Nat => (n : Int))) na)) p (.lst (nVs T))) p = some (.lst (nVs T)) := upd_same
        refine ⟨p, rfl, ⟨_, SqL.of hp5⟩, ?_⟩
        generalize hH5 : (upd (upd H4 sa (SetO w sa (fun k => decide (k ∈ X.map fun n : Nat => (n : Int))) na)) p (.lst (nVs T))) = H5 at s5 hp5
        have hH5' : upd (upd H4 sa (SetO (cxOf CX0 P w K mg base nSl "_law_silent" (defScope sSl) f cdv A outer s H E).nox.w sa (fun k => decide (k ∈ X.map fun n : Nat => (n : Int))) na)) p (.lst (nVs T)) = H5 := hH5
        rw [hH5']
        clear hH5 hH5'
        intro D2 nD2
        have hTl : T.length ≤ 4000 := by omega
        refine lc_list (K := K) (a := p) (xs := nVs T) (fun j H6 => Same H5 H6 ∧ H6 D2 = some (.lst (nVs ((T.take j).filter fun z => decide (z ∉ L))))) ⟨same_new nD2, by rw [upd_same]; rfl⟩ (fun j H6 _ ⟨s6, _⟩ => SqL.of (s6 _ _ hp5)) ?_ ?_
        · rintro j v H6 hj ⟨s6, hD2⟩
          obtain ⟨u, rfl, hu'⟩ := nVs_at hj
          have hjl := (List.getElem?_eq_some_iff.mp hu').1
          refine ⟨rfl, ?_⟩
          refine ⟨_, rfl, _, rfl, pf, _, rfl, .inl (SqL.of (s6 _ _ (s5 _ _ hf4))), rfl, flat_nVs _, _, rfl, ?_⟩
          rw [take_snoc hu', filter_snoc]
          have ein : (if true = true then !inV (nV u) (nVs L) else inV (nV u) (nVs L)) = decide (u ∉ L) := by
            rw [if_pos rfl, inV_nVs]
            simp
          rw [ein]
          have hfl := List.length_filter_le (fun z => decide (z ∉ L)) (T.take j)
          rw [List.length_take] at hfl
          by_cases hu2 : u ∈ L
          · rw [decide_eq_false (by simpa using hu2)]
            refine ⟨s6, ?_⟩
            rw [if_neg Bool.false_ne_true, List.append_nil]
            exact hD2
          · rw [decide_eq_true hu2]
            refine ⟨_, rfl, _, hD2, by rw [nVs_len]; exact szBig (by omega), ?_, ?_⟩
            · intro c o ec
              rw [upd_ne (ne_of_none ec nD2)]
              exact s6 _ _ ec
            · rw [upd_same, if_pos rfl, nVs_snoc]
        · rintro H6 ⟨s6, hD2⟩
          rw [nVs_len, List.take_length] at hD2
          have hfl := List.length_filter_le (fun z => decide (z ∉ L)) T
          refine ⟨pf, D2, _, _, rfl, rfl, s6 _ _ (s5 _ _ hf4), hD2, by rw [nVs_len, nVs_len]; exact szBigLe (by omega), fun p2 np2 => ?_⟩
          refine ⟨_, rfl, _, _, rfl, rfl, p2, T.filter fun z => decide (z ∉ L), _, rfl, (((s3.trans s4).trans s5).trans s6).trans (same_new np2), ?_, ?_, ?_⟩
          · rw [upd_same]
            unfold nVs
            rw [List.map_append]
          · exact (hT1.imp fun h => by omega : T.Nodup).filter _
          · intro z
            rw [List.mem_filter, hT2, hXm, decide_eq_true_eq]
    · have hi : L.length ≤ i := by
        have := of_decide_eq_false (Bool.eq_false_iff.mpr ei)
        rw [nVs_len] at this
        omega
      have hfin := hC.fin hi
      refine ⟨_, rfl, pf, _, rfl, sqN hf3, fun ns p2 hp hsr n2 => ?_⟩
      obtain ⟨T, eT, hT1, hT2, hT3⟩ := sorted_nums hLn hp hsr
      rw [eT]
      have s7 : Same H3 (upd H3 p2 (.lst (nVs T))) := same_new n2
      have h27 : (upd H3 p2 (.lst (nVs T))) p2 = some (.lst (nVs T)) := upd_same
      generalize (upd H3 p2 (.lst (nVs T))) = H7 at s7 h27
      refine ⟨p2, _, rfl, .inl ⟨SqL.of h27, fun t nt => ?_⟩⟩
      have s37 := s3.trans s7
      exact q _ t T (s37.trans (same_new nt)) (s37.free nt) upd_same ⟨hT1, fun x => by rw [hT2]; exact hfin x⟩
end
end K16

namespace Rg
open PySem PySem.Spec PyProof.Rows L2 Mach
/-! a tuple of states as data -/
def dTu (T : List Nat) : PyData := .tuple (T.map fun n : Nat => .int (n : Int))
theorem eqv_ints : ∀ S T : List Nat, PyData.eqvAll (S.map fun n : Nat => PyData.int (n : Int)) (T.map fun n : Nat => PyData.int (n : Int)) = decide (S = T)
  | [], [] => rfl
  | [], b :: T => rfl
  | a :: S, [] => rfl
  | a :: S, b :: T => by
    show (PyData.eqv (.int (a : Int)) (.int (b : Int)) && PyData.eqvAll _ _) = _
    rw [eqv_ints S T, show PyData.eqv (.int (a : Int)) (.int (b : Int)) = ((a : Int) == (b : Int)) from by simp only [PyData.eqv]]
    by_cases h1 : a = b
    · by_cases h2 : S = T
      · rw [h1, h2]
        simp
      · rw [decide_eq_false h2, Bool.and_false, decide_eq_false (fun z => h2 (List.cons.inj z).2)]
    · rw [beq_eq_false_iff_ne.mpr (fun z => h1 (by omega)), Bool.false_and, decide_eq_false (fun z => h1 (List.cons.inj z).1)]
theorem eqv_dTu (S T : List Nat) : PyData.eqv (dTu S) (dTu T) = decide (S = T) := by
  unfold dTu
  simp only [PyData.eqv]
  exact eqv_ints S T
theorem lay_ints (l : List Nat) : PyData.canLayAll0 (l.map fun n : Nat => PyData.int (n : Int)) = true ∧ PyData.depthAll (l.map fun n : Nat => PyData.int (n : Int)) = 0 := by
  induction l with
  | nil => exact ⟨rfl, rfl⟩
  | cons a l ih => exact ⟨by simp only [List.map_cons, PyData.canLayAll0, PyData.canLay0, ih.1, Bool.and_self], by simp only [List.map_cons, PyData.depthAll, PyData.depth, ih.2, Nat.max_self]⟩
theorem lay_dTu (T : List Nat) : (dTu T).canLay0 = true ∧ (dTu T).depth = 1 := by
  unfold dTu
  simp only [PyData.canLay0, PyData.depth, (lay_ints T).1, (lay_ints T).2]
  exact ⟨trivial, trivial⟩
theorem shp_dTu (T : List Nat) : SeqAt.shaped (dTu T) = true := by
  unfold SeqAt.shaped
  rw [(lay_dTu T).1, (lay_dTu T).2]
  rfl
theorem lay_dTus (F : List (List Nat)) : PyData.canLayAll0 (F.map dTu) = true ∧ PyData.depthAll (F.map dTu) ≤ 1 := by
  induction F with
  | nil => exact ⟨rfl, by decide⟩
  | cons a l ih =>
    refine ⟨by simp only [List.map_cons, PyData.canLayAll0, (lay_dTu a).1, ih.1, Bool.and_self], ?_⟩
    simp only [List.map_cons, PyData.depthAll, (lay_dTu a).2]
    exact Nat.max_le.mpr ⟨Nat.le_refl _, ih.2⟩
theorem shp_dTus (F : List (List Nat)) : SeqAt.shaped (.list (F.map dTu)) = true := by
  unfold SeqAt.shaped
  simp only [PyData.canLay0, PyData.depth, (lay_dTus F).1, Bool.true_and]
  have := (lay_dTus F).2
  exact decide_eq_true (by omega)
theorem dp_tup {K : PySem.W.Frag} {H : Hp} {t : Addr} {T : List Nat} (h : H t = some (.tup (nVs T))) : Dp K H (.ref t) (dTu T) := .tup (SqT.of h) (dpAll_nVs T)
theorem dpAll_tups {K : PySem.W.Frag} {H : Hp} : ∀ {ts : List Addr} {F : List (List Nat)}, TupsAt H ts F → DpAll K H (ts.map V.ref) (F.map dTu)
  | _, _, .nil => .nil
  | _, _, .cons h t => .cons (dp_tup h) (dpAll_tups t)
theorem any_dTu (F : List (List Nat)) (T : List Nat) : ((F.map dTu).any fun z => PyData.eqv z (dTu T)) = decide (T ∈ F) := by
  rw [List.any_map]
  by_cases h : T ∈ F
  · rw [decide_eq_true h]
    exact List.any_eq_true.mpr ⟨T, h, by show PyData.eqv (dTu T) (dTu T) = true; rw [eqv_dTu]; exact decide_eq_true rfl⟩
  · rw [decide_eq_false h]
    refine Bool.eq_false_iff.mpr fun z => ?_
    obtain ⟨S, hS, e⟩ := List.any_eq_true.mp z
    have e' : PyData.eqv (dTu S) (dTu T) = true := e
    rw [eqv_dTu] at e'
    exact h (by rw [← of_decide_eq_true e']; exact hS)
/-- the law's own machine of paths -/
def spDetLU : Sp := fun vs H Q _ => ∃ (b m e : Addr) (ms : List Addr) (mv : List Mv) (n : Nat) (S0 ends : List Nat) (UL : List (List Nat)), vs = [nV n, .ref b, .ref m, .ref e] ∧ H b = some (.lst (nVs S0)) ∧ MvAt H m ms mv ∧ H e = some (.lst (nVs ends)) ∧
  n ≤ 4 ∧ mv.length ≤ 2000 ∧ S0.length ≤ 60 ∧ ends.length ≤ 2000 ∧ (∀ x, (stp mv (-1) x).length ≤ 60) ∧ Univ mv n (silF mv fun x => x ∈ S0) UL ∧ UL.length ≤ 2000 ∧ (∀ T ∈ UL, T.length ≤ 60 ∧ ∀ k, k < n → (T.flatMap (stp mv (k : Int))).length ≤ 60) ∧
  ∀ (H' : Hp) (t p e' : Addr) (ys : List Addr) (R' : List (List Nat)) (E' : List Nat), Same H H' → H' t = some (.tup [.ref p, .ref e']) → RowsAt H' p ys R' → H' e' = some (.lst (nVs E')) →
    Mok n R' → 0 < R'.length → R'.length ≤ UL.length → E'.length ≤ UL.length → (∀ w, Wd n w → (runM R' 0 w ∈ E' ↔ Meets (w.foldl (nxS mv) (silF mv fun x => x ∈ S0)) ends)) → Q (.ref t) H'
end Rg
namespace K16
open PySem PySem.Spec PyProof.Rows L2 Rg Mach
abbrev sDl : Stmt := topS 50
def nDl : List Str := ["_law_wide", "_law_begins", "_law_moves_here", "_law_ends", "_law_found", "_law_rows", "_law_row", "_law_k", "_law_led_here", "_law_later", "_law_one", "_law_place", "_law_there", "_law_state"]
theorem scDl : FnScope nDl ["_law_wide", "_law_begins", "_law_moves_here", "_law_ends"] (defScope sDl) := ⟨rfl, rfl, rfl, by decide +kernel, rfl, by decide +kernel, by decide +kernel⟩
def scDlOut : Scope := match (defBody sDl).getD 2 (.Pass ⟨0, 0, 0, 0⟩) with
  | .Return (some (.Tuple [_, .ListComp _ _ sc _] _ _)) _ => sc
  | _ => defScope sDl
section
variable {P : Program} {w : World} {K : PySem.W.Frag} {mg : Str → Option Value} {base : Heap}
theorem ok_dl {f fS : Addr} {fd fdS : FuncData} {k : Nat} (F : Fun K "_law_determined" "_law_determined" sDl f fd)
    (FS : Fun K "_law_silent" "_law_silent" sSl fS fdS) (bS : Binds K fdS ["_law_states", "_law_moves_here"] []) (gS : mg "_law_silent" = some (.ref fS))
    (ml : mg "len" = none) (mt : mg "tuple" = none) (ms' : mg "set" = none) (mso : mg "sorted" = none) (mr : mg "range" = none) :
    FnOk P w K mg base CX0 (k + 2) f fd ["_law_wide", "_law_begins", "_law_moves_here", "_law_ends"] spDetLU := by
  have GS : FnOk P w K mg base CX0 (k + 1) fS fdS ["_law_states", "_law_moves_here"] spSilL := ok_sl FS ml mt ms' mso
  refine F.ok scDl (fun vs H Q E h => ?_) (fun cdv A outer s H vs Q E hr h => ?_)
  · obtain ⟨b, m, e, ms, mv, n, S0, ends, UL, rfl, _⟩ := h
    rfl
  · obtain ⟨b, m, e, ms, mv, n, S0, ends, UL, rfl, hb, hm, he, hn, hml, hSl, hel, hsl, hU', hUl, hUs, q⟩ := h
    have hu := hu_of hr
    have hu65 : (A.deeper (envOfC "_law_determined" (defScope sDl) s.heap.objs.size f cdv)).units + 65 < cLine := by
      have := hr.un
      omega
    refine ⟨_, pss_cons (ps_asg (pe_tup (pa_cons (pe_lst (pa_cons (pe_call GS hr (by rfl) gS FS.kp bS .nil pass0 (pa_cons (pv 1) (pa_cons (pv 2) pa_nil))) pa_nil)) (pa_cons (pe_lst pa_nil) pa_nil))) (pg_tup rfl (pgs_cons (pg_name (i := 4) scDl.nd rfl (.inr rfl)) (pgs_cons (pg_name (i := 5) scDl.nd rfl (.inr rfl)) pgs_nil))))
      (pss_cons (ps_while PassesOwn.never (pt_cmpR op_lt (pe_callB call_len_seq (by rfl) ml bLen (pa_cons (pv 5) pa_nil)) (pe_callB call_len_seq (by rfl) ml bLen (pa_cons (pv 4) pa_nil)) (nomark _))
        (pss_cons (ps_set (i := 6) scDl.nd rfl (.inl rfl) (pe_lst pa_nil))
        (pss_cons (ps_for PassesOwn.never rfl (pi_range1 (by rfl) mr (pa_cons (pv 0) pa_nil)) (pg_name (i := 7) scDl.nd rfl (.inr rfl))
          (pss_cons (ps_setLc (i := 8) (own := [("_law_one", 10), ("_law_place", 11), ("_law_there", 12)]) (g := gTup K 3 (gCons (gName 10) (gCons (gName 11) (gCons (gName 12) gNil))))
              (tt := tAnd (tTest (tOp rEq (tVar 11) (tVar 7))) (tTest (tOp (rIn K false) (tVar 10) (tOp (rIxL K) (tVar 4) (tCB (fun xs H Q => ∃ p ys, xs = [V.ref p] ∧ (SqL K H p ys ∨ SqT K H p ys) ∧ Q (V.int (ys.length : Nat)) H) (tCons (tVar 5) tNil)))))) (te := tVar 12) rfl scDl.nd rfl rfl (sw_true rfl rfl rfl (by decide +kernel))
              (pi_list (pv 2)) (blkOk_by (own := [("_law_one", 10), ("_law_place", 11), ("_law_there", 12)]) (N := nDl) (sc := defScope sDl) (by decide +kernel))
              (fun _ _ _ _ _ => pg_tup rfl (pgs_cons (pg_name (i := 10) scDl.nd rfl (Or.inl rfl)) (pgs_cons (pg_name (i := 11) scDl.nd rfl (Or.inl rfl)) (pgs_cons (pg_name (i := 12) scDl.nd rfl (Or.inl rfl)) pgs_nil))))
              (fun _ _ _ _ _ => pts_one (pw_and (pt_cmpR op_eq (pv 11) (pv 7) (nomark _)) (pw_and1 (pt_cmpR op_in_seq (pv 10) (pe_ix ix_list (pv 4) (pe_callB call_len_seq (by rfl) ml bLen (pa_cons (pv 5) pa_nil)) (fun _ _ => rfl)) rfl))).pt) (fun _ _ _ _ _ => pv 12))
          (pss_cons (ps_set (i := 9) scDl.nd rfl (.inl rfl) (pe_call GS hr (by rfl) gS FS.kp bS .nil pass0 (pa_cons (pv 8) (pa_cons (pv 2) pa_nil))))
          (pss_cons (ps_if (pt_cmpR (op_notInD hu65) (pv 9) (pv 4) rfl) (pss_one (ps_expr (pe_bm PySem.F.plainAttrs_list PySem.F.slot_list_append PySem.F.type_list_append mt_append (pv 4) (pa_cons (pv 9) pa_nil)))) pss_nil)
          (pss_one (ps_expr (pe_bm PySem.F.plainAttrs_list PySem.F.slot_list_append PySem.F.type_list_append mt_append (pv 6) (pa_cons (pe_bm PySem.F.plainAttrs_list PySem.F.slot_list_index PySem.F.type_list_index (mt_indexD hu65) (pv 4) (pa_cons (pv 9) pa_nil)) pa_nil))))))))
        (pss_one (ps_expr (pe_bm PySem.F.plainAttrs_list PySem.F.slot_list_append PySem.F.type_list_append mt_append (pv 5) (pa_cons (pv 6) pa_nil)))))))
      (pss_one (ps_ret (pe_tup (pa_cons (pv 5) (pa_cons (pe_lc (own := [("_law_k", 7)]) (g := gName 7)
          (tt := tTest (tOp (rNeD K) (tLc (iTup K (tOp (rIxL K) (tVar 4) (tVar 7))) (gName 13) (tTest (tOp (rIn K false) (tVar 13) (tVar 3))) (tVar 13) [13]) (tLst tNil))) (te := tVar 7) rfl scDl.nd (pi_range1 (by rfl) mr (pa_cons (pe_callB call_len_seq (by rfl) ml bLen (pa_cons (pv 4) pa_nil)) pa_nil)) (blkOk_by (own := [("_law_k", 7)]) (N := nDl) (sc := defScope sDl) (by decide +kernel))
          (fun _ _ _ _ _ => pg_name (i := 7) scDl.nd rfl (Or.inl rfl))
          (fun _ _ _ _ _ => pts_one (pt_cmpR (op_neD hr.units) (pe_lc (own := [("_law_state", 13)]) (g := gName 13) (tt := tTest (tOp (rIn K false) (tVar 13) (tVar 3))) rfl scDl.nd (pi_tup (pe_ix ix_list (pv 4) (pv 7) (fun _ _ => rfl))) (blkOk_by (own := [("_law_state", 13)]) (N := nDl) (sc := relS scDlOut (defScope sDl)) (by decide +kernel))
            (fun _ _ _ _ _ => pg_name (i := 13) scDl.nd rfl (Or.inl rfl)) (fun _ _ _ _ _ => pts_one (pt_cmpR op_in_seq (pv 13) (pv 3) rfl)) (fun _ _ _ _ _ => pv 13)) (pe_lst pa_nil) (nomark _)))
          (fun _ _ _ _ _ => pv 7)) pa_nil)))))), ?_⟩
    -- found, rows = [silent(..)], []
    refine ⟨_, rfl, _, rfl, b, m, ms, S0, mv, rfl, hb, hm, by omega, by omega, hsl, fun H4 t0 T0 s4 nt0 ht0 hT0 => ?_⟩
    have eT0 : T0 = silF mv fun x => x ∈ S0 := hT0.eq
    have hT0s : T0 ∈ UL := by rw [eT0]; exact hU'.zero
    refine ⟨by show 1 ≤ sizeLine; decide, fun pf npf => ?_⟩
    refine ⟨by show 0 ≤ sizeLine; decide, fun pw npw => ?_⟩
    refine ⟨by show 2 ≤ sizeLine; decide, fun tq ntq => ?_⟩
    refine ⟨tq, _, rfl, SqT.of upd_same, rfl, _, _, rfl, _, _, rfl, rfl, ?_⟩
    have s5 : Same H4 (upd (upd (upd H4 pf (.lst [.ref t0])) pw (.lst [])) tq (.tup [.ref pf, .ref pw])) := ((same_new npf).trans (same_new npw)).trans (same_new ntq)
    have hf5 : (upd (upd (upd H4 pf (.lst [.ref t0])) pw (.lst [])) tq (.tup [.ref pf, .ref pw])) pf = some (.lst ([t0].map V.ref)) := same_new ntq _ _ (same_new npw _ _ upd_same)
    have hw5 : (upd (upd (upd H4 pf (.lst [.ref t0])) pw (.lst [])) tq (.tup [.ref pf, .ref pw])) pw = some (.lst []) := same_new ntq _ _ upd_same
    have nfw : pf ≠ pw := ne_of_none (upd_same (H := H4) (a := pf) (o := .lst [.ref t0])) npw
    have npw4 : H4 pw = none := (same_new npf).free npw
    generalize (upd (upd (upd H4 pf (.lst [.ref t0])) pw (.lst [])) tq (.tup [.ref pf, .ref pw])) = H5 at s5 hf5 hw5
    have npf0 : H pf = none := s4.free npf
    have npw0 : H pw = none := s4.free npw4
    have hW0 : SetU mv n UL T0 [T0] [] := ⟨by simp, fun T hT => by rw [List.mem_singleton] at hT; rw [hT]; exact hT0s, rfl, by simp, fun i hi => absurd hi (Nat.not_lt_zero _), fun i T hi => absurd hi (Nat.not_lt_zero _)⟩
    refine ⟨fun k' σ H8 => ∃ (F R : List (List Nat)) (ts xs : List Addr) (y6 y7 y8 y9 : Option V), k' = 2000 - R.length ∧ σ = [some (nV n), some (.ref b), some (.ref m), some (.ref e), some (.ref pf), some (.ref pw), y6, y7, y8, y9, none, none, none, none] ∧ Same H H8 ∧ H8 pf = some (.lst (ts.map V.ref)) ∧ TupsAt H8 ts F ∧ RowsAt H8 pw xs R ∧ (∀ x ∈ xs, x ≠ pf ∧ x ≠ pw) ∧ SetU mv n UL T0 F R,
      ⟨_, [T0], [], [t0], [], none, none, none, none, rfl, rfl, s4.trans s5, hf5, .cons (s5 _ _ ht0) .nil, ⟨hw5, rfl, fun i x hx => by simp at hx⟩, (fun x hx => nomatch hx), hW0⟩, ?_⟩
    clear hW0 hw5 hf5 s5 npf npw ntq ht0 nt0 s4 npw4
    rintro k' σ H8 ⟨F, R, ts, xs, y6, y7, y8, y9, rfl, rfl, s8, hf8, hts8, hw8, hxn, hW⟩
    have hFl : F.length ≤ 2000 := Nat.le_trans hW.le hUl
    have hRl := hW.len
    have htl := hts8.len
    have hxl := hw8.len
    refine ⟨_, rfl, pw, _, rfl, .inl (SqL.of hw8.at_), _, rfl, pf, _, rfl, .inl (SqL.of hf8), _, _, rfl, rfl, _, rfl, ite2 (fun ei => ?_) (fun ei => ?_)⟩
    · have hlt : R.length < F.length := by
        have := of_decide_eq_true ei
        rw [List.length_map, List.length_map] at this
        omega
      clear ei
      have hT : F[R.length]? = some F[R.length] := List.getElem?_eq_getElem hlt
      generalize F[R.length] = T at hT
      have hTm : T ∈ F := List.mem_of_getElem? hT
      refine ⟨fun σ' H' => ∃ (F' R' : List (List Nat)) (ts' xs' : List Addr) (y6 y7 y8 y9 : Option V), R'.length = R.length + 1 ∧ σ' = [some (nV n), some (.ref b), some (.ref m), some (.ref e), some (.ref pf), some (.ref pw), y6, y7, y8, y9, none, none, none, none] ∧ Same H H' ∧ H' pf = some (.lst (ts'.map V.ref)) ∧ TupsAt H' ts' F' ∧ RowsAt H' pw xs' R' ∧ (∀ x ∈ xs', x ≠ pf ∧ x ≠ pw) ∧ SetU mv n UL T0 F' R', ?_, ?_⟩
      · rintro σ' H' ⟨F', R', ts', xs', z6, z7, z8, z9, hl', rfl, s', hf', hts', hw', hxn', hW'⟩
        exact ⟨2000 - R'.length, by omega, F', R', ts', xs', z6, z7, z8, z9, rfl, rfl, s', hf', hts', hw', hxn', hW'⟩
      · -- row = []
        refine ⟨by show 0 ≤ sizeLine; decide, fun pv npv => ?_⟩
        have s9 : Same H8 (upd H8 pv (.lst [])) := same_new npv
        have hv9 : (upd H8 pv (.lst [])) pv = some (.lst (nVs [])) := upd_same
        generalize (upd H8 pv (.lst [])) = H9 at s9 hv9
        have nvf : pv ≠ pf := (ne_of_none hf8 npv).symm
        have nvw : pv ≠ pw := (ne_of_none hw8.at_ npv).symm
        have nv0 : H pv = none := s8.free npv
        have nvx : ∀ x ∈ xs, x ≠ pv := fun x hx => by
          obtain ⟨i, hi, e'⟩ := List.mem_iff_getElem.mp hx
          have h1 := hw8.row i x (by rw [List.getElem?_eq_getElem hi, e'])
          exact ne_of_none h1 npv
        refine ⟨_, rfl, (n : Int), rfl, by omega, by omega, ?_⟩
        refine for_range (n := (n : Int).toNat) (fun i σ H10 => ∃ (F1 : List (List Nat)) (row : List Nat) (ts' : List Addr) (y7 y8 y9 : Option V), σ = [some (nV n), some (.ref b), some (.ref m), some (.ref e), some (.ref pf), some (.ref pw), some (.ref pv), y7, y8, y9, none, none, none, none] ∧ Same H H10 ∧ H10 pf = some (.lst (ts'.map V.ref)) ∧ TupsAt H10 ts' F1 ∧ RowsAt H10 pw xs R ∧ H10 pv = some (.lst (nVs row)) ∧
            (∃ Z, F1 = F ++ Z) ∧ F1.Nodup ∧ (∀ S ∈ F1, S ∈ UL) ∧ row.length = i ∧ ∀ c, c < i → F1[row.getD c 0]? = some (nxS mv T c))
          ⟨F, [], ts, y7, y8, y9, rfl, s8.trans s9, s9 _ _ hf8, hts8.same s9, hw8.same s9, hv9, ⟨[], by simp⟩, hW.nd, hW.sub, rfl, fun c hc => absurd hc (Nat.not_lt_zero c)⟩ ?_ ?_
        · rintro i σ H10 hi ⟨F1, row, ts', z7, z8, z9, rfl, s10, hf10, hts10, hw10, hv10, hpre, hnd, hsub, hrl, hrow⟩
          have hi' : i < n := by omega
          have hT1 : F1[R.length]? = some T := by
            obtain ⟨Z, rfl⟩ := hpre
            rw [List.getElem?_append_left hlt]
            exact hT
          obtain ⟨tT, htT, hTt⟩ := hts10.get hT1
          have hF1l : F1.length ≤ 2000 := Nat.le_trans (length_le_of_sub hnd hsub) hUl
          have htl1 := hts10.len
          -- led
          refine ⟨_, rfl, m, rfl, ⟨_, SqL.of (s10 _ _ hm.1)⟩, fun D1 nD1 => ?_⟩
          refine lc_list (K := K) (a := m) (xs := ms.map V.ref) (fun j H11 => Same H10 H11 ∧ H11 D1 = some (.lst (nVs (((mv.take j).filter fun x => decide (x.2.1 = (i : Int) ∧ x.1 ∈ T)).map fun x => x.2.2)))) ⟨same_new nD1, by rw [upd_same]; rfl⟩ (fun j H11 _ ⟨s11, _⟩ => SqL.of (s11 _ _ (s10 _ _ hm.1))) ?_ ?_
          · rintro j v H11 hj ⟨s11, hD1⟩
            rw [List.getElem?_map] at hj
            obtain ⟨t, ht, rfl⟩ := Option.map_eq_some_iff.mp hj
            obtain ⟨x, hx, htx⟩ := Rg.paired_get hm.2 ht
            have hjl := (List.getElem?_eq_some_iff.mp hx).1
            have hfl := List.length_filter_le (fun x : Mv => decide (x.2.1 = (i : Int) ∧ x.1 ∈ T)) (mv.take j)
            rw [List.length_take] at hfl
            refine ⟨t, _, rfl, SqT.of (s11 _ _ (s10 _ _ htx)), rfl, _, _, rfl, _, _, rfl, _, _, rfl, rfl, rfl, ?_⟩
            rw [take_snoc hx, filter_snoc, List.map_append]
            refine ⟨_, rfl, _, rfl, rfl, _, rfl, ?_⟩
            by_cases h1 : x.2.1 = (i : Int)
            · have e1 : decide (V.int x.2.1 = V.int (0 + (i : Int))) = true := decide_eq_true (by rw [h1, Int.zero_add])
              rw [e1]
              refine ⟨_, rfl, _, rfl, _, rfl, pw, _, rfl, .inl (SqL.of (s11 _ _ hw10.at_)), pf, _, _, _, rfl, rfl, SqL.of (s11 _ _ hf10), atI_nat (by rw [List.length_map, hxl, List.getElem?_map, htT]; rfl), tT, _, rfl, .inr (SqT.of (s11 _ _ hTt)), rfl, flat_nVs _, _, rfl, ?_⟩
              rw [if_neg Bool.false_ne_true, inV_nVs]
              by_cases h2 : x.1 ∈ T
              · rw [decide_eq_true h2, decide_eq_true ⟨h1, h2⟩]
                refine ⟨_, rfl, _, hD1, by rw [nVs_len, List.length_map]; exact szBig (by omega), ?_, ?_⟩
                · intro c o ec
                  rw [upd_ne (ne_of_none ec nD1)]
                  exact s11 _ _ ec
                · rw [upd_same, if_pos rfl]
                  exact congrArg (fun z => some (HO.lst z)) (nVs_snoc _ _).symm
              · rw [decide_eq_false h2, decide_eq_false (fun z => h2 z.2)]
                refine ⟨s11, ?_⟩
                rw [if_neg Bool.false_ne_true, List.map_nil, List.append_nil]
                exact hD1
            · have e1 : decide (V.int x.2.1 = V.int (0 + (i : Int))) = false := decide_eq_false (fun z => h1 (by rw [Int.zero_add] at z; exact V.int.inj z))
              rw [e1, decide_eq_false (fun z => h1 z.1)]
              refine ⟨s11, ?_⟩
              rw [if_neg Bool.false_ne_true, List.map_nil, List.append_nil]
              exact hD1
          rintro H11 ⟨s11, hD1⟩
          rw [List.length_map, paired_length hm.2, List.take_length] at hD1
          have hXl := Nat.le_trans (filter_flat_le mv (i : Int) T) ((hUs T (hW.sub T hTm)).2 i (by omega))
          have hXm : ∀ z, z ∈ ((mv.filter fun x => decide (x.2.1 = (i : Int) ∧ x.1 ∈ T)).map fun x => x.2.2) ↔ Led mv T i z := fun z => by
            rw [List.mem_map]
            constructor
            · rintro ⟨x, hx, rfl⟩
              obtain ⟨h1, h2⟩ := List.mem_filter.mp hx
              obtain ⟨h3, h4⟩ := of_decide_eq_true h2
              exact ⟨x.1, h4, by rw [← h3]; exact h1⟩
            · rintro ⟨y, hy, hz⟩
              exact ⟨_, List.mem_filter.mpr ⟨hz, decide_eq_true ⟨rfl, hy⟩⟩, rfl⟩
          -- later
          refine ⟨_, rfl, _, rfl, D1, m, ms, _, mv, rfl, hD1, (hm.same s10).same s11, by rw [List.length_map]; omega, by omega, hsl, fun H12 t U s12 nt ht hU => ?_⟩
          have eU : U = nxS mv T i := hU.eq' hXm
          have hUU : U ∈ UL := by rw [eU]; exact hU'.step T (hW.sub T hTm) i (by omega)
          have s1012 := s11.trans s12
          have hf12 := s1012 _ _ hf10
          have hts12 := hts10.same s1012
          have hw12 := hw10.same s1012
          have hv12 := s1012 _ _ hv10
          have s012 := s10.trans s1012
          clear hD1 hXm hXl
          have fin : ∀ (F2 : List (List Nat)) (ts2 : List Addr) (H13 : Hp), Same H H13 → H13 pf = some (.lst (ts2.map V.ref)) → TupsAt H13 ts2 F2 → RowsAt H13 pw xs R → H13 pv = some (.lst (nVs row)) → H13 t = some (.tup (nVs U)) → (∃ Z, F2 = F1 ++ Z) → F2.Nodup → (∀ S ∈ F2, S ∈ UL) → U ∈ F2 →
              (∃ Z, F2 = F ++ Z) ∧ F2.Nodup ∧ (∀ S ∈ F2, S ∈ UL) ∧ (row ++ [F2.idxOf U]).length = i + 1 ∧ ∀ c, c < i + 1 → F2[(row ++ [F2.idxOf U]).getD c 0]? = some (nxS mv T c) := by
            intro F2 ts2 H13 _ _ _ _ _ _ hpre2 hnd2 hsub2 hUF
            obtain ⟨Z1, rfl⟩ := hpre
            obtain ⟨Z2, rfl⟩ := hpre2
            refine ⟨⟨Z1 ++ Z2, by rw [List.append_assoc]⟩, hnd2, hsub2, by rw [List.length_append, List.length_singleton, hrl], fun c hc => ?_⟩
            by_cases ec : c < i
            · have h1 := hrow c ec
              have e2 : (row ++ [List.idxOf U (F ++ Z1 ++ Z2)]).getD c 0 = row.getD c 0 := by
                rw [List.getD_eq_getElem?_getD, List.getD_eq_getElem?_getD, List.getElem?_append_left (by omega)]
              rw [e2, List.getElem?_append_left (List.getElem?_eq_some_iff.mp h1).1]
              exact h1
            · have e3 : c = row.length := by omega
              have e2 : (row ++ [List.idxOf U (F ++ Z1 ++ Z2)]).getD c 0 = List.idxOf U (F ++ Z1 ++ Z2) := by
                rw [e3, List.getD_eq_getElem?_getD, List.getElem?_concat_length]
                rfl
              have e4 : c = i := by omega
              rw [e2, List.getElem?_eq_getElem (List.idxOf_lt_length_iff.mpr hUF), List.getElem_idxOf, e4, eU]
          refine ⟨_, rfl, _, rfl, dTu U, F1.map dTu, dp_tup ht, .lst (SqL.of hf12) (dpAll_tups hts12), shp_dTu U, shp_dTus F1, _, rfl, ?_⟩
          rw [any_dTu]
          by_cases hin : U ∈ F1
          · rw [decide_eq_true hin]
            obtain ⟨g1, g2, g3, g4, g5⟩ := fin F1 ts' H12 s012 hf12 hts12 hw12 hv12 ht ⟨[], by simp⟩ hnd hsub hin
            have hidx := List.idxOf_lt_length_iff.mpr hin
            have hno : ∀ (m' : Nat) (z' : PyData), m' < F1.idxOf U → (F1.map dTu)[m']? = some z' → PyData.eqv z' (dTu U) = false := fun m' z' hm' hz' => by
              rw [List.getElem?_map, List.getElem?_eq_getElem (by omega)] at hz'
              cases hz'
              rw [eqv_dTu]
              refine decide_eq_false fun z => ?_
              have h1 := idxOf_nodup hnd (show m' < F1.length by omega)
              rw [z] at h1
              omega
            refine ⟨_, rfl, .inl ⟨rfl, _, SqL.of hv12⟩, _, rfl, .inl ⟨rfl, _, SqL.of hf12⟩, _, rfl, pf, .ref t, dTu U, F1.map dTu, F1.idxOf U, dTu U, rfl, rfl, .lst (SqL.of hf12) (dpAll_tups hts12), dp_tup ht, shp_dTus _, shp_dTu U, by rw [List.getElem?_map, List.getElem?_eq_getElem hidx, List.getElem_idxOf]; rfl, by rw [eqv_dTu]; exact decide_eq_true rfl, hno, pv, _, _, rfl, rfl, hv12, by rw [nVs_len]; exact szBig (by omega), ?_⟩
            refine ⟨F1, row ++ [F1.idxOf U], ts', _, _, _, rfl, ?_, ?_, ?_, ?_, ?_, g1, g2, g3, g4, g5⟩
            · intro c o ec
              rw [upd_ne (ne_of_none ec nv0)]
              exact s012 _ _ ec
            · rw [upd_ne nvf.symm]
              exact hf12
            · exact TupsAt.upd_lst hts12 (fun xs z => by rw [hv12] at z; cases z)
            · exact ⟨by rw [upd_ne nvw.symm]; exact hw12.at_, hw12.len, fun i x hx => by rw [upd_ne (nvx x (List.mem_of_getElem? hx))]; exact hw12.row i x hx⟩
            · rw [upd_same, nVs_snoc]
              rfl
          · rw [decide_eq_false hin]
            have hf13 : (upd H12 pf (.lst (ts'.map V.ref ++ [.ref t]))) pf = some (.lst ((ts' ++ [t]).map V.ref)) := by
              rw [upd_same, List.map_append]
              rfl
            have hts13 : TupsAt (upd H12 pf (.lst (ts'.map V.ref ++ [.ref t]))) (ts' ++ [t]) (F1 ++ [U]) := TupsAt.upd_lst (paired_snoc hts12 ht) (fun xs z => by rw [hf12] at z; cases z)
            have hw13 : RowsAt (upd H12 pf (.lst (ts'.map V.ref ++ [.ref t]))) pw xs R := ⟨by rw [upd_ne nfw.symm]; exact hw12.at_, hw12.len, fun i x hx => by rw [upd_ne (hxn x (List.mem_of_getElem? hx)).1]; exact hw12.row i x hx⟩
            have hv13 : (upd H12 pf (.lst (ts'.map V.ref ++ [.ref t]))) pv = some (.lst (nVs row)) := by
              rw [upd_ne nvf]
              exact hv12
            have ht13 : (upd H12 pf (.lst (ts'.map V.ref ++ [.ref t]))) t = some (.tup (nVs U)) := by
              rw [upd_ne (ne_of ht hf12 (fun z => by cases z))]
              exact ht
            have s013 : Same H (upd H12 pf (.lst (ts'.map V.ref ++ [.ref t]))) := fun c o ec => by
              rw [upd_ne (ne_of_none ec npf0)]
              exact s012 _ _ ec
            refine ⟨_, rfl, .inl ⟨rfl, _, SqL.of hf12⟩, _, rfl, pf, _, _, rfl, rfl, hf12, by rw [List.length_map]; exact szBig (by omega), ?_⟩
            generalize (upd H12 pf (.lst (ts'.map V.ref ++ [.ref t]))) = H13 at hf13 hts13 hw13 hv13 ht13 s013
            have hnd2 : (F1 ++ [U]).Nodup := by
              have := push_nodup (s := U) hnd
              rwa [push_new hin] at this
            have hsub2 : ∀ S ∈ F1 ++ [U], S ∈ UL := fun S hS => by
              rcases List.mem_append.mp hS with z | z
              · exact hsub S z
              · rw [List.mem_singleton] at z
                rw [z]
                exact hUU
            have hUF : U ∈ F1 ++ [U] := List.mem_append_right _ (List.mem_singleton.mpr rfl)
            obtain ⟨g1, g2, g3, g4, g5⟩ := fin (F1 ++ [U]) (ts' ++ [t]) H13 s013 hf13 hts13 hw13 hv13 ht13 ⟨[U], rfl⟩ hnd2 hsub2 hUF
            have hidx := List.idxOf_lt_length_iff.mpr hUF
            have hno : ∀ (m' : Nat) (z' : PyData), m' < (F1 ++ [U]).idxOf U → ((F1 ++ [U]).map dTu)[m']? = some z' → PyData.eqv z' (dTu U) = false := fun m' z' hm' hz' => by
              rw [List.getElem?_map, List.getElem?_eq_getElem (by omega)] at hz'
              cases hz'
              rw [eqv_dTu]
              refine decide_eq_false fun z => ?_
              have h1 := idxOf_nodup hnd2 (show m' < (F1 ++ [U]).length by omega)
              rw [z] at h1
              omega
            refine ⟨_, rfl, .inl ⟨rfl, _, SqL.of hv13⟩, _, rfl, .inl ⟨rfl, _, SqL.of hf13⟩, _, rfl, pf, .ref t, dTu U, (F1 ++ [U]).map dTu, (F1 ++ [U]).idxOf U, dTu U, rfl, rfl, .lst (SqL.of hf13) (dpAll_tups hts13), dp_tup ht13, shp_dTus _, shp_dTu U, by rw [List.getElem?_map, List.getElem?_eq_getElem hidx, List.getElem_idxOf]; rfl, by rw [eqv_dTu]; exact decide_eq_true rfl, hno, pv, _, _, rfl, rfl, hv13, by rw [nVs_len]; exact szBig (by omega), ?_⟩
            refine ⟨(F1 ++ [U]), row ++ [(F1 ++ [U]).idxOf U], (ts' ++ [t]), _, _, _, rfl, ?_, ?_, ?_, ?_, ?_, g1, g2, g3, g4, g5⟩
            · intro c o ec
              rw [upd_ne (ne_of_none ec nv0)]
              exact s013 _ _ ec
            · rw [upd_ne nvf.symm]
              exact hf13
            · exact TupsAt.upd_lst hts13 (fun xs z => by rw [hv13] at z; cases z)
            · exact ⟨by rw [upd_ne nvw.symm]; exact hw13.at_, hw13.len, fun i x hx => by rw [upd_ne (nvx x (List.mem_of_getElem? hx))]; exact hw13.row i x hx⟩
            · rw [upd_same, nVs_snoc]
              rfl
        · rintro σ H10 ⟨F1, row, ts', z7, z8, z9, rfl, s10, hf10, hts10, hw10, hv10, hpre, hnd, hsub, hrl, hrow⟩
          rw [Int.toNat_natCast] at hrl hrow
          refine ⟨_, rfl, .inl ⟨rfl, _, SqL.of hw10.at_⟩, _, rfl, pw, _, _, rfl, rfl, hw10.at_, by rw [List.length_map]; exact szBig (by omega), ?_⟩
          refine ⟨F1, R ++ [row], ts', xs ++ [pv], _, _, _, _, by rw [List.length_append, List.length_singleton], rfl, ?_, ?_, ?_, ?_, ?_, hW.step hT hpre hnd hsub hrl hrow⟩
          · intro c o ec
            rw [upd_ne (ne_of_none ec npw0)]
            exact s10 _ _ ec
          · rw [upd_ne nfw]
            exact hf10
          · exact TupsAt.upd_lst hts10 (fun xs z => by rw [hw10.at_] at z; cases z)
          · refine RowsAt.snoc hw10 upd_same (by rw [upd_ne nvw]; exact hv10) (fun x hx o ex => ?_)
            rw [upd_ne (hxn x hx).2]
            exact ex
          · intro x hx
            rcases List.mem_append.mp hx with z | z
            · exact hxn x z
            · rw [List.mem_singleton] at z
              rw [z]
              exact ⟨nvf, nvw⟩
    · have hle : F.length ≤ R.length := by
        have := of_decide_eq_false (Bool.eq_false_iff.mpr ei)
        rw [List.length_map, List.length_map] at this
        omega
      clear ei
      have he8 := s8 _ _ he
      -- return
      refine ⟨_, rfl, _, rfl, pf, _, rfl, .inl (SqL.of hf8), _, rfl, ?_, ?_, fun D3 nD3 => ?_⟩
      · rw [List.length_map]
        omega
      · rw [List.length_map]
        omega
      refine lc_range (n := ((ts.map V.ref).length : Int).toNat) (fun i H10 => Same H8 H10 ∧ H10 D3 = some (.lst (nVs ((List.range i).filter fun j => (F.getD j []).any fun s => decide (s ∈ ends))))) ⟨same_new nD3, by rw [upd_same]; rfl⟩ ?_ ?_
      · rintro i H10 hi ⟨s10, hD3⟩
        have hil : i < F.length := by
          rw [List.length_map] at hi
          omega
        have hT : F[i]? = some F[i] := List.getElem?_eq_getElem hil
        generalize F[i] = T at hT
        obtain ⟨t, ht, hTt⟩ := hts8.get hT
        have hTl : T.length ≤ 60 := (hUs T (hW.sub T (List.mem_of_getElem? hT))).1
        refine ⟨rfl, ?_⟩
        refine ⟨_, rfl, _, rfl, pf, _, _, _, rfl, rfl, SqL.of (s10 _ _ hf8), atI_zero_add (by rw [List.getElem?_map, ht]; rfl), t, rfl, ⟨_, SqT.of (s10 _ _ hTt)⟩, fun D4 nD4 => ?_⟩
        refine lc_tup (K := K) (a := t) (xs := nVs T) (fun l H11 => Same H10 H11 ∧ H11 D4 = some (.lst (nVs ((T.take l).filter fun s => decide (s ∈ ends))))) ⟨same_new nD4, by rw [upd_same]; rfl⟩ (fun l H11 _ ⟨s11, _⟩ => SqT.of (s11 _ _ (s10 _ _ hTt))) ?_ ?_
        · rintro l v H11 hl ⟨s11, hD4⟩
          obtain ⟨x, rfl, hx⟩ := nVs_at hl
          have hll := (List.getElem?_eq_some_iff.mp hx).1
          refine ⟨rfl, ?_⟩
          refine ⟨_, rfl, _, rfl, e, _, rfl, .inl (SqL.of (s11 _ _ (s10 _ _ he8))), rfl, flat_nVs _, _, rfl, ?_⟩
          rw [if_neg Bool.false_ne_true, inV_nVs, take_snoc hx, filter_snoc]
          have hfl := List.length_filter_le (fun s => decide (s ∈ ends)) (T.take l)
          rw [List.length_take] at hfl
          by_cases h2 : x ∈ ends
          · rw [decide_eq_true h2]
            refine ⟨_, rfl, _, hD4, by rw [nVs_len]; exact szBig (by omega), ?_, ?_⟩
            · intro c o ec
              rw [upd_ne (ne_of_none ec nD4)]
              exact s11 _ _ ec
            · rw [upd_same, if_pos rfl, nVs_snoc]
          · rw [decide_eq_false h2]
            refine ⟨s11, ?_⟩
            rw [if_neg Bool.false_ne_true, List.append_nil]
            exact hD4
        rintro H11 ⟨s11, hD4⟩
        rw [nVs_len, List.take_length] at hD4
        refine ⟨by show 0 ≤ sizeLine; decide, fun e0 ne0 => ?_⟩
        have s12 : Same H11 (upd H11 e0 (.lst [])) := same_new ne0
        have he12 : (upd H11 e0 (.lst [])) e0 = some (.lst []) := upd_same
        generalize (upd H11 e0 (.lst [])) = H12 at s12 he12
        refine ⟨dNs (T.filter fun s => decide (s ∈ ends)), .list [], dp_nVs (s12 _ _ hD4), .lst (SqL.of he12) .nil, shp_dNs _, shp_nil, _, rfl, ?_⟩
        have eA : (!PyData.eqv (dNs (T.filter fun s => decide (s ∈ ends))) (.list [])) = (F.getD i []).any fun s => decide (s ∈ ends) := by
          rw [eqv_dNs_nil, List.getD_eq_getElem?_getD, hT]
          show (!decide (T.filter (fun s => decide (s ∈ ends)) = [])) = T.any fun s => decide (s ∈ ends)
          cases hA : T.any fun s => decide (s ∈ ends) with
          | true =>
            obtain ⟨x, hx, h3⟩ := List.any_eq_true.mp hA
            rw [decide_eq_false]
            · rfl
            · intro z
              have := List.mem_filter (p := fun s => decide (s ∈ ends)).mpr ⟨hx, h3⟩
              rw [z] at this
              cases this
          | false =>
            rw [decide_eq_true]
            · rfl
            · refine List.filter_eq_nil_iff.mpr fun x hx h3 => ?_
              have := List.any_eq_true (p := fun s => decide (s ∈ ends)).mpr ⟨x, hx, h3⟩
              rw [hA] at this
              cases this
        rw [eA, List.range_succ, filter_snoc]
        have hfl := List.length_filter_le (fun j => (F.getD j []).any fun s => decide (s ∈ ends)) (List.range i)
        rw [List.length_range] at hfl
        have s1012 := s11.trans s12
        cases hA : (F.getD i []).any fun s => decide (s ∈ ends) with
        | true =>
          refine ⟨_, rfl, _, s1012 _ _ hD3, by rw [nVs_len]; exact szBig (by omega), ?_, ?_⟩
          · intro c o ec
            rw [upd_ne (ne_of_none ec nD3)]
            exact s1012 _ _ (s10 _ _ ec)
          · rw [upd_same, if_pos rfl, nVs_snoc, Int.zero_add]
            rfl
        | false =>
          refine ⟨s10.trans s1012, ?_⟩
          rw [if_neg Bool.false_ne_true, List.append_nil]
          exact s1012 _ _ hD3
      rintro H10 ⟨s10, hD3⟩
      rw [List.length_map, Int.toNat_natCast, htl] at hD3
      have hEm : ∀ j T, F[j]? = some T → (j ∈ ((List.range F.length).filter fun j => (F.getD j []).any fun s => decide (s ∈ ends)) ↔ Meets T ends) := fun j T hT => by
        rw [List.mem_filter, List.mem_range, List.getD_eq_getElem?_getD, hT]
        constructor
        · rintro ⟨_, h2⟩
          obtain ⟨x, hx, h3⟩ := List.any_eq_true.mp h2
          exact ⟨x, hx, of_decide_eq_true h3⟩
        · rintro ⟨x, hx, h3⟩
          exact ⟨(List.getElem?_eq_some_iff.mp hT).1, List.any_eq_true.mpr ⟨x, hx, decide_eq_true h3⟩⟩
      have hEl := List.length_filter_le (fun j => (F.getD j []).any fun s => decide (s ∈ ends)) (List.range F.length)
      rw [List.length_range] at hEl
      have hacc := hW.acc hle hEm
      have hF0 : 0 < F.length := (List.getElem?_eq_some_iff.mp hW.zero).1
      generalize ((List.range F.length).filter fun j => (F.getD j []).any fun s => decide (s ∈ ends)) = EE at hD3 hEl hacc
      refine ⟨by show 2 ≤ sizeLine; decide, fun pt nt => ?_⟩
      have s11 : Same H10 (upd H10 pt (.tup [.ref pw, .ref D3])) := same_new nt
      refine q _ pt pw D3 xs R EE ((s8.trans s10).trans s11) upd_same ((hw8.same s10).same s11) (s11 _ _ hD3) (hW.mok hle) (by omega) (by have := hW.le; omega) (by have := hW.le; omega) (fun w' hw' => ?_)
      rw [← eT0]
      exact hacc w' hw'
end
end K16

namespace K16
open PySem PySem.Spec PyProof.Rows L2 Rg Mach
abbrev sLMv : Stmt := topS 51
def nLMv : List Str := ["_law_machine_here", "_law_begin", "_law_found", "_law_state", "_law_row", "_law_k"]
theorem scLMv : FnScope nLMv ["_law_machine_here", "_law_begin"] (defScope sLMv) := ⟨rfl, rfl, rfl, by decide +kernel, rfl, by decide +kernel, by decide +kernel⟩
abbrev sLJ : Stmt := topS 52
def nLJ : List Str := ["_law_wide", "_law_one", "_law_other", "_law_many", "_law_moves_here", "_law_found", "_law_state"]
theorem scLJ : FnScope nLJ ["_law_wide", "_law_one", "_law_other"] (defScope sLJ) := ⟨rfl, rfl, rfl, by decide +kernel, rfl, by decide +kernel, by decide +kernel⟩
abbrev sLR : Stmt := topS 53
def nLR : List Str := ["_law_wide", "_law_one", "_law_many", "_law_moves_here", "_law_found", "_law_state"]
theorem scLR : FnScope nLR ["_law_wide", "_law_one"] (defScope sLR) := ⟨rfl, rfl, rfl, by decide +kernel, rfl, by decide +kernel, by decide +kernel⟩
abbrev sLT : Stmt := topS 58
def nLT : List Str := ["_law_wide", "_law_one", "_law_many", "_law_found", "_law_turn"]
theorem scLT : FnScope nLT ["_law_wide", "_law_one", "_law_many"] (defScope sLT) := ⟨rfl, rfl, rfl, by decide +kernel, rfl, by decide +kernel, by decide +kernel⟩
section
variable {P : Program} {w : World} {K : PySem.W.Frag} {mg : Str → Option Value} {base : Heap}
theorem ok_lmvs {f : Addr} {fd : FuncData} {k : Nat} (F : Fun K "_law_moves" "_law_moves" sLMv f fd) (men : mg "enumerate" = none) (ml : mg "len" = none) (mr : mg "range" = none) : FnOk P w K mg base CX0 (k + 1) f fd ["_law_machine_here", "_law_begin"] spLMvs := by
  refine F.ok scLMv (fun vs H Q E h => ?_) (fun cdv A outer s H vs Q E hr h => ?_)
  · obtain ⟨t, a, v, xs, R, n, b, rfl, _⟩ := h
    rfl
  · obtain ⟨t, a, v, xs, R, n, b, rfl, ht, hR, hM, hn, hl, q⟩ := h
    refine ⟨_, pss_cons (ps_set (i := 2) scLMv.nd rfl (.inl rfl) (pe_lst pa_nil))
      (pss_cons (ps_for PassesOwn.never rfl (pi_enum (by rfl) men (pa_cons (pe_ix ix_tup (pv 0) pe_int (fun _ _ => rfl)) pa_nil)) (pg_tup rfl (pgs_cons (pg_name (i := 3) scLMv.nd rfl (.inr rfl)) (pgs_cons (pg_name (i := 4) scLMv.nd rfl (.inr rfl)) pgs_nil)))
        (pss_one (ps_expr (pe_bm PySem.F.plainAttrs_list PySem.F.slot_list_extend PySem.F.type_list_extend mt_extend (pv 2) (pa_cons
          (pe_lc (own := [("_law_k", 5)]) (g := gName 5) (tt := tYes) (te := tTup (tCons (tOp (rI0 fun i j => V.int (i + j)) (tVar 3) (tVar 1)) (tCons (tVar 5) (tCons (tOp (rI0 fun i j => V.int (i + j)) (tOp (rIxL K) (tVar 4) (tVar 5)) (tVar 1)) tNil)))) rfl scLMv.nd (pi_range1 (by rfl) mr (pa_cons (pe_callB call_len_seq (by rfl) ml bLen (pa_cons (pv 4) pa_nil)) pa_nil))
            (blkOk_by (own := [("_law_k", 5)]) (N := nLMv) (sc := defScope sLMv) (by decide +kernel))
            (fun _ _ _ _ _ => pg_name (i := 5) scLMv.nd rfl (Or.inl rfl)) (fun _ _ _ _ _ => pts_nil)
            (fun _ _ _ _ _ => pe_tup (pa_cons (pe_op op_add (pv 3) (pv 1)) (pa_cons (pv 5) (pa_cons (pe_op op_add (pe_ix ix_list (pv 4) (pv 5) (fun _ _ => rfl)) (pv 1)) pa_nil))))) pa_nil)))))
      (pss_one (ps_ret (pv 2)))), ?_⟩
    refine ⟨by show 0 ≤ sizeLine; decide, fun pm nm => ?_⟩
    have s0 : Same H (upd H pm (.lst [])) := same_new nm
    have hm0 : MvAt (upd H pm (.lst [])) pm [] ((List.range 0).flatMap fun i => mvRow b i (rowOf R i)) := ⟨upd_same, .nil⟩
    generalize (upd H pm (.lst [])) = H0 at s0 hm0
    refine ⟨_, rfl, t, _, _, _, rfl, rfl, SqT.of (s0 _ _ ht), (rfl : atI [V.ref a, v] 0 = some (.ref a)), a, _, rfl, SqL.of (s0 _ _ hR.at_), ?_⟩
    refine for_it (walk_enum (K := K) (a := a) (xs := xs.map V.ref)) (fun i σ H1 => ∃ st ro : Option V, σ = [some (.ref t), some (nV b), some (.ref pm), st, ro, none] ∧ Same H H1 ∧ ∃ ms, MvAt H1 pm ms ((List.range i).flatMap fun i => mvRow b i (rowOf R i)))
      ⟨none, none, rfl, s0, [], hm0⟩ (fun i σ H1 _ ⟨_, _, _, s1, _⟩ => SqL.of (s1 _ _ hR.at_)) ?_ ?_
    · rintro i v σ H1 H1' hi ⟨st, ro, rfl, s1, ms, hms⟩ ⟨T0, a0, b0, rfl, nT0, rfl, ea, eb⟩
      cases ea
      rw [List.length_map] at hi
      obtain ⟨y, hy, rfl⟩ := ref_at (show (xs.map V.ref)[i]? = some b0 from eb)
      have hiR : i < R.length := by rw [← hR.len]; exact hi
      refine ⟨T0, _, rfl, SqT.of upd_same, rfl, _, _, rfl, _, _, rfl, rfl, ?_⟩
      have s2 := s1.trans (same_new (o := .tup [.int ((i : Nat) : Int), .ref y]) nT0)
      have hms2 := hms.same (same_new (o := .tup [.int ((i : Nat) : Int), .ref y]) nT0)
      generalize (upd H1 T0 (.tup [.int ((i : Nat) : Int), .ref y])) = H2 at s2 hms2
      have hy2 := s2 _ _ (hR.row i y hy)
      have lr := hM.wide i hiR
      have hnl : (nVs (rowOf R i)).length = n := by rw [nVs_len, lr]
      refine ⟨_, rfl, .inl ⟨rfl, _, SqL.of hms2.1⟩, _, rfl, y, _, rfl, .inl (SqL.of hy2), _, rfl, by rw [hnl]; omega, by rw [hnl]; omega, fun D1 nD1 => ?_⟩
      rw [hnl, Int.toNat_natCast]
      refine lc_range (n := n) (fun l H5 => Same H2 H5 ∧ ∃ ks : List Addr, H5 D1 = some (.lst (ks.map V.ref)) ∧ Paired (fun (t : Addr) (x : Mv) => H5 t = some (.tup [nV x.1, .int x.2.1, nV x.2.2])) ks ((mvRow b i (rowOf R i)).take l)) ⟨same_new nD1, [], upd_same, .nil⟩ ?_ ?_
      · rintro l H5 hl' ⟨s5, ks, hD, hks⟩
        rw [Int.zero_add]
        have hll : l < (rowOf R i).length := by omega
        obtain ⟨rb, hrb⟩ : ∃ rb, (rowOf R i)[l]? = some rb := ⟨_, List.getElem?_eq_getElem hll⟩
        have e : (mvRow b i (rowOf R i))[l]? = some (b + i, (l : Int), b + rb) := by
          unfold mvRow
          rw [List.getElem?_map, List.getElem?_range (by omega)]
          show some (b + i, (l : Int), b + (rowOf R i).getD l 0) = _
          rw [List.getD_eq_getElem?_getD, hrb]
          rfl
        have kl := paired_length hks
        rw [List.length_take, mvRow_len] at kl
        refine ⟨rfl, ?_⟩
        refine ⟨_, rfl, _, rfl, _, _, rfl, rfl, _, rfl, _, rfl, _, rfl, y, _, _, _, rfl, rfl, SqL.of (s5 _ _ hy2), atI_nat (nVs_get hrb), _, rfl, _, _, rfl, rfl, by show 3 ≤ sizeLine; decide, fun t nt => ?_⟩
        have s7 := same_new (o := .tup [nV (i + b), .int (l : Int), nV (rb + b)]) nt
        have nDt : D1 ≠ t := ne_of_none hD nt
        have ht : (upd H5 t (.tup [nV (i + b), .int (l : Int), nV (rb + b)])) t = some (.tup [nV (b + i), .int (l : Int), nV (b + rb)]) := by rw [upd_same, Nat.add_comm i b, Nat.add_comm rb b]
        refine ⟨_, s7 _ _ hD, by rw [List.length_map]; exact szBig (by omega), ?_, ks ++ [t], ?_, ?_⟩
        · intro b' o eb'
          rw [upd_ne (ne_of_none eb' nD1)]
          exact (s5.trans s7) _ _ eb'
        · rw [upd_same, List.map_append]
          rfl
        · rw [take_snoc e]
          refine paired_snoc (paired_keep hks fun u _ x hu => ?_) ?_
          · show (upd _ D1 _) u = _
            rw [upd_ne (ne_of hu hD (fun z => by cases z))]
            exact s7 _ _ hu
          · show (upd _ D1 _) t = _
            rw [upd_ne nDt.symm]
            exact ht
      · rintro H5 ⟨s5, ks, hD, hks⟩
        rw [List.take_of_length_le (by rw [mvRow_len, lr]; exact Nat.le_refl _)] at hks
        have hms5 := hms2.same s5
        have l1 := paired_length hms5.2
        rw [flat_len (m := n) _ (fun r hr => by rw [mvRow_len]; exact hM.wide r (Nat.lt_trans (List.mem_range.mp hr) hiR)), List.length_range] at l1
        have l2 := paired_length hks
        rw [mvRow_len, lr] at l2
        have l3 : i * n ≤ 1000 * 4 := Nat.mul_le_mul (by omega) hn
        refine ⟨pm, D1, _, _, rfl, rfl, hms5.1, hD, by rw [List.length_map, List.length_map, l1, l2]; exact szBigLe (by omega), ?_⟩
        refine ⟨_, _, rfl, ?_, ms ++ ks, by rw [upd_same, List.map_append], ?_⟩
        · intro b' o eb'
          rw [upd_ne (ne_of_none eb' nm)]
          exact (s2.trans s5) _ _ eb'
        · rw [List.range_succ, List.flatMap_append, List.flatMap_cons, List.flatMap_nil, List.append_nil]
          refine paired_app (paired_keep hms5.2 fun u _ x hu => ?_) (paired_keep hks fun u _ x hu => ?_)
          · show (upd _ pm _) u = _
            rw [upd_ne (ne_of hu hms5.1 (fun z => by cases z))]
            exact hu
          · show (upd _ pm _) u = _
            rw [upd_ne (ne_of hu hms5.1 (fun z => by cases z))]
            exact hu
    · rintro σ H1 ⟨st, ro, rfl, s1, ms, hms⟩
      rw [List.length_map, hR.len] at hms
      exact ⟨_, rfl, q H1 pm ms s1 nm hms⟩
theorem ok_lj {f fV fD fL : Addr} {fd fdV fdD fdL : FuncData} {k : Nat} (F : Fun K "_law_joined" "_law_joined" sLJ f fd)
    (GV : FnOk P w K mg base CX0 k fV fdV ["_law_machine_here", "_law_begin"] spLMvs) (FV : Fun K "_law_moves" "_law_moves" sLMv fV fdV) (bV : Binds K fdV ["_law_machine_here", "_law_begin"] []) (gV : mg "_law_moves" = some (.ref fV))
    (GD : FnOk P w K mg base CX0 k fD fdD ["_law_wide", "_law_begins", "_law_moves_here", "_law_ends"] spDetLU) (FD : Fun K "_law_determined" "_law_determined" sDl fD fdD) (bD : Binds K fdD ["_law_wide", "_law_begins", "_law_moves_here", "_law_ends"] []) (gD : mg "_law_determined" = some (.ref fD))
    (GL : FnOk P w K mg base CX0 k fL fdL ["_law_rows", "_law_ends"] spLeast) (FL : Fun K "_law_least" "_law_least" sLs fL fdL) (bL : Binds K fdL ["_law_rows", "_law_ends"] []) (gL : mg "_law_least" = some (.ref fL))
    (ml : mg "len" = none) : FnOk P w K mg base CX0 (k + 1) f fd ["_law_wide", "_law_one", "_law_other"] spLJ := by
  refine F.ok scLJ (fun vs H Q E h => ?_) (fun cdv A outer s H vs Q E hr h => ?_)
  · obtain ⟨t1, t2, n, m, k', L, M, rfl, _⟩ := h
    rfl
  · obtain ⟨t1, t2, n, m, k', L, M, rfl, hn, ⟨R, E, ⟨⟨p1, e1, xs1, ht1, hR, hE⟩, hok1, h01, hm1, hlt1, hel1⟩, hg1⟩, ⟨S, G, ⟨⟨p2, e2, xs2, ht2, hS, hG⟩, hok2, h02, hm2, hlt2, hel2⟩, hg2⟩, hm, hk, hmk, post⟩ := h
    refine ⟨_, pss_cons (ps_set (i := 3) scLJ.nd rfl (.inr rfl) (pe_callB call_len_seq (by rfl) ml bLen (pa_cons (pe_ix ix_tup (pv 1) pe_int (fun _ _ => rfl)) pa_nil)))
      (pss_cons (ps_set (i := 4) scLJ.nd rfl (.inl rfl) (pe_op op_cat (pe_op op_cat (pe_call GV hr (by rfl) gV FV.kp bV .nil pass0 (pa_cons (pv 1) (pa_cons pe_int pa_nil))) (pe_call GV hr (by rfl) gV FV.kp bV .nil pass0 (pa_cons (pv 2) (pa_cons (pv 3) pa_nil))))
          (pe_lc (own := [("_law_state", 6)]) (g := gName 6) (tt := tYes) (te := tTup (tCons (tVar 6) (tCons (tUn (rU fun i => .int (-i)) (tC (.int 1))) (tCons (tVar 3) tNil)))) rfl scLJ.nd (pi_list (pe_ix ix_tup (pv 1) pe_int (fun _ _ => rfl))) (blkOk_by (own := [("_law_state", 6)]) (N := nLJ) (sc := defScope sLJ) (by decide +kernel))
          (fun _ _ _ _ _ => pg_name (i := 6) scLJ.nd rfl (Or.inl rfl)) (fun _ _ _ _ _ => pts_nil) (fun _ _ _ _ _ => pe_tup (pa_cons (pv 6) (pa_cons (pe_un un_neg pe_int) (pa_cons (pv 3) pa_nil)))))))
      (pss_cons (ps_set (i := 5) scLJ.nd rfl (.inl rfl) (pe_call GD hr (by rfl) gD FD.kp bD .nil pass0 (pa_cons (pv 0) (pa_cons (pe_lst (pa_cons pe_int pa_nil)) (pa_cons (pv 4) (pa_cons
          (pe_lc (own := [("_law_state", 6)]) (g := gName 6) (tt := tYes) (te := tOp (rI0 fun i j => V.int (i + j)) (tVar 3) (tVar 6)) rfl scLJ.nd (pi_list (pe_ix ix_tup (pv 2) pe_int (fun _ _ => rfl))) (blkOk_by (own := [("_law_state", 6)]) (N := nLJ) (sc := defScope sLJ) (by decide +kernel))
            (fun _ _ _ _ _ => pg_name (i := 6) scLJ.nd rfl (Or.inl rfl)) (fun _ _ _ _ _ => pts_nil) (fun _ _ _ _ _ => pe_op op_add (pv 3) (pv 6))) pa_nil))))))
      (pss_one (ps_ret (pe_call GL hr (by rfl) gL FL.kp bL .nil pass0 (pa_cons (pe_ix ix_tup (pv 5) pe_int (fun _ _ => rfl)) (pa_cons (pe_ix ix_tup (pv 5) pe_int (fun _ _ => rfl)) pa_nil))))))), ?_⟩
    refine ⟨_, rfl, t1, _, _, _, rfl, rfl, SqT.of ht1, (rfl : atI [V.ref p1, V.ref e1] 0 = some (.ref p1)), p1, _, rfl, .inl (SqL.of hR.at_), ?_⟩
    rw [List.length_map, hR.len]
    refine ⟨_, rfl, t1, p1, .ref e1, xs1, R, n, 0, rfl, ht1, hR, hok1, hn, by omega, fun H1 a1 ms1 s1 n1 hv1 => ?_⟩
    refine ⟨_, rfl, _, rfl, t2, p2, .ref e2, xs2, S, n, R.length, rfl, s1 _ _ ht2, hS.same s1, hok2, hn, by omega, fun H2 a2 ms2 s2 n2 hv2 => ?_⟩
    have l1 := paired_length hv1.2
    have l2 := paired_length hv2.2
    rw [mvO_len hok1] at l1
    rw [mvO_len hok2] at l2
    have b1 : R.length * n ≤ 50 * 4 := Nat.mul_le_mul (by omega) hn
    have b2 : S.length * n ≤ 20 * 4 := Nat.mul_le_mul (by omega) hn
    have s02 := s1.trans s2
    refine ⟨a1, a2, _, _, rfl, rfl, (hv1.same s2).1, hv2.1, by rw [List.length_map, List.length_map]; exact szBigLe (by omega), fun a3 n3 => ?_⟩
    have hv3 := mv_cat (hv1.same s2) hv2.2 n3
    have s03 := s02.trans (same_new (o := .lst (ms1.map V.ref ++ ms2.map V.ref)) n3)
    generalize (upd H2 a3 (.lst (ms1.map V.ref ++ ms2.map V.ref))) = H3 at hv3 s03
    refine ⟨_, rfl, t1, _, _, _, rfl, rfl, SqT.of (s03 _ _ ht1), (rfl : atI [V.ref p1, V.ref e1] 1 = some (.ref e1)), e1, rfl, ⟨_, SqL.of (s03 _ _ hE)⟩, fun D1 nD1 => ?_⟩
    refine lc_sil (K := K) (i := 6) (j := 3) (N := R.length) (by show 6 < 7; decide) rfl (by decide) (s03 _ _ hE) (by omega) nD1 fun H4 ks s4 hD4 hks => ?_
    have l4 := paired_length hks
    rw [List.length_map] at l4
    have hv4 := hv3.same s4
    have s04 := s03.trans s4
    refine ⟨a3, D1, _, _, rfl, rfl, hv4.1, hD4, by rw [List.length_map, List.length_map, List.length_append]; exact szBigLe (by omega), fun a5 n5 => ?_⟩
    have hv5 := mv_cat hv4 hks n5
    have s05 := s04.trans (same_new (o := .lst ((ms1 ++ ms2).map V.ref ++ ks.map V.ref)) n5)
    generalize (upd H4 a5 (.lst ((ms1 ++ ms2).map V.ref ++ ks.map V.ref))) = H5 at hv5 s05
    refine ⟨_, rfl, by show 1 ≤ sizeLine; decide, fun b0 nb0 => ?_⟩
    have hb6 : (upd H5 b0 (.lst [.int 0])) b0 = some (.lst (nVs [0])) := upd_same
    have s56 : Same H5 (upd H5 b0 (.lst [.int 0])) := same_new nb0
    generalize (upd H5 b0 (.lst [.int 0])) = H6 at hb6 s56
    have s06 := s05.trans s56
    refine ⟨_, rfl, _, rfl, t2, _, _, _, rfl, rfl, SqT.of (s06 _ _ ht2), (rfl : atI [V.ref p2, V.ref e2] 1 = some (.ref e2)), e2, rfl, ⟨_, SqL.of (s06 _ _ hG)⟩, fun D2 nD2 => ?_⟩
    refine lc_add (K := K) (i := 6) (j := 3) (N := R.length) (by show 6 < 7; decide) rfl (by decide) (s06 _ _ hG) (by omega) nD2 fun H7 s7 hD7 => ?_
    have s07 := s06.trans s7
    have hU := univ_join (E := E) hok1 hok2 h01 h02 hlt1
    have hlen : (UJ R.length S.length).length ≤ m * 2 ^ k' := by
      rw [UJ_len]
      exact pow_mono2 hm1 hm2
    refine ⟨b0, a5, D2, _, mvJ R E S, n, [0], G.map (fun x => R.length + x), UJ R.length S.length, rfl, s7 _ _ hb6, (hv5.same s56).same s7, hD7, hn, by rw [mvJ_len hok1 hok2]; omega, by show 1 ≤ 60; decide, by rw [List.length_map]; omega, fun x => ?_, hU, by omega, fun T hT => ?_, fun H8 t p8 e8 ys8 R8 E8 s8 ht8 hr8 he8 hM8 h08 hlen8 hel8 hacc => ?_⟩
    · have := stp_mvJ R E S (-1) x
      rw [if_pos rfl] at this
      omega
    · obtain ⟨q0, Y, rfl, hq0, hY, hYl, _⟩ := UJ_ok hT
      have : (q0 :: Y).length ≤ 60 := by rw [List.length_cons]; omega
      exact ⟨this, fun k _ => flat_one (fun x => stp_mvJk R E S k x) (by omega)⟩
    refine ⟨_, rfl, t, _, _, _, rfl, rfl, SqT.of ht8, (rfl : atI [V.ref p8, V.ref e8] 0 = some (.ref p8)), _, rfl, t, _, _, _, rfl, rfl, SqT.of ht8, (rfl : atI [V.ref p8, V.ref e8] 1 = some (.ref e8)), ?_⟩
    refine ⟨p8, e8, ys8, R8, n, E8, rfl, hr8, hM8, h08, by omega, by omega, he8, by omega, fun H9 t9 p9 e9 ys9 R9 E9 s9 _ _ _ _ ht9 hr9 he9 hL9 hA9 hl9 => ?_⟩
    refine post H9 t9 ((s07.trans s8).trans s9) ⟨p9, e9, ys9, R9, E9, ht9, hr9, he9, hL9, lg_alk (L := catL L M) (fun w' hw' => ?_) hA9, by omega⟩
    have hj := join_lang hok1 hok2 h01 h02 hlt1 hg1 hg2 hw'
    have hm8 := (hacc w' hw').trans hj
    by_cases hc : catL L M w' = true
    · rw [hc, decide_eq_true (hm8.mpr hc)]
    · rw [decide_eq_false (fun y => hc (hm8.mp y))]
      cases e : catL L M w' with
      | true => exact absurd e hc
      | false => rfl
theorem ok_lr {f fV fD fL : Addr} {fd fdV fdD fdL : FuncData} {k : Nat} (F : Fun K "_law_repeated" "_law_repeated" sLR f fd)
    (GV : FnOk P w K mg base CX0 k fV fdV ["_law_machine_here", "_law_begin"] spLMvs) (FV : Fun K "_law_moves" "_law_moves" sLMv fV fdV) (bV : Binds K fdV ["_law_machine_here", "_law_begin"] []) (gV : mg "_law_moves" = some (.ref fV))
    (GD : FnOk P w K mg base CX0 k fD fdD ["_law_wide", "_law_begins", "_law_moves_here", "_law_ends"] spDetLU) (FD : Fun K "_law_determined" "_law_determined" sDl fD fdD) (bD : Binds K fdD ["_law_wide", "_law_begins", "_law_moves_here", "_law_ends"] []) (gD : mg "_law_determined" = some (.ref fD))
    (GL : FnOk P w K mg base CX0 k fL fdL ["_law_rows", "_law_ends"] spLeast) (FL : Fun K "_law_least" "_law_least" sLs fL fdL) (bL : Binds K fdL ["_law_rows", "_law_ends"] []) (gL : mg "_law_least" = some (.ref fL))
    (ml : mg "len" = none) : FnOk P w K mg base CX0 (k + 1) f fd ["_law_wide", "_law_one"] spLR := by
  refine F.ok scLR (fun vs H Q E h => ?_) (fun cdv A outer s H vs Q E hr h => ?_)
  · obtain ⟨t1, n, m, L, rfl, _⟩ := h
    rfl
  · obtain ⟨t1, n, m, L, rfl, hn, ⟨R, E, ⟨⟨p1, e1, xs1, ht1, hR, hE⟩, hok1, h01, hm1, hlt1, hel1⟩, hg1⟩, hm, post⟩ := h
    refine ⟨_, pss_cons (ps_set (i := 2) scLR.nd rfl (.inr rfl) (pe_callB call_len_seq (by rfl) ml bLen (pa_cons (pe_ix ix_tup (pv 1) pe_int (fun _ _ => rfl)) pa_nil)))
      (pss_cons (ps_set (i := 3) scLR.nd rfl (.inl rfl) (pe_op op_cat (pe_op op_cat (pe_call GV hr (by rfl) gV FV.kp bV .nil pass0 (pa_cons (pv 1) (pa_cons pe_int pa_nil)))
          (pe_lc (own := [("_law_state", 5)]) (g := gName 5) (tt := tYes) (te := tTup (tCons (tVar 5) (tCons (tUn (rU fun i => .int (-i)) (tC (.int 1))) (tCons (tVar 2) tNil)))) rfl scLR.nd (pi_list (pe_ix ix_tup (pv 1) pe_int (fun _ _ => rfl))) (blkOk_by (own := [("_law_state", 5)]) (N := nLR) (sc := defScope sLR) (by decide +kernel))
          (fun _ _ _ _ _ => pg_name (i := 5) scLR.nd rfl (Or.inl rfl)) (fun _ _ _ _ _ => pts_nil) (fun _ _ _ _ _ => pe_tup (pa_cons (pv 5) (pa_cons (pe_un un_neg pe_int) (pa_cons (pv 2) pa_nil))))))
          (pe_lst (pa_cons (pe_tup (pa_cons (pv 2) (pa_cons (pe_un un_neg pe_int) (pa_cons pe_int pa_nil)))) pa_nil))))
      (pss_cons (ps_set (i := 4) scLR.nd rfl (.inl rfl) (pe_call GD hr (by rfl) gD FD.kp bD .nil pass0 (pa_cons (pv 0) (pa_cons (pe_lst (pa_cons (pv 2) pa_nil)) (pa_cons (pv 3) (pa_cons (pe_lst (pa_cons (pv 2) pa_nil)) pa_nil))))))
      (pss_one (ps_ret (pe_call GL hr (by rfl) gL FL.kp bL .nil pass0 (pa_cons (pe_ix ix_tup (pv 4) pe_int (fun _ _ => rfl)) (pa_cons (pe_ix ix_tup (pv 4) pe_int (fun _ _ => rfl)) pa_nil))))))), ?_⟩
    refine ⟨_, rfl, t1, _, _, _, rfl, rfl, SqT.of ht1, (rfl : atI [V.ref p1, V.ref e1] 0 = some (.ref p1)), p1, _, rfl, .inl (SqL.of hR.at_), ?_⟩
    rw [List.length_map, hR.len]
    refine ⟨_, rfl, t1, p1, .ref e1, xs1, R, n, 0, rfl, ht1, hR, hok1, hn, by omega, fun H1 a1 ms1 s1 n1 hv1 => ?_⟩
    refine ⟨_, rfl, t1, _, _, _, rfl, rfl, SqT.of (s1 _ _ ht1), (rfl : atI [V.ref p1, V.ref e1] 1 = some (.ref e1)), e1, rfl, ⟨_, SqL.of (s1 _ _ hE)⟩, fun D1 nD1 => ?_⟩
    refine lc_sil (K := K) (i := 5) (j := 2) (N := R.length) (by show 5 < 6; decide) rfl (by decide) (s1 _ _ hE) (by omega) nD1 fun H2 ks s2 hD2 hks => ?_
    have l1 := paired_length hv1.2
    rw [mvO_len hok1] at l1
    have l2 := paired_length hks
    rw [List.length_map] at l2
    have b1 : R.length * n ≤ 5 * 4 := Nat.mul_le_mul (by omega) hn
    have s02 := s1.trans s2
    refine ⟨a1, D1, _, _, rfl, rfl, (hv1.same s2).1, hD2, by rw [List.length_map, List.length_map]; exact szBigLe (by omega), fun a3 n3 => ?_⟩
    have hv3 := mv_cat (hv1.same s2) hks n3
    have s03 := s02.trans (same_new (o := .lst (ms1.map V.ref ++ ks.map V.ref)) n3)
    generalize (upd H2 a3 (.lst (ms1.map V.ref ++ ks.map V.ref))) = H3 at hv3 s03
    refine ⟨_, rfl, _, rfl, by show 3 ≤ sizeLine; decide, fun u nu => ?_⟩
    have hu : (upd H3 u (.tup [V.int (R.length : Int), (fun i : Int => V.int (-i)) 1, .int 0])) u = some (.tup [nV R.length, .int (-1), nV 0]) := upd_same
    have s4 : Same H3 (upd H3 u (.tup [V.int (R.length : Int), (fun i : Int => V.int (-i)) 1, .int 0])) := same_new nu
    generalize (upd H3 u (.tup [V.int (R.length : Int), (fun i : Int => V.int (-i)) 1, .int 0])) = H4 at hu s4
    refine ⟨by show 1 ≤ sizeLine; decide, fun u2 nu2 => ?_⟩
    have hu2 : (upd H4 u2 (.lst [.ref u])) u2 = some (.lst ([u].map V.ref)) := upd_same
    have s5 : Same H4 (upd H4 u2 (.lst [.ref u])) := same_new nu2
    generalize (upd H4 u2 (.lst [.ref u])) = H5 at hu2 s5
    have s05 := (s03.trans s4).trans s5
    have hv5 := (hv3.same s4).same s5
    have hu5 : Paired (fun (t : Addr) (x : Mv) => H5 t = some (.tup [nV x.1, .int x.2.1, nV x.2.2])) [u] [((R.length, (-1 : Int), 0) : Mv)] := .cons (s5 _ _ hu) .nil
    refine ⟨a3, u2, _, _, rfl, rfl, hv5.1, hu2, by rw [List.length_map, List.length_map, List.length_append]; exact szBigLe (by show _ + 1 ≤ _; omega), fun a6 n6 => ?_⟩
    have hv6 := mv_cat hv5 hu5 n6
    have s06 := s05.trans (same_new (o := .lst ((ms1 ++ ks).map V.ref ++ [u].map V.ref)) n6)
    generalize (upd H5 a6 (.lst ((ms1 ++ ks).map V.ref ++ [u].map V.ref))) = H6 at hv6 s06
    refine ⟨_, rfl, _, rfl, by show 1 ≤ sizeLine; decide, fun b0 nb0 => ?_⟩
    have hb7 : (upd H6 b0 (.lst [V.int (R.length : Int)])) b0 = some (.lst (nVs [R.length])) := upd_same
    have s67 : Same H6 (upd H6 b0 (.lst [V.int (R.length : Int)])) := same_new nb0
    generalize (upd H6 b0 (.lst [V.int (R.length : Int)])) = H7 at hb7 s67
    refine ⟨_, rfl, _, rfl, by show 1 ≤ sizeLine; decide, fun c0 nc0 => ?_⟩
    have hc8 : (upd H7 c0 (.lst [V.int (R.length : Int)])) c0 = some (.lst (nVs [R.length])) := upd_same
    have s78 : Same H7 (upd H7 c0 (.lst [V.int (R.length : Int)])) := same_new nc0
    generalize (upd H7 c0 (.lst [V.int (R.length : Int)])) = H8 at hc8 s78
    have s08 := (s06.trans s67).trans s78
    have hU : Univ (mvS R E) n (silF (mvS R E) fun x => x ∈ [R.length]) (subs (List.range (R.length + 1))) := univ_lt (fun x hx => by rw [List.mem_singleton.mp hx]; omega) (fun y hy => (mvS_to hok1 hy).1)
    have hlen : (subs (List.range (R.length + 1))).length ≤ 64 := by
      rw [subs_len, List.length_range]
      exact Nat.pow_le_pow_right (n := 2) (by decide) (show R.length + 1 ≤ 6 by omega)
    refine ⟨b0, a6, c0, _, mvS R E, n, [R.length], [R.length], subs (List.range (R.length + 1)), rfl, s78 _ _ hb7, (hv6.same s67).same s78, hc8, hn, by rw [mvS_len hok1]; omega, by show 1 ≤ 60; decide, by show 1 ≤ 2000; decide, fun x => ?_, hU, by omega, fun T hT => ?_, fun H9 t p8 e8 ys8 R8 E8 s9 ht8 hr8 he8 hM8 h08 hlen8 hel8 hacc => ?_⟩
    · have := stp_mvS R E (-1) x
      rw [if_pos rfl] at this
      omega
    · have h1 := (subs_sub hT).length_le
      rw [List.length_range] at h1
      exact ⟨by omega, fun k _ => flat_one (fun x => stp_mvSk R E k x) (by omega)⟩
    refine ⟨_, rfl, t, _, _, _, rfl, rfl, SqT.of ht8, (rfl : atI [V.ref p8, V.ref e8] 0 = some (.ref p8)), _, rfl, t, _, _, _, rfl, rfl, SqT.of ht8, (rfl : atI [V.ref p8, V.ref e8] 1 = some (.ref e8)), ?_⟩
    refine ⟨p8, e8, ys8, R8, n, E8, rfl, hr8, hM8, h08, by omega, by omega, he8, by omega, fun Ha t9 p9 e9 ys9 R9 E9 sa _ _ _ _ ht9 hr9 he9 hL9 hA9 hl9 => ?_⟩
    refine post Ha t9 ((s08.trans s9).trans sa) ⟨p9, e9, ys9, R9, E9, ht9, hr9, he9, hL9, lg_alk (L := starL L) (fun w' hw' => ?_) hA9, by omega⟩
    have hj := star_lang hok1 h01 hg1 hw'
    have hm8 := (hacc w' hw').trans hj
    by_cases hc : starL L w' = true
    · rw [hc, decide_eq_true (hm8.mpr hc)]
    · rw [decide_eq_false (fun y => hc (hm8.mp y))]
      cases e : starL L w' with
      | true => exact absurd e hc
      | false => rfl
theorem ok_lt {f fJ : Addr} {fd fdJ : FuncData} {k : Nat} (F : Fun K "_law_times" "_law_times" sLT f fd)
    (GJ : FnOk P w K mg base CX0 k fJ fdJ ["_law_wide", "_law_one", "_law_other"] spLJ) (FJ : Fun K "_law_joined" "_law_joined" sLJ fJ fdJ) (bJ : Binds K fdJ ["_law_wide", "_law_one", "_law_other"] []) (gJ : mg "_law_joined" = some (.ref fJ)) (mr : mg "range" = none) :
    FnOk P w K mg base CX0 (k + 1) f fd ["_law_wide", "_law_one", "_law_many"] spLT := by
  refine F.ok scLT (fun vs H Q E h => ?_) (fun cdv A outer s H vs Q E hr h => ?_)
  · obtain ⟨t1, n, m, c, L, rfl, _⟩ := h
    rfl
  · obtain ⟨t1, n, m, c, L, rfl, hn1, hn, hM, hm, hc, hb, post⟩ := h
    refine ⟨_, pss_cons (ps_set (i := 3) scLT.nd rfl (.inl rfl) (pe_tup (pa_cons (pe_lst (pa_cons (pe_op op_rep (pe_lst (pa_cons pe_int pa_nil)) (pv 0)) (pa_cons (pe_op op_rep (pe_lst (pa_cons pe_int pa_nil)) (pv 0)) pa_nil))) (pa_cons (pe_lst (pa_cons pe_int pa_nil)) pa_nil))))
      (pss_cons (ps_for PassesOwn.never rfl (pi_range1 (by rfl) mr (pa_cons (pv 2) pa_nil)) (pg_name (i := 4) scLT.nd rfl (.inl rfl)) (pss_one (ps_set (i := 3) scLT.nd rfl (.inl rfl) (pe_call GJ hr (by rfl) gJ FJ.kp bJ .nil pass0 (pa_cons (pv 0) (pa_cons (pv 3) (pa_cons (pv 1) pa_nil)))))))
      (pss_one (ps_ret (pv 3)))), ?_⟩
    refine ⟨by show 1 ≤ sizeLine; decide, fun u1 nu1 => ?_⟩
    refine ⟨_, rfl, u1, (n : Int), _, rfl, rfl, upd_same, by omega, by omega, by rw [Int.toNat_natCast]; exact szBigLe (by show 1 * n ≤ 100000; omega), fun r1 nr1 => ?_⟩
    rw [Int.toNat_natCast, show ([V.int 1] : List V) = [nV 1] from rfl, rep_nVs]
    have s2 : Same H (upd (upd H u1 (.lst [nV 1])) r1 (.lst (nVs (List.replicate n 1)))) := (same_new nu1).trans (same_new nr1)
    have hr1 : (upd (upd H u1 (.lst [nV 1])) r1 (.lst (nVs (List.replicate n 1)))) r1 = some (.lst (nVs (List.replicate n 1))) := upd_same
    generalize (upd (upd H u1 (.lst [nV 1])) r1 (.lst (nVs (List.replicate n 1)))) = H2 at s2 hr1
    refine ⟨by show 1 ≤ sizeLine; decide, fun u2 nu2 => ?_⟩
    refine ⟨_, rfl, u2, (n : Int), _, rfl, rfl, upd_same, by omega, by omega, by rw [Int.toNat_natCast]; exact szBigLe (by show 1 * n ≤ 100000; omega), fun r2 nr2 => ?_⟩
    rw [Int.toNat_natCast, show ([V.int 1] : List V) = [nV 1] from rfl, rep_nVs]
    have s4 : Same H2 (upd (upd H2 u2 (.lst [nV 1])) r2 (.lst (nVs (List.replicate n 1)))) := (same_new nu2).trans (same_new nr2)
    have hr2 : (upd (upd H2 u2 (.lst [nV 1])) r2 (.lst (nVs (List.replicate n 1)))) r2 = some (.lst (nVs (List.replicate n 1))) := upd_same
    generalize (upd (upd H2 u2 (.lst [nV 1])) r2 (.lst (nVs (List.replicate n 1)))) = H4 at s4 hr2
    refine ⟨by show 2 ≤ sizeLine; decide, fun pr npr => ?_⟩
    have s5 : Same H4 (upd H4 pr (.lst [.ref r1, .ref r2])) := same_new npr
    have hpr : (upd H4 pr (.lst [.ref r1, .ref r2])) pr = some (.lst ([r1, r2].map V.ref)) := upd_same
    generalize (upd H4 pr (.lst [.ref r1, .ref r2])) = H5 at s5 hpr
    refine ⟨by show 1 ≤ sizeLine; decide, fun pe npe => ?_⟩
    have s6 : Same H5 (upd H5 pe (.lst [.int 0])) := same_new npe
    have hpe : (upd H5 pe (.lst [.int 0])) pe = some (.lst (nVs [0])) := upd_same
    generalize (upd H5 pe (.lst [.int 0])) = H6 at s6 hpe
    refine ⟨by show 2 ≤ sizeLine; decide, fun t nt => ?_⟩
    have s7 : Same H6 (upd H6 t (.tup [.ref pr, .ref pe])) := same_new nt
    have ht : (upd H6 t (.tup [.ref pr, .ref pe])) t = some (.tup [.ref pr, .ref pe]) := upd_same
    generalize (upd H6 t (.tup [.ref pr, .ref pe])) = H7 at s7 ht
    have s07 := ((((s2.trans s4).trans s5).trans s6).trans s7)
    have hrows : RowsAt H7 pr [r1, r2] (R1 n) := rows_mk ((s6.trans s7) _ _ hpr) (.cons ((((s4.trans s5).trans s6).trans s7) _ _ hr1) (.cons (((s5.trans s6).trans s7) _ _ hr2) .nil))
    have D0 : DueL H7 t n (tb m 0) (powL L 0) := ⟨pr, pe, [r1, r2], R1 n, [0], ht, hrows, s7 _ _ hpe, R1_least hn1 hn, R1_lg n, Nat.le_refl _⟩
    refine ⟨_, rfl, _, rfl, by omega, by omega, ?_⟩
    rw [Int.toNat_natCast]
    refine for_range (n := c) (fun i σ H3 => ∃ (r : Addr) (y4 : Option V), σ = [some (nV n), some (.ref t1), some (nV c), some (.ref r), y4] ∧ Same H H3 ∧ DueL H3 r n (tb m i) (powL L i))
      ⟨t, none, rfl, s07, D0⟩ ?_ ?_
    · rintro i σ H3 hi ⟨r, y4, rfl, s3, h3⟩
      obtain ⟨b1, b2⟩ := hb i hi
      refine ⟨_, rfl, _, rfl, _, rfl, r, t1, n, tb m i, m, powL L i, L, rfl, hn, h3.ma b1, hM.same s3, b1, hm, b2, fun H4 r' s4 h4 => ?_⟩
      refine ⟨r', _, rfl, s3.trans s4, ?_⟩
      cases i with
      | zero =>
        have h5 := (h4.cong (fun w _ => pow_one (L := L) w)).bound (hM.same (s3.trans s4))
        exact h5.cong fun w _ => (pow_one (L := L) w).symm
      | succ i => exact h4
    · rintro σ H3 ⟨r, y4, rfl, s3, h3⟩
      exact ⟨_, rfl, post H3 r s3 h3⟩
end
end K16

namespace Rg
open PySem PySem.Spec PyProof.Rows L2 Mach
def mLg (R : List (List Nat)) (E : List Nat) : List Nat → Bool := fun w => decide (runM R 0 w ∈ E)
theorem MacL.ma {H : Hp} {t : Addr} {n m : Nat} {R : List (List Nat)} {E : List Nat} (h : MacL H t n m R E) : MaL H t n m (mLg R E) := ⟨R, E, h, fun _ _ => rfl⟩
theorem tof_post {C g c p t' e' : Addr} {H H' : Hp} {z : Str} {m : Nat} {ys : List Addr} {R R' : List (List Nat)} {E E' : List Nat} (hB : Bag H g c) (np : H p = none) (hT : TxAt C H' p z t' e' ys R' E') (hn : ∀ x ∈ t' :: e' :: ys, H x = none) (hL : Least z.cps.size R' E') (hA : Alk z.cps.size R' E' 0 R E 0) (hl : R'.length ≤ m) : TxG C g H' p z m (mLg R E) :=
  ⟨t', e', ys, R', E', hT, hL, lg_alk (L := mLg R E) (fun _ _ => rfl) hA, hl, hB.ne np, hB.ne (hn t' (by simp)), hB.ne (hn e' (by simp)), fun y hy => hB.ne (hn y (by simp [hy]))⟩
theorem macG_of {g c t pr pe : Addr} {H H' : Hp} {xs : List Addr} {n m : Nat} {R : List (List Nat)} {E : List Nat} (hB : Bag H g c) (nn : ∀ x ∈ t :: pr :: pe :: xs, H x = none) (ht : H' t = some (.tup [.ref pr, .ref pe])) (hR : RowsAt H' pr xs R) (he : H' pe = some (.lst (nVs E))) (hM : Mok n R) (h0 : 0 < R.length) (hl : R.length ≤ m) (hE : ∀ x ∈ E, x < R.length) (hEl : E.length ≤ 50) : MacG g H' t n m R E :=
  ⟨⟨pr, pe, xs, ht, hR, he, hB.ne (nn pr (by simp)), hB.ne (nn pe (by simp)), fun x hx => hB.ne (nn x (by simp [hx]))⟩, hM, h0, hl, hE, hEl⟩
/-! the strange signs -/
def strg : List Str := ["b", "cd", "def", "bcde"]
theorem strange_of {z : Str} (h : z ∈ sgDrawn) : ∃ y, strg[z.cps.size - 1]? = some y ∧ SgOk y ∧ y.cps.size = z.cps.size ∧ z ≠ y := by
  have key : ∀ z ∈ sgDrawn, (match strg[z.cps.size - 1]? with | some y => sgB y && decide (y.cps.size = z.cps.size) && !decide (z = y) | none => false) = true := by decide +kernel
  have hk := key z h
  cases e : strg[z.cps.size - 1]? with
  | none => rw [e] at hk; cases hk
  | some y =>
    rw [e] at hk
    simp only [Bool.and_eq_true, decide_eq_true_eq, Bool.not_eq_true', decide_eq_false_iff_not] at hk
    exact ⟨y, rfl, sgOk_of hk.1.1, hk.1.2, hk.2⟩
/-- the numbers of times that are drawn -/
theorem tb_small {m c : Nat} (h1 : 1 ≤ m) (h3 : m ≤ 3) (hc : (c : Int) < ([7, 5, 4] : List Int).getD (m - 1) 0) : c ≤ 6 ∧ tb m c ≤ 192 ∧ ∀ i, i < c → tb m i ≤ 50 ∧ tb m i * 2 ^ m ≤ 192 := by
  have key : ∀ m : Fin 3, ∀ c : Fin 7, (c.val : Int) < ([7, 5, 4] : List Int).getD m.val 0 → tb (m.val + 1) c.val ≤ 192 ∧ ∀ i : Fin 7, i.val < c.val → tb (m.val + 1) i.val ≤ 50 ∧ tb (m.val + 1) i.val * 2 ^ (m.val + 1) ≤ 192 := by decide +kernel
  have hc7 : c < 7 := by
    match m, h1, h3 with
    | 1, _, _ => have : (c : Int) < 7 := hc; omega
    | 2, _, _ => have : (c : Int) < 5 := hc; omega
    | 3, _, _ => have : (c : Int) < 4 := hc; omega
  obtain ⟨k1, k2⟩ := key ⟨m - 1, by omega⟩ ⟨c, hc7⟩ hc
  have em : m - 1 + 1 = m := by omega
  simp only [em] at k1 k2
  exact ⟨by omega, k1, fun i hi => k2 ⟨i, by omega⟩ hi⟩
end Rg

namespace K16
open PySem PySem.Spec PyProof.Rows L2 Rg Mach
theorem lm_binds {K : PySem.W.Frag} {f : Addr} {fd : FuncData} (F : FunD K "least_machine" "least_machine" (defArgs sLm) (defBody sLm) (defScope sLm) [] [("begin", .int 0)] f fd) : ∃ ds, Vals [.int 0] ds ∧ Binds K fd ["rows", "ends", "begin"] ds :=
  F.binds0 (ps := ["rows", "ends", "begin"]) 2 (by simp) rfl fun D doc pm an cdv ct us ks h1 h2 => match us, h1, ks, h2 with
    | [_, _], _, [_], _ => ⟨_, _, _, _, _, _, rfl, rfl, rfl⟩
abbrev sLaw : Stmt := topS 59
def nLaw : List Str := ["_law_script", "_law_bag_here", "_law_turn", "_law_signs_here", "_law_one", "_law_other", "_law_wide", "_law_mine", "_law_its", "_law_small", "_law_many", "_law_few", "_law_dues", "_law_again", "_law_found", "_law_text", "_law_due", "_law_empty", "_law_both", "_law_strange", "_law_some"]
theorem scLaw : FnScope nLaw ["_law_script"] (defScope sLaw) := ⟨rfl, rfl, rfl, by decide +kernel, rfl, by decide +kernel, by decide +kernel⟩
def spLaw (K : PySem.W.Frag) : Sp := fun vs H Q _ => ∃ (a : Addr) (ns : List Int), vs = [.ref a] ∧ SqL K H a (ns.map V.int) ∧ ns.length ≤ 63 ∧ ∀ H' : Hp, Q (.bl true) H'
structure Txt (K : PySem.W.Frag) (mg : Str → Option Value) (f9 f10 f11 f12 f14 f15 f16 f17 f18 f19 f20 f21 f27 f29 f30 f32 f33 f36 f37 f39 f40 f41 f42 f43 f44 f45 f46 f47 f48 f49 f50 f51 f52 f53 f54 f55 f56 f57 f58 C fI fT fE fQ fA fU fR fZ : Addr) (fd9 fd10 fd11 fd12 fd14 fd15 fd16 fd17 fd18 fd19 fd20 fd21 fd27 fd29 fd30 fd32 fd33 fd36 fd37 fd39 fd40 fd41 fd42 fd43 fd44 fd45 fd46 fd47 fd48 fd49 fd50 fd51 fd52 fd53 fd54 fd55 fd56 fd57 fd58 fdI fdT fdE fdQ fdA fdU fdR fdZ : FuncData) : Prop where
  F9 : Fun K "is_integer" "is_integer" sIsInt f9 fd9
  b9 : Binds K fd9 ["thing"] []
  g9 : mg "is_integer" = some (.ref f9)
  F10 : Fun K "is_signs" "is_signs" sIsSg f10 fd10
  b10 : Binds K fd10 ["thing"] []
  g10 : mg "is_signs" = some (.ref f10)
  F11 : Fun K "is_text" "is_text" sIsText f11 fd11
  b11 : Binds K fd11 ["signs", "thing"] []
  g11 : mg "is_text" = some (.ref f11)
  F12 : Fun K "is_number" "is_number" sIsNum f12 fd12
  b12 : Binds K fd12 ["many", "thing"] []
  g12 : mg "is_number" = some (.ref f12)
  F14 : Fun K "reached_from" "reached_from" sReach f14 fd14
  b14 : Binds K fd14 ["rows", "begin"] []
  g14 : mg "reached_from" = some (.ref f14)
  F15 : Fun K "parted_once" "parted_once" sPart f15 fd15
  b15 : Binds K fd15 ["rows", "classes", "states"] []
  g15 : mg "parted_once" = some (.ref f15)
  F16 : Fun K "how_many" "how_many" sHow f16 fd16
  b16 : Binds K fd16 ["classes"] []
  g16 : mg "how_many" = some (.ref f16)
  F17 : Fun K "classes_of" "classes_of" sCls f17 fd17
  b17 : Binds K fd17 ["rows", "ends", "states"] []
  g17 : mg "classes_of" = some (.ref f17)
  F18 : FunD K "least_machine" "least_machine" (defArgs sLm) (defBody sLm) (defScope sLm) [] [("begin", .int 0)] f18 fd18
  b18 : ∃ ds, Vals [.int 0] ds ∧ Binds K fd18 ["rows", "ends", "begin"] ds
  g18 : mg "least_machine" = some (.ref f18)
  F19 : Fun K "silent_from" "silent_from" sSil f19 fd19
  b19 : Binds K fd19 ["states", "silent"] []
  g19 : mg "silent_from" = some (.ref f19)
  F20 : Fun K "led_to" "led_to" sLed f20 fd20
  b20 : Binds K fd20 ["states", "place", "reading"] []
  g20 : mg "led_to" = some (.ref f20)
  F21 : Fun K "determined" "determined" sDet f21 fd21
  b21 : Binds K fd21 ["wide", "begins", "moves", "ends"] []
  g21 : mg "determined" = some (.ref f21)
  F27 : Fun K "are_rows" "are_rows" sAreR f27 fd27
  b27 : Binds K fd27 ["wide", "thing"] []
  g27 : mg "are_rows" = some (.ref f27)
  F29 : Fun K "state_behind" "state_behind" sBehind f29 fd29
  b29 : Binds K fd29 ["signs", "rows", "text"] []
  g29 : mg "state_behind" = some (.ref f29)
  F30 : Fun K "moves_of" "moves_of" sMvs f30 fd30
  b30 : Binds K fd30 ["rows", "begin"] []
  g30 : mg "moves_of" = some (.ref f30)
  F32 : Fun K "texts_joined" "texts_joined" sJn f32 fd32
  b32 : Binds K fd32 ["one", "other"] []
  g32 : mg "texts_joined" = some (.ref f32)
  F33 : Fun K "texts_times" "texts_times" sTm f33 fd33
  b33 : Binds K fd33 ["one", "many"] []
  g33 : mg "texts_times" = some (.ref f33)
  F36 : Fun K "of_words" "of_words" sOw f36 fd36
  b36 : Binds K fd36 ["signs", "words"] []
  g36 : mg "of_words" = some (.ref f36)
  F37 : Fun K "none" "none" sNone f37 fd37
  b37 : Binds K fd37 ["signs"] []
  g37 : mg "none" = some (.ref f37)
  F39 : Fun K "_law_bag" "_law_bag" sBag f39 fd39
  b39 : Binds K fd39 ["_law_script"] []
  g39 : mg "_law_bag" = some (.ref f39)
  F40 : Fun K "_law_take" "_law_take" sTake f40 fd40
  b40 : Binds K fd40 ["_law_bag_here", "_law_many"] []
  g40 : mg "_law_take" = some (.ref f40)
  F41 : Fun K "_law_alike" "_law_alike" sAlk f41 fd41
  b41 : Binds K fd41 ["_law_found", "_law_due"] []
  g41 : mg "_law_alike" = some (.ref f41)
  F42 : Fun K "_law_signs" "_law_signs" sSigns f42 fd42
  b42 : Binds K fd42 ["_law_bag_here"] []
  g42 : mg "_law_signs" = some (.ref f42)
  F43 : Fun K "_law_texts" "_law_texts" sTexts45 f43 fd43
  b43 : Binds K fd43 ["_law_signs_here", "_law_longest"] []
  g43 : mg "_law_texts" = some (.ref f43)
  F44 : Fun K "_law_led" "_law_led" sLedT f44 fd44
  b44 : Binds K fd44 ["_law_signs_here", "_law_rows", "_law_state", "_law_text"] []
  g44 : mg "_law_led" = some (.ref f44)
  F45 : Fun K "_law_has" "_law_has" sHasT f45 fd45
  b45 : Binds K fd45 ["_law_signs_here", "_law_machine_here", "_law_text"] []
  g45 : mg "_law_has" = some (.ref f45)
  F46 : Fun K "_law_machine" "_law_machine" sMach f46 fd46
  b46 : Binds K fd46 ["_law_bag_here", "_law_signs_here", "_law_states"] []
  g46 : mg "_law_machine" = some (.ref f46)
  F47 : Fun K "_law_texts_of" "_law_texts_of" sTof f47 fd47
  b47 : Binds K fd47 ["_law_signs_here", "_law_machine_here"] []
  g47 : mg "_law_texts_of" = some (.ref f47)
  F48 : Fun K "_law_least" "_law_least" sLs f48 fd48
  b48 : Binds K fd48 ["_law_rows", "_law_ends"] []
  g48 : mg "_law_least" = some (.ref f48)
  F49 : Fun K "_law_silent" "_law_silent" sSl f49 fd49
  b49 : Binds K fd49 ["_law_states", "_law_moves_here"] []
  g49 : mg "_law_silent" = some (.ref f49)
  F50 : Fun K "_law_determined" "_law_determined" sDl f50 fd50
  b50 : Binds K fd50 ["_law_wide", "_law_begins", "_law_moves_here", "_law_ends"] []
  g50 : mg "_law_determined" = some (.ref f50)
  F51 : Fun K "_law_moves" "_law_moves" sLMv f51 fd51
  b51 : Binds K fd51 ["_law_machine_here", "_law_begin"] []
  g51 : mg "_law_moves" = some (.ref f51)
  F52 : Fun K "_law_joined" "_law_joined" sLJ f52 fd52
  b52 : Binds K fd52 ["_law_wide", "_law_one", "_law_other"] []
  g52 : mg "_law_joined" = some (.ref f52)
  F53 : Fun K "_law_repeated" "_law_repeated" sLR f53 fd53
  b53 : Binds K fd53 ["_law_wide", "_law_one"] []
  g53 : mg "_law_repeated" = some (.ref f53)
  F54 : Fun K "_law_told_by" "_law_told_by" sToldBy f54 fd54
  b54 : Binds K fd54 ["_law_texts_here"] []
  g54 : mg "_law_told_by" = some (.ref f54)
  F55 : Fun K "_law_cuts" "_law_cuts" sCu f55 fd55
  b55 : Binds K fd55 ["_law_signs_here", "_law_one", "_law_other", "_law_text"] []
  g55 : mg "_law_cuts" = some (.ref f55)
  F56 : Fun K "_law_all_cuts" "_law_all_cuts" sAc f56 fd56
  b56 : Binds K fd56 ["_law_signs_here", "_law_one", "_law_text"] []
  g56 : mg "_law_all_cuts" = some (.ref f56)
  F57 : Fun K "_law_refused" "_law_refused" sRef f57 fd57
  b57 : Binds K fd57 ["_law_one", "_law_other"] []
  g57 : mg "_law_refused" = some (.ref f57)
  F58 : Fun K "_law_times" "_law_times" sLT f58 fd58
  b58 : Binds K fd58 ["_law_wide", "_law_one", "_law_many"] []
  g58 : mg "_law_times" = some (.ref f58)
  T : TxC K C
  gC : mg "Texts" = some (.ref C)
  M : Mk K C fI
  FI : Fun K "__init__" "Texts.__init__" sInit fI fdI
  bI : Binds K fdI ["self", "signs", "rows", "ends"] []
  mI : Meth K C "__init__" fI
  FT : Fun K "table" "Texts.table" sTab fT fdT
  bT : Binds K fdT ["self"] []
  mT : Meth K C "table" fT
  FE : Fun K "ends" "Texts.ends" sEnd fE fdE
  bE : Binds K fdE ["self"] []
  mE : Meth K C "ends" fE
  FQ : Fun K "__eq__" "Texts.__eq__" sEq fQ fdQ
  bQ : Binds K fdQ ["self", "other"] []
  mQ : Meth K C "__eq__" fQ
  FA : Fun K "__add__" "Texts.__add__" sAdd fA fdA
  bA : Binds K fdA ["self", "other"] []
  mA : Meth K C "__add__" fA
  FU : Fun K "__mul__" "Texts.__mul__" sMul fU fdU
  bU : Binds K fdU ["self", "many"] []
  mU : Meth K C "__mul__" fU
  FR : Fun K "repeated" "Texts.repeated" sRepd fR fdR
  bR : Binds K fdR ["self"] []
  mR : Meth K C "repeated" fR
  FZ : Fun K "__contains__" "Texts.__contains__" sCont fZ fdZ
  bZ : Binds K fdZ ["self", "thing"] []
  mZ : Meth K C "__contains__" fZ
  ha : PySem.W.findIn K (.ref C) "__class__" = some (some (.builtin "object.__class__"))
  hn : PySem.W.specialIn K (.builtin "object.__class__") "__get__" = some (some (.builtin "getset_descriptor.__get__"))
  ht : PySem.W.takesIn K (.builtin "object.__class__") = some true
  hm : PySem.W.mroIn K C (.type "object") = some true
  kC : PySem.W.kitOne K (.ref C) (.ref C) = some true
  nC : PySem.W.notFirst K C (.ref C) = true
  eqc : EqCls K C fQ
  sf : PySem.W.selfFirst K C = true
  un : ∃ U TE, UnK K mg U TE
  mi : BinI K C .Mult
  c_LETTERS : ∃ u, mg "LETTERS" = some u ∧ RelV (.str letters) u
  c_MOST_SIGNS : ∃ u, mg "MOST_SIGNS" = some u ∧ RelV (.int 4) u
  z_len : mg "len" = none
  z_dict : mg "dict" = none
  z_range : mg "range" = none
  z_list : mg "list" = none
  z_set : mg "set" = none
  z_tuple : mg "tuple" = none
  z_int : mg "int" = none
  z_abs : mg "abs" = none
  z_repr : mg "repr" = none
  z_isinstance : mg "isinstance" = none
  z_str : mg "str" = none
  z_bool : mg "bool" = none
  z_all : mg "all" = none
  z_any : mg "any" = none
  z_zip : mg "zip" = none
  z_enumerate : mg "enumerate" = none
  z_sorted : mg "sorted" = none
  z_ValueError : mg "ValueError" = none
section
variable {P : Program} {w : World} {K : PySem.W.Frag} {mg : Str → Option Value} {base : Heap}
theorem ok_law {f : Addr} {fd : FuncData} {f9 f10 f11 f12 f14 f15 f16 f17 f18 f19 f20 f21 f27 f29 f30 f32 f33 f36 f37 f39 f40 f41 f42 f43 f44 f45 f46 f47 f48 f49 f50 f51 f52 f53 f54 f55 f56 f57 f58 C fI fT fE fQ fA fU fR fZ : Addr} {fd9 fd10 fd11 fd12 fd14 fd15 fd16 fd17 fd18 fd19 fd20 fd21 fd27 fd29 fd30 fd32 fd33 fd36 fd37 fd39 fd40 fd41 fd42 fd43 fd44 fd45 fd46 fd47 fd48 fd49 fd50 fd51 fd52 fd53 fd54 fd55 fd56 fd57 fd58 fdI fdT fdE fdQ fdA fdU fdR fdZ : FuncData} (F : Fun K "law" "law" sLaw f fd)
    (T : Txt K mg f9 f10 f11 f12 f14 f15 f16 f17 f18 f19 f20 f21 f27 f29 f30 f32 f33 f36 f37 f39 f40 f41 f42 f43 f44 f45 f46 f47 f48 f49 f50 f51 f52 f53 f54 f55 f56 f57 f58 C fI fT fE fQ fA fU fR fZ fd9 fd10 fd11 fd12 fd14 fd15 fd16 fd17 fd18 fd19 fd20 fd21 fd27 fd29 fd30 fd32 fd33 fd36 fd37 fd39 fd40 fd41 fd42 fd43 fd44 fd45 fd46 fd47 fd48 fd49 fd50 fd51 fd52 fd53 fd54 fd55 fd56 fd57 fd58 fdI fdT fdE fdQ fdA fdU fdR fdZ) :
    GFn P w K mg base CX0 9 f fd ["_law_script"] (spLaw K) := by
  obtain ⟨ds5, vd5, bd5⟩ := T.b18
  obtain ⟨uL, gL, rL⟩ := T.c_LETTERS
  obtain ⟨uM, gM, rM⟩ := T.c_MOST_SIGNS
  obtain ⟨U, TE, UK⟩ := T.un
  have GM : FnOk P w K mg base CX0 3 f18 fd18 ["rows", "ends", "begin"] spLm := ok_lm T.F18 T.F14 T.b14 T.g14 T.F17 T.b17 T.g17 T.F15 T.b15 T.g15 T.F16 T.b16 T.g16 T.z_len T.z_tuple T.z_set T.z_list T.z_int T.z_range
  have GSg : FnOk P w K mg base CX0 3 f10 fd10 ["thing"] spIsSg := ok_isSg T.F10 gL rL gM rM T.z_isinstance T.z_str T.z_len T.z_all T.z_zip
  have GRw : FnOk P w K mg base CX0 3 f27 fd27 ["wide", "thing"] spAreR := ok_areR T.F27 T.F12 T.b12 T.g12 T.F9 T.b9 T.g9 T.z_isinstance T.z_int T.z_bool T.z_list T.z_len T.z_all
  have GNm : FnOk P w K mg base CX0 3 f12 fd12 ["many", "thing"] spIsNum := ok_isNum T.F12 T.F9 T.b9 T.g9 T.z_isinstance T.z_int T.z_bool
  have GI : FnOk P w K mg base CX0 4 fI fdI ["self", "signs", "rows", "ends"] (spInit C) := ok_init T.FI T.T GSg T.F10 T.b10 T.g10 GRw T.F27 T.b27 T.g27 GNm T.F12 T.b12 T.g12 GM T.F18.kp T.g18 vd5 bd5 T.z_isinstance T.z_list T.z_len T.z_all
  have GTf : FnOk P w K mg base CX0 8 f47 fd47 ["_law_signs_here", "_law_machine_here"] (spTof C) := (ok_tof T.F47 T.M T.gC GI T.bI).mono (by decide)
  have GQ : FnOk P w K mg base CX0 6 fQ fdQ ["self", "other"] (Rg.spEq K C) := ok_eq T.FQ T.T T.gC T.z_isinstance T.ha T.hn T.ht T.hm T.kC
  have B : TxB K C fQ := ⟨T.T, T.eqc, T.nC, T.ha, T.hn, T.ht, T.hm, T.sf⟩
  have GD : FnOk P w K mg base CX0 5 f21 fd21 ["wide", "begins", "moves", "ends"] spDetU := ok_det (k := 1) T.F21 T.F19 T.b19 T.g19 T.F20 T.b20 T.g20 T.F18 T.b18 T.g18 T.F14 T.b14 T.g14 T.F17 T.b17 T.g17 T.F15 T.b15 T.g15 T.F16 T.b16 T.g16 T.z_len T.z_tuple T.z_set T.z_list T.z_int T.z_range T.z_dict T.z_sorted T.z_any
  have GV : FnOk P w K mg base CX0 5 f30 fd30 ["rows", "begin"] spMvs := ok_mvs T.F30 T.z_enumerate
  have GJ : FnOk P w K mg base CX0 6 f32 fd32 ["one", "other"] (spJoin C) := ok_joined (k := 4) T.F32 T.T T.M T.gC GI T.bI GV T.F30 T.b30 T.g30 GD T.F21 T.b21 T.g21 T.z_len
  have GRp : FnOk P w K mg base CX0 6 fR fdR ["self"] (spRep C) := ok_repd (k := 4) T.FR T.T T.M T.gC GI T.bI GV T.F30 T.b30 T.g30 GD T.F21 T.b21 T.g21 T.z_len
  have GOw6 : FnOk P w K mg base CX0 6 f36 fd36 ["signs", "words"] (spOfW C) := ok_ofW (k := 4) T.F36 T.M T.gC GI T.bI GD T.F21 T.b21 T.g21 T.z_len
  have GOw : FnOk P w K mg base CX0 8 f36 fd36 ["signs", "words"] (spOfW C) := GOw6.mono (by decide)
  have GTm : FnOk P w K mg base CX0 7 f33 fd33 ["one", "many"] (spTimes C) := ok_times (k := 6) T.F33 T.T GJ T.F32 T.b32 T.g32 GOw6 T.F36 T.b36 T.g36 T.z_range
  have dAd : PySem.dunder Operator.Add.info.2 = "__add__" := by decide +kernel
  have dMu : PySem.dunder Operator.Mult.info.2 = "__mul__" := by decide +kernel
  have GAdd : OpOkS P w K mg base C 7 .Add "other" (spJoin C) := ⟨fA, fdA, by rw [dAd]; exact T.mA.at_, T.mA.fn, ok_add T.FA GJ T.F32 T.b32 T.g32, T.bA⟩
  have GMul : OpOkS P w K mg base C 8 .Mult "many" (spTimes C) := ⟨fU, fdU, by rw [dMu]; exact T.mU.at_, T.mU.fn, ok_mul T.FU GTm T.F33 T.b33 T.g33, T.bU⟩
  have GNo : FnOk P w K mg base CX0 8 f37 fd37 ["signs"] (spEvery C false) := (ok_none T.F37 T.M T.gC GI T.bI T.z_len).mono (by decide)
  have GCo : FnOk P w K mg base CX0 8 fZ fdZ ["self", "thing"] (spIn C) := ok_cont (k := 7) T.FZ T.T (ok_isText T.F11 T.z_isinstance T.z_str T.z_all) T.F11 T.b11 T.g11 (ok_behind T.F29) T.F29 T.b29 T.g29
  have GTx : FnOk P w K mg base CX0 8 f43 fd43 ["_law_signs_here", "_law_longest"] spTexts := ok_texts T.F43 T.z_len
  have GHa : FnOk P w K mg base CX0 7 f45 fd45 ["_law_signs_here", "_law_machine_here", "_law_text"] spHasT := ok_hasT (k := 6) T.F45 (ok_ledT T.F44) T.F44 T.b44 T.g44
  have GCu : FnOk P w K mg base CX0 8 f55 fd55 ["_law_signs_here", "_law_one", "_law_other", "_law_text"] spCuts := ok_cuts (k := 7) T.F55 GHa T.F45 T.b45 T.g45 T.z_len T.z_range
  have GAc : FnOk P w K mg base CX0 8 f56 fd56 ["_law_signs_here", "_law_one", "_law_text"] spAllCuts := ok_allCuts (k := 7) T.F56 GHa T.F45 T.b45 T.g45 T.z_len T.z_range
  have GLV : FnOk P w K mg base CX0 6 f51 fd51 ["_law_machine_here", "_law_begin"] spLMvs := ok_lmvs T.F51 T.z_enumerate T.z_len T.z_range
  have GDl : FnOk P w K mg base CX0 6 f50 fd50 ["_law_wide", "_law_begins", "_law_moves_here", "_law_ends"] spDetLU := ok_dl (k := 4) T.F50 T.F49 T.b49 T.g49 T.z_len T.z_tuple T.z_set T.z_sorted T.z_range
  have GLe : FnOk P w K mg base CX0 6 f48 fd48 ["_law_rows", "_law_ends"] spLeast := ok_least T.F48 T.z_len T.z_dict T.z_range
  have GLJ7 : FnOk P w K mg base CX0 7 f52 fd52 ["_law_wide", "_law_one", "_law_other"] spLJ := ok_lj (k := 6) T.F52 GLV T.F51 T.b51 T.g51 GDl T.F50 T.b50 T.g50 GLe T.F48 T.b48 T.g48 T.z_len
  have GLJ : FnOk P w K mg base CX0 8 f52 fd52 ["_law_wide", "_law_one", "_law_other"] spLJ := GLJ7.mono (by decide)
  have GLR : FnOk P w K mg base CX0 8 f53 fd53 ["_law_wide", "_law_one"] spLR := (ok_lr (k := 6) T.F53 GLV T.F51 T.b51 T.g51 GDl T.F50 T.b50 T.g50 GLe T.F48 T.b48 T.g48 T.z_len).mono (by decide)
  have GLT : FnOk P w K mg base CX0 8 f58 fd58 ["_law_wide", "_law_one", "_law_many"] spLT := ok_lt (k := 7) T.F58 GLJ7 T.F52 T.b52 T.g52 T.z_range
  have GTo : FnOk P w K mg base CX0 8 f54 fd54 ["_law_texts_here"] (spToldBy C) := ok_toldBy (k := 7) T.F54 T.T (ok_tab T.FT T.T T.z_list) T.bT T.mT (ok_end T.FE T.T T.z_list) T.bE T.mE
  have GTab : FnOk P w K mg base CX0 8 fT fdT ["self"] (spTab C) := ok_tab T.FT T.T T.z_list
  have GJX : FnOk P w K mg base (L2.CX P w) 6 f32 fd32 ["one", "other"] (spBinX C U) := ok_joinX T.F32 T.T UK
  have XAdd : OpOkX P w K mg base C U 7 .Add := ⟨fA, fdA, by rw [dAd]; exact T.mA.at_, T.mA.fn, ok_addX T.FA GJX T.F32 T.b32 T.g32, T.bA⟩
  have GRf : FnOk P w K mg base CX0 8 f57 fd57 ["_law_one", "_law_other"] (spRefJ C) := ok_refused (k := 7) T.F57 T.T UK T.sf T.z_isinstance T.z_ValueError XAdd
  have GB : FnOk P w K mg base CX0 8 f39 fd39 ["_law_script"] (spBag K) := ok_bag T.F39 T.z_abs
  have GTk : FnOk P w K mg base CX0 8 f40 fd40 ["_law_bag_here", "_law_many"] spTake := ok_take T.F40 T.z_int
  have GA : GFn P w K mg base CX0 8 f41 fd41 ["_law_found", "_law_due"] (spAlk K) := ok_alk T.F41 T.z_repr
  have GS : FnOk P w K mg base CX0 8 f42 fd42 ["_law_bag_here"] spSgM := ok_signsM T.F42 T.F40 T.b40 T.g40 T.z_int
  have GC : FnOk P w K mg base CX0 8 f46 fd46 ["_law_bag_here", "_law_signs_here", "_law_states"] spMachS := ok_mach T.F46 T.F40 T.b40 T.g40 T.z_int T.z_len T.z_range
  refine fun_okG F scLaw (fun vs H Q E h => ?_) (fun cdv A outer s H vs Q E hr hg h => ?_)
  · obtain ⟨a, ns, rfl, _⟩ := h
    rfl
  · obtain ⟨a, ns, rfl, hS, hns, q⟩ := h
    have hr7 := hr.mono (show 7 ≤ 8 by decide)
    have hr6 := hr.mono (show 6 ≤ 8 by decide)
    have hr5 := hr.mono (show 5 ≤ 8 by decide)
    refine ⟨_, (pss_cons (ps_set (i := 1) scLaw.nd rfl (.inl rfl) (pe_call GB hr (by rfl) T.g39 T.F39.kp T.b39 .nil pass0 (pa_cons (pv 0) pa_nil)))
      (pss_cons (ps_for PassesOwn.never rfl (pi_range1 (by rfl) T.z_range (pa_cons pe_int pa_nil)) (pg_name (i := 2) scLaw.nd rfl (.inl rfl))
        (pss_cons (ps_set (i := 3) scLaw.nd rfl (.inl rfl) (pe_call GS hr (by rfl) T.g42 T.F42.kp T.b42 .nil pass0 (pa_cons (pv 1) pa_nil)))
      (pss_cons (ps_par (i := 4) (j := 5) rfl scLaw.nd rfl rfl (by decide) rfl rfl (pa_cons (pe_call GC hr (by rfl) T.g46 T.F46.kp T.b46 .nil pass0 (pa_cons (pv 1) (pa_cons (pv 3) (pa_cons pe_int pa_nil)))) (pa_cons (pe_call GC hr (by rfl) T.g46 T.F46.kp T.b46 .nil pass0 (pa_cons (pv 1) (pa_cons (pv 3) (pa_cons pe_int pa_nil)))) pa_nil)) rfl)
      (C8.pss_cut (ps_set (i := 5) scLaw.nd rfl (.inl rfl) (pe_ix ix_list (pe_lst (pa_cons (pv 5) (pa_cons (pv 4) pa_nil))) (pe_callTy call_int1 (by rfl) T.z_int bInt (pa_cons (pe_cmpR op_eq (pe_call GTk hr (by rfl) T.g40 T.F40.kp T.b40 .nil pass0 (pa_cons (pv 1) (pa_cons pe_int pa_nil))) pe_int (nomark _)) pa_nil)) (fun _ _ => rfl)))
      (pss_cons (ps_par3 (i := 6) (j := 7) (l := 8) rfl scLaw.nd rfl rfl rfl (by decide) (by decide) (by decide) rfl rfl rfl (pa_cons (pe_callB call_len_str (by rfl) T.z_len bLen (pa_cons (pv 3) pa_nil)) (pa_cons (pe_call GTf hr (by rfl) T.g47 T.F47.kp T.b47 .nil pass0 (pa_cons (pv 3) (pa_cons (pv 4) pa_nil))) (pa_cons (pe_call GTf hr (by rfl) T.g47 T.F47.kp T.b47 .nil pass0 (pa_cons (pv 3) (pa_cons (pv 5) pa_nil))) pa_nil))) rfl)
      (pss_cons (ps_set (i := 9) scLaw.nd rfl (.inl rfl) (pe_call GC hr (by rfl) T.g46 T.F46.kp T.b46 .nil pass0 (pa_cons (pv 1) (pa_cons (pv 3) (pa_cons pe_int pa_nil)))))
      (C8.pss_cut (ps_par (i := 10) (j := 11) rfl scLaw.nd rfl rfl (by decide) rfl rfl (pa_cons (pe_call GTk hr (by rfl) T.g40 T.F40.kp T.b40 .nil pass0 (pa_cons (pv 1) (pa_cons (pe_ix ix_list (pe_lst (pa_cons pe_int (pa_cons pe_int (pa_cons pe_int pa_nil)))) (pe_op op_sub (pe_callB call_len_seq (by rfl) T.z_len bLen (pa_cons (pe_ix ix_tup (pv 9) pe_int (fun _ _ => rfl)) pa_nil)) pe_int) (fun _ _ => rfl)) pa_nil))) (pa_cons (pe_call GTf hr (by rfl) T.g47 T.F47.kp T.b47 .nil pass0 (pa_cons (pv 3) (pa_cons (pv 9) pa_nil))) pa_nil)) rfl)
      (pss_cons (ps_set (i := 12) scLaw.nd rfl (.inl rfl) (pe_lst (pa_cons (pe_call GLJ hr (by rfl) T.g52 T.F52.kp T.b52 .nil pass0 (pa_cons (pv 6) (pa_cons (pv 4) (pa_cons (pv 5) pa_nil)))) (pa_cons (pe_call GLR hr (by rfl) T.g53 T.F53.kp T.b53 .nil pass0 (pa_cons (pv 6) (pa_cons (pv 4) pa_nil))) (pa_cons (pe_call GLT hr (by rfl) T.g58 T.F58.kp T.b58 .nil pass0 (pa_cons (pv 6) (pa_cons (pv 9) (pa_cons (pv 10) pa_nil)))) pa_nil)))))
      (pss_cons (ps_for PassesOwn.never rfl (pi_range1 (by rfl) T.z_range (pa_cons pe_int pa_nil)) (pg_name (i := 13) scLaw.nd rfl (.inl rfl)) (pss_cons (ps_set (i := 14) scLaw.nd rfl (.inl rfl) (pe_lst (pa_cons (pe_op (op_binS T.sf GAdd hr7) (pv 7) (pv 8)) (pa_cons (pe_meth0 (pv 7) T.T.cl T.mR GRp hr6 T.bR .nil pass0) (pa_cons (pe_op (op_binN T.mi GMul hr) (pv 11) (pv 10)) pa_nil)))))
      (pss_one (ps_if (pt_not (pt_val (pe_callG GA hr hg (by rfl) T.g41 T.F41.kp T.b41 .nil pass0 (pa_cons (pe_lc (own := [("_law_some", 20)]) (g := gName 20) (tt := tYes) (te := tCall (spToldBy C) [] E0 (tCons (tVar 20) tNil)) rfl scLaw.nd (pi_list (pv 14)) (blkOk_by (own := [("_law_some", 20)]) (N := nLaw) (sc := defScope sLaw) (by decide +kernel)) (fun _ _ _ _ _ => pg_name (i := 20) scLaw.nd rfl (Or.inl rfl)) (fun _ _ _ _ _ => pts_nil) (fun _ _ _ _ _ => (pe_call GTo hr (by rfl) T.g54 T.F54.kp T.b54 .nil pass0 (pa_cons (pv 20) pa_nil)))) (pa_cons (pv 12) pa_nil))))) (pss_one (ps_ret pe_bl)) pss_nil))))
      (pss_cons (ps_for PassesOwn.never rfl (pi_list (pe_call GTx hr (by rfl) T.g43 T.F43.kp T.b43 .nil pass0 (pa_cons (pv 3) (pa_cons pe_int pa_nil)))) (pg_name (i := 15) scLaw.nd rfl (.inl rfl)) (pss_cons (ps_set (i := 16) scLaw.nd rfl (.inl rfl) (pe_lst (pa_cons (pe_call GCu hr (by rfl) T.g55 T.F55.kp T.b55 .nil pass0 (pa_cons (pv 3) (pa_cons (pv 4) (pa_cons (pv 5) (pa_cons (pv 15) pa_nil))))) (pa_cons (pe_call GAc hr (by rfl) T.g56 T.F56.kp T.b56 .nil pass0 (pa_cons (pv 3) (pa_cons (pv 4) (pa_cons (pv 15) pa_nil)))) pa_nil))))
      (pss_one (ps_if (pt_not (pt_val (pe_callG GA hr hg (by rfl) T.g41 T.F41.kp T.b41 .nil pass0 (pa_cons (pe_lst (pa_cons (pe_cmpR (op_inOwn T.mZ.at_ T.mZ.fn GCo hr T.bZ .nil pass0) (pv 15) (pe_ix ix_list (pv 14) pe_int (fun _ _ => rfl)) (by rfl)) (pa_cons (pe_cmpR (op_inOwn T.mZ.at_ T.mZ.fn GCo hr T.bZ .nil pass0) (pv 15) (pe_ix ix_list (pv 14) pe_int (fun _ _ => rfl)) (by rfl)) pa_nil))) (pa_cons (pv 16) pa_nil))))) (pss_one (ps_ret pe_bl)) pss_nil))))
      (pss_cons (ps_set (i := 17) scLaw.nd rfl (.inl rfl) (pe_call GOw hr (by rfl) T.g36 T.F36.kp T.b36 .nil pass0 (pa_cons (pv 3) (pa_cons (pe_lst (pa_cons pe_str pa_nil)) pa_nil))))
      (pss_cons (ps_if (pw_or (pt_cmpR (op_neOwn T.eqc GQ hr7 T.bQ .nil pass0) (pe_op (op_binS T.sf GAdd hr7) (pv 7) (pv 17)) (pv 7) (nomark _)) (pw_or (pt_cmpR (op_neOwn T.eqc GQ hr7 T.bQ .nil pass0) (pe_op (op_binS T.sf GAdd hr7) (pv 17) (pv 7)) (pv 7) (nomark _)) (pw_or (pt_cmpR (op_neOwn T.eqc GQ hr7 T.bQ .nil pass0) (pe_op (op_binS T.sf GAdd hr7) (pv 7) (pe_call GNo hr (by rfl) T.g37 T.F37.kp T.b37 .nil pass0 (pa_cons (pv 3) pa_nil))) (pe_call GNo hr (by rfl) T.g37 T.F37.kp T.b37 .nil pass0 (pa_cons (pv 3) pa_nil)) (nomark _)) (pw_or1 (pt_cmpR (op_neOwn T.eqc GQ hr7 T.bQ .nil pass0) (pe_op (op_binN T.mi GMul hr) (pv 11) pe_int) (pv 11) (nomark _)))))).pt (pss_one (ps_ret pe_bl)) pss_nil)
      (pss_cons (ps_set (i := 18) scLaw.nd rfl (.inl rfl) (pe_op (op_binS T.sf GAdd hr7) (pv 8) (pv 11)))
      (C8.pss_cut (ps_if (pw_and (pt_cmpR op_lt (pe_callB call_len_seq (by rfl) T.z_len bLen (pa_cons (pe_meth0 (pv 18) T.T.cl T.mT GTab hr T.bT .nil pass0) pa_nil)) pe_int (nomark _)) (pw_and1 (pt_cmpR (op_neOwn T.eqc GQ hr7 T.bQ .nil pass0) (pe_op (op_binS T.sf GAdd hr7) (pe_op (op_binS T.sf GAdd hr7) (pv 11) (pv 8)) (pv 11)) (pe_op (op_binS T.sf GAdd hr7) (pv 11) (pv 18)) (nomark _)))).pt (pss_one (ps_ret pe_bl)) pss_nil)
      (pss_cons (ps_if (pw_or (pt_cmpR (op_neOwn T.eqc GQ hr7 T.bQ .nil pass0) (pv 7) (pe_call GTf hr (by rfl) T.g47 T.F47.kp T.b47 .nil pass0 (pa_cons (pv 3) (pa_cons (pv 4) pa_nil))) (nomark _)) (pw_or1 (pt_cmpR (op_neOwn T.eqc GQ hr7 T.bQ .nil pass0) (pe_op (op_binN T.mi GMul hr) (pv 11) pe_int) (pv 17) (nomark _)))).pt (pss_one (ps_ret pe_bl)) pss_nil)
      (pss_cons (ps_set (i := 19) scLaw.nd rfl (.inl rfl) (pe_make T.M GI hr5 (by rfl) T.gC T.bI .nil pass0 (pa_cons (pe_ix ix_list (pe_lst (pa_cons pe_str (pa_cons pe_str (pa_cons pe_str (pa_cons pe_str pa_nil))))) (pe_op op_sub (pv 6) pe_int) (fun _ _ => rfl)) (pa_cons (pe_ix ix_tup (pv 4) pe_int (fun _ _ => rfl)) (pa_cons (pe_ix ix_tup (pv 4) pe_int (fun _ _ => rfl)) pa_nil)))))
      (pss_one (ps_if (pw_or (pt_not (pt_val (pe_call GRf hr (by rfl) T.g57 T.F57.kp T.b57 .nil pass0 (pa_cons (pv 7) (pa_cons (pv 19) pa_nil))))) (pw_or1 (pt_not (pt_val (pe_call GRf hr (by rfl) T.g57 T.F57.kp T.b57 .nil pass0 (pa_cons (pv 19) (pa_cons (pv 7) pa_nil))))))).pt (pss_one (ps_ret pe_bl)) pss_nil))))))))))))))))))
      (pss_one (ps_ret pe_bl)))), ?_⟩
    refine ⟨_, rfl, a, ns, rfl, hS, hns, fun H0 g c s0 ng nc hB0 => ?_⟩
    refine ⟨2, rfl, by decide, by decide, ?_⟩
    refine for_range (n := 2) (fun i σ H => ∃ (y2 y3 y4 y5 y6 y7 y8 y9 y10 y11 y12 y13 y14 y15 y16 y17 y18 y19 : Option V), σ = [some (.ref a), some (.ref g), y2, y3, y4, y5, y6, y7, y8, y9, y10, y11, y12, y13, y14, y15, y16, y17, y18, y19, none] ∧ Bag H g c) ⟨none, none, none, none, none, none, none, none, none, none, none, none, none, none, none, none, none, none, rfl, hB0⟩ ?_ ?_
    · clear hB0 s0 ng nc hS hns ns q H0
      rintro i σ H0 hi ⟨y2, y3, y4, y5, y6, y7, y8, y9, y10, y11, y12, y13, y14, y15, y16, y17, y18, y19, rfl, hB0⟩
      -- signs
      refine ⟨_, rfl, g, c, rfl, hB0, fun H1 z hzd hB1 b1 => ?_⟩
      have hzm := drawn_menu hzd
      have hz := menu_ok hzm
      have hix := menu_ix hzm
      have hk1 := hz.pos
      have hk4 := hz.few
      clear b1 hB0
      -- machines
      refine ⟨_, rfl, _, rfl, g, c, z, 5, rfl, hB1, hk1, hk4, by omega, by omega, fun H2 t1 pr1 pe1 xs1 R E hB2 b2 nn1 ht1 hR1 he1 hM1 h01 hl1 hE1 hEl1 => ?_⟩
      have M12 : MacG g H2 t1 z.cps.size 5 R E := macG_of hB1 nn1 ht1 hR1 he1 hM1 h01 hl1 hE1 hEl1
      clear nn1 hR1 he1 hM1 h01 hl1 hE1 hEl1 ht1 pr1 pe1 xs1
      refine ⟨_, rfl, _, rfl, g, c, z, 4, rfl, hB2, hk1, hk4, by omega, by omega, fun H3 t2 pr2 pe2 xs2 S G hB3 b3 nn2 ht2 hR2 he2 hM2 h02 hl2 hE2 hEl2 => ?_⟩
      have M23 : MacG g H3 t2 z.cps.size 5 S G := (macG_of hB2 nn2 ht2 hR2 he2 hM2 h02 hl2 hE2 hEl2).le' (by decide)
      have M13 := M12.but hB2 b3
      clear nn2 hR2 he2 hM2 h02 hl2 hE2 hEl2 ht2 pr2 pe2 xs2 M12 b2 b3 hB1 hB2
      refine ⟨_, _, rfl, ?_⟩
      refine ⟨fun σ' H' => ∃ (t2 : Addr) (S : List (List Nat)) (G : List Nat), σ' = [some (.ref a), some (.ref g), some (.int (0 + (i : Int))), some (.str z), some (.ref t1), some (.ref t2), y6, y7, y8, y9, y10, y11, y12, y13, y14, y15, y16, y17, y18, y19, none] ∧ Bag H' g c ∧ MacG g H' t1 z.cps.size 5 R E ∧ MacG g H' t2 z.cps.size 5 S G, ?_, ?_⟩
      · refine ⟨_, rfl, _, rfl, by show 2 ≤ sizeLine; decide, fun lm nlm => ?_⟩
        have s4 := same_new (o := .lst [.ref t2, .ref t1]) nlm
        have hl4 : (upd H3 lm (.lst [.ref t2, .ref t1])) lm = some (.lst [.ref t2, .ref t1]) := upd_same
        have lmg : lm ≠ g := hB3.ne nlm
        generalize (upd H3 lm (.lst [.ref t2, .ref t1])) = H4 at s4 hl4
        have hB4 := hB3.same s4
        refine ⟨_, rfl, g, c, 5, rfl, hB4, by decide, by decide, fun H5 r hr5 hB5 b5 => ⟨rfl, .inr ⟨_, rfl, ?_⟩⟩⟩
        have hl5 := b5 _ _ lmg hl4
        have M15 := (M13.same s4).but hB4 b5
        have M25 := (M23.same s4).but hB4 b5
        generalize decide (nV r = V.int 0) = bb
        cases bb with
        | false => exact ⟨lm, _, _, _, rfl, rfl, SqL.of hl5, (rfl : atI [V.ref t2, V.ref t1] 0 = some (.ref t2)), t2, S, G, rfl, hB5, M15, M25⟩
        | true => exact ⟨lm, _, _, _, rfl, rfl, SqL.of hl5, (rfl : atI [V.ref t2, V.ref t1] 1 = some (.ref t1)), t1, R, E, rfl, hB5, M15, M15⟩
      clear M13 M23 hB3 S G t2
      rintro σ H4 ⟨t2, S, G, rfl, hB4, M14, M24⟩
      -- sets
      refine ⟨_, rfl, z, rfl, szBigLe (by show z.cps.size ≤ _; omega), _, rfl, _, rfl, ?_⟩
      obtain ⟨⟨ka, ke, kx, k1, k2, k3, _⟩, k7, k8, k9, k10, k11⟩ := id M14
      refine ⟨t1, ka, ke, z, kx, R, E, rfl, k1, hz, k2, k7, k8, by omega, k3, k10, by omega, fun H5 p1 t' e' ys R' E' s5 np hT hn hL hA hl => ?_⟩
      have T15 : TxG C g H5 p1 z 5 (mLg R E) := tof_post hB4 np hT hn hL hA (by omega)
      clear np hT hn hL hA hl k1 k2 k3 k7 k8 k9 k10 k11
      refine ⟨_, rfl, _, rfl, ?_⟩
      obtain ⟨⟨ka, ke, kx, k1, k2, k3, _⟩, k7, k8, k9, k10, k11⟩ := id (M24.same s5)
      refine ⟨t2, ka, ke, z, kx, S, G, rfl, k1, hz, k2, k7, k8, by omega, k3, k10, by omega, fun H6 p2 t' e' ys R' E' s6 np hT hn hL hA hl => ?_⟩
      have T26 : TxG C g H6 p2 z 5 (mLg S G) := tof_post (hB4.same s5) np hT hn hL hA (by omega)
      clear np hT hn hL hA hl k1 k2 k3 k7 k8 k9 k10 k11
      have hB6 := (hB4.same s5).same s6
      have M16 := (M14.same s5).same s6
      have M26 := (M24.same s5).same s6
      have T16 := T15.same s6
      clear T15 M14 M24 hB4 s5 s6
      refine ⟨_, _, _, rfl, ?_⟩
      refine ⟨_, rfl, _, rfl, g, c, z, 3, rfl, hB6, hk1, hk4, by omega, by omega, fun H7 t3 pr3 pe3 xs3 R3 E3 hB7 b7 nn3 ht3 hR3 he3 hM3 h03 hl3 hE3 hEl3 => ?_⟩
      have M37 : MacG g H7 t3 z.cps.size R3.length R3 E3 := macG_of hB6 nn3 ht3 hR3 he3 hM3 h03 (Nat.le_refl _) hE3 hEl3
      have M17 := M16.but hB6 b7
      have M27 := M26.but hB6 b7
      have T17 := T16.but b7
      have T27 := T26.but b7
      have pr3g : pr3 ≠ g := hB6.ne (nn3 pr3 (by simp))
      clear nn3 he3 hM3 hE3 hEl3 T16 T26 M16 M26 b7
      -- how many times
      refine ⟨fun σ' H' => ∃ (p3 : Addr) (c' : Nat), σ' = [some (.ref a), some (.ref g), some (.int (0 + (i : Int))), some (.str z), some (.ref t1), some (.ref t2), some (nV z.cps.size), some (.ref p1), some (.ref p2), some (.ref t3), some (nV c'), some (.ref p3), y12, y13, y14, y15, y16, y17, y18, y19, none] ∧ Bag H' g c ∧ MacG g H' t1 z.cps.size 5 R E ∧ MacG g H' t2 z.cps.size 5 S G ∧ MacG g H' t3 z.cps.size R3.length R3 E3 ∧ TxL C H' p1 z 5 (mLg R E) ∧ TxL C H' p2 z 5 (mLg S G) ∧ TxL C H' p3 z R3.length (mLg R3 E3) ∧ (c' : Int) < ([7, 5, 4] : List Int).getD (R3.length - 1) 0, ?_, ?_⟩
      · refine ⟨_, rfl, by show 3 ≤ sizeLine; decide, fun lm nlm => ?_⟩
        have s8 := same_new (o := .lst [.int 7, .int 5, .int 4]) nlm
        have hl8 : (upd H7 lm (.lst [.int 7, .int 5, .int 4])) lm = some (.lst [.int 7, .int 5, .int 4]) := upd_same
        generalize (upd H7 lm (.lst [.int 7, .int 5, .int 4])) = H8 at s8 hl8
        have hB8 := hB7.same s8
        have hat : atI [V.int 7, V.int 5, V.int 4] (((xs3.map V.ref).length : Int) - 1) = some (.int (([7, 5, 4] : List Int).getD (R3.length - 1) 0)) := by
          rw [List.length_map, hR3.len]
          have h1 : 1 ≤ R3.length := h03
          generalize R3.length = m at h1 hl3
          match m, h1, hl3 with
          | 1, _, _ => rfl
          | 2, _, _ => rfl
          | 3, _, _ => rfl
        have hkk : 0 < ([7, 5, 4] : List Int).getD (R3.length - 1) 0 ∧ ([7, 5, 4] : List Int).getD (R3.length - 1) 0 < 1073741824 := by
          have h1 : 1 ≤ R3.length := h03
          generalize R3.length = m at h1 hl3
          match m, h1, hl3 with
          | 1, _, _ => decide
          | 2, _, _ => decide
          | 3, _, _ => decide
        refine ⟨_, rfl, t3, _, _, _, rfl, rfl, SqT.of (s8 _ _ ht3), (rfl : atI [V.ref pr3, V.ref pe3] 0 = some (.ref pr3)), pr3, _, rfl, .inl (SqL.of (s8 _ _ hR3.at_)), _, _, rfl, rfl, lm, _, _, _, rfl, rfl, SqL.of hl8, hat, ?_⟩
        refine ⟨g, c, _, rfl, hB8, hkk.1, hkk.2, fun H9 c' hc' hB9 b9 => ?_⟩
        have M39 := (M37.same s8).but hB8 b9
        refine ⟨_, rfl, _, rfl, ?_⟩
        obtain ⟨⟨ka, ke, kx, k1, k2, k3, _⟩, k7, k8, k9, k10, k11⟩ := id M39
        refine ⟨t3, ka, ke, z, kx, R3, E3, rfl, k1, hz, k2, k7, k8, by omega, k3, k10, by omega, fun Ha p3 t' e' ys R' E' sa np hT hn hL hA hl => ?_⟩
        have T3 : TxG C g Ha p3 z R3.length (mLg R3 E3) := tof_post hB9 np hT hn hL hA (by omega)
        clear np hT hn hL hA hl k1 k2 k3 k7 k8 k9 k10 k11
        exact ⟨_, _, rfl, p3, c', rfl, hB9.same sa, ((M17.same s8).but hB8 b9).same sa, ((M27.same s8).but hB8 b9).same sa, M39.same sa, (((T17.same s8).but b9).same sa).toL, (((T27.same s8).but b9).same sa).toL, T3.toL, hc'⟩
      clear M17 M27 M37 T17 T27 hB7 hB6 ht3 hR3 xs3 pr3 pe3 pr3g H7 H6 H5 H4 H3 H2 H1 H0
      rintro σ HS ⟨p3, c', rfl, hB, M1, M2, M3, T1, T2, T3, hc'⟩
      have h31 : 1 ≤ R3.length := h03
      obtain ⟨hc6, htb, hbs⟩ := tb_small h31 hl3 hc'
      have hbs' : ∀ i, i < c' → tb R3.length i ≤ 600 ∧ tb R3.length i * 2 ^ R3.length ≤ 2000 := fun i hi => by
        have := hbs i hi
        omega
      -- dues
      refine ⟨_, rfl, _, rfl, _, rfl, t1, t2, z.cps.size, 5, 5, mLg R E, mLg S G, rfl, hk4, M1.toM.ma, M2.toM.ma, by decide, by decide, by decide, fun Ha d1 sa D1 => ?_⟩
      refine ⟨_, rfl, _, rfl, t1, z.cps.size, 5, mLg R E, rfl, hk4, (M1.same sa).toM.ma, by decide, fun Hb d2 sb D2 => ?_⟩
      have sab := sa.trans sb
      refine ⟨_, rfl, _, rfl, _, rfl, t3, z.cps.size, R3.length, c', mLg R3 E3, rfl, hk1, hk4, (M3.same sab).toM.ma, by omega, by omega, hbs, fun Hc d3 sc D3 => ?_⟩
      refine ⟨by show 3 ≤ sizeLine; decide, fun ld nld => ?_⟩
      have sd : Same Hc (upd Hc ld (.lst [.ref d1, .ref d2, .ref d3])) := same_new nld
      have hld : (upd Hc ld (.lst [.ref d1, .ref d2, .ref d3])) ld = some (.lst ([d1, d2, d3].map V.ref)) := upd_same
      generalize (upd Hc ld (.lst [.ref d1, .ref d2, .ref d3])) = Hd at sd hld
      have hdu : Paired (fun (d : Addr) (L : List Nat → Bool) => DueL Hd d z.cps.size 192 L) [d1, d2, d3] [catL (mLg R E) (mLg S G), starL (mLg R E), powL (mLg R3 E3) c'] :=
        .cons ((D1.same ((sb.trans sc).trans sd)).le (by decide)) (.cons ((D2.same (sc.trans sd)).le (by decide)) (.cons ((D3.same sd).le htb) .nil))
      have sSd := (sab.trans sc).trans sd
      generalize [d1, d2, d3] = du at hld hdu
      clear D1 D2 D3 sa sb sc sd sab nld d1 d2 d3 Ha Hb Hc
      -- found
      refine ⟨2, rfl, by decide, by decide, ?_⟩
      refine for_range (n := 2) (fun j σ H => ∃ (y13 y14 : Option V), σ = [some (.ref a), some (.ref g), some (.int (0 + (i : Int))), some (.str z), some (.ref t1), some (.ref t2), some (nV z.cps.size), some (.ref p1), some (.ref p2), some (.ref t3), some (nV c'), some (.ref p3), some (.ref ld), y13, y14, y15, y16, y17, y18, y19, none] ∧ Same Hd H ∧
        (j = 0 ∨ ∃ (lf f1 f2 f3 : Addr), y14 = some (.ref lf) ∧ H lf = some (.lst [.ref f1, .ref f2, .ref f3]) ∧ TxL C H f1 z 4000 (catL (mLg R E) (mLg S G)) ∧ TxL C H f2 z 4000 (starL (mLg R E)))) ⟨y13, y14, rfl, (fun _ _ e => e), .inl rfl⟩ ?_ ?_
      · rintro j σ H0 hj ⟨y13, y14, rfl, s0, _⟩
        have sS := sSd.trans s0
        have A1 := T1.same sS
        have A2 := T2.same sS
        have A3 := T3.same sS
        obtain ⟨dx1, fs1, o1⟩ := A1.ins
        obtain ⟨dx2, fs2, o2⟩ := A2.ins
        refine ⟨_, rfl, _, rfl, p1, dx1, fs1, p2, dx2, fs2, rfl, rfl, o1, o2, p1, p2, z, 5, 5, _, _, rfl, hz, A1, A2, by decide, by decide, by decide, fun Ha f1 sa F1 => ?_⟩
        obtain ⟨tt1, te1, tys1, tR1, tE1, ⟨⟨dxx, oo⟩, _, _⟩, _⟩ := id (A1.same sa)
        refine ⟨_, rfl, p1, dxx, _, rfl, oo, tfl_no _ _ _ (by decide +kernel) (by decide +kernel) (by decide +kernel), p1, z, 5, _, rfl, hz, A1.same sa, by decide, fun Hb f2 sb F2 => ?_⟩
        have sab := sa.trans sb
        obtain ⟨dx3, fs3, o3⟩ := (A3.same sab).ins
        refine ⟨_, rfl, _, rfl, p3, dx3, fs3, _, rfl, rfl, o3, p3, z, R3.length, c', _, rfl, hz, hix, A3.same sab, by omega, by omega, hbs', fun Hc f3 sc F3 => ?_⟩
        refine ⟨by show 3 ≤ sizeLine; decide, fun lf nlf => ?_⟩
        have sl : Same Hc (upd Hc lf (.lst [.ref f1, .ref f2, .ref f3])) := same_new nlf
        have hlf : (upd Hc lf (.lst [.ref f1, .ref f2, .ref f3])) lf = some (.lst ([f1, f2, f3].map V.ref)) := upd_same
        generalize (upd Hc lf (.lst [.ref f1, .ref f2, .ref f3])) = Hl at sl hlf
        have G1 : TxL C Hl f1 z 4000 (catL (mLg R E) (mLg S G)) := (F1.same ((sb.trans sc).trans sl)).le (by decide)
        have G2 : TxL C Hl f2 z 4000 (starL (mLg R E)) := (F2.same (sc.trans sl)).le (by decide)
        have G3 : TxL C Hl f3 z 4000 (powL (mLg R3 E3) c') := (F3.same sl).le (by omega)
        have hfl : Paired (fun (p : Addr) (L : List Nat → Bool) => TxL C Hl p z 4000 L) [f1, f2, f3] [catL (mLg R E) (mLg S G), starL (mLg R E), powL (mLg R3 E3) c'] := .cons G1 (.cons G2 (.cons G3 .nil))
        have s0l := ((s0.trans sab).trans sc).trans sl
        refine ⟨_, rfl, lf, rfl, ⟨_, SqL.of hlf⟩, fun D3 nD3 => ?_⟩
        refine lc_tells (K := K) (i := 20) (by show 20 < 21; decide) hlf (by show 3 ≤ 100; decide) hfl nD3 fun H2 es s2 hD3 hE3 => ?_
        have s02 := s0l.trans s2
        obtain ⟨xs, hx1, hx2, hx3, hx4⟩ := both_dataL (K := K) hk4 hE3 (paired_keep hdu fun d _ L hh => hh.same s02)
        have hel : es.length = 3 := paired_length hE3
        refine ⟨_, rfl, D3, ld, .list xs, 4, 9001 * xs.length, rfl, .lst (SqL.of hD3) hx1, .lst (SqL.of (s02 _ _ hld)) hx2, gd_list hx3, by decide, by omega, true, rfl, ?_⟩
        exact ⟨_, _, rfl, s02, .inr ⟨lf, f1, f2, f3, rfl, s2 _ _ hlf, G1.same s2, G2.same s2⟩⟩
      · rintro σ H0 ⟨y13', y14', rfl, s0, hor⟩
        rcases hor with hor | ⟨lf, f1, f2, f3, rfl, hlf, G1, G2⟩
        · cases hor
        have sS0 := sSd.trans s0
        clear hld hdu sSd s0
        -- texts
        refine ⟨_, rfl, z, 4, rfl, hz, by decide, fun H1 pf ws s1 hpf hws => ⟨pf, rfl, ⟨_, SqL.of hpf⟩, ?_⟩⟩
        have sS1 := sS0.trans s1
        refine for_list (K := K) (a := pf) (xs := txs z ws) (fun j σ H2 => ∃ (y15 y16 : Option V), σ = [some (.ref a), some (.ref g), some (.int (0 + (i : Int))), some (.str z), some (.ref t1), some (.ref t2), some (nV z.cps.size), some (.ref p1), some (.ref p2), some (.ref t3), some (nV c'), some (.ref p3), some (.ref ld), y13', some (.ref lf), y15, y16, y17, y18, y19, none] ∧ Same H1 H2) ⟨y15, y16, rfl, fun _ _ e => e⟩ (fun j σ H2 _ ⟨_, _, _, s2⟩ => SqL.of (s2 _ _ hpf)) ?_ ?_
        · rintro j v σ H2 hj ⟨y15, y16, rfl, s2⟩
          obtain ⟨x, hx, rfl⟩ := txs_at hj
          obtain ⟨hxW, hxl⟩ := hws x (List.mem_of_getElem? hx)
          have sS2 := sS1.trans s2
          have s12 := s1.trans s2
          refine ⟨_, rfl, _, rfl, _, rfl, _, rfl, z, t1, t2, 5, 5, mLg R E, mLg S G, x, rfl, hix, (M1.same sS2).toM.ma, (M2.same sS2).toM.ma, hxW, by omega, fun H3 s3 => ?_⟩
          have sS3 := sS2.trans s3
          refine ⟨_, rfl, _, rfl, _, rfl, z, t1, 5, mLg R E, x, rfl, hix, (M1.same sS3).toM.ma, hxW, by omega, fun H4 s4 => ?_⟩
          refine ⟨by show 2 ≤ sizeLine; decide, fun l1 nl1 => ?_⟩
          have s5 : Same H4 (upd H4 l1 (.lst [.bl (catL (mLg R E) (mLg S G) x), .bl (starL (mLg R E) x)])) := same_new nl1
          have hl1 : (upd H4 l1 (.lst [.bl (catL (mLg R E) (mLg S G) x), .bl (starL (mLg R E) x)])) l1 = some (.lst [.bl (catL (mLg R E) (mLg S G) x), .bl (starL (mLg R E) x)]) := upd_same
          generalize (upd H4 l1 (.lst [.bl (catL (mLg R E) (mLg S G) x), .bl (starL (mLg R E) x)])) = H5 at s5 hl1
          have s15 := ((s12.trans s3).trans s4).trans s5
          obtain ⟨dx1, fs1, o1⟩ := (G1.same s15).ins
          refine ⟨_, rfl, _, rfl, lf, _, _, _, rfl, rfl, SqL.of (s15 _ _ hlf), (rfl : atI [V.ref f1, V.ref f2, V.ref f3] 0 = some (.ref f1)), f1, dx1, fs1, rfl, o1, f1, z, 4000, _, x, rfl, hix, G1.same s15, hxW, by omega, fun H6 s6 => ⟨_, rfl, ?_⟩⟩
          have s16 := s15.trans s6
          obtain ⟨dx2, fs2, o2⟩ := (G2.same s16).ins
          refine ⟨_, rfl, _, rfl, lf, _, _, _, rfl, rfl, SqL.of (s16 _ _ hlf), (rfl : atI [V.ref f1, V.ref f2, V.ref f3] 1 = some (.ref f2)), f2, dx2, fs2, rfl, o2, f2, z, 4000, _, x, rfl, hix, G2.same s16, hxW, by omega, fun H7 s7 => ⟨_, rfl, ?_⟩⟩
          refine ⟨by show 2 ≤ sizeLine; decide, fun l2 nl2 => ?_⟩
          have s8 : Same H7 (upd H7 l2 (.lst [.bl (catL (mLg R E) (mLg S G) x), .bl (starL (mLg R E) x)])) := same_new nl2
          have hl2 : (upd H7 l2 (.lst [.bl (catL (mLg R E) (mLg S G) x), .bl (starL (mLg R E) x)])) l2 = some (.lst [.bl (catL (mLg R E) (mLg S G) x), .bl (starL (mLg R E) x)]) := upd_same
          generalize (upd H7 l2 (.lst [.bl (catL (mLg R E) (mLg S G) x), .bl (starL (mLg R E) x)])) = H8 at s8 hl2
          have s58 := (s6.trans s7).trans s8
          refine ⟨_, rfl, l2, l1, .list [.bool (catL (mLg R E) (mLg S G) x), .bool (starL (mLg R E) x)], 1, 10, rfl, .lst (SqL.of hl2) (.cons (.bl _) (.cons (.bl _) .nil)), .lst (SqL.of (s58 _ _ hl1)) (.cons (.bl _) (.cons (.bl _) .nil)), gd_two' _ _, by decide, by decide, true, rfl, ?_⟩
          exact ⟨_, _, rfl, (((s2.trans s3).trans s4).trans s5).trans s58⟩
        rintro σ H2 ⟨y15', y16', rfl, s2⟩
        have sS2 := sS1.trans s2
        clear hws hpf s2 sS1 sS0 s1 G1 G2 hlf H1 H0
        -- the empty text
        refine ⟨_, rfl, by show 1 ≤ sizeLine; decide, fun le nle => ?_⟩
        have s3 : Same H2 (upd H2 le (.lst [.str ""])) := same_new nle
        have hle : (upd H2 le (.lst [.str ""])) le = some (.lst (txs z [[]])) := upd_same
        generalize (upd H2 le (.lst [.str ""])) = H3 at s3 hle
        refine ⟨z, le, [[]], rfl, hz, hix, hle, fun w hw => by rw [List.mem_singleton.mp hw]; exact Wd.nil _, by decide, by decide, fun H4 pe0 s4 T4 => ?_⟩
        have T4 : TxL C H4 pe0 z 2 epsL := T4.cong fun w _ => eps_dec w
        have sS4 := (sS2.trans s3).trans s4
        have A1 := T1.same sS4
        have A2 := T2.same sS4
        have A3 := T3.same sS4
        have v7 : Ev C z [some (.ref a), some (.ref g), some (.int (0 + (i : Int))), some (.str z), some (.ref t1), some (.ref t2), some (nV z.cps.size), some (.ref p1), some (.ref p2), some (.ref t3), some (nV c'), some (.ref p3), some (.ref ld), y13', some (.ref lf), y15', y16', some (.ref pe0), y18, y19, none] H4 (tVar 7) 5 (mLg R E) := ev_var rfl A1
        have v17 : Ev C z [some (.ref a), some (.ref g), some (.int (0 + (i : Int))), some (.str z), some (.ref t1), some (.ref t2), some (nV z.cps.size), some (.ref p1), some (.ref p2), some (.ref t3), some (nV c'), some (.ref p3), some (.ref ld), y13', some (.ref lf), y15', y16', some (.ref pe0), y18, y19, none] H4 (tVar 17) 2 epsL := ev_var rfl T4
        have v11 : Ev C z [some (.ref a), some (.ref g), some (.int (0 + (i : Int))), some (.str z), some (.ref t1), some (.ref t2), some (nV z.cps.size), some (.ref p1), some (.ref p2), some (.ref t3), some (nV c'), some (.ref p3), some (.ref ld), y13', some (.ref lf), y15', y16', some (.ref pe0), y18, y19, none] H4 (tVar 11) 3 (mLg R3 E3) := ev_var rfl (A3.le hl3)
        refine ne_ev B (fun _ _ e => e) (ev_join hz v7 v17 (by decide) (by decide) (by decide)) v7 (fun w _ => cat_eps w) fun H5 s5 => ⟨false, rfl, ?_⟩
        refine ne_ev B s5 (ev_join hz v17 v7 (by decide) (by decide) (by decide)) v7 (fun w _ => eps_cat w) fun H6 s6 => ⟨false, rfl, ?_⟩
        have s46 := s5.trans s6
        refine ne_ev B s46 (ev_join hz v7 (ev_every hz (fun H Q q => ⟨_, rfl, q⟩)) (by decide) (by decide) (by decide)) (ev_every hz (fun H Q q => ⟨_, rfl, q⟩)) (fun w _ => cat_none w) fun H7 s7 => ⟨false, rfl, ?_⟩
        have s47 := s46.trans s7
        refine ne_ev B s47 (ev_times (n := 1) hz hix v11 (fun H Q q => q) (by decide) (by decide) (fun i hi => by rw [show i = 0 by omega]; decide)) v11 (fun w _ => pow_one w) fun H8 s8 => ⟨false, rfl, ?_⟩
        have sS8 := sS4.trans (s47.trans s8)
        have T8 := (T4.same s47).same s8
        clear v7 v17 v11 s46 s47 s5 s6 s7 s8 A1 A2 A3 T4 hle
        -- both
        have A1 := T1.same sS8
        have A2 := T2.same sS8
        have A3 := (T3.same sS8).le hl3
        obtain ⟨dx2, fs2, o2⟩ := A2.ins
        obtain ⟨dx3, fs3, o3⟩ := A3.ins
        refine ⟨_, rfl, _, rfl, p2, dx2, fs2, p3, dx3, fs3, rfl, rfl, o2, o3, p2, p3, z, 5, 3, _, _, rfl, hz, A2, A3, by decide, by decide, by decide, fun H9 pb s9 T9 => ?_⟩
        refine ⟨fun σ' H' => σ' = [some (.ref a), some (.ref g), some (.int (0 + (i : Int))), some (.str z), some (.ref t1), some (.ref t2), some (nV z.cps.size), some (.ref p1), some (.ref p2), some (.ref t3), some (nV c'), some (.ref p3), some (.ref ld), y13', some (.ref lf), y15', y16', some (.ref pe0), some (.ref pb), y19, none] ∧ Same HS H' ∧ TxL C H' pe0 z 2 epsL, ?_, ?_⟩
        · obtain ⟨tb1, tb2, tb3, Rb, Eb, ⟨⟨dxb, ob⟩, hRb, hEb⟩, hLb, hgb, hmb⟩ := id T9
          refine ⟨_, rfl, pb, dxb, _, rfl, ob, tfl_no _ _ _ (by decide +kernel) (by decide +kernel) (by decide +kernel), pb, z, tb1, tb2, tb3, Rb, Eb, rfl, ⟨⟨dxb, ob⟩, hRb, hEb⟩, by omega, fun Ha qa xa sa _ _ _ hRa => ?_⟩
          have sSa := (sS8.trans s9).trans sa
          have T8a := (T8.same s9).same sa
          refine ⟨qa, _, rfl, .inl (SqL.of hRa.at_), _, _, rfl, rfl, _, rfl, ?_⟩
          rw [List.length_map, hRa.len]
          refine ite2 (fun e => ?_) (fun e => ⟨rfl, sSa, T8a⟩)
          have e6 : Rb.length ≤ 6 := by have := of_decide_eq_true e; omega
          have T9b : TxL C H9 pb z 6 (catL (mLg S G) (mLg R3 E3)) := ⟨tb1, tb2, tb3, Rb, Eb, ⟨⟨dxb, ob⟩, hRb, hEb⟩, hLb, hgb, e6⟩
          have T9a := T9b.same sa
          have v8 : Ev C z [some (.ref a), some (.ref g), some (.int (0 + (i : Int))), some (.str z), some (.ref t1), some (.ref t2), some (nV z.cps.size), some (.ref p1), some (.ref p2), some (.ref t3), some (nV c'), some (.ref p3), some (.ref ld), y13', some (.ref lf), y15', y16', some (.ref pe0), some (.ref pb), y19, none] Ha (tVar 8) 5 (mLg S G) := ev_var rfl (T2.same sSa)
          have v11 : Ev C z [some (.ref a), some (.ref g), some (.int (0 + (i : Int))), some (.str z), some (.ref t1), some (.ref t2), some (nV z.cps.size), some (.ref p1), some (.ref p2), some (.ref t3), some (nV c'), some (.ref p3), some (.ref ld), y13', some (.ref lf), y15', y16', some (.ref pe0), some (.ref pb), y19, none] Ha (tVar 11) 3 (mLg R3 E3) := ev_var rfl ((T3.same sSa).le hl3)
          have v18 : Ev C z [some (.ref a), some (.ref g), some (.int (0 + (i : Int))), some (.str z), some (.ref t1), some (.ref t2), some (nV z.cps.size), some (.ref p1), some (.ref p2), some (.ref t3), some (nV c'), some (.ref p3), some (.ref ld), y13', some (.ref lf), y15', y16', some (.ref pe0), some (.ref pb), y19, none] Ha (tVar 18) 6 (catL (mLg S G) (mLg R3 E3)) := ev_var rfl T9a
          refine ne_ev B (fun _ _ e => e) (ev_join hz (ev_join hz v11 v8 (by decide) (by decide) (by decide)) v11 (by decide) (by decide) (by decide)) (ev_join hz v11 v18 (by decide) (by decide) (by decide)) (fun w _ => cat_assoc w) fun Hb sb => ⟨false, rfl, ?_⟩
          exact ⟨rfl, sSa.trans sb, T8a.same sb⟩
        clear T8 T9 o2 o3 A1 A2 A3 s9 sS8 sS4 s3 s4 sS2
        rintro σ Hb ⟨rfl, sSb, T4⟩
        -- as they were
        refine ⟨_, rfl, _, rfl, _, rfl, ?_⟩
        obtain ⟨⟨ka, ke, kx, k1, k2, k3, _⟩, k7, k8, k9, k10, k11⟩ := id (M1.same sSb)
        refine ⟨t1, ka, ke, z, kx, R, E, rfl, k1, hz, k2, k7, k8, by omega, k3, k10, by omega, fun Hc q1 t' e' ys R' E' sc np hT hn hL hA hl => ?_⟩
        have U1 : TxG C g Hc q1 z 5 (mLg R E) := tof_post (hB.same sSb) np hT hn hL hA (by omega)
        clear np hT hn hL hA hl
        have sSc := sSb.trans sc
        refine ne_same B (T1.same sSc) U1.toL (fun w _ => rfl) ⟨false, rfl, ?_⟩
        have v11 : Ev C z [some (.ref a), some (.ref g), some (.int (0 + (i : Int))), some (.str z), some (.ref t1), some (.ref t2), some (nV z.cps.size), some (.ref p1), some (.ref p2), some (.ref t3), some (nV c'), some (.ref p3), some (.ref ld), y13', some (.ref lf), y15', y16', some (.ref pe0), some (.ref pb), y19, none] Hc (tVar 11) 3 (mLg R3 E3) := ev_var rfl ((T3.same sSc).le hl3)
        have v17 : Ev C z [some (.ref a), some (.ref g), some (.int (0 + (i : Int))), some (.str z), some (.ref t1), some (.ref t2), some (nV z.cps.size), some (.ref p1), some (.ref p2), some (.ref t3), some (nV c'), some (.ref p3), some (.ref ld), y13', some (.ref lf), y15', y16', some (.ref pe0), some (.ref pb), y19, none] Hc (tVar 17) 2 epsL := ev_var rfl (T4.same sc)
        refine ne_ev B (fun _ _ e => e) (ev_times (n := 0) hz hix v11 (fun H Q q => q) (by decide) (by decide) (fun i hi => absurd hi (Nat.not_lt_zero _))) v17 (fun w _ => rfl) fun Hd sd => ⟨false, rfl, ?_⟩
        have sSd := sSc.trans sd
        clear v11 v17 U1 T4
        -- strange
        obtain ⟨y, hy1, hy2, hy3, hy4⟩ := strange_of hzd
        refine ⟨by show 4 ≤ sizeLine; decide, fun l4 nl4 => ?_⟩
        have si : Same Hd (upd Hd l4 (.lst [.str "b", .str "cd", .str "def", .str "bcde"])) := same_new nl4
        have hl4 : (upd Hd l4 (.lst [.str "b", .str "cd", .str "def", .str "bcde"])) l4 = some (.lst (strg.map V.str)) := upd_same
        generalize (upd Hd l4 (.lst [.str "b", .str "cd", .str "def", .str "bcde"])) = Hi at si hl4
        have sSi := sSd.trans si
        have hat : atI (strg.map V.str) (((z.cps.size : Nat) : Int) - 1) = some (.str y) := by
          rw [show (((z.cps.size : Nat) : Int) - 1) = ((z.cps.size - 1 : Nat) : Int) from by omega]
          exact atI_nat (by rw [List.getElem?_map, hy1]; rfl)
        obtain ⟨⟨a1, e1, xs1, k1, k2, k3, _⟩, mok1, pos1, le1, lt1, el1⟩ := id (M1.same sSi)
        refine ⟨_, rfl, _, _, rfl, rfl, l4, _, ((z.cps.size : Nat) : Int) - 1, .str y, rfl, rfl, SqL.of hl4, hat, ?_⟩
        refine ⟨_, rfl, t1, _, _, _, rfl, rfl, SqT.of k1, (rfl : atI [V.ref a1, V.ref e1] 0 = some (.ref a1)), ?_⟩
        refine ⟨_, rfl, t1, _, _, _, rfl, rfl, SqT.of k1, (rfl : atI [V.ref a1, V.ref e1] 1 = some (.ref e1)), fun x dx nx ndx nex => ?_⟩
        have sj := upd_mk (C := C) nx ndx nex
        refine ⟨x, dx, a1, e1, y, xs1, R, E, rfl, upd_same, hy2, k2.same sj, by rw [hy3]; exact mok1, pos1, by omega, sj _ _ k3, lt1, by omega, fun Hk tk ek ysk Rk Ek kp hTk _ _ _ _ _ hLk hAk hllk => ⟨rfl, ?_⟩⟩
        have sk : Same Hi Hk := fun b o eb => kp b o (sj _ _ eb) (ne_of_none eb nx)
        have sSk := sSi.trans sk
        have TX : TxL C Hk x y 5 (mLg R E) := ⟨tk, ek, ysk, Rk, Ek, hTk, hLk, lg_alk (L := mLg R E) (fun _ _ => rfl) hAk, by omega⟩
        have T1k := T1.same sSk
        -- refused
        refine ⟨_, rfl, _, rfl, p1, x, rfl, ⟨z, y, 5, 5, _, _, T1k, TX, hy4⟩, true, rfl, ?_⟩
        refine ⟨_, rfl, _, rfl, x, p1, rfl, ⟨y, z, 5, 5, _, _, TX, T1k, hy4.symm⟩, true, rfl, ?_⟩
        exact ⟨_, _, _, _, _, _, _, _, _, _, _, _, _, _, _, _, _, _, rfl, hB.same sSk⟩
    · rintro σ H ⟨y2, y3, y4, y5, y6, y7, y8, y9, y10, y11, y12, y13, y14, y15, y16, y17, y18, y19, rfl, _⟩
      exact q H
end
end K16

namespace K16
open PySem PySem.Spec PyProof.Rows L2 Rg Mach
theorem all_mk {l : PySem.W.OpenLaw} {w : World} {K : PySem.W.Frag} {h : Heap} {mg : Str → Option Value} {fa D5 f9 f10 f11 f12 f14 f15 f16 f17 f18 f19 f20 f21 f27 f29 f30 f32 f33 f36 f37 f39 f40 f41 f42 f43 f44 f45 f46 f47 f48 f49 f50 f51 f52 f53 f54 f55 f56 f57 f58 f59 fI fT fE fQ fA fU fR fZ C : Addr} (X : K.In h) (G : h.Ns mainGlobals mg) (hfa : mg "law" = some (.ref fa))
    {od9 od10 od11 od12 od14 od15 od16 od17 od18 od19 od20 od21 od27 od29 od30 od32 od33 od36 od37 od39 od40 od41 od42 od43 od44 od45 od46 od47 od48 od49 od50 od51 od52 od53 od54 od55 od56 od57 od58 od59 odI odT odE odQ odA odU odR odZ an9 an10 an11 an12 an14 an15 an16 an17 an18 an19 an20 an21 an27 an29 an30 an32 an33 an36 an37 an39 an40 an41 an42 an43 an44 an45 an46 an47 an48 an49 an50 an51 an52 an53 an54 an55 an56 an57 an58 an59 anI anT anE anQ anA anU anR anZ : Option Addr} {sl9 sl10 sl11 sl12 sl14 sl15 sl16 sl17 sl18 sl19 sl20 sl21 sl27 sl29 sl30 sl32 sl33 sl36 sl37 sl39 sl40 sl41 sl42 sl43 sl44 sl45 sl46 sl47 sl48 sl49 sl50 sl51 sl52 sl53 sl54 sl55 sl56 sl57 sl58 sl59 slI slT slE slQ slA slU slR slZ : Array (Option Value)} {u5 oc9 oc10 oc11 oc12 oc14 oc15 oc16 oc17 oc18 oc19 oc20 oc21 oc27 oc29 oc30 oc32 oc33 oc36 oc37 oc39 oc40 oc41 oc42 oc43 oc44 oc45 oc46 oc47 oc48 oc49 oc50 oc51 oc52 oc53 oc54 oc55 oc56 oc57 oc58 oc59 ocI ocT ocE ocQ ocA ocU ocR ocZ u_LETTERS u_MOST_SIGNS kV9 kV10 kV11 kV12 kV14 kV15 kV16 kV17 kV19 kV20 kV21 kV27 kV29 kV30 kV32 kV33 kV36 kV37 kV39 kV40 kV41 kV42 kV43 kV44 kV45 kV46 kV47 kV48 kV49 kV50 kV51 kV52 kV53 kV54 kV55 kV56 kV57 kV58 kV59 kVI kVT kVE kVQ kVA kVU kVR kVZ dc9 dc10 dc11 dc12 dc14 dc15 dc16 dc17 dc18 dc19 dc20 dc21 dc27 dc29 dc30 dc32 dc33 dc36 dc37 dc39 dc40 dc41 dc42 dc43 dc44 dc45 dc46 dc47 dc48 dc49 dc50 dc51 dc52 dc53 dc54 dc55 dc56 dc57 dc58 dc59 dcI dcT dcE dcQ dcA dcU dcR dcZ pm9 pm10 pm11 pm12 pm14 pm15 pm16 pm17 pm18 pm19 pm20 pm21 pm27 pm29 pm30 pm32 pm33 pm36 pm37 pm39 pm40 pm41 pm42 pm43 pm44 pm45 pm46 pm47 pm48 pm49 pm50 pm51 pm52 pm53 pm54 pm55 pm56 pm57 pm58 pm59 pmI pmT pmE pmQ pmA pmU pmR pmZ cd9 cd10 cd11 cd12 cd14 cd15 cd16 cd17 cd18 cd19 cd20 cd21 cd27 cd29 cd30 cd32 cd33 cd36 cd37 cd39 cd40 cd41 cd42 cd43 cd44 cd45 cd46 cd47 cd48 cd49 cd50 cd51 cd52 cd53 cd54 cd55 cd56 cd57 cd58 cd59 cdI cdT cdE cdQ cdA cdU cdR cdZ ct9 ct10 ct11 ct12 ct14 ct15 ct16 ct17 ct18 ct19 ct20 ct21 ct27 ct29 ct30 ct32 ct33 ct36 ct37 ct39 ct40 ct41 ct42 ct43 ct44 ct45 ct46 ct47 ct48 ct49 ct50 ct51 ct52 ct53 ct54 ct55 ct56 ct57 ct58 ct59 ctI ctT ctE ctQ ctA ctU ctR ctZ : Value}  {fo_ ro_ : Option Value} {U TE : Addr}
    (a9 : PySem.W.nsIn K mainGlobals "is_integer" = some (some (.ref f9)))
    (l9 : K.lookup f9 = some ⟨oc9, od9, .func (PySem.W.fnOf "is_integer" "is_integer" (defArgs sIsInt) (defBody sIsInt) (defScope sIsInt) .none kV9 dc9 pm9 an9 cd9 ct9), sl9⟩)
    (c9 : PySem.W.codeIn K cd9 "is_integer" = true)
    (k9 : PySem.W.keepIn K (.ref f9) = true)
    (a10 : PySem.W.nsIn K mainGlobals "is_signs" = some (some (.ref f10)))
    (l10 : K.lookup f10 = some ⟨oc10, od10, .func (PySem.W.fnOf "is_signs" "is_signs" (defArgs sIsSg) (defBody sIsSg) (defScope sIsSg) .none kV10 dc10 pm10 an10 cd10 ct10), sl10⟩)
    (c10 : PySem.W.codeIn K cd10 "is_signs" = true)
    (k10 : PySem.W.keepIn K (.ref f10) = true)
    (a11 : PySem.W.nsIn K mainGlobals "is_text" = some (some (.ref f11)))
    (l11 : K.lookup f11 = some ⟨oc11, od11, .func (PySem.W.fnOf "is_text" "is_text" (defArgs sIsText) (defBody sIsText) (defScope sIsText) .none kV11 dc11 pm11 an11 cd11 ct11), sl11⟩)
    (c11 : PySem.W.codeIn K cd11 "is_text" = true)
    (k11 : PySem.W.keepIn K (.ref f11) = true)
    (a12 : PySem.W.nsIn K mainGlobals "is_number" = some (some (.ref f12)))
    (l12 : K.lookup f12 = some ⟨oc12, od12, .func (PySem.W.fnOf "is_number" "is_number" (defArgs sIsNum) (defBody sIsNum) (defScope sIsNum) .none kV12 dc12 pm12 an12 cd12 ct12), sl12⟩)
    (c12 : PySem.W.codeIn K cd12 "is_number" = true)
    (k12 : PySem.W.keepIn K (.ref f12) = true)
    (a14 : PySem.W.nsIn K mainGlobals "reached_from" = some (some (.ref f14)))
    (l14 : K.lookup f14 = some ⟨oc14, od14, .func (PySem.W.fnOf "reached_from" "reached_from" (defArgs sReach) (defBody sReach) (defScope sReach) .none kV14 dc14 pm14 an14 cd14 ct14), sl14⟩)
    (c14 : PySem.W.codeIn K cd14 "reached_from" = true)
    (k14 : PySem.W.keepIn K (.ref f14) = true)
    (a15 : PySem.W.nsIn K mainGlobals "parted_once" = some (some (.ref f15)))
    (l15 : K.lookup f15 = some ⟨oc15, od15, .func (PySem.W.fnOf "parted_once" "parted_once" (defArgs sPart) (defBody sPart) (defScope sPart) .none kV15 dc15 pm15 an15 cd15 ct15), sl15⟩)
    (c15 : PySem.W.codeIn K cd15 "parted_once" = true)
    (k15 : PySem.W.keepIn K (.ref f15) = true)
    (a16 : PySem.W.nsIn K mainGlobals "how_many" = some (some (.ref f16)))
    (l16 : K.lookup f16 = some ⟨oc16, od16, .func (PySem.W.fnOf "how_many" "how_many" (defArgs sHow) (defBody sHow) (defScope sHow) .none kV16 dc16 pm16 an16 cd16 ct16), sl16⟩)
    (c16 : PySem.W.codeIn K cd16 "how_many" = true)
    (k16 : PySem.W.keepIn K (.ref f16) = true)
    (a17 : PySem.W.nsIn K mainGlobals "classes_of" = some (some (.ref f17)))
    (l17 : K.lookup f17 = some ⟨oc17, od17, .func (PySem.W.fnOf "classes_of" "classes_of" (defArgs sCls) (defBody sCls) (defScope sCls) .none kV17 dc17 pm17 an17 cd17 ct17), sl17⟩)
    (c17 : PySem.W.codeIn K cd17 "classes_of" = true)
    (k17 : PySem.W.keepIn K (.ref f17) = true)
    (a18 : PySem.W.nsIn K mainGlobals "least_machine" = some (some (.ref f18)))
    (l18 : K.lookup f18 = some ⟨oc18, od18, .func (PySem.W.fnOf "least_machine" "least_machine" (defArgs sLm) (defBody sLm) (defScope sLm) .none (.ref D5) dc18 pm18 an18 cd18 ct18), sl18⟩)
    (c18 : PySem.W.codeIn K cd18 "least_machine" = true)
    (k18 : PySem.W.keepIn K (.ref f18) = true)
    (a19 : PySem.W.nsIn K mainGlobals "silent_from" = some (some (.ref f19)))
    (l19 : K.lookup f19 = some ⟨oc19, od19, .func (PySem.W.fnOf "silent_from" "silent_from" (defArgs sSil) (defBody sSil) (defScope sSil) .none kV19 dc19 pm19 an19 cd19 ct19), sl19⟩)
    (c19 : PySem.W.codeIn K cd19 "silent_from" = true)
    (k19 : PySem.W.keepIn K (.ref f19) = true)
    (a20 : PySem.W.nsIn K mainGlobals "led_to" = some (some (.ref f20)))
    (l20 : K.lookup f20 = some ⟨oc20, od20, .func (PySem.W.fnOf "led_to" "led_to" (defArgs sLed) (defBody sLed) (defScope sLed) .none kV20 dc20 pm20 an20 cd20 ct20), sl20⟩)
    (c20 : PySem.W.codeIn K cd20 "led_to" = true)
    (k20 : PySem.W.keepIn K (.ref f20) = true)
    (a21 : PySem.W.nsIn K mainGlobals "determined" = some (some (.ref f21)))
    (l21 : K.lookup f21 = some ⟨oc21, od21, .func (PySem.W.fnOf "determined" "determined" (defArgs sDet) (defBody sDet) (defScope sDet) .none kV21 dc21 pm21 an21 cd21 ct21), sl21⟩)
    (c21 : PySem.W.codeIn K cd21 "determined" = true)
    (k21 : PySem.W.keepIn K (.ref f21) = true)
    (a27 : PySem.W.nsIn K mainGlobals "are_rows" = some (some (.ref f27)))
    (l27 : K.lookup f27 = some ⟨oc27, od27, .func (PySem.W.fnOf "are_rows" "are_rows" (defArgs sAreR) (defBody sAreR) (defScope sAreR) .none kV27 dc27 pm27 an27 cd27 ct27), sl27⟩)
    (c27 : PySem.W.codeIn K cd27 "are_rows" = true)
    (k27 : PySem.W.keepIn K (.ref f27) = true)
    (a29 : PySem.W.nsIn K mainGlobals "state_behind" = some (some (.ref f29)))
    (l29 : K.lookup f29 = some ⟨oc29, od29, .func (PySem.W.fnOf "state_behind" "state_behind" (defArgs sBehind) (defBody sBehind) (defScope sBehind) .none kV29 dc29 pm29 an29 cd29 ct29), sl29⟩)
    (c29 : PySem.W.codeIn K cd29 "state_behind" = true)
    (k29 : PySem.W.keepIn K (.ref f29) = true)
    (a30 : PySem.W.nsIn K mainGlobals "moves_of" = some (some (.ref f30)))
    (l30 : K.lookup f30 = some ⟨oc30, od30, .func (PySem.W.fnOf "moves_of" "moves_of" (defArgs sMvs) (defBody sMvs) (defScope sMvs) .none kV30 dc30 pm30 an30 cd30 ct30), sl30⟩)
    (c30 : PySem.W.codeIn K cd30 "moves_of" = true)
    (k30 : PySem.W.keepIn K (.ref f30) = true)
    (a32 : PySem.W.nsIn K mainGlobals "texts_joined" = some (some (.ref f32)))
    (l32 : K.lookup f32 = some ⟨oc32, od32, .func (PySem.W.fnOf "texts_joined" "texts_joined" (defArgs sJn) (defBody sJn) (defScope sJn) .none kV32 dc32 pm32 an32 cd32 ct32), sl32⟩)
    (c32 : PySem.W.codeIn K cd32 "texts_joined" = true)
    (k32 : PySem.W.keepIn K (.ref f32) = true)
    (a33 : PySem.W.nsIn K mainGlobals "texts_times" = some (some (.ref f33)))
    (l33 : K.lookup f33 = some ⟨oc33, od33, .func (PySem.W.fnOf "texts_times" "texts_times" (defArgs sTm) (defBody sTm) (defScope sTm) .none kV33 dc33 pm33 an33 cd33 ct33), sl33⟩)
    (c33 : PySem.W.codeIn K cd33 "texts_times" = true)
    (k33 : PySem.W.keepIn K (.ref f33) = true)
    (a36 : PySem.W.nsIn K mainGlobals "of_words" = some (some (.ref f36)))
    (l36 : K.lookup f36 = some ⟨oc36, od36, .func (PySem.W.fnOf "of_words" "of_words" (defArgs sOw) (defBody sOw) (defScope sOw) .none kV36 dc36 pm36 an36 cd36 ct36), sl36⟩)
    (c36 : PySem.W.codeIn K cd36 "of_words" = true)
    (k36 : PySem.W.keepIn K (.ref f36) = true)
    (a37 : PySem.W.nsIn K mainGlobals "none" = some (some (.ref f37)))
    (l37 : K.lookup f37 = some ⟨oc37, od37, .func (PySem.W.fnOf "none" "none" (defArgs sNone) (defBody sNone) (defScope sNone) .none kV37 dc37 pm37 an37 cd37 ct37), sl37⟩)
    (c37 : PySem.W.codeIn K cd37 "none" = true)
    (k37 : PySem.W.keepIn K (.ref f37) = true)
    (a39 : PySem.W.nsIn K mainGlobals "_law_bag" = some (some (.ref f39)))
    (l39 : K.lookup f39 = some ⟨oc39, od39, .func (PySem.W.fnOf "_law_bag" "_law_bag" (defArgs sBag) (defBody sBag) (defScope sBag) .none kV39 dc39 pm39 an39 cd39 ct39), sl39⟩)
    (c39 : PySem.W.codeIn K cd39 "_law_bag" = true)
    (k39 : PySem.W.keepIn K (.ref f39) = true)
    (a40 : PySem.W.nsIn K mainGlobals "_law_take" = some (some (.ref f40)))
    (l40 : K.lookup f40 = some ⟨oc40, od40, .func (PySem.W.fnOf "_law_take" "_law_take" (defArgs sTake) (defBody sTake) (defScope sTake) .none kV40 dc40 pm40 an40 cd40 ct40), sl40⟩)
    (c40 : PySem.W.codeIn K cd40 "_law_take" = true)
    (k40 : PySem.W.keepIn K (.ref f40) = true)
    (a41 : PySem.W.nsIn K mainGlobals "_law_alike" = some (some (.ref f41)))
    (l41 : K.lookup f41 = some ⟨oc41, od41, .func (PySem.W.fnOf "_law_alike" "_law_alike" (defArgs sAlk) (defBody sAlk) (defScope sAlk) .none kV41 dc41 pm41 an41 cd41 ct41), sl41⟩)
    (c41 : PySem.W.codeIn K cd41 "_law_alike" = true)
    (k41 : PySem.W.keepIn K (.ref f41) = true)
    (a42 : PySem.W.nsIn K mainGlobals "_law_signs" = some (some (.ref f42)))
    (l42 : K.lookup f42 = some ⟨oc42, od42, .func (PySem.W.fnOf "_law_signs" "_law_signs" (defArgs sSigns) (defBody sSigns) (defScope sSigns) .none kV42 dc42 pm42 an42 cd42 ct42), sl42⟩)
    (c42 : PySem.W.codeIn K cd42 "_law_signs" = true)
    (k42 : PySem.W.keepIn K (.ref f42) = true)
    (a43 : PySem.W.nsIn K mainGlobals "_law_texts" = some (some (.ref f43)))
    (l43 : K.lookup f43 = some ⟨oc43, od43, .func (PySem.W.fnOf "_law_texts" "_law_texts" (defArgs sTexts45) (defBody sTexts45) (defScope sTexts45) .none kV43 dc43 pm43 an43 cd43 ct43), sl43⟩)
    (c43 : PySem.W.codeIn K cd43 "_law_texts" = true)
    (k43 : PySem.W.keepIn K (.ref f43) = true)
    (a44 : PySem.W.nsIn K mainGlobals "_law_led" = some (some (.ref f44)))
    (l44 : K.lookup f44 = some ⟨oc44, od44, .func (PySem.W.fnOf "_law_led" "_law_led" (defArgs sLedT) (defBody sLedT) (defScope sLedT) .none kV44 dc44 pm44 an44 cd44 ct44), sl44⟩)
    (c44 : PySem.W.codeIn K cd44 "_law_led" = true)
    (k44 : PySem.W.keepIn K (.ref f44) = true)
    (a45 : PySem.W.nsIn K mainGlobals "_law_has" = some (some (.ref f45)))
    (l45 : K.lookup f45 = some ⟨oc45, od45, .func (PySem.W.fnOf "_law_has" "_law_has" (defArgs sHasT) (defBody sHasT) (defScope sHasT) .none kV45 dc45 pm45 an45 cd45 ct45), sl45⟩)
    (c45 : PySem.W.codeIn K cd45 "_law_has" = true)
    (k45 : PySem.W.keepIn K (.ref f45) = true)
    (a46 : PySem.W.nsIn K mainGlobals "_law_machine" = some (some (.ref f46)))
    (l46 : K.lookup f46 = some ⟨oc46, od46, .func (PySem.W.fnOf "_law_machine" "_law_machine" (defArgs sMach) (defBody sMach) (defScope sMach) .none kV46 dc46 pm46 an46 cd46 ct46), sl46⟩)
    (c46 : PySem.W.codeIn K cd46 "_law_machine" = true)
    (k46 : PySem.W.keepIn K (.ref f46) = true)
    (a47 : PySem.W.nsIn K mainGlobals "_law_texts_of" = some (some (.ref f47)))
    (l47 : K.lookup f47 = some ⟨oc47, od47, .func (PySem.W.fnOf "_law_texts_of" "_law_texts_of" (defArgs sTof) (defBody sTof) (defScope sTof) .none kV47 dc47 pm47 an47 cd47 ct47), sl47⟩)
    (c47 : PySem.W.codeIn K cd47 "_law_texts_of" = true)
    (k47 : PySem.W.keepIn K (.ref f47) = true)
    (a48 : PySem.W.nsIn K mainGlobals "_law_least" = some (some (.ref f48)))
    (l48 : K.lookup f48 = some ⟨oc48, od48, .func (PySem.W.fnOf "_law_least" "_law_least" (defArgs sLs) (defBody sLs) (defScope sLs) .none kV48 dc48 pm48 an48 cd48 ct48), sl48⟩)
    (c48 : PySem.W.codeIn K cd48 "_law_least" = true)
    (k48 : PySem.W.keepIn K (.ref f48) = true)
    (a49 : PySem.W.nsIn K mainGlobals "_law_silent" = some (some (.ref f49)))
    (l49 : K.lookup f49 = some ⟨oc49, od49, .func (PySem.W.fnOf "_law_silent" "_law_silent" (defArgs sSl) (defBody sSl) (defScope sSl) .none kV49 dc49 pm49 an49 cd49 ct49), sl49⟩)
    (c49 : PySem.W.codeIn K cd49 "_law_silent" = true)
    (k49 : PySem.W.keepIn K (.ref f49) = true)
    (a50 : PySem.W.nsIn K mainGlobals "_law_determined" = some (some (.ref f50)))
    (l50 : K.lookup f50 = some ⟨oc50, od50, .func (PySem.W.fnOf "_law_determined" "_law_determined" (defArgs sDl) (defBody sDl) (defScope sDl) .none kV50 dc50 pm50 an50 cd50 ct50), sl50⟩)
    (c50 : PySem.W.codeIn K cd50 "_law_determined" = true)
    (k50 : PySem.W.keepIn K (.ref f50) = true)
    (a51 : PySem.W.nsIn K mainGlobals "_law_moves" = some (some (.ref f51)))
    (l51 : K.lookup f51 = some ⟨oc51, od51, .func (PySem.W.fnOf "_law_moves" "_law_moves" (defArgs sLMv) (defBody sLMv) (defScope sLMv) .none kV51 dc51 pm51 an51 cd51 ct51), sl51⟩)
    (c51 : PySem.W.codeIn K cd51 "_law_moves" = true)
    (k51 : PySem.W.keepIn K (.ref f51) = true)
    (a52 : PySem.W.nsIn K mainGlobals "_law_joined" = some (some (.ref f52)))
    (l52 : K.lookup f52 = some ⟨oc52, od52, .func (PySem.W.fnOf "_law_joined" "_law_joined" (defArgs sLJ) (defBody sLJ) (defScope sLJ) .none kV52 dc52 pm52 an52 cd52 ct52), sl52⟩)
    (c52 : PySem.W.codeIn K cd52 "_law_joined" = true)
    (k52 : PySem.W.keepIn K (.ref f52) = true)
    (a53 : PySem.W.nsIn K mainGlobals "_law_repeated" = some (some (.ref f53)))
    (l53 : K.lookup f53 = some ⟨oc53, od53, .func (PySem.W.fnOf "_law_repeated" "_law_repeated" (defArgs sLR) (defBody sLR) (defScope sLR) .none kV53 dc53 pm53 an53 cd53 ct53), sl53⟩)
    (c53 : PySem.W.codeIn K cd53 "_law_repeated" = true)
    (k53 : PySem.W.keepIn K (.ref f53) = true)
    (a54 : PySem.W.nsIn K mainGlobals "_law_told_by" = some (some (.ref f54)))
    (l54 : K.lookup f54 = some ⟨oc54, od54, .func (PySem.W.fnOf "_law_told_by" "_law_told_by" (defArgs sToldBy) (defBody sToldBy) (defScope sToldBy) .none kV54 dc54 pm54 an54 cd54 ct54), sl54⟩)
    (c54 : PySem.W.codeIn K cd54 "_law_told_by" = true)
    (k54 : PySem.W.keepIn K (.ref f54) = true)
    (a55 : PySem.W.nsIn K mainGlobals "_law_cuts" = some (some (.ref f55)))
    (l55 : K.lookup f55 = some ⟨oc55, od55, .func (PySem.W.fnOf "_law_cuts" "_law_cuts" (defArgs sCu) (defBody sCu) (defScope sCu) .none kV55 dc55 pm55 an55 cd55 ct55), sl55⟩)
    (c55 : PySem.W.codeIn K cd55 "_law_cuts" = true)
    (k55 : PySem.W.keepIn K (.ref f55) = true)
    (a56 : PySem.W.nsIn K mainGlobals "_law_all_cuts" = some (some (.ref f56)))
    (l56 : K.lookup f56 = some ⟨oc56, od56, .func (PySem.W.fnOf "_law_all_cuts" "_law_all_cuts" (defArgs sAc) (defBody sAc) (defScope sAc) .none kV56 dc56 pm56 an56 cd56 ct56), sl56⟩)
    (c56 : PySem.W.codeIn K cd56 "_law_all_cuts" = true)
    (k56 : PySem.W.keepIn K (.ref f56) = true)
    (a57 : PySem.W.nsIn K mainGlobals "_law_refused" = some (some (.ref f57)))
    (l57 : K.lookup f57 = some ⟨oc57, od57, .func (PySem.W.fnOf "_law_refused" "_law_refused" (defArgs sRef) (defBody sRef) (defScope sRef) .none kV57 dc57 pm57 an57 cd57 ct57), sl57⟩)
    (c57 : PySem.W.codeIn K cd57 "_law_refused" = true)
    (k57 : PySem.W.keepIn K (.ref f57) = true)
    (a58 : PySem.W.nsIn K mainGlobals "_law_times" = some (some (.ref f58)))
    (l58 : K.lookup f58 = some ⟨oc58, od58, .func (PySem.W.fnOf "_law_times" "_law_times" (defArgs sLT) (defBody sLT) (defScope sLT) .none kV58 dc58 pm58 an58 cd58 ct58), sl58⟩)
    (c58 : PySem.W.codeIn K cd58 "_law_times" = true)
    (k58 : PySem.W.keepIn K (.ref f58) = true)
    (a59 : PySem.W.nsIn K mainGlobals "law" = some (some (.ref f59)))
    (l59 : K.lookup f59 = some ⟨oc59, od59, .func (PySem.W.fnOf "law" "law" (defArgs sLaw) (defBody sLaw) (defScope sLaw) .none kV59 dc59 pm59 an59 cd59 ct59), sl59⟩)
    (c59 : PySem.W.codeIn K cd59 "law" = true)
    (k59 : PySem.W.keepIn K (.ref f59) = true)
    (kw : PySem.W.nsIn K D5 "begin" = some (some u5))
    (ru : RelV (.int 0) u5)
    (aC : PySem.W.nsIn K mainGlobals "Texts" = some (some (.ref C)))
    (aI : PySem.W.findIn K (.ref C) "__init__" = some (some (.ref fI)))
    (iI : PySem.W.isFn K (.ref fI) = true)
    (lI : K.lookup fI = some ⟨ocI, odI, .func (PySem.W.fnOf "__init__" "Texts.__init__" (defArgs sInit) (defBody sInit) (defScope sInit) .none kVI dcI pmI anI cdI ctI), slI⟩)
    (cI : PySem.W.codeIn K cdI "Texts.__init__" = true)
    (kI : PySem.W.keepIn K (.ref fI) = true)
    (aT : PySem.W.findIn K (.ref C) "table" = some (some (.ref fT)))
    (iT : PySem.W.isFn K (.ref fT) = true)
    (lT : K.lookup fT = some ⟨ocT, odT, .func (PySem.W.fnOf "table" "Texts.table" (defArgs sTab) (defBody sTab) (defScope sTab) .none kVT dcT pmT anT cdT ctT), slT⟩)
    (cT : PySem.W.codeIn K cdT "Texts.table" = true)
    (kT : PySem.W.keepIn K (.ref fT) = true)
    (aE : PySem.W.findIn K (.ref C) "ends" = some (some (.ref fE)))
    (iE : PySem.W.isFn K (.ref fE) = true)
    (lE : K.lookup fE = some ⟨ocE, odE, .func (PySem.W.fnOf "ends" "Texts.ends" (defArgs sEnd) (defBody sEnd) (defScope sEnd) .none kVE dcE pmE anE cdE ctE), slE⟩)
    (cE : PySem.W.codeIn K cdE "Texts.ends" = true)
    (kE : PySem.W.keepIn K (.ref fE) = true)
    (aQ : PySem.W.findIn K (.ref C) "__eq__" = some (some (.ref fQ)))
    (iQ : PySem.W.isFn K (.ref fQ) = true)
    (lQ : K.lookup fQ = some ⟨ocQ, odQ, .func (PySem.W.fnOf "__eq__" "Texts.__eq__" (defArgs sEq) (defBody sEq) (defScope sEq) .none kVQ dcQ pmQ anQ cdQ ctQ), slQ⟩)
    (cQ : PySem.W.codeIn K cdQ "Texts.__eq__" = true)
    (kQ : PySem.W.keepIn K (.ref fQ) = true)
    (aA : PySem.W.findIn K (.ref C) "__add__" = some (some (.ref fA)))
    (iA : PySem.W.isFn K (.ref fA) = true)
    (lA : K.lookup fA = some ⟨ocA, odA, .func (PySem.W.fnOf "__add__" "Texts.__add__" (defArgs sAdd) (defBody sAdd) (defScope sAdd) .none kVA dcA pmA anA cdA ctA), slA⟩)
    (cA : PySem.W.codeIn K cdA "Texts.__add__" = true)
    (kA : PySem.W.keepIn K (.ref fA) = true)
    (aU : PySem.W.findIn K (.ref C) "__mul__" = some (some (.ref fU)))
    (iU : PySem.W.isFn K (.ref fU) = true)
    (lU : K.lookup fU = some ⟨ocU, odU, .func (PySem.W.fnOf "__mul__" "Texts.__mul__" (defArgs sMul) (defBody sMul) (defScope sMul) .none kVU dcU pmU anU cdU ctU), slU⟩)
    (cU : PySem.W.codeIn K cdU "Texts.__mul__" = true)
    (kU : PySem.W.keepIn K (.ref fU) = true)
    (aR : PySem.W.findIn K (.ref C) "repeated" = some (some (.ref fR)))
    (iR : PySem.W.isFn K (.ref fR) = true)
    (lR : K.lookup fR = some ⟨ocR, odR, .func (PySem.W.fnOf "repeated" "Texts.repeated" (defArgs sRepd) (defBody sRepd) (defScope sRepd) .none kVR dcR pmR anR cdR ctR), slR⟩)
    (cR : PySem.W.codeIn K cdR "Texts.repeated" = true)
    (kR : PySem.W.keepIn K (.ref fR) = true)
    (aZ : PySem.W.findIn K (.ref C) "__contains__" = some (some (.ref fZ)))
    (iZ : PySem.W.isFn K (.ref fZ) = true)
    (lZ : K.lookup fZ = some ⟨ocZ, odZ, .func (PySem.W.fnOf "__contains__" "Texts.__contains__" (defArgs sCont) (defBody sCont) (defScope sCont) .none kVZ dcZ pmZ anZ cdZ ctZ), slZ⟩)
    (cZ : PySem.W.codeIn K cdZ "Texts.__contains__" = true)
    (kZ : PySem.W.keepIn K (.ref fZ) = true)
    (pg : PySem.W.plainGet K C Str.empty = true)
    (hd : PySem.W.hasDictIn K C = true)
    (po : PySem.W.plainOver K C = true)
    (sa : PySem.W.findIn K (.ref C) "__setattr__" = some (some (.builtin "object.__setattr__")))
    (mk : PySem.W.makesIn K C = true)
    (kc : PySem.W.keepIn K (.ref C) = true)
    (n_its_signs : PySem.W.findIn K (.ref C) "its_signs" = some none)
    (n_its_table : PySem.W.findIn K (.ref C) "its_table" = some none)
    (n_its_ends : PySem.W.findIn K (.ref C) "its_ends" = some none)
    (ha : PySem.W.findIn K (.ref C) "__class__" = some (some (.builtin "object.__class__")))
    (hn : PySem.W.specialIn K (.builtin "object.__class__") "__get__" = some (some (.builtin "getset_descriptor.__get__")))
    (ht : PySem.W.takesIn K (.builtin "object.__class__") = some true)
    (hm : PySem.W.mroIn K C (.type "object") = some true)
    (nC : PySem.W.notFirst K C (.ref C) = true)
    (ic : PySem.W.isClsIn K C = true)
    (tC : PySem.W.typeIn K (.ref C) = some (.type "type"))
    (ne_ : PySem.W.findIn K (.ref C) "__ne__" = some (some (.builtin "object.__ne__")))
    (s_NoneType : PySem.W.subIn K (.ref C) (.type "NoneType") = some false)
    (s_int : PySem.W.subIn K (.ref C) (.type "int") = some false)
    (s_str : PySem.W.subIn K (.ref C) (.type "str") = some false)
    (s_list : PySem.W.subIn K (.ref C) (.type "list") = some false)
    (s_tuple : PySem.W.subIn K (.ref C) (.type "tuple") = some false)
    (sf : PySem.W.selfFirst K C = true)
    (rm : PySem.W.findIn K (.ref C) "__rmul__" = some none)
    (im1 : PySem.W.findIn K (.type "int") "__mul__" = some fo_)
    (im2 : PySem.W.findIn K (.type "int") "__rmul__" = some ro_)
    (ims : PySem.W.subIn K (.type "int") (.ref C) = some false)
    (uU : PySem.W.nsIn K mainGlobals "Unlike" = some (some (.ref U)))
    (uT : PySem.W.nsIn K mainGlobals "TextError" = some (some (.ref TE)))
    (ux : PySem.W.excIn K U [.type "ValueError", .type "Exception", .type "BaseException", .type "object"] "ValueError.__new__" = true)
    (uk : PySem.W.keepIn K (.ref U) = true)
    (ub : PySem.W.subIn K (.ref U) (.type "BaseException") = some true)
    (ut : PySem.W.typeIn K (.ref U) = some (.type "type"))
    (tb : PySem.W.subIn K (.ref TE) (.type "BaseException") = some true)
    (td : PySem.W.hasDictIn K TE = true)
    (tt : PySem.W.typeIn K (.ref TE) = some (.type "type"))
    (us : PySem.W.subIn K (.ref U) (.ref TE) = some true)
    (uv : PySem.W.subIn K (.ref U) (.type "ValueError") = some true)
    (ug : PySem.W.findIn K (.ref U) "__getattribute__" = some (some (.builtin "BaseException.__getattribute__")))
    (uh : PySem.W.findIn K (.ref U) "__getattr__" = some none)
    (ud : PySem.W.hasDictIn K U = true)
    (uc : PySem.W.findIn K (.ref U) "__class__" = some (some (.builtin "object.__class__")))
    (um : PySem.W.mroIn K U (.type "object") = some true)
    (c_LETTERS : PySem.W.nsIn K mainGlobals "LETTERS" = some (some u_LETTERS))
    (r_LETTERS : RelV (.str letters) u_LETTERS)
    (c_MOST_SIGNS : PySem.W.nsIn K mainGlobals "MOST_SIGNS" = some (some u_MOST_SIGNS))
    (r_MOST_SIGNS : RelV (.int 4) u_MOST_SIGNS)
    (z_len : PySem.W.nsIn K mainGlobals "len" = some none)
    (z_dict : PySem.W.nsIn K mainGlobals "dict" = some none)
    (z_range : PySem.W.nsIn K mainGlobals "range" = some none)
    (z_list : PySem.W.nsIn K mainGlobals "list" = some none)
    (z_set : PySem.W.nsIn K mainGlobals "set" = some none)
    (z_tuple : PySem.W.nsIn K mainGlobals "tuple" = some none)
    (z_int : PySem.W.nsIn K mainGlobals "int" = some none)
    (z_abs : PySem.W.nsIn K mainGlobals "abs" = some none)
    (z_repr : PySem.W.nsIn K mainGlobals "repr" = some none)
    (z_isinstance : PySem.W.nsIn K mainGlobals "isinstance" = some none)
    (z_str : PySem.W.nsIn K mainGlobals "str" = some none)
    (z_bool : PySem.W.nsIn K mainGlobals "bool" = some none)
    (z_all : PySem.W.nsIn K mainGlobals "all" = some none)
    (z_any : PySem.W.nsIn K mainGlobals "any" = some none)
    (z_zip : PySem.W.nsIn K mainGlobals "zip" = some none)
    (z_enumerate : PySem.W.nsIn K mainGlobals "enumerate" = some none)
    (z_sorted : PySem.W.nsIn K mainGlobals "sorted" = some none)
    (z_ValueError : PySem.W.nsIn K mainGlobals "ValueError" = some none) :
    ∃ fd : FuncData, (∀ (s : Shared) (v : Value), BindsTo s fd ⟨[v], []⟩ [("_law_script", v)]) ∧ ∀ base : Heap, K.In base → base.Ns mainGlobals mg → GFn l.prog w K mg base CX0 9 fa fd ["_law_script"] (spLaw K) := by
  have e := hfa.symm.trans (PySem.W.mg_of X G a59)
  cases e
  have F9 := fun_mk (st := sIsInt) l9 c9 k9
  have b9 := F9.binds (ps := ["thing"]) fun _ _ _ _ _ _ us hl => match us, hl with | [_], _ => rfl
  have F10 := fun_mk (st := sIsSg) l10 c10 k10
  have b10 := F10.binds (ps := ["thing"]) fun _ _ _ _ _ _ us hl => match us, hl with | [_], _ => rfl
  have F11 := fun_mk (st := sIsText) l11 c11 k11
  have b11 := F11.binds (ps := ["signs", "thing"]) fun _ _ _ _ _ _ us hl => match us, hl with | [_, _], _ => rfl
  have F12 := fun_mk (st := sIsNum) l12 c12 k12
  have b12 := F12.binds (ps := ["many", "thing"]) fun _ _ _ _ _ _ us hl => match us, hl with | [_, _], _ => rfl
  have F14 := fun_mk (st := sReach) l14 c14 k14
  have b14 := F14.binds (ps := ["rows", "begin"]) fun _ _ _ _ _ _ us hl => match us, hl with | [_, _], _ => rfl
  have F15 := fun_mk (st := sPart) l15 c15 k15
  have b15 := F15.binds (ps := ["rows", "classes", "states"]) fun _ _ _ _ _ _ us hl => match us, hl with | [_, _, _], _ => rfl
  have F16 := fun_mk (st := sHow) l16 c16 k16
  have b16 := F16.binds (ps := ["classes"]) fun _ _ _ _ _ _ us hl => match us, hl with | [_], _ => rfl
  have F17 := fun_mk (st := sCls) l17 c17 k17
  have b17 := F17.binds (ps := ["rows", "ends", "states"]) fun _ _ _ _ _ _ us hl => match us, hl with | [_, _, _], _ => rfl
  have F18 : FunD K "least_machine" "least_machine" (defArgs sLm) (defBody sLm) (defScope sLm) [] [("begin", .int 0)] f18 _ := ⟨⟨oc18, od18, .none, .ref D5, dc18, pm18, an18, cd18, ct18, sl18, rfl, l18, c18, .inl ⟨rfl, rfl⟩, .inr ⟨D5, rfl, fun q hq => by
    rw [List.mem_singleton] at hq
    rw [hq]
    exact ⟨u5, kw, ru⟩⟩⟩, k18⟩
  have b18 := lm_binds F18
  have F19 := fun_mk (st := sSil) l19 c19 k19
  have b19 := F19.binds (ps := ["states", "silent"]) fun _ _ _ _ _ _ us hl => match us, hl with | [_, _], _ => rfl
  have F20 := fun_mk (st := sLed) l20 c20 k20
  have b20 := F20.binds (ps := ["states", "place", "reading"]) fun _ _ _ _ _ _ us hl => match us, hl with | [_, _, _], _ => rfl
  have F21 := fun_mk (st := sDet) l21 c21 k21
  have b21 := F21.binds (ps := ["wide", "begins", "moves", "ends"]) fun _ _ _ _ _ _ us hl => match us, hl with | [_, _, _, _], _ => rfl
  have F27 := fun_mk (st := sAreR) l27 c27 k27
  have b27 := F27.binds (ps := ["wide", "thing"]) fun _ _ _ _ _ _ us hl => match us, hl with | [_, _], _ => rfl
  have F29 := fun_mk (st := sBehind) l29 c29 k29
  have b29 := F29.binds (ps := ["signs", "rows", "text"]) fun _ _ _ _ _ _ us hl => match us, hl with | [_, _, _], _ => rfl
  have F30 := fun_mk (st := sMvs) l30 c30 k30
  have b30 := F30.binds (ps := ["rows", "begin"]) fun _ _ _ _ _ _ us hl => match us, hl with | [_, _], _ => rfl
  have F32 := fun_mk (st := sJn) l32 c32 k32
  have b32 := F32.binds (ps := ["one", "other"]) fun _ _ _ _ _ _ us hl => match us, hl with | [_, _], _ => rfl
  have F33 := fun_mk (st := sTm) l33 c33 k33
  have b33 := F33.binds (ps := ["one", "many"]) fun _ _ _ _ _ _ us hl => match us, hl with | [_, _], _ => rfl
  have F36 := fun_mk (st := sOw) l36 c36 k36
  have b36 := F36.binds (ps := ["signs", "words"]) fun _ _ _ _ _ _ us hl => match us, hl with | [_, _], _ => rfl
  have F37 := fun_mk (st := sNone) l37 c37 k37
  have b37 := F37.binds (ps := ["signs"]) fun _ _ _ _ _ _ us hl => match us, hl with | [_], _ => rfl
  have F39 := fun_mk (st := sBag) l39 c39 k39
  have b39 := F39.binds (ps := ["_law_script"]) fun _ _ _ _ _ _ us hl => match us, hl with | [_], _ => rfl
  have F40 := fun_mk (st := sTake) l40 c40 k40
  have b40 := F40.binds (ps := ["_law_bag_here", "_law_many"]) fun _ _ _ _ _ _ us hl => match us, hl with | [_, _], _ => rfl
  have F41 := fun_mk (st := sAlk) l41 c41 k41
  have b41 := F41.binds (ps := ["_law_found", "_law_due"]) fun _ _ _ _ _ _ us hl => match us, hl with | [_, _], _ => rfl
  have F42 := fun_mk (st := sSigns) l42 c42 k42
  have b42 := F42.binds (ps := ["_law_bag_here"]) fun _ _ _ _ _ _ us hl => match us, hl with | [_], _ => rfl
  have F43 := fun_mk (st := sTexts45) l43 c43 k43
  have b43 := F43.binds (ps := ["_law_signs_here", "_law_longest"]) fun _ _ _ _ _ _ us hl => match us, hl with | [_, _], _ => rfl
  have F44 := fun_mk (st := sLedT) l44 c44 k44
  have b44 := F44.binds (ps := ["_law_signs_here", "_law_rows", "_law_state", "_law_text"]) fun _ _ _ _ _ _ us hl => match us, hl with | [_, _, _, _], _ => rfl
  have F45 := fun_mk (st := sHasT) l45 c45 k45
  have b45 := F45.binds (ps := ["_law_signs_here", "_law_machine_here", "_law_text"]) fun _ _ _ _ _ _ us hl => match us, hl with | [_, _, _], _ => rfl
  have F46 := fun_mk (st := sMach) l46 c46 k46
  have b46 := F46.binds (ps := ["_law_bag_here", "_law_signs_here", "_law_states"]) fun _ _ _ _ _ _ us hl => match us, hl with | [_, _, _], _ => rfl
  have F47 := fun_mk (st := sTof) l47 c47 k47
  have b47 := F47.binds (ps := ["_law_signs_here", "_law_machine_here"]) fun _ _ _ _ _ _ us hl => match us, hl with | [_, _], _ => rfl
  have F48 := fun_mk (st := sLs) l48 c48 k48
  have b48 := F48.binds (ps := ["_law_rows", "_law_ends"]) fun _ _ _ _ _ _ us hl => match us, hl with | [_, _], _ => rfl
  have F49 := fun_mk (st := sSl) l49 c49 k49
  have b49 := F49.binds (ps := ["_law_states", "_law_moves_here"]) fun _ _ _ _ _ _ us hl => match us, hl with | [_, _], _ => rfl
  have F50 := fun_mk (st := sDl) l50 c50 k50
  have b50 := F50.binds (ps := ["_law_wide", "_law_begins", "_law_moves_here", "_law_ends"]) fun _ _ _ _ _ _ us hl => match us, hl with | [_, _, _, _], _ => rfl
  have F51 := fun_mk (st := sLMv) l51 c51 k51
  have b51 := F51.binds (ps := ["_law_machine_here", "_law_begin"]) fun _ _ _ _ _ _ us hl => match us, hl with | [_, _], _ => rfl
  have F52 := fun_mk (st := sLJ) l52 c52 k52
  have b52 := F52.binds (ps := ["_law_wide", "_law_one", "_law_other"]) fun _ _ _ _ _ _ us hl => match us, hl with | [_, _, _], _ => rfl
  have F53 := fun_mk (st := sLR) l53 c53 k53
  have b53 := F53.binds (ps := ["_law_wide", "_law_one"]) fun _ _ _ _ _ _ us hl => match us, hl with | [_, _], _ => rfl
  have F54 := fun_mk (st := sToldBy) l54 c54 k54
  have b54 := F54.binds (ps := ["_law_texts_here"]) fun _ _ _ _ _ _ us hl => match us, hl with | [_], _ => rfl
  have F55 := fun_mk (st := sCu) l55 c55 k55
  have b55 := F55.binds (ps := ["_law_signs_here", "_law_one", "_law_other", "_law_text"]) fun _ _ _ _ _ _ us hl => match us, hl with | [_, _, _, _], _ => rfl
  have F56 := fun_mk (st := sAc) l56 c56 k56
  have b56 := F56.binds (ps := ["_law_signs_here", "_law_one", "_law_text"]) fun _ _ _ _ _ _ us hl => match us, hl with | [_, _, _], _ => rfl
  have F57 := fun_mk (st := sRef) l57 c57 k57
  have b57 := F57.binds (ps := ["_law_one", "_law_other"]) fun _ _ _ _ _ _ us hl => match us, hl with | [_, _], _ => rfl
  have F58 := fun_mk (st := sLT) l58 c58 k58
  have b58 := F58.binds (ps := ["_law_wide", "_law_one", "_law_many"]) fun _ _ _ _ _ _ us hl => match us, hl with | [_, _, _], _ => rfl
  have F59 := fun_mk (st := sLaw) l59 c59 k59
  have FI := fun_mk (st := sInit) lI cI kI
  have bI := FI.binds (ps := ["self", "signs", "rows", "ends"]) fun _ _ _ _ _ _ us hl => match us, hl with | [_, _, _, _], _ => rfl
  have FT := fun_mk (st := sTab) lT cT kT
  have bT := FT.binds (ps := ["self"]) fun _ _ _ _ _ _ us hl => match us, hl with | [_], _ => rfl
  have FE := fun_mk (st := sEnd) lE cE kE
  have bE := FE.binds (ps := ["self"]) fun _ _ _ _ _ _ us hl => match us, hl with | [_], _ => rfl
  have FQ := fun_mk (st := sEq) lQ cQ kQ
  have bQ := FQ.binds (ps := ["self", "other"]) fun _ _ _ _ _ _ us hl => match us, hl with | [_, _], _ => rfl
  have FA := fun_mk (st := sAdd) lA cA kA
  have bA := FA.binds (ps := ["self", "other"]) fun _ _ _ _ _ _ us hl => match us, hl with | [_, _], _ => rfl
  have FU := fun_mk (st := sMul) lU cU kU
  have bU := FU.binds (ps := ["self", "many"]) fun _ _ _ _ _ _ us hl => match us, hl with | [_, _], _ => rfl
  have FR := fun_mk (st := sRepd) lR cR kR
  have bR := FR.binds (ps := ["self"]) fun _ _ _ _ _ _ us hl => match us, hl with | [_], _ => rfl
  have FZ := fun_mk (st := sCont) lZ cZ kZ
  have bZ := FZ.binds (ps := ["self", "thing"]) fun _ _ _ _ _ _ us hl => match us, hl with | [_, _], _ => rfl
  refine ⟨PySem.W.fnOf "law" "law" (defArgs sLaw) (defBody sLaw) (defScope sLaw) .none kV59 dc59 pm59 an59 cd59 ct59, fun s v => .of_eq rfl, fun base _ _ => ?_⟩
  exact ok_law F59 ⟨F9, b9, PySem.W.mg_of X G a9, F10, b10, PySem.W.mg_of X G a10, F11, b11, PySem.W.mg_of X G a11, F12, b12, PySem.W.mg_of X G a12, F14, b14, PySem.W.mg_of X G a14, F15, b15, PySem.W.mg_of X G a15, F16, b16, PySem.W.mg_of X G a16, F17, b17, PySem.W.mg_of X G a17, F18, b18, PySem.W.mg_of X G a18, F19, b19, PySem.W.mg_of X G a19, F20, b20, PySem.W.mg_of X G a20, F21, b21, PySem.W.mg_of X G a21, F27, b27, PySem.W.mg_of X G a27, F29, b29, PySem.W.mg_of X G a29, F30, b30, PySem.W.mg_of X G a30, F32, b32, PySem.W.mg_of X G a32, F33, b33, PySem.W.mg_of X G a33, F36, b36, PySem.W.mg_of X G a36, F37, b37, PySem.W.mg_of X G a37, F39, b39, PySem.W.mg_of X G a39, F40, b40, PySem.W.mg_of X G a40, F41, b41, PySem.W.mg_of X G a41, F42, b42, PySem.W.mg_of X G a42, F43, b43, PySem.W.mg_of X G a43, F44, b44, PySem.W.mg_of X G a44, F45, b45, PySem.W.mg_of X G a45, F46, b46, PySem.W.mg_of X G a46, F47, b47, PySem.W.mg_of X G a47, F48, b48, PySem.W.mg_of X G a48, F49, b49, PySem.W.mg_of X G a49, F50, b50, PySem.W.mg_of X G a50, F51, b51, PySem.W.mg_of X G a51, F52, b52, PySem.W.mg_of X G a52, F53, b53, PySem.W.mg_of X G a53, F54, b54, PySem.W.mg_of X G a54, F55, b55, PySem.W.mg_of X G a55, F56, b56, PySem.W.mg_of X G a56, F57, b57, PySem.W.mg_of X G a57, F58, b58, PySem.W.mg_of X G a58, ⟨⟨pg, hd, po, sa⟩, n_its_signs, n_its_table, n_its_ends⟩, PySem.W.mg_of X G aC, ⟨mk, aI, iI, kc⟩, FI, bI, ⟨aI, iI, kI⟩, FT, bT, ⟨aT, iT, kT⟩, FE, bE, ⟨aE, iE, kE⟩, FQ, bQ, ⟨aQ, iQ, kQ⟩, FA, bA, ⟨aA, iA, kA⟩, FU, bU, ⟨aU, iU, kU⟩, FR, bR, ⟨aR, iR, kR⟩, FZ, bZ, ⟨aZ, iZ, kZ⟩, ha, hn, ht, hm, kit_self, nC, ⟨aQ, iQ, ne_, hm, s_NoneType, s_int, s_str, s_list, s_tuple⟩, sf, ⟨U, TE, ux, PySem.W.mg_of X G uU, PySem.W.mg_of X G uT, uk, ub, ut, PySem.W.exm_ref tb td tt us, ⟨ug, uh, ub, ud, uc, hn, ht, um⟩, kit_ve uv⟩, binI_mul sf rm im1 im2 ims, ⟨_, PySem.W.mg_of X G c_LETTERS, r_LETTERS⟩, ⟨_, PySem.W.mg_of X G c_MOST_SIGNS, r_MOST_SIGNS⟩, PySem.W.mg_none_of X G z_len, PySem.W.mg_none_of X G z_dict, PySem.W.mg_none_of X G z_range, PySem.W.mg_none_of X G z_list, PySem.W.mg_none_of X G z_set, PySem.W.mg_none_of X G z_tuple, PySem.W.mg_none_of X G z_int, PySem.W.mg_none_of X G z_abs, PySem.W.mg_none_of X G z_repr, PySem.W.mg_none_of X G z_isinstance, PySem.W.mg_none_of X G z_str, PySem.W.mg_none_of X G z_bool, PySem.W.mg_none_of X G z_all, PySem.W.mg_none_of X G z_any, PySem.W.mg_none_of X G z_zip, PySem.W.mg_none_of X G z_enumerate, PySem.W.mg_none_of X G z_sorted, PySem.W.mg_none_of X G z_ValueError⟩
theorem walk {l : PySem.W.OpenLaw} {q : Program} {loose : List Str} {XP : (Str → Option Value) → Heap → Prop} {YP : World → Heap → Prop} {d : DefRec} {K : Params → PySem.W.Frag} (hn : l.most = some 63) (hdf : d.params.defaults = [])
    (hY : ∀ (w : World) (h : Heap), YP w h → (K w.params).In h)
    (F : ∀ (w : World) (mg : Str → Option Value) (fa : Addr) (h : Heap), (K w.params).In h → h.Ns mainGlobals mg → mg d.name = some (.ref fa) →
      ∃ fd : FuncData, (∀ (s : Shared) (u : Value), BindsTo s fd ⟨[u], []⟩ [("_law_script", u)]) ∧ ∀ base : Heap, (K w.params).In base → base.Ns mainGlobals mg → GFn l.prog w (K w.params) mg base CX0 9 fa fd ["_law_script"] (spLaw (K w.params))) :
    PySem.W.WalkO q loose XP YP l.row.toRowW d [] (fun f vs => PySem.call f vs) :=
  Rg.walk_ofG (n := 63) (k := 9) (x := "_law_script") (CX := fun _ => CX0) (sp := fun w => spLaw (K w.params)) hn (by decide) hdf ⟨rfl, by decide, by decide⟩ hY F (fun _ _ a ns hl _ hS => ⟨a, ns, rfl, hS, hl, fun _ => rfl⟩) fun _ _ _ _ _ z => z
end K16
open PySem PySem.W PyProof.Rows in
theorem PySem.Challenge.cw_builttexts_k16_sets_joined_holds : PySem.Challenge.rw_builttexts_k16_sets_joined.Holds := by
  w_on; o_law; k_head; (case hw => w_witness2)
  k_fill
  refine K16.walk (l := PySem.Challenge.rw_builttexts_k16_sets_joined) rfl rfl (fun w h Y => PySem.W.kIn_of Y) ?F
  case F =>
    intro w mg fa h KX G hmg
    refine' K16.all_mk KX G hmg ?a9 ?l9 ?c9 ?k9 ?a10 ?l10 ?c10 ?k10 ?a11 ?l11 ?c11 ?k11 ?a12 ?l12 ?c12 ?k12 ?a14 ?l14 ?c14 ?k14 ?a15 ?l15 ?c15 ?k15 ?a16 ?l16 ?c16 ?k16 ?a17 ?l17 ?c17 ?k17 ?a18 ?l18 ?c18 ?k18 ?a19 ?l19 ?c19 ?k19 ?a20 ?l20 ?c20 ?k20 ?a21 ?l21 ?c21 ?k21 ?a27 ?l27 ?c27 ?k27 ?a29 ?l29 ?c29 ?k29 ?a30 ?l30 ?c30 ?k30 ?a32 ?l32 ?c32 ?k32 ?a33 ?l33 ?c33 ?k33 ?a36 ?l36 ?c36 ?k36 ?a37 ?l37 ?c37 ?k37 ?a39 ?l39 ?c39 ?k39 ?a40 ?l40 ?c40 ?k40 ?a41 ?l41 ?c41 ?k41 ?a42 ?l42 ?c42 ?k42 ?a43 ?l43 ?c43 ?k43 ?a44 ?l44 ?c44 ?k44 ?a45 ?l45 ?c45 ?k45 ?a46 ?l46 ?c46 ?k46 ?a47 ?l47 ?c47 ?k47 ?a48 ?l48 ?c48 ?k48 ?a49 ?l49 ?c49 ?k49 ?a50 ?l50 ?c50 ?k50 ?a51 ?l51 ?c51 ?k51 ?a52 ?l52 ?c52 ?k52 ?a53 ?l53 ?c53 ?k53 ?a54 ?l54 ?c54 ?k54 ?a55 ?l55 ?c55 ?k55 ?a56 ?l56 ?c56 ?k56 ?a57 ?l57 ?c57 ?k57 ?a58 ?l58 ?c58 ?k58 ?a59 ?l59 ?c59 ?k59 ?kw ?ru ?aC ?aI ?iI ?lI ?cI ?kI ?aT ?iT ?lT ?cT ?kT ?aE ?iE ?lE ?cE ?kE ?aQ ?iQ ?lQ ?cQ ?kQ ?aA ?iA ?lA ?cA ?kA ?aU ?iU ?lU ?cU ?kU ?aR ?iR ?lR ?cR ?kR ?aZ ?iZ ?lZ ?cZ ?kZ ?pg ?hd ?po ?sa ?mk ?kc ?n_its_signs ?n_its_table ?n_its_ends ?ha ?hn ?ht ?hm ?nC ?ic ?tC ?ne_ ?s_NoneType ?s_int ?s_str ?s_list ?s_tuple ?sf ?rm ?im1 ?im2 ?ims ?uU ?uT ?ux ?uk ?ub ?ut ?tb ?td ?tt ?us ?uv ?ug ?uh ?ud ?uc ?um ?c_LETTERS ?r_LETTERS ?c_MOST_SIGNS ?r_MOST_SIGNS ?z_len ?z_dict ?z_range ?z_list ?z_set ?z_tuple ?z_int ?z_abs ?z_repr ?z_isinstance ?z_str ?z_bool ?z_all ?z_any ?z_zip ?z_enumerate ?z_sorted ?z_ValueError
    (case a9 => k_is)
    (case l9 => k_is)
    (case c9 => k_is)
    (case k9 => k_is)
    (case a10 => k_is)
    (case l10 => k_is)
    (case c10 => k_is)
    (case k10 => k_is)
    (case a11 => k_is)
    (case l11 => k_is)
    (case c11 => k_is)
    (case k11 => k_is)
    (case a12 => k_is)
    (case l12 => k_is)
    (case c12 => k_is)
    (case k12 => k_is)
    (case a14 => k_is)
    (case l14 => k_is)
    (case c14 => k_is)
    (case k14 => k_is)
    (case a15 => k_is)
    (case l15 => k_is)
    (case c15 => k_is)
    (case k15 => k_is)
    (case a16 => k_is)
    (case l16 => k_is)
    (case c16 => k_is)
    (case k16 => k_is)
    (case a17 => k_is)
    (case l17 => k_is)
    (case c17 => k_is)
    (case k17 => k_is)
    (case a18 => k_is)
    (case l18 => k_is)
    (case c18 => k_is)
    (case k18 => k_is)
    (case a19 => k_is)
    (case l19 => k_is)
    (case c19 => k_is)
    (case k19 => k_is)
    (case a20 => k_is)
    (case l20 => k_is)
    (case c20 => k_is)
    (case k20 => k_is)
    (case a21 => k_is)
    (case l21 => k_is)
    (case c21 => k_is)
    (case k21 => k_is)
    (case a27 => k_is)
    (case l27 => k_is)
    (case c27 => k_is)
    (case k27 => k_is)
    (case a29 => k_is)
    (case l29 => k_is)
    (case c29 => k_is)
    (case k29 => k_is)
    (case a30 => k_is)
    (case l30 => k_is)
    (case c30 => k_is)
    (case k30 => k_is)
    (case a32 => k_is)
    (case l32 => k_is)
    (case c32 => k_is)
    (case k32 => k_is)
    (case a33 => k_is)
    (case l33 => k_is)
    (case c33 => k_is)
    (case k33 => k_is)
    (case a36 => k_is)
    (case l36 => k_is)
    (case c36 => k_is)
    (case k36 => k_is)
    (case a37 => k_is)
    (case l37 => k_is)
    (case c37 => k_is)
    (case k37 => k_is)
    (case a39 => k_is)
    (case l39 => k_is)
    (case c39 => k_is)
    (case k39 => k_is)
    (case a40 => k_is)
    (case l40 => k_is)
    (case c40 => k_is)
    (case k40 => k_is)
    (case a41 => k_is)
    (case l41 => k_is)
    (case c41 => k_is)
    (case k41 => k_is)
    (case a42 => k_is)
    (case l42 => k_is)
    (case c42 => k_is)
    (case k42 => k_is)
    (case a43 => k_is)
    (case l43 => k_is)
    (case c43 => k_is)
    (case k43 => k_is)
    (case a44 => k_is)
    (case l44 => k_is)
    (case c44 => k_is)
    (case k44 => k_is)
    (case a45 => k_is)
    (case l45 => k_is)
    (case c45 => k_is)
    (case k45 => k_is)
    (case a46 => k_is)
    (case l46 => k_is)
    (case c46 => k_is)
    (case k46 => k_is)
    (case a47 => k_is)
    (case l47 => k_is)
    (case c47 => k_is)
    (case k47 => k_is)
    (case a48 => k_is)
    (case l48 => k_is)
    (case c48 => k_is)
    (case k48 => k_is)
    (case a49 => k_is)
    (case l49 => k_is)
    (case c49 => k_is)
    (case k49 => k_is)
    (case a50 => k_is)
    (case l50 => k_is)
    (case c50 => k_is)
    (case k50 => k_is)
    (case a51 => k_is)
    (case l51 => k_is)
    (case c51 => k_is)
    (case k51 => k_is)
    (case a52 => k_is)
    (case l52 => k_is)
    (case c52 => k_is)
    (case k52 => k_is)
    (case a53 => k_is)
    (case l53 => k_is)
    (case c53 => k_is)
    (case k53 => k_is)
    (case a54 => k_is)
    (case l54 => k_is)
    (case c54 => k_is)
    (case k54 => k_is)
    (case a55 => k_is)
    (case l55 => k_is)
    (case c55 => k_is)
    (case k55 => k_is)
    (case a56 => k_is)
    (case l56 => k_is)
    (case c56 => k_is)
    (case k56 => k_is)
    (case a57 => k_is)
    (case l57 => k_is)
    (case c57 => k_is)
    (case k57 => k_is)
    (case a58 => k_is)
    (case l58 => k_is)
    (case c58 => k_is)
    (case k58 => k_is)
    (case a59 => k_is)
    (case l59 => k_is)
    (case c59 => k_is)
    (case k59 => k_is)
    (case kw => k_is)
    (case ru => exact ⟨_, rfl⟩)
    (case aC => k_is)
    (case aI => k_is)
    (case iI => k_is)
    (case lI => k_is)
    (case cI => k_is)
    (case kI => k_is)
    (case aT => k_is)
    (case iT => k_is)
    (case lT => k_is)
    (case cT => k_is)
    (case kT => k_is)
    (case aE => k_is)
    (case iE => k_is)
    (case lE => k_is)
    (case cE => k_is)
    (case kE => k_is)
    (case aQ => k_is)
    (case iQ => k_is)
    (case lQ => k_is)
    (case cQ => k_is)
    (case kQ => k_is)
    (case aA => k_is)
    (case iA => k_is)
    (case lA => k_is)
    (case cA => k_is)
    (case kA => k_is)
    (case aU => k_is)
    (case iU => k_is)
    (case lU => k_is)
    (case cU => k_is)
    (case kU => k_is)
    (case aR => k_is)
    (case iR => k_is)
    (case lR => k_is)
    (case cR => k_is)
    (case kR => k_is)
    (case aZ => k_is)
    (case iZ => k_is)
    (case lZ => k_is)
    (case cZ => k_is)
    (case kZ => k_is)
    (case pg => k_is)
    (case hd => k_is)
    (case po => k_is)
    (case sa => k_is)
    (case mk => k_is)
    (case kc => k_is)
    (case n_its_signs => k_is)
    (case n_its_table => k_is)
    (case n_its_ends => k_is)
    (case ha => k_is)
    (case hn => k_is)
    (case ht => k_is)
    (case hm => k_is)
    (case nC => k_is)
    (case ic => k_is)
    (case tC => k_is)
    (case ne_ => k_is)
    (case s_NoneType => k_is)
    (case s_int => k_is)
    (case s_str => k_is)
    (case s_list => k_is)
    (case s_tuple => k_is)
    (case sf => k_is)
    (case rm => k_is)
    (case im1 => k_is)
    (case im2 => k_is)
    (case ims => k_is)
    (case uU => k_is)
    (case uT => k_is)
    (case ux => k_exc)
    (case uk => k_is)
    (case ub => k_is)
    (case ut => k_is)
    (case tb => k_is)
    (case td => k_is)
    (case tt => k_is)
    (case us => k_is)
    (case uv => k_is)
    (case ug => k_is)
    (case uh => k_is)
    (case ud => k_is)
    (case uc => k_is)
    (case um => k_is)
    (case c_LETTERS => k_is)
    (case r_LETTERS => exact ⟨_, rfl⟩)
    (case c_MOST_SIGNS => k_is)
    (case r_MOST_SIGNS => exact ⟨_, rfl⟩)
    (case z_len => k_is)
    (case z_dict => k_is)
    (case z_range => k_is)
    (case z_list => k_is)
    (case z_set => k_is)
    (case z_tuple => k_is)
    (case z_int => k_is)
    (case z_abs => k_is)
    (case z_repr => k_is)
    (case z_isinstance => k_is)
    (case z_str => k_is)
    (case z_bool => k_is)
    (case z_all => k_is)
    (case z_any => k_is)
    (case z_zip => k_is)
    (case z_enumerate => k_is)
    (case z_sorted => k_is)
    (case z_ValueError => k_is)
