import Derived.Test.YtjmpbkkomiebhaaRows
import Derived.Test.YtjmpbkkomiebhaaFun1
import Derived.Test.YtjmpbkkomiebhaaBase
import Derived.Test.YtjmpbkkomiebhaaFacts
import Derived.WalkKit
import Derived.ProofKit
import Derived.OpenShut
import Derived.ShutString
import Derived.ChangeOld
import Derived.Below
import Derived.SizedLaws
/- FnOnce answers true for every input, and its arguments read behind the call as they did ahead of it. Conditions: none. -/
set_option linter.unusedVariables false
namespace Go.Proofs.Ytjmpbkkomiebhaa
open Go Go.Eng Go.Proofs
abbrev pars_FnOnce : List Par := [(false, (.list (.int .u8)))]
theorem l01In_is (k : Nat) (a b c : Int) : s_l01In k (a, (b, (c, ()))) = some (decide (b ≤ a ∧ a ≤ c), ((), ((), ((), ())))) := by
  unfold s_l01In
  by_cases h : b ≤ a <;> simp [h]
theorem within_is (k : Nat) (a b c : Int) : i_within k (a, (b, (c, ()))) = some (decide (b ≤ a ∧ a ≤ c), ((), ((), ((), ())))) := l01In_is k a b c
def gSeen (a : List Int) (i : Nat) (_ : Unit) : (Bool × Unit × Unit) ⊕ Unit :=
  if decide (1 ≤ Ty.rd (t := (.int .i64)) a i ∧ Ty.rd (t := (.int .i64)) a i ≤ 1000000000) && !(decide (0 < (i : Int)) && decide (Ty.rd (t := (.int .i64)) a (wi64 ((i : Int) - 1)) ≤ Ty.rd (t := (.int .i64)) a i)) && !decide (Ty.rd (t := (.int .i64)) a i ≤ wi64 (Ty.rd (t := (.int .i64)) a 0 - 6)) then .inr () else .inl (false, ((), ()))
def seenB (a : List Int) : Bool := (foldE (gSeen a) (fun _ => (decide ((a.length : Int) ≤ 6), ((), ()))) a.length 0 ()).1
theorem s_SeenOk_is (k : Nat) (a : List Int) (hk : 1048576 < k) (hl : a.length ≤ 1048576) : s_SeenOk k (a, ()) = some (seenB a, ((), ())) := by
  unfold s_SeenOk
  refine (loop_fold (A := Unit) (fun i _ => (a, (((i : Nat) : Int), ()))) a.length (gSeen a) (fun _ => (decide ((a.length : Int) ≤ 6), ((), ()))) (fun _ _ => True) ?_ (fun _ _ _ _ _ _ => trivial) ?_ k () trivial (by omega)).trans rfl
  · intro again i _ hi _
    have w2 : wi64 ((i : Int) + 1) = ((i + 1 : Nat) : Int) := (w64_id _ (by omega)).trans (by omega)
    have w1 : wi64 ((i : Int) - 1) = (i : Int) - 1 := w64_id _ (by omega)
    have g1 : (0 : Int) ≤ (i : Int) ∧ (i : Int) < (a.length : Int) := by omega
    have g0 : (0 : Int) ≤ 0 ∧ (0 : Int) < (a.length : Int) := by omega
    unfold gSeen
    simp only [g1, g0, l01In_is, w2, and_self, decide_true, if_true, Option.bind_some]
    by_cases h1 : 1 ≤ Ty.rd (t := (.int .i64)) a i ∧ Ty.rd (t := (.int .i64)) a i ≤ 1000000000
    · by_cases h2 : 0 < (i : Int)
      · have g3 : (0 : Int) ≤ wi64 ((i : Int) - 1) ∧ wi64 ((i : Int) - 1) < (a.length : Int) := by rw [w1]; omega
        simp only [h1, h2, g3, and_self, decide_true, Bool.not_true, if_true]
        by_cases h4 : Ty.rd (t := (.int .i64)) a (wi64 ((i : Int) - 1)) ≤ Ty.rd (t := (.int .i64)) a i <;> by_cases h5 : Ty.rd (t := (.int .i64)) a i ≤ wi64 (Ty.rd (t := (.int .i64)) a 0 - 6) <;> simp [h4, h5]
      · simp only [h1, h2, and_self, decide_true, decide_false, Bool.not_true, if_true]
        by_cases h5 : Ty.rd (t := (.int .i64)) a i ≤ wi64 (Ty.rd (t := (.int .i64)) a 0 - 6) <;> simp [h5]
    · simp [h1]
  · intro again _ _
    simp
theorem i_SeenOk_is (k : Nat) (a : List Int) (hk : 1048576 < k) (hl : a.length ≤ 1048576) : i_SeenOk k (a, ()) = some (seenB a, ((), ())) := by
  unfold i_SeenOk
  refine (loop_fold (A := Unit) (fun i _ => (a, (a, ((a.length : Int), (((i : Nat) : Int), ()))))) a.length (gSeen a) (fun _ => (decide ((a.length : Int) ≤ 6), ((), ()))) (fun _ _ => True) ?_ (fun _ _ _ _ _ _ => trivial) ?_ k () trivial (by omega)).trans rfl
  · intro again i _ hi _
    have w2 : wi64 ((i : Int) + 1) = ((i + 1 : Nat) : Int) := (w64_id _ (by omega)).trans (by omega)
    have w1 : wi64 ((i : Int) - 1) = (i : Int) - 1 := w64_id _ (by omega)
    have g1 : (0 : Int) ≤ (i : Int) ∧ (i : Int) < (a.length : Int) := by omega
    have g0 : (0 : Int) ≤ 0 ∧ (0 : Int) < (a.length : Int) := by omega
    unfold gSeen
    simp only [g1, g0, within_is, w2, and_self, decide_true, if_true, Option.bind_some]
    by_cases h1 : 1 ≤ Ty.rd (t := (.int .i64)) a i ∧ Ty.rd (t := (.int .i64)) a i ≤ 1000000000
    · by_cases h2 : 0 < (i : Int)
      · have g3 : (0 : Int) ≤ wi64 ((i : Int) - 1) ∧ wi64 ((i : Int) - 1) < (a.length : Int) := by rw [w1]; omega
        simp only [h1, h2, g3, and_self, decide_true, Bool.not_true, if_true]
        by_cases h4 : Ty.rd (t := (.int .i64)) a (wi64 ((i : Int) - 1)) ≤ Ty.rd (t := (.int .i64)) a i <;> by_cases h5 : Ty.rd (t := (.int .i64)) a i ≤ wi64 (Ty.rd (t := (.int .i64)) a 0 - 6) <;> simp [h4, h5]
      · simp only [h1, h2, and_self, decide_true, decide_false, Bool.not_true, if_true]
        by_cases h5 : Ty.rd (t := (.int .i64)) a i ≤ wi64 (Ty.rd (t := (.int .i64)) a 0 - 6) <;> simp [h5]
    · simp [h1]
  · intro again _ _
    simp
def ok7 (a : List Int) : Prop := a.Pairwise (fun x y => y < x) ∧ (∀ x ∈ a, 1 ≤ x ∧ x ≤ 1000000000) ∧ a.length ≤ 6
theorem seenB_ok {a : List Int} (h : seenB a = true) : ok7 a := by
  have key : ∀ m i, i + m = a.length → (foldE (gSeen a) (fun _ => (decide ((a.length : Int) ≤ 6), ((), ()))) m i ()).1 = true →
      (a.length ≤ 6) ∧ ∀ j, i ≤ j → j < a.length → (1 ≤ Ty.rd (t := (.int .i64)) a j ∧ Ty.rd (t := (.int .i64)) a j ≤ 1000000000) ∧ (0 < j → Ty.rd (t := (.int .i64)) a j < Ty.rd (t := (.int .i64)) a ((j : Int) - 1)) := by
    intro m
    induction m with
    | zero =>
      intro i hi h
      have h : decide ((a.length : Int) ≤ 6) = true := h
      exact ⟨by simp at h; omega, fun j h1 h2 => by omega⟩
    | succ m ih =>
      intro i hi h
      unfold foldE at h
      cases hg : gSeen a i () with
      | inl r =>
        rw [hg] at h
        unfold gSeen at hg
        split at hg
        · cases hg
        · cases hg; cases h
      | inr u =>
        rw [hg] at h
        obtain ⟨h1, h2⟩ := ih (i + 1) (by omega) h
        refine ⟨h1, fun j hj hl => ?_⟩
        by_cases e : j = i
        · subst e
          unfold gSeen at hg
          split at hg
          · rename_i hc
            simp only [Bool.and_eq_true, Bool.not_eq_true', decide_eq_true_eq, Bool.and_eq_false_iff, decide_eq_false_iff_not] at hc
            refine ⟨hc.1.1, fun h0 => ?_⟩
            have w1 : wi64 ((j : Int) - 1) = (j : Int) - 1 := w64_id _ (by omega)
            rw [w1] at hc
            rcases hc.1.2 with hc | hc
            · exact absurd (show (0 : Int) < (j : Int) by omega) hc
            · exact Int.not_le.1 hc
          · cases hg
        · exact h2 j (by omega) hl
  obtain ⟨h1, h2⟩ := key a.length 0 (by omega) h
  have hget : ∀ j (hj : j < a.length), Ty.rd (t := (.int .i64)) a (j : Int) = a[j] := fun j hj => by exact rd_get (t := .int .i64) a _ (by simpa using hj)
  refine ⟨?_, fun x hx => ?_, h1⟩
  · have step : ∀ d i, (hd : i + d + 1 < a.length) → a[i + d + 1] < a[i] := by
      intro d
      induction d with
      | zero =>
        intro i hd
        have := (h2 (i + 1) (by omega) (by omega)).2 (by omega)
        have e : ((i + 1 : Nat) : Int) - 1 = (i : Int) := by omega
        rw [e, hget _ (by omega), hget _ (by omega)] at this
        exact this
      | succ d ih =>
        intro i hd
        have h3 := ih i (by omega)
        have := (h2 (i + (d + 1) + 1) (by omega) (by omega)).2 (by omega)
        have e : ((i + (d + 1) + 1 : Nat) : Int) - 1 = ((i + d + 1 : Nat) : Int) := by omega
        rw [e, hget _ (by omega), hget _ (by omega)] at this
        exact Int.lt_trans this h3
    rw [List.pairwise_iff_getElem]
    intro i j hi hj hij
    have := step (j - i - 1) i (by omega)
    have e : i + (j - i - 1) + 1 = j := by omega
    simp only [e] at this
    exact this
  · obtain ⟨j, hj, rfl⟩ := List.mem_iff_getElem.1 hx
    have := (h2 j (by omega) hj).1
    rw [hget j hj] at this
    exact this
/-- A list's numbers that pass are gathered, behind what is there. -/
theorem loop_filter {X R : Type} {step : (X → Option R) → X → Option R} (a : List Int) (P : Int → Bool) (st : List Int → Nat → X) (B k : Nat) (out : List Int) {res : Option R} (ho : out.length ≤ B) (hk : a.length < k)
    (hs : ∀ again out i (hi : i < a.length), out.length ≤ B + i → step again (st out i) = again (st (if P a[i] = true then out ++ [a[i]] else out) (i + 1)))
    (he : ∀ again, step again (st (out ++ a.filter P) a.length) = res) : whileK step k (st out 0) = res := by
  have key : ∀ m i out k, i + m = a.length → out.length ≤ B + i → m < k → ∃ again, whileK step k (st out i) = step again (st (out ++ (a.drop i).filter P) a.length) := by
    intro m
    induction m with
    | zero =>
      intro i out k h ho hk
      obtain ⟨k, rfl⟩ : ∃ k', k = k' + 1 := ⟨k - 1, by omega⟩
      have : i = a.length := by omega
      subst this
      exact ⟨whileK step k, by simp; rfl⟩
    | succ m ih =>
      intro i out k h ho hk
      obtain ⟨k, rfl⟩ : ∃ k', k = k' + 1 := ⟨k - 1, by omega⟩
      have hi : i < a.length := by omega
      have e : whileK step (k + 1) (st out i) = step (whileK step k) (st out i) := rfl
      rw [e, hs _ _ i hi ho, List.drop_eq_getElem_cons hi]
      by_cases c : P a[i] = true
      · obtain ⟨g, hg⟩ := ih (i + 1) (out ++ [a[i]]) k (by omega) (by simp; omega) (by omega)
        refine ⟨g, ?_⟩
        rw [if_pos c, hg, List.filter_cons_of_pos c]
        simp
      · obtain ⟨g, hg⟩ := ih (i + 1) out k (by omega) (by omega) (by omega)
        refine ⟨g, ?_⟩
        rw [if_neg c, hg, List.filter_cons_of_neg c]
  obtain ⟨g, hg⟩ := key a.length 0 out k (by omega) (by omega) hk
  rw [hg, List.drop_zero]
  exact he g
/-- Those are taken out of a list that are to go. -/
theorem del_loop {R C : Type} {step : (List Int × C × Int × Int × Unit → Option R) → List Int × C × Int × Int × Unit → Option R} (D : Int → Bool) (c : C) (cont : List Int → Int → Option R)
    (hs : ∀ again (p gs r : List Int) (g v : Int), p.length + gs.length + r.length ≤ 1048576 → step again (p ++ g :: (gs ++ v :: r), (c, ((p.length : Int), (((p.length + gs.length + 1 : Nat) : Int), ())))) =
      if D v = true then again (p ++ g :: (gs ++ v :: r), (c, ((p.length : Int), (((p.length + gs.length + 2 : Nat) : Int), ())))) else again (p ++ v :: (gs ++ v :: r), (c, (((p.length + 1 : Nat) : Int), (((p.length + gs.length + 2 : Nat) : Int), ())))))
    (he : ∀ again (l : List Int) (i j : Int), (l.length : Int) ≤ j → step again (l, (c, (i, (j, ())))) = cont l i) :
    ∀ (r p gs : List Int) (g : Int) (k : Nat), p.length + gs.length + r.length ≤ 1048576 → r.length < k → ∃ t, whileK step k (p ++ g :: (gs ++ r), (c, ((p.length : Int), (((p.length + gs.length + 1 : Nat) : Int), ())))) = cont ((p ++ r.filter (fun v => !D v)) ++ t) ((p ++ r.filter (fun v => !D v)).length : Int) := by
  intro r
  induction r with
  | nil =>
    intro p gs g k hb hk
    obtain ⟨k, rfl⟩ : ∃ k', k = k' + 1 := ⟨k - 1, by omega⟩
    refine ⟨g :: gs, ?_⟩
    show step _ _ = _
    rw [he _ _ _ _ (by simp; omega)]
    simp
  | cons v r ih =>
    intro p gs g k hb hk
    obtain ⟨k, rfl⟩ : ∃ k', k = k' + 1 := ⟨k - 1, by omega⟩
    simp only [List.length_cons] at hb hk
    by_cases d : D v = true
    · obtain ⟨t, ht⟩ := ih p (gs ++ [v]) g k (by simp; omega) (by omega)
      refine ⟨t, ?_⟩
      show step _ _ = _
      rw [hs _ p gs r g v (by omega), if_pos d, List.filter_cons_of_neg (by simp [d]), ← ht]
      simp
      rfl
    · obtain ⟨t, ht⟩ : ∃ t, whileK step k (p ++ v :: (gs ++ v :: r), (c, (((p.length + 1 : Nat) : Int), (((p.length + gs.length + 2 : Nat) : Int), ())))) = cont ((p ++ (v :: r).filter (fun v => !D v)) ++ t) ((p ++ (v :: r).filter (fun v => !D v)).length : Int) := by
        cases gs with
        | nil =>
          obtain ⟨t, ht⟩ := ih (p ++ [v]) [] v k (by simp; omega) (by omega)
          refine ⟨t, ?_⟩
          rw [List.filter_cons_of_pos (by simp [d])]
          have e1 : ((p ++ [v]).length : Int) = ((p.length + 1 : Nat) : Int) := by simp
          have e2 : (((p ++ [v]).length + ([] : List Int).length + 1 : Nat) : Int) = ((p.length + ([] : List Int).length + 2 : Nat) : Int) := by simp; omega
          rw [e1, e2] at ht
          simpa using ht
        | cons g' gs' =>
          obtain ⟨t, ht⟩ := ih (p ++ [v]) (gs' ++ [v]) g' k (by simp at hb ⊢; omega) (by omega)
          refine ⟨t, ?_⟩
          rw [List.filter_cons_of_pos (by simp [d])]
          have e1 : ((p ++ [v]).length : Int) = ((p.length + 1 : Nat) : Int) := by simp
          have e2 : (((p ++ [v]).length + (gs' ++ [v]).length + 1 : Nat) : Int) = ((p.length + (g' :: gs').length + 2 : Nat) : Int) := by simp; omega
          rw [e1, e2] at ht
          simpa using ht
      refine ⟨t, ?_⟩
      show step _ _ = _
      rw [hs _ p gs r g v (by omega), if_neg d]
      exact ht
/-- A number goes into its place; rp: the sorted numbers ahead of it, turned round. -/
def insR : List Int → Int → List Int → List Int
  | [], v, q => v :: q
  | u :: r, v, q => if v < u then insR r v (u :: q) else r.reverse ++ (u :: v :: q)
theorem insR_append (rp : List Int) : ∀ v p q, insR rp v (p ++ q) = insR rp v p ++ q := by
  induction rp with
  | nil => intro v p q; rfl
  | cons u r ih =>
    intro v p q
    unfold insR
    split
    · exact ih v (u :: p) q
    · simp
theorem insR_perm (rp : List Int) : ∀ v q, (insR rp v q).Perm (rp ++ v :: q) := by
  induction rp with
  | nil => intro v q; exact List.Perm.refl _
  | cons u r ih =>
    intro v q
    unfold insR
    split
    · exact (ih v (u :: q)).trans (((List.Perm.swap u v q).append_left r).trans List.perm_middle)
    · exact List.perm_middle.trans (((List.reverse_perm r).append_right _).cons u)
theorem insR_sorted (rp : List Int) : ∀ v q, (rp.reverse ++ q).Pairwise (· ≤ ·) → (∀ x ∈ q, v ≤ x) → (insR rp v q).Pairwise (· ≤ ·) := by
  induction rp with
  | nil => intro v q h h2; exact List.pairwise_cons.2 ⟨h2, h⟩
  | cons u r ih =>
    intro v q h h2
    have h : (r.reverse ++ (u :: q)).Pairwise (· ≤ ·) := by simpa using h
    unfold insR
    split
    · rename_i hlt
      refine ih v (u :: q) h ?_
      intro x hx
      rcases List.mem_cons.1 hx with rfl | hx
      · omega
      · exact h2 x hx
    · rename_i hn
      rw [List.pairwise_append] at h ⊢
      obtain ⟨a1, a2, a3⟩ := h
      have a4 := List.pairwise_cons.1 a2
      refine ⟨a1, List.pairwise_cons.2 ⟨?_, List.pairwise_cons.2 ⟨h2, a4.2⟩⟩, ?_⟩
      · intro y hy
        rcases List.mem_cons.1 hy with rfl | hy
        · omega
        · exact a4.1 y hy
      · intro x hx y hy
        rcases List.mem_cons.1 hy with rfl | hy
        · exact a3 x hx y (by simp)
        · rcases List.mem_cons.1 hy with rfl | hy
          · have := a3 x hx u (by simp); omega
          · exact a3 x hx y (List.mem_cons_of_mem _ hy)
def insAll : List Int → List Int → List Int
  | a, [] => a
  | a, v :: r => insAll (insR a.reverse v []) r
theorem insAll_perm (r : List Int) : ∀ a, (insAll a r).Perm (a ++ r) := by
  induction r with
  | nil => intro a; simp [insAll]
  | cons v r ih =>
    intro a
    unfold insAll
    refine (ih _).trans (((insR_perm a.reverse v []).append_right r).trans ?_)
    have := ((List.reverse_perm a).append_right [v]).append_right r
    simpa using this
theorem insAll_sorted (r : List Int) : ∀ a, a.Pairwise (· ≤ ·) → (insAll a r).Pairwise (· ≤ ·) := by
  induction r with
  | nil => intro a h; exact h
  | cons v r ih =>
    intro a h
    unfold insAll
    exact ih _ (insR_sorted _ _ _ (by simpa using h) (by simp))
theorem ins_loop {R : Type} {step : (List Int × Int × Int × Int × Int × Unit → Option R) → List Int × Int × Int × Int × Int × Unit → Option R} (b i : Int) (cont : List Int → Option R)
    (hs : ∀ again (r q : List Int) (u v : Int), r.length + q.length ≤ 1048576 → step again (r.reverse ++ u :: v :: q, (0, (b, (i, (((r.length + 1 : Nat) : Int), ()))))) = if v < u then again (r.reverse ++ v :: u :: q, (0, (b, (i, ((r.length : Int), ()))))) else cont (r.reverse ++ u :: v :: q))
    (he : ∀ again l, step again (l, (0, (b, (i, (0, ()))))) = cont l) :
    ∀ (rp : List Int) (v : Int) (q : List Int) (k : Nat), rp.length + q.length ≤ 1048576 → rp.length < k → whileK step k (rp.reverse ++ v :: q, (0, (b, (i, ((rp.length : Int), ()))))) = cont (insR rp v q) := by
  intro rp
  induction rp with
  | nil =>
    intro v q k _ hk
    obtain ⟨k, rfl⟩ : ∃ k', k = k' + 1 := ⟨k - 1, by simp at hk; omega⟩
    exact he _ _
  | cons u r ih =>
    intro v q k hb hk
    obtain ⟨k, rfl⟩ : ∃ k', k = k' + 1 := ⟨k - 1, by simp at hk; omega⟩
    simp only [List.length_cons] at hb hk
    have e : (u :: r).reverse ++ v :: q = r.reverse ++ u :: v :: q := by simp
    show step _ ((u :: r).reverse ++ v :: q, (0, (b, (i, (((u :: r).length : Int), ()))))) = _
    rw [e]
    refine (hs _ r q u v (by omega)).trans ?_
    show _ = cont (if v < u then insR r v (u :: q) else r.reverse ++ (u :: v :: q))
    split
    · exact ih v (u :: q) k (by simp only [List.length_cons]; omega) (by omega)
    · rfl
theorem Less_is (k : Nat) (a b : Int) : x_cmp_Less_int k (a, (b, ())) = some (decide (a < b), ((), ((), ()))) := by
  unfold x_cmp_Less_int x_cmp_isNaN_int
  simp
theorem rd_at (p q : List Int) (u : Int) (i : Int) (hi : i = (p.length : Nat)) : Ty.rd (t := (.int .i64)) (p ++ u :: q) i = u := by
  subst hi
  unfold Ty.rd
  simp [List.getD]
theorem set_at (p q : List Int) (u v : Int) (i : Int) (hi : i = (p.length : Nat)) : List.set (p ++ u :: q) i.toNat v = p ++ v :: q := by
  subst hi
  simp
theorem insSort_is (k : Nat) (v0 : Int) (r0 : List Int) (hk : 1048576 < k) (hl : r0.length ≤ 1048575) :
    x_slices_insertionSortOrdered_int k (v0 :: r0, (0, (((v0 :: r0).length : Int), ()))) = some ((), (insAll [v0] r0, ((), ((), ())))) := by
  unfold x_slices_insertionSortOrdered_int
  generalize hn : ((v0 :: r0).length : Int) = n
  have key : ∀ {step : (List Int × Int × Int × Int × Unit → Option (Unit × List Int × Unit × Unit × Unit)) → List Int × Int × Int × Int × Unit → Option (Unit × List Int × Unit × Unit × Unit)} (_ : ∀ again (acc r : List Int) (v : Int), acc.length + r.length ≤ 1048576 → (acc.length : Int) < n → step again (acc ++ v :: r, (0, (n, ((acc.length : Int), ())))) = again (insR acc.reverse v r, (0, (n, (((acc.length + 1 : Nat) : Int), ()))))) (_ : ∀ again l i, ¬ (i : Int) < n → step again (l, (0, (n, (i, ())))) = some ((), (l, ((), ((), ()))))),
      ∀ (r acc : List Int) (k : Nat), ((acc.length + r.length : Nat) : Int) = n → acc.length + r.length ≤ 1048576 → r.length < k → whileK step k (acc ++ r, (0, (n, ((acc.length : Int), ())))) = some ((), (insAll acc r, ((), ((), ())))) := by
    intro step hs he r
    induction r with
    | nil =>
      intro acc k h1 h2 h3
      obtain ⟨k, rfl⟩ : ∃ k', k = k' + 1 := ⟨k - 1, by omega⟩
      show step _ _ = _
      rw [he _ _ _ (by simp at h1; omega)]
      simp [insAll]
    | cons v r ih =>
      intro acc k h1 h2 h3
      obtain ⟨k, rfl⟩ : ∃ k', k = k' + 1 := ⟨k - 1, by omega⟩
      simp only [List.length_cons] at h1 h2 h3
      show step _ _ = _
      rw [hs _ acc r v (by omega) (by omega)]
      have e : insR acc.reverse v r = insR acc.reverse v [] ++ r := by rw [← insR_append]; rfl
      have el : (insR acc.reverse v []).length = acc.length + 1 := by rw [(insR_perm _ _ _).length_eq]; simp
      have := ih (insR acc.reverse v []) k (by rw [el]; omega) (by rw [el]; omega) (by omega)
      rw [el] at this
      rw [e]
      exact this
  have e0 : wi64 ((0 : Int) + 1) = (([v0] : List Int).length : Int) := (w64_id _ (by omega)).trans (by simp)
  simp only [e0]
  refine key ?_ ?_ r0 [v0] k (by rw [← hn]; simp; omega) (by simp; omega) (by omega)
  · intro again acc r v hb hlt
    have hle : n ≤ 1048576 := by rw [← hn]; simp; omega
    simp only [hlt, decide_true, if_true]
    obtain ⟨rp, rfl⟩ : ∃ rp : List Int, acc = rp.reverse := ⟨acc.reverse, by simp⟩
    simp only [List.length_reverse, List.reverse_reverse] at hb ⊢
    refine ins_loop n (rp.length : Int) (fun l => again (l, (0, (n, (((rp.length + 1 : Nat) : Int), ()))))) ?_ ?_ rp v r k hb (by omega)
    · intro again2 r q u v hb
      have hlen : (r.reverse ++ u :: v :: q).length = r.length + q.length + 2 := by simp; omega
      have g1 : (0 : Int) < ((r.length + 1 : Nat) : Int) := by omega
      have g2 : (0 : Int) ≤ ((r.length + 1 : Nat) : Int) ∧ ((r.length + 1 : Nat) : Int) < ((r.reverse ++ u :: v :: q).length : Int) := by rw [hlen]; omega
      have w1 : wi64 (((r.length + 1 : Nat) : Int) - 1) = (r.length : Int) := (w64_id _ (by omega)).trans (by omega)
      have g3 : (0 : Int) ≤ (r.length : Int) ∧ (r.length : Int) < ((r.reverse ++ u :: v :: q).length : Int) := by rw [hlen]; omega
      have r1 : Ty.rd (t := (.int .i64)) (r.reverse ++ u :: v :: q) ((r.length + 1 : Nat) : Int) = v := by
        have := rd_at (r.reverse ++ [u]) q v ((r.length + 1 : Nat) : Int) (by simp)
        simpa using this
      have r2 : Ty.rd (t := (.int .i64)) (r.reverse ++ u :: v :: q) (r.length : Int) = u := rd_at r.reverse (v :: q) u _ (by simp)
      have s1 : List.set (r.reverse ++ u :: v :: q) (((r.length + 1 : Nat) : Int)).toNat u = r.reverse ++ u :: u :: q := by
        simp
      have s2 : List.set (r.reverse ++ u :: u :: q) ((r.length : Int)).toNat v = r.reverse ++ v :: u :: q := set_at r.reverse (u :: q) u v _ (by simp)
      have g4 : (0 : Int) ≤ (r.length : Int) ∧ (r.length : Int) < ((r.reverse ++ u :: u :: q).length : Int) := by simp; omega
      have w2 : wi64 ((rp.length : Int) + 1) = ((rp.length + 1 : Nat) : Int) := (w64_id _ (by omega)).trans (by omega)
      simp only [g1, g2, g3, g4, w1, w2, r1, r2, s1, s2, Less_is, decide_true, and_self, if_true, Option.bind_some]
      by_cases c : v < u <;> simp [c]
    · intro again2 l
      have w2 : wi64 ((rp.length : Int) + 1) = ((rp.length + 1 : Nat) : Int) := (w64_id _ (by omega)).trans (by omega)
      simp [w2]
  · intro again l i hi
    simp [hi]
set_option maxRecDepth 100000 in
theorem Len_some (k : Nat) (n : Nat) (hn : n ≤ 12) : ∃ r : Int, x_bits_Len k (wu64 (n : Int), ()) = some (r, ((), ())) := by
  have e : wu64 (n : Int) = (n : Int) := by
    show IntKind.u64.wrap _ = _
    simp [IntKind.wrap, IntKind.bits, IntKind.signed]
    omega
  rw [e]
  have h1 : ¬ (4294967296 : Int) ≤ (n : Int) := by omega
  have h2 : ¬ (65536 : Int) ≤ (n : Int) := by omega
  have h3 : ¬ (256 : Int) ≤ (n : Int) := by omega
  have h4 : wu8 (n : Int) = (n : Int) := by
    show IntKind.u8.wrap _ = _
    rw [w8_mod]
    omega
  unfold x_bits_Len x_bits_Len64 jn
  simp only [h1, h2, h3, h4, decide_false, Bool.false_eq_true, if_false]
  split
  · exact ⟨_, rfl⟩
  · rename_i h
    exact absurd ⟨by omega, Int.lt_of_lt_of_le (show (n : Int) < 13 by omega) (by decide +kernel)⟩ h
theorem Sort_is (k : Nat) (v0 : Int) (r0 : List Int) (hk : 1048576 < k) (hl : r0.length ≤ 11) : x_slices_Sort_int_int k (v0 :: r0, ()) = some ((), (insAll [v0] r0, ())) := by
  obtain ⟨b, hb⟩ := Len_some k (v0 :: r0).length (by simp; omega)
  obtain ⟨k', rfl⟩ : ∃ k', k = k' + 1 := ⟨k - 1, by omega⟩
  have e := insSort_is (k' + 1) v0 r0 hk (by omega)
  unfold x_slices_Sort_int_int
  simp only [hb, Option.bind_some]
  unfold x_slices_pdqsortOrdered_int whileK
  have w : wi64 (((v0 :: r0).length : Int) - 0) ≤ 12 := by
    show IntKind.i64.wrap _ ≤ 12
    rw [w64_id _ (by simp only [List.length_cons]; omega)]
    simp only [List.length_cons]
    omega
  simp only [w, decide_true, if_true, e, Option.bind_some]
theorem rev_loop {R : Type} {step : (List Int × Int × Int × Unit → Option R) → List Int × Int × Int × Unit → Option R} (fin : List Int → R)
    (hs : ∀ again (p m q : List Int) (a b : Int), p.length + m.length + q.length ≤ 1048576 → step again (p ++ a :: (m ++ b :: q), ((p.length : Int), (((p.length + m.length + 1 : Nat) : Int), ()))) = again (p ++ b :: (m ++ a :: q), (((p.length + 1 : Nat) : Int), (((p.length + m.length : Nat) : Int), ()))))
    (he : ∀ again l (i j : Int), ¬ i < j → step again (l, (i, (j, ()))) = some (fin l)) :
    ∀ (d : Nat) (m p q : List Int) (k : Nat), m.length = d → p.length + m.length + q.length ≤ 1048576 → m.length < k → whileK step k (p ++ (m ++ q), ((p.length : Int), ((p.length : Int) + (m.length : Int) - 1, ()))) = some (fin (p ++ (m.reverse ++ q))) := by
  intro d
  induction d using Nat.strongRecOn with
  | ind d ih =>
    intro m p q k hd hb hk
    obtain ⟨k, rfl⟩ : ∃ k', k = k' + 1 := ⟨k - 1, by omega⟩
    show step _ _ = _
    match m, hd, hb, hk with
    | [], _, _, _ => rw [he _ _ _ _ (by simp only [List.length_nil]; omega)]; rfl
    | [a], _, _, _ => rw [he _ _ _ _ (by simp only [List.length_cons, List.length_nil]; omega)]; rfl
    | a :: b' :: m', hd, hb, hk =>
      have hne : b' :: m' ≠ [] := by simp
      obtain ⟨m'', b, e⟩ : ∃ m'' b, b' :: m' = m'' ++ [b] := ⟨(b' :: m').dropLast, (b' :: m').getLast hne, (List.dropLast_concat_getLast hne).symm⟩
      rw [e] at hd hb hk ⊢
      simp only [List.length_cons, List.length_append, List.length_nil] at hd hb hk
      have e1 : p ++ (a :: (m'' ++ [b]) ++ q) = p ++ a :: (m'' ++ b :: q) := by simp
      have e2 : (p.length : Int) + ((a :: (m'' ++ [b])).length : Int) - 1 = ((p.length + m''.length + 1 : Nat) : Int) := by simp; omega
      rw [e1, e2, hs _ p m'' q a b (by omega)]
      have := ih m''.length (by omega) m'' (p ++ [b]) (a :: q) k rfl (by simp; omega) (by omega)
      have e3 : ((p ++ [b]).length : Int) = ((p.length + 1 : Nat) : Int) := by simp
      have e4 : (((p.length + 1 : Nat) : Int)) + (m''.length : Int) - 1 = ((p.length + m''.length : Nat) : Int) := by omega
      rw [e3, e4] at this
      simpa using this
theorem rev_loop0 {R : Type} {step : (List Int × Int × Int × Unit → Option R) → List Int × Int × Int × Unit → Option R} (fin : List Int → R)
    (hs : ∀ again (p m q : List Int) (a b : Int), p.length + m.length + q.length ≤ 1048576 → step again (p ++ a :: (m ++ b :: q), ((p.length : Int), (((p.length + m.length + 1 : Nat) : Int), ()))) = again (p ++ b :: (m ++ a :: q), (((p.length + 1 : Nat) : Int), (((p.length + m.length : Nat) : Int), ()))))
    (he : ∀ again l (i j : Int), ¬ i < j → step again (l, (i, (j, ()))) = some (fin l)) (l : List Int) (k : Nat) (hl : l.length ≤ 1048576) (hk : l.length < k) : whileK step k (l, (0, ((l.length : Int) - 1, ()))) = some (fin l.reverse) := by
  have := rev_loop fin hs he l.length l [] [] k rfl (by simpa using hl) hk
  simp only [List.nil_append, List.append_nil, List.length_nil] at this
  have e : ((0 : Nat) : Int) + (l.length : Int) - 1 = (l.length : Int) - 1 := by omega
  rw [e] at this
  exact this
theorem Reverse_is (k : Nat) (l : List Int) (hk : 1048576 < k) (hl : l.length ≤ 1048576) : x_slices_Reverse_int_int k (l, ()) = some ((), (l.reverse, ())) := by
  unfold x_slices_Reverse_int_int
  have w : wi64 ((l.length : Int) - 1) = (l.length : Int) - 1 := w64_id _ (by omega)
  simp only [w]
  refine rev_loop0 (fun l => ((), (l, ()))) ?_ ?_ l k hl (by omega)
  · intro again p m q a b hb
    have hlen : (p ++ a :: (m ++ b :: q)).length = p.length + m.length + q.length + 2 := by simp; omega
    have g1 : (p.length : Int) < ((p.length + m.length + 1 : Nat) : Int) := by omega
    have g2 : (0 : Int) ≤ ((p.length + m.length + 1 : Nat) : Int) ∧ ((p.length + m.length + 1 : Nat) : Int) < ((p ++ a :: (m ++ b :: q)).length : Int) := by rw [hlen]; omega
    have g3 : (0 : Int) ≤ (p.length : Int) ∧ (p.length : Int) < ((p ++ a :: (m ++ b :: q)).length : Int) := by rw [hlen]; omega
    have r1 : Ty.rd (t := (.int .i64)) (p ++ a :: (m ++ b :: q)) ((p.length + m.length + 1 : Nat) : Int) = b := by
      have := rd_at (p ++ a :: m) q b ((p.length + m.length + 1 : Nat) : Int) (by simp; omega)
      simpa using this
    have r2 : Ty.rd (t := (.int .i64)) (p ++ a :: (m ++ b :: q)) (p.length : Int) = a := rd_at p _ a _ rfl
    have s1 : List.set (p ++ a :: (m ++ b :: q)) ((p.length : Int)).toNat b = p ++ b :: (m ++ b :: q) := set_at p _ a b _ rfl
    have s2 : List.set (p ++ b :: (m ++ b :: q)) (((p.length + m.length + 1 : Nat) : Int)).toNat a = p ++ b :: (m ++ a :: q) := by
      have := set_at (p ++ b :: m) q b a ((p.length + m.length + 1 : Nat) : Int) (by simp; omega)
      simpa using this
    have g4 : (0 : Int) ≤ ((p.length + m.length + 1 : Nat) : Int) ∧ ((p.length + m.length + 1 : Nat) : Int) < ((p ++ b :: (m ++ b :: q)).length : Int) := by simp; omega
    have w1 : wi64 ((p.length : Int) + 1) = ((p.length + 1 : Nat) : Int) := (w64_id _ (by omega)).trans (by omega)
    have w2 : wi64 (((p.length + m.length + 1 : Nat) : Int) - 1) = ((p.length + m.length : Nat) : Int) := (w64_id _ (by omega)).trans (by omega)
    simp only [g1, g2, g3, g4, r1, r2, s1, s2, w1, w2, decide_true, and_self, if_true]
  · intro again l i j hij
    simp [hij]
theorem find_mem (a : List Int) (n : Int) (p : Nat → Bool) (hp : ∀ i (hi : i < a.length), p i = true ↔ a[i] = n) : ((List.range a.length).find? p).isSome = decide (n ∈ a) := by
  rw [Bool.eq_iff_iff, decide_eq_true_eq, List.find?_isSome]
  constructor
  · rintro ⟨i, hi, h⟩
    have hi : i < a.length := by simpa using hi
    rw [← (hp i hi).1 h]
    exact List.getElem_mem hi
  · intro h
    obtain ⟨i, hi, e⟩ := List.mem_iff_getElem.1 h
    exact ⟨i, by simpa using hi, (hp i hi).2 e⟩
theorem rd_i (a : List Int) (i : Nat) (hi : i < a.length) : Ty.rd (t := (.int .i64)) a ((i : Nat) : Int) = a[i] := rd_get (t := .int .i64) a _ (by simpa using hi)
theorem l13In_is (k : Nat) (a : List Int) (n : Int) (hk : 1048576 < k) (hl : a.length ≤ 1048576) : s_l13In k (a, (n, ())) = some (decide (n ∈ a), ((), ((), ()))) := by
  unfold s_l13In
  refine (loop_find (fun i => (a, (n, (((i : Nat) : Int), ())))) a.length (fun i => decide (Ty.rd (t := (.int .i64)) a ((i : Nat) : Int) = n)) (fun _ => (true, ((), ((), ())))) (false, ((), ((), ()))) ?_ ?_ k (by omega)).trans ?_
  · intro again i hi
    have g1 : (0 : Int) ≤ (i : Int) ∧ (i : Int) < (a.length : Int) := by omega
    have w2 : wi64 ((i : Int) + 1) = ((i + 1 : Nat) : Int) := (w64_id _ (by omega)).trans (by omega)
    simp only [g1, w2, and_self, decide_true, if_true]
  · intro again
    simp
  · rw [← find_mem a n (fun i => decide (Ty.rd (t := (.int .i64)) a ((i : Nat) : Int) = n)) (fun i hi => by rw [rd_i a i hi]; simp)]
    cases (List.range a.length).find? (fun i => decide (Ty.rd (t := (.int .i64)) a ((i : Nat) : Int) = n)) <;> rfl
theorem Contains_is (k : Nat) (a : List Int) (n : Int) (hk : 1048576 < k) (hl : a.length ≤ 1048576) : x_slices_Contains_int_int k (a, (n, ())) = some (decide (n ∈ a), ((), ((), ()))) := by
  have e : x_slices_Index_int_int k (a, (n, ())) = some ((match (List.range a.length).find? (fun i => decide (n = Ty.rd (t := (.int .i64)) a ((i : Nat) : Int))) with | some i => (((i : Nat) : Int), ((), ((), ()))) | none => (-1, ((), ((), ()))))) := by
    unfold x_slices_Index_int_int
    refine loop_find (fun i => (a, (n, ((a.length : Int), (((i : Nat) : Int), ()))))) a.length (fun i => decide (n = Ty.rd (t := (.int .i64)) a ((i : Nat) : Int))) (fun i => (((i : Nat) : Int), ((), ((), ())))) (-1, ((), ((), ()))) ?_ ?_ k (by omega)
    · intro again i hi
      have g1 : (0 : Int) ≤ (i : Int) ∧ (i : Int) < (a.length : Int) := by omega
      have w2 : wi64 ((i : Int) + 1) = ((i + 1 : Nat) : Int) := (w64_id _ (by omega)).trans (by omega)
      simp only [g1, w2, and_self, decide_true, if_true]
    · intro again
      simp
  unfold x_slices_Contains_int_int
  rw [← find_mem a n (fun i => decide (n = Ty.rd (t := (.int .i64)) a ((i : Nat) : Int))) (fun i hi => by rw [rd_i a i hi, decide_eq_true_eq]; exact eq_comm)]
  simp only [e, Option.bind_some]
  cases (List.range a.length).find? (fun i => decide (n = Ty.rd (t := (.int .i64)) a ((i : Nat) : Int))) with
  | none => rfl
  | some i => simp
def freshB (a : List Int) (n : Int) : Bool := seenB a && (decide (1 ≤ n ∧ n ≤ 1000000000) && (!decide (n ∈ a) && (decide ((a.length : Int) = 0) || decide (wi64 (Ty.rd (t := (.int .i64)) a 0 - 6) < n))))
theorem s_IsFresh_is (k : Nat) (a : List Int) (n : Int) (hk : 1048576 < k) (hl : a.length ≤ 1048576) : s_IsFresh k (a, (n, ())) = some (freshB a n, ((), ((), ()))) := by
  unfold s_IsFresh freshB
  simp only [s_SeenOk_is k a hk hl, l01In_is, l13In_is k a n hk hl, Option.bind_some]
  cases seenB a with
  | false => simp
  | true =>
    by_cases h1 : 1 ≤ n ∧ n ≤ 1000000000
    · by_cases h2 : n ∈ a
      · simp [h1, h2]
      · by_cases h3 : (a.length : Int) = 0
        · simp only [h1, h2, h3]; simp
        · have g1 : (0 : Int) ≤ 0 ∧ (0 : Int) < (a.length : Int) := by omega
          simp only [h1, h2, h3, g1]; simp
    · simp [h1]
theorem i_IsFresh_is (k : Nat) (a : List Int) (n : Int) (hk : 1048576 < k) (hl : a.length ≤ 1048576) : i_IsFresh k (a, (n, ())) = some (freshB a n, ((), ((), ()))) := by
  unfold i_IsFresh freshB
  simp only [i_SeenOk_is k a hk hl, within_is, Contains_is k a n hk hl, Option.bind_some]
  cases seenB a with
  | false => simp
  | true =>
    by_cases h1 : 1 ≤ n ∧ n ≤ 1000000000
    · by_cases h2 : n ∈ a
      · simp [h1, h2]
      · by_cases h3 : (a.length : Int) = 0
        · simp only [h1, h2, h3]; simp
        · have g1 : (0 : Int) ≤ 0 ∧ (0 : Int) < (a.length : Int) := by omega
          simp only [h1, h2, h3, g1]; simp
    · simp [h1]
def listL (a : List Int) (n : Int) : List Int := (a.filter (fun x => decide (n < x)) ++ [n]) ++ a.filter (fun x => decide (x < n))
def noteL (a : List Int) (n : Int) : List Int := if freshB a n = true then (listL a n).filter (fun x => decide (wi64 (Ty.rd (t := (.int .i64)) (listL a n) 0 - 6) < x)) else a
theorem listL_len (a : List Int) (n : Int) : (listL a n).length ≤ 2 * a.length + 1 := by
  have h1 := List.length_filter_le (fun x => decide (n < x)) a
  have h2 := List.length_filter_le (fun x => decide (x < n)) a
  simp only [listL, List.length_append, List.length_cons, List.length_nil]
  omega
theorem fresh_ok {a : List Int} {n : Int} (h : freshB a n = true) : ok7 a ∧ n ∉ a ∧ 1 ≤ n ∧ n ≤ 1000000000 := by
  unfold freshB at h
  simp only [Bool.and_eq_true, Bool.not_eq_true', decide_eq_true_eq, decide_eq_false_iff_not] at h
  exact ⟨seenB_ok h.1, h.2.2.1, h.2.1.1, h.2.1.2⟩
theorem cap_add (n m : Nat) (h : n + m ≤ 4194304) : n + m ≤ capMax := by
  have : capMax = 274877906944 := rfl
  omega
theorem s_NoteSeen_is (k : Nat) (a : List Int) (n : Int) (hk : 1048576 < k) (hl : a.length ≤ 1048576) : s_NoteSeen k (a, (n, ())) = some (noteL a n, ((), ((), ()))) := by
  unfold s_NoteSeen noteL
  simp only [s_IsFresh_is k a n hk hl, Option.bind_some]
  cases hf : freshB a n with
  | false =>
    have c : a.length ≤ capMax := by
      have : capMax = 274877906944 := rfl
      omega
    simp [c]
  | true =>
    obtain ⟨h7, hn, _⟩ := fresh_ok hf
    have hl6 : a.length ≤ 6 := h7.2.2
    simp only [Bool.not_true, Bool.false_eq_true, if_false, if_true]
    refine loop_filter a (fun x => decide (n < x)) (fun out i => (a, (n, (out, (((i : Nat) : Int), ()))))) 0 k [] (by simp) (by omega) ?_ ?_
    · intro again out i hi ho
      have g1 : (0 : Int) ≤ (i : Int) ∧ (i : Int) < (a.length : Int) := by omega
      have w2 : wi64 ((i : Int) + 1) = ((i + 1 : Nat) : Int) := (w64_id _ (by omega)).trans (by omega)
      have c : ∀ v : Int, out.length + ([v] : List Int).length ≤ capMax := fun v => cap_add _ _ (by simp; omega)
      simp only [g1, w2, c, rd_i a i hi, and_self, decide_true, if_true]
      by_cases q : n < a[i] <;> simp [q]
    · intro again
      have f1 := List.length_filter_le (fun x => decide (n < x)) a
      have c : ([] ++ a.filter (fun x => decide (n < x))).length + ([n] : List Int).length ≤ capMax := cap_add _ _ (by simp; omega)
      simp only [Int.lt_irrefl, decide_false, Bool.false_eq_true, if_false, c, if_true]
      refine loop_filter a (fun x => decide (x < n)) (fun out i => (a, (n, (out, (((i : Nat) : Int), ()))))) 10 k ([] ++ a.filter (fun x => decide (n < x)) ++ [n]) (by simp; omega) (by omega) ?_ ?_
      · intro again out i hi ho
        have g1 : (0 : Int) ≤ (i : Int) ∧ (i : Int) < (a.length : Int) := by omega
        have w2 : wi64 ((i : Int) + 1) = ((i + 1 : Nat) : Int) := (w64_id _ (by omega)).trans (by omega)
        have c : ∀ v : Int, out.length + ([v] : List Int).length ≤ capMax := fun v => cap_add _ _ (by simp; omega)
        simp only [g1, w2, c, rd_i a i hi, and_self, decide_true, if_true]
        by_cases q : a[i] < n <;> simp [q]
      · intro again
        simp only [Int.lt_irrefl, decide_false, Bool.false_eq_true, if_false]
        have eL : ([] ++ a.filter (fun x => decide (n < x)) ++ [n]) ++ a.filter (fun x => decide (x < n)) = listL a n := rfl
        rw [eL]
        have hL : (listL a n).length ≤ 13 := by have := listL_len a n; omega
        generalize listL a n = L at hL
        refine loop_filter L (fun x => decide (wi64 (Ty.rd (t := (.int .i64)) L 0 - 6) < x)) (fun out i => (L, (out, (((i : Nat) : Int), ())))) 0 k [] (by simp) (by omega) ?_ ?_
        · intro again out i hi ho
          have g0 : (0 : Int) ≤ 0 ∧ (0 : Int) < (L.length : Int) := by omega
          have g1 : (0 : Int) ≤ (i : Int) ∧ (i : Int) < (L.length : Int) := by omega
          have w2 : wi64 ((i : Int) + 1) = ((i + 1 : Nat) : Int) := (w64_id _ (by omega)).trans (by omega)
          have c : ∀ v : Int, out.length + ([v] : List Int).length ≤ capMax := fun v => cap_add _ _ (by simp; omega)
          simp only [g0, g1, w2, c, rd_i L i hi, and_self, decide_true, if_true]
          by_cases q : wi64 (Ty.rd (t := (.int .i64)) L 0 - 6) < L[i] <;> simp [q]
        · intro again
          simp
theorem listL_perm {a : List Int} {n : Int} (hn : n ∉ a) : (listL a n).Perm (a ++ [n]) := by
  unfold listL
  have e : a.filter (fun x => decide (x < n)) = a.filter (fun x => !decide (n < x)) := by
    refine List.filter_congr fun x hx => ?_
    have : x ≠ n := fun h => hn (h ▸ hx)
    by_cases h1 : x < n
    · have h2 : ¬ n < x := by omega
      simp [h1, h2]
    · have h2 : n < x := by omega
      simp [h1, h2]
  rw [e]
  have h := List.filter_append_perm (fun x => decide (n < x)) a
  refine List.Perm.trans ?_ (h.append_right [n])
  rw [List.append_assoc, List.append_assoc]
  exact (List.perm_append_comm).append_left _
theorem listL_sorted {a : List Int} {n : Int} (h : ok7 a) : (listL a n).Pairwise (fun x y => y ≤ x) := by
  have hp : a.Pairwise (fun x y => y ≤ x) := h.1.imp fun h => Int.le_of_lt h
  unfold listL
  rw [List.pairwise_append, List.pairwise_append]
  refine ⟨⟨hp.filter _, by simp, ?_⟩, hp.filter _, ?_⟩
  · intro x hx y hy
    have := (List.mem_filter.1 hx).2
    simp at this hy
    omega
  · intro x hx y hy
    have h2 := (List.mem_filter.1 hy).2
    simp only [decide_eq_true_eq] at h2
    rcases List.mem_append.1 hx with hx | hx
    · have := (List.mem_filter.1 hx).2
      simp only [decide_eq_true_eq] at this
      omega
    · simp at hx
      omega
theorem sorted_is {a : List Int} {n v0 : Int} {r0 : List Int} (h : ok7 a) (hn : n ∉ a) (e : a ++ [n] = v0 :: r0) : (insAll [v0] r0).reverse = listL a n := by
  have p1 : (insAll [v0] r0).reverse.Perm (listL a n) := by
    refine (List.reverse_perm _).trans (((insAll_perm r0 [v0]).trans ?_).trans (listL_perm hn).symm)
    rw [e]
    exact List.Perm.refl _
  have s1 : (insAll [v0] r0).reverse.Pairwise (fun x y => y ≤ x) := by
    rw [List.pairwise_reverse]
    exact insAll_sorted r0 [v0] (by simp)
  exact p1.eq_of_pairwise (fun x y _ _ h1 h2 => Int.le_antisymm h2 h1) s1 (listL_sorted h)
theorem IndexFunc_is (k : Nat) (a : List Int) (f : Int) (hk : 1048576 < k) (hl : a.length ≤ 1048576) : x_slices_IndexFunc_int_int_of_i_NoteSeen_1 k (a, (((f, ()), ()), ())) =
    some (match (List.range a.length).find? (fun i => decide (Ty.rd (t := (.int .i64)) a ((i : Nat) : Int) ≤ wi64 (f - 6))) with | some i => (((i : Nat) : Int), ((), (((f, ()), ()), ()))) | none => (-1, ((), (((f, ()), ()), ())))) := by
  unfold x_slices_IndexFunc_int_int_of_i_NoteSeen_1
  refine loop_find (fun i => (a, (((f, ()), ()), ((a.length : Int), (((i : Nat) : Int), ()))))) a.length (fun i => decide (Ty.rd (t := (.int .i64)) a ((i : Nat) : Int) ≤ wi64 (f - 6))) (fun i => (((i : Nat) : Int), ((), (((f, ()), ()), ())))) (-1, ((), (((f, ()), ()), ()))) ?_ ?_ k (by omega)
  · intro again i hi
    have g1 : (0 : Int) ≤ (i : Int) ∧ (i : Int) < (a.length : Int) := by omega
    have w2 : wi64 ((i : Int) + 1) = ((i + 1 : Nat) : Int) := (w64_id _ (by omega)).trans (by omega)
    simp only [g1, w2, i_NoteSeen_1, and_self, decide_true, if_true, Option.bind_some]
  · intro again
    simp
theorem Delete_is (k : Nat) (L : List Int) (f : Int) (hk : 1048576 < k) (hl : L.length ≤ 1048576) : x_slices_DeleteFunc_int_int_of_i_NoteSeen_1 k (L, (((f, ()), ()), ())) =
    some (L.filter (fun x => decide (wi64 (f - 6) < x)), ((), (((f, ()), ()), ()))) := by
  have hD : ∀ v : Int, decide (wi64 (f - 6) < v) = !decide (v ≤ wi64 (f - 6)) := fun v => by
    by_cases h : v ≤ wi64 (f - 6)
    · have : ¬ wi64 (f - 6) < v := by omega
      simp [h, this]
    · have : wi64 (f - 6) < v := by omega
      simp [h, this]
  have e := IndexFunc_is k L f hk hl
  unfold x_slices_DeleteFunc_int_int_of_i_NoteSeen_1
  simp only [hD, e, Option.bind_some]
  cases hq : (List.range L.length).find? (fun i => decide (Ty.rd (t := (.int .i64)) L ((i : Nat) : Int) ≤ wi64 (f - 6))) with
  | none =>
    rw [List.find?_eq_none] at hq
    have : L.filter (fun x => !decide (x ≤ wi64 (f - 6))) = L := by
      rw [List.filter_eq_self]
      intro x hx
      obtain ⟨i, hi, rfl⟩ := List.mem_iff_getElem.1 hx
      have := hq i (by simpa using hi)
      rw [rd_i L i hi] at this
      simpa using this
    rw [this]
    simp
  | some i =>
    have hi : i < L.length := by
      have := List.mem_of_find?_eq_some hq
      simpa using this
    have h1 : decide (Ty.rd (t := (.int .i64)) L ((i : Nat) : Int) ≤ wi64 (f - 6)) = true := (find_at hi (by have := List.find?_some hq; simpa using this)).1 hq |> fun _ => by have := List.find?_some hq; simpa using this
    have h2 := (find_at (p := fun i => decide (Ty.rd (t := (.int .i64)) L ((i : Nat) : Int) ≤ wi64 (f - 6))) hi h1).1 hq
    have hne : ¬ ((i : Nat) : Int) = -1 := by omega
    have w2 : wi64 ((i : Int) + 1) = ((i + 1 : Nat) : Int) := (w64_id _ (by omega)).trans (by omega)
    have hsplit : L = L.take i ++ L[i] :: ([] ++ L.drop (i + 1)) := by
      rw [List.nil_append, ← List.drop_eq_getElem_cons hi, List.take_append_drop]
    have hfil : L.filter (fun x => !decide (x ≤ wi64 (f - 6))) = L.take i ++ (L.drop (i + 1)).filter (fun x => !decide (x ≤ wi64 (f - 6))) := by
      conv => lhs; rw [hsplit]
      rw [List.filter_append, List.nil_append, List.filter_cons_of_neg (by rw [rd_i L i hi] at h1; simpa using h1)]
      congr 1
      rw [List.filter_eq_self]
      intro x hx
      obtain ⟨j, hj, rfl⟩ := List.mem_iff_getElem.1 hx
      have hj' : j < i := by simp at hj; omega
      have := h2 j hj'
      rw [rd_i L j (by omega)] at this
      rw [List.getElem_take]
      simpa using this
    have tl : (L.take i).length = i := by simp; omega
    have dl : (L.drop (i + 1)).length = L.length - (i + 1) := by simp
    rw [hfil]
    simp only [hne, w2, decide_false, Bool.false_eq_true, if_false]
    generalize hp : L.take i = p at *
    generalize hr : L.drop (i + 1) = r at *
    generalize L[i] = g at *
    rw [hsplit]
    subst tl
    refine Exists.elim (del_loop (R := List Int × Unit × ((Int × Unit) × Unit) × Unit) (C := (Int × Unit) × Unit) (fun v => decide (v ≤ wi64 (f - 6))) ((f, ()), ())
      (fun z i => if 0 ≤ i ∧ i ≤ (List.length z : Int) then (if 0 ≤ i ∧ i ≤ (List.length (List.take (Int.toNat i) z ++ (List.replicate (Int.toNat ((List.length z : Int) - i)) (0 : Int) ++ List.drop (Int.toNat (List.length z : Int)) z)) : Int) then
        some ((List.take (Int.toNat i) (List.take (Int.toNat i) z ++ (List.replicate (Int.toNat ((List.length z : Int) - i)) (0 : Int) ++ List.drop (Int.toNat (List.length z : Int)) z))), ((), (((f, ()), ()), ()))) else none) else none)
      (step := fun rec0 y0 => (if (decide (y0.2.2.2.1 < (List.length y0.1 : Int))) = true then
(if 0 ≤ y0.2.2.2.1 ∧ y0.2.2.2.1 < (List.length y0.1 : Int) then
((i_NoteSeen_1 k ((Ty.rd (t := (.int .i64)) y0.1 y0.2.2.2.1), ((y0.2.1.1.1, ()), ()))).bind fun p2 =>
(if (!p2.1) = true then
(if 0 ≤ y0.2.2.1 ∧ y0.2.2.1 < (List.length y0.1 : Int) then
(rec0 ((List.set y0.1 (Int.toNat y0.2.2.1) (Ty.rd (t := (.int .i64)) y0.1 y0.2.2.2.1)), (((p2.2.2.1.1, ()), ()), ((wi64 (y0.2.2.1 + (1 : Int))), ((wi64 (y0.2.2.2.1 + (1 : Int))), ())))))
else none)
else
(rec0 (y0.1, (((p2.2.2.1.1, ()), ()), (y0.2.2.1, ((wi64 (y0.2.2.2.1 + (1 : Int))), ())))))))
else none)
else
((fun (z1 : List (Int) × ((Int × Unit) × Unit) × Int × Unit) =>
(if 0 ≤ z1.2.2.1 ∧ z1.2.2.1 ≤ (List.length z1.1 : Int) then
(if 0 ≤ z1.2.2.1 ∧ z1.2.2.1 ≤ (List.length (List.take (Int.toNat z1.2.2.1) z1.1 ++ (List.replicate (Int.toNat ((List.length z1.1 : Int) - z1.2.2.1)) (0 : Int) ++ List.drop (Int.toNat (List.length z1.1 : Int)) z1.1)) : Int) then
some ((List.take (Int.toNat z1.2.2.1) (List.take (Int.toNat z1.2.2.1) z1.1 ++ (List.replicate (Int.toNat ((List.length z1.1 : Int) - z1.2.2.1)) (0 : Int) ++ List.drop (Int.toNat (List.length z1.1 : Int)) z1.1))), ((), (((z1.2.1.1.1, ()), ()), ())))
else none)
else none)) (y0.1, (((y0.2.1.1.1, ()), ()), (y0.2.2.1, ()))))))
      ?_ ?_ r p [] g k (by simp; omega) (by omega)) ?_
    rotate_left
    rotate_left
    · intro t ht
      simp only [List.length_nil, Nat.add_zero] at ht
      refine ht.trans ?_
      generalize p ++ r.filter (fun v => !decide (v ≤ wi64 (f - 6))) = q
      have g1 : (0 : Int) ≤ (q.length : Int) ∧ (q.length : Int) ≤ ((q ++ t).length : Int) := by simp only [List.length_append]; omega
      have g2 : (0 : Int) ≤ (q.length : Int) ∧ (q.length : Int) ≤ ((List.take (Int.toNat (q.length : Int)) (q ++ t) ++ (List.replicate (Int.toNat (((q ++ t).length : Int) - (q.length : Int))) (0 : Int) ++ List.drop (Int.toNat ((q ++ t).length : Int)) (q ++ t))).length : Int) := by simp only [List.length_append, List.length_take, List.length_replicate, List.length_drop]; omega
      simp only [g1, g2, and_self, if_true]
      simp
    · intro again p gs r g v hb
      have hlen : (p ++ g :: (gs ++ v :: r)).length = p.length + gs.length + r.length + 2 := by simp; omega
      have g1 : ((p.length + gs.length + 1 : Nat) : Int) < ((p ++ g :: (gs ++ v :: r)).length : Int) := by rw [hlen]; omega
      have g2 : (0 : Int) ≤ ((p.length + gs.length + 1 : Nat) : Int) ∧ ((p.length + gs.length + 1 : Nat) : Int) < ((p ++ g :: (gs ++ v :: r)).length : Int) := by rw [hlen]; omega
      have g3 : (0 : Int) ≤ (p.length : Int) ∧ (p.length : Int) < ((p ++ g :: (gs ++ v :: r)).length : Int) := by rw [hlen]; omega
      have r1 : Ty.rd (t := (.int .i64)) (p ++ g :: (gs ++ v :: r)) ((p.length + gs.length + 1 : Nat) : Int) = v := by
        have := rd_at (p ++ g :: gs) r v ((p.length + gs.length + 1 : Nat) : Int) (by simp; omega)
        simpa using this
      have s1 : List.set (p ++ g :: (gs ++ v :: r)) ((p.length : Int)).toNat v = p ++ v :: (gs ++ v :: r) := set_at p _ g v _ rfl
      have w1 : wi64 ((p.length : Int) + 1) = ((p.length + 1 : Nat) : Int) := (w64_id _ (by omega)).trans (by omega)
      have w2 : wi64 (((p.length + gs.length + 1 : Nat) : Int) + 1) = ((p.length + gs.length + 2 : Nat) : Int) := (w64_id _ (by omega)).trans (by omega)
      simp only [g1, g2, g3, r1, s1, w1, w2, i_NoteSeen_1, decide_true, and_self, if_true, Option.bind_some]
      by_cases q : v ≤ wi64 (f - 6) <;> simp [q]
    · intro again l i j hj
      have : ¬ j < (l.length : Int) := by omega
      simp only [this, decide_false, Bool.false_eq_true, if_false]
theorem i_NoteSeen_is (k : Nat) (a : List Int) (n : Int) (hk : 1048576 < k) (hl : a.length ≤ 1048576) : i_NoteSeen k (a, (n, ())) = some (noteL a n, ((), ((), ()))) := by
  have c0 : a.length ≤ capMax := by
    have : capMax = 274877906944 := rfl
    omega
  have c : ([] : List Int).length + a.length ≤ capMax := by simpa using c0
  unfold i_NoteSeen noteL i_copyInts
  simp only [i_IsFresh_is k a n hk hl, c, Option.bind_some, if_true, List.nil_append]
  cases hf : freshB a n with
  | false => simp
  | true =>
    obtain ⟨h7, hn, _⟩ := fresh_ok hf
    have hl6 : a.length ≤ 6 := h7.2.2
    have c1 : a.length + ([n] : List Int).length ≤ capMax := cap_add _ _ (by simp; omega)
    simp only [c1, Bool.not_true, Bool.false_eq_true, if_false, if_true]
    obtain ⟨v0, r0, e⟩ : ∃ v0 r0, a ++ [n] = v0 :: r0 := by
      cases a with
      | nil => exact ⟨n, [], rfl⟩
      | cons v a => exact ⟨v, a ++ [n], rfl⟩
    have el : r0.length = a.length := by have := congrArg List.length e; simp at this; omega
    have hS := sorted_is h7 hn e
    have hLl := listL_len a n
    have e1 := Sort_is k v0 r0 hk (by omega)
    have e2 := Reverse_is k (insAll [v0] r0) hk (by rw [(insAll_perm r0 [v0]).length_eq]; simp; omega)
    have e3 := Delete_is k (listL a n) (Ty.rd (t := (.int .i64)) (listL a n) 0) hk (by omega)
    have g0 : (0 : Int) ≤ 0 ∧ (0 : Int) < ((listL a n).length : Int) := by simp [listL]; omega
    rw [hS] at e2
    simp only [e, e1, e2, e3, g0, and_self, if_true, Option.bind_some]
def gTake {R : Type} (a : List Int) (i : Nat) (s : List Int × List Int) : R ⊕ (List Int × List Int) :=
  .inr (if freshB s.1 (Ty.rd (t := (.int .i64)) a i) = true then (noteL s.1 (Ty.rd (t := (.int .i64)) a i), s.2 ++ [Ty.rd (t := (.int .i64)) a i]) else s)
def takeL (a : List Int) : List Int × Unit × Unit := foldE (gTake a) (fun s => (s.2, ((), ()))) a.length 0 ([], [])
theorem noteL_short {s : List Int} {n : Int} (h : s.length ≤ 13) : (noteL s n).length ≤ 13 := by
  unfold noteL
  split
  · rename_i h
    have h6 := (fresh_ok h).1.2.2
    have h1 := listL_len s n
    have h2 := List.length_filter_le (fun x => decide (wi64 (Ty.rd (t := (.int .i64)) (listL s n) 0 - 6) < x)) (listL s n)
    omega
  · exact h
theorem takeL_len (a : List Int) : (takeL a).1.length ≤ a.length := by
  have key : ∀ m i (s : List Int × List Int), (foldE (gTake a) (fun s => (s.2, ((), ()))) m i s : List Int × Unit × Unit).1.length ≤ s.2.length + m := by
    intro m
    induction m with
    | zero => intro i s; exact Nat.le_refl _
    | succ m ih =>
      intro i s
      unfold foldE gTake
      dsimp only
      refine Nat.le_trans (ih _ _) ?_
      split <;> simp <;> omega
  have := key a.length 0 ([], [])
  rw [show ([] : List Int).length + a.length = a.length by simp] at this
  exact this
def takeI (i : Nat) (s : List Int × List Int) : Prop := s.1.length ≤ 13 ∧ s.2.length ≤ i
theorem gTake_inv {R : Type} {a : List Int} {i : Nat} {s s' : List Int × List Int} (h : takeI i s) (hg : (gTake a i s : R ⊕ _) = .inr s') : takeI (i + 1) s' := by
  unfold gTake at hg
  cases hg
  split
  · exact ⟨noteL_short h.1, by have := h.2; simp; omega⟩
  · exact ⟨h.1, by have := h.2; omega⟩
theorem s_TakeAll_is (k : Nat) (a : List Int) (hk : 1048576 < k) (hl : a.length ≤ 1048576) : s_TakeAll k (a, ()) = some (takeL a) := by
  unfold s_TakeAll takeL
  refine loop_fold (A := List Int × List Int) (fun i s => (a, (s.1, (s.2, (((i : Nat) : Int), ()))))) a.length (gTake a) (fun s => (s.2, ((), ()))) takeI ?_ (fun i s s' _ h hg => gTake_inv h hg) ?_ k ([], []) ⟨by simp, by simp⟩ (by omega)
  · intro again i s hi hI
    have g1 : (0 : Int) ≤ (i : Int) ∧ (i : Int) < (a.length : Int) := by omega
    have w2 : wi64 ((i : Int) + 1) = ((i + 1 : Nat) : Int) := (w64_id _ (by omega)).trans (by omega)
    have hs : s.1.length ≤ 1048576 := by have := hI.1; omega
    have c : ∀ v : Int, s.2.length + ([v] : List Int).length ≤ capMax := fun v => cap_add _ _ (by have := hI.2; simp; omega)
    unfold gTake
    simp only [g1, w2, c, s_IsFresh_is k s.1 _ hk hs, s_NoteSeen_is k s.1 _ hk hs, and_self, decide_true, if_true, Option.bind_some]
    by_cases q : freshB s.1 (Ty.rd (t := (.int .i64)) a i) = true <;> simp [q]
  · intro again s _
    simp
theorem i_TakeAll_is (k : Nat) (a : List Int) (hk : 1048576 < k) (hl : a.length ≤ 1048576) : i_TakeAll k (a, ()) = some (takeL a) := by
  unfold i_TakeAll takeL
  refine loop_fold (A := List Int × List Int) (fun i s => (s.2, (s.1, (a, ((a.length : Int), (((i : Nat) : Int), ())))))) a.length (gTake a) (fun s => (s.2, ((), ()))) takeI ?_ (fun i s s' _ h hg => gTake_inv h hg) ?_ k ([], []) ⟨by simp, by simp⟩ (by omega)
  · intro again i s hi hI
    have g1 : (0 : Int) ≤ (i : Int) ∧ (i : Int) < (a.length : Int) := by omega
    have w2 : wi64 ((i : Int) + 1) = ((i + 1 : Nat) : Int) := (w64_id _ (by omega)).trans (by omega)
    have hs : s.1.length ≤ 1048576 := by have := hI.1; omega
    have c : ∀ v : Int, s.2.length + ([v] : List Int).length ≤ capMax := fun v => cap_add _ _ (by have := hI.2; simp; omega)
    unfold gTake
    simp only [g1, w2, c, i_IsFresh_is k s.1 _ hk hs, i_NoteSeen_is k s.1 _ hk hs, and_self, decide_true, if_true, Option.bind_some]
    by_cases q : freshB s.1 (Ty.rd (t := (.int .i64)) a i) = true <;> simp [q]
  · intro again s _
    simp
abbrev Cur : Type := List Int × Int × Int × Unit
def CurOk (c : Cur) : Prop := 0 ≤ c.2.1 ∧ c.2.1 ≤ (c.1.length : Int) ∧ c.1.length ≤ 1048576
theorem and255 (y : Int) : 0 ≤ bitsI .and .i64 y 255 ∧ bitsI .and .i64 y 255 ≤ 255 := by
  have h : (BitVec.ofInt 64 y &&& BitVec.ofInt 64 255).toNat ≤ 255 := by
    rw [BitVec.toNat_and]
    exact Nat.le_trans Nat.and_le_right (by decide)
  show 0 ≤ IntKind.i64.wrap ((BitVec.ofInt 64 y &&& BitVec.ofInt 64 255).toNat : Int) ∧ IntKind.i64.wrap ((BitVec.ofInt 64 y &&& BitVec.ofInt 64 255).toNat : Int) ≤ 255
  rw [w64_id _ (by omega)]
  omega
theorem Byte_is (k : Nat) (c : Cur) (hc : CurOk c) : ∃ (v : Int) (c' : Cur), s_l01Byte k (c, ()) = some (v, (c', ())) ∧ 0 ≤ v ∧ v ≤ 255 ∧ CurOk c' := by
  obtain ⟨h0, h1, h2⟩ := hc
  unfold s_l01Byte
  by_cases h : c.2.1 < (c.1.length : Int)
  · have w : wi64 (c.2.1 + 1) = c.2.1 + 1 := w64_id _ (by omega)
    simp only [h, h0, and_self, decide_true, if_true]
    refine ⟨_, _, rfl, (and255 _).1, (and255 _).2, ?_⟩
    exact ⟨by simp only [w]; omega, by simp only [w]; omega, h2⟩
  · simp only [h, decide_false, Bool.false_eq_true, if_false]
    exact ⟨_, _, rfl, (and255 _).1, (and255 _).2, h0, h1, h2⟩
theorem tmod_in (v n : Int) (h : 0 ≤ v) (hn : 0 < n) : 0 ≤ Int.tmod v n ∧ Int.tmod v n < n := by
  rw [Int.tmod_eq_emod_of_nonneg h]
  exact ⟨Int.emod_nonneg _ (by omega), Int.emod_lt_of_pos _ hn⟩
theorem Below_is (k : Nat) (c : Cur) (n : Int) (hc : CurOk c) : ∃ (v : Int) (c' : Cur), s_l01Below k (c, (n, ())) = some (v, (c', ((), ()))) ∧ 0 ≤ v ∧ (0 < n → v < n) ∧ CurOk c' := by
  unfold s_l01Below
  by_cases hn : n ≤ 0
  · simp only [hn, decide_true, if_true]
    exact ⟨0, c, rfl, by omega, fun h => by omega, hc⟩
  · have hz : ¬ n = 0 := by omega
    obtain ⟨v1, c1, e1, a1, b1, hc1⟩ := Byte_is k c hc
    by_cases hs : n ≤ 256
    · simp only [hn, hs, hz, e1, decide_true, decide_false, Bool.false_eq_true, if_true, if_false, Option.bind_some]
      exact ⟨_, _, rfl, (tmod_in v1 n a1 (by omega)).1, fun _ => (tmod_in v1 n a1 (by omega)).2, hc1⟩
    · obtain ⟨v2, c2, e2, a2, b2, hc2⟩ := Byte_is k c1 hc1
      obtain ⟨v3, c3, e3, a3, b3, hc3⟩ := Byte_is k c2 hc2
      obtain ⟨v4, c4, e4, a4, b4, hc4⟩ := Byte_is k c3 hc3
      have e : 0 ≤ wi64 (wi64 (wi64 (wi64 (v1 * 16777216) + wi64 (v2 * 65536)) + wi64 (v3 * 256)) + v4) := by
        simp only [wi64, IntKind.wrap_i64]
        omega
      simp only [hn, hs, hz, e1, e2, e3, e4, decide_false, Bool.false_eq_true, if_false, Option.bind_some]
      exact ⟨_, _, rfl, (tmod_in _ n e (by omega)).1, fun _ => (tmod_in _ n e (by omega)).2, hc4⟩
theorem New_is (k : Nat) (a : List Int) (hl : a.length ≤ 1048576) (hk : 1048576 < k) : ∃ c : Cur, s_l01New k (a, ()) = some (c, ((), ())) ∧ CurOk c := by
  unfold s_l01New
  refine whileK_some (g := fun c : Cur => (c, ((), ()))) (fun y : List Int × Int × Int × Unit => (a.length - y.2.2.1).toNat) (fun y => y.1 = a ∧ 0 ≤ y.2.2.1) (fun _ c => CurOk c) ?_ k _ ⟨rfl, by simp⟩ (by simp only; omega)
  rintro ⟨b, h, i, u⟩ ⟨g1, g2⟩ again hg
  simp only at g1 g2
  subst g1
  by_cases hi : i < (b.length : Int)
  · by_cases h4 : i < 4000
    · have w : wi64 (i + 1) = i + 1 := w64_id _ (by omega)
      simp only [hi, h4, g2, and_self, decide_true, if_true, w]
      exact hg _ ⟨rfl, by simp only; omega⟩ (by simp only; omega)
    · simp only [hi, h4, decide_true, decide_false, if_true, Bool.false_eq_true, if_false]
      exact ⟨_, rfl, by simp, by simp, hl⟩
  · simp only [hi, decide_false, Bool.false_eq_true, if_false]
    exact ⟨_, rfl, by simp, by simp, hl⟩
theorem rd_zero (a : List Int) (x : Int) (r : List Int) (h : a = x :: r) : Ty.rd (t := (.int .i64)) a 0 = x := by subst h; rfl
/-- What SeenOk asks. -/
theorem seenB_of {a : List Int} (h1 : a.Pairwise (fun x y => y < x)) (h2 : ∀ x ∈ a, 1 ≤ x ∧ x ≤ 1000000000) (h3 : ∀ x ∈ a, Ty.rd (t := (.int .i64)) a 0 - 6 < x) (h4 : a.length ≤ 6) : seenB a = true := by
  have key : ∀ m i, i + m = a.length → foldE (gSeen a) (fun _ => (decide ((a.length : Int) ≤ 6), ((), ()))) m i () = (decide ((a.length : Int) ≤ 6), ((), ())) := by
    intro m
    induction m with
    | zero => intro i _; rfl
    | succ m ih =>
      intro i hi
      have hl : i < a.length := by omega
      have hg : (gSeen a i () : (Bool × Unit × Unit) ⊕ Unit) = .inr () := by
        unfold gSeen
        have hm : a[i] ∈ a := List.getElem_mem hl
        have q1 := h2 _ hm
        have q2 := h3 _ hm
        have h0 : a[0]'(by omega) ∈ a := List.getElem_mem _
        have e0 : Ty.rd (t := (.int .i64)) a 0 = a[0]'(by omega) := rd_i a 0 (by omega)
        have q3 := h2 _ h0
        have w6 : wi64 (Ty.rd (t := (.int .i64)) a 0 - 6) = Ty.rd (t := (.int .i64)) a 0 - 6 := w64_id _ (by rw [e0]; omega)
        rw [if_pos]
        have ei : Ty.rd (t := (.int .i64)) a (i : Int) = a[i] := rd_i a i hl
        simp only [Bool.and_eq_true, Bool.not_eq_true', decide_eq_true_eq, Bool.and_eq_false_iff, decide_eq_false_iff_not, ei, w6]
        refine ⟨⟨q1, ?_⟩, by exact Int.not_le.2 q2⟩
        by_cases hz : 0 < i
        · refine .inr ?_
          have w1 : wi64 ((i : Int) - 1) = ((i - 1 : Nat) : Int) := (w64_id _ (by omega)).trans (by omega)
          have ej : Ty.rd (t := (.int .i64)) a (((i - 1 : Nat)) : Int) = a[i - 1]'(by omega) := rd_i a (i - 1) (by omega)
          rw [w1, ej]
          have := List.pairwise_iff_getElem.1 h1 (i - 1) i (by omega) hl (by omega)
          exact Int.not_le.2 this
        · exact .inl (by omega)
      unfold foldE
      rw [hg]
      exact ih (i + 1) (by omega)
  unfold seenB
  rw [key a.length 0 (by omega)]
  simp
  omega
theorem seenB_near {a : List Int} (h : seenB a = true) : ∀ x ∈ a, Ty.rd (t := (.int .i64)) a 0 - 6 < x := by
  have h7 := seenB_ok h
  intro x hx
  obtain ⟨j, hj, rfl⟩ := List.mem_iff_getElem.1 hx
  have key : ∀ m i, i + m = a.length → (foldE (gSeen a) (fun _ => (decide ((a.length : Int) ≤ 6), ((), ()))) m i ()).1 = true → ∀ j, i ≤ j → (hj : j < a.length) → ¬ (a[j] ≤ wi64 (Ty.rd (t := (.int .i64)) a 0 - 6)) := by
    intro m
    induction m with
    | zero => intro i hi h j h1 h2; omega
    | succ m ih =>
      intro i hi h j h1 h2
      unfold foldE at h
      cases hg : gSeen a i () with
      | inl r =>
        rw [hg] at h
        unfold gSeen at hg
        split at hg
        · cases hg
        · cases hg; cases h
      | inr u =>
        rw [hg] at h
        by_cases e : j = i
        · subst e
          unfold gSeen at hg
          split at hg
          · rename_i hc
            simp only [Bool.and_eq_true, Bool.not_eq_true', decide_eq_false_iff_not] at hc
            have := hc.2
            rw [rd_i a j h2] at this
            exact this
          · cases hg
        · exact ih (i + 1) (by omega) h j (by omega) h2
  have h0 : a[0]'(by omega) ∈ a := List.getElem_mem _
  have e0 : Ty.rd (t := (.int .i64)) a 0 = a[0]'(by omega) := rd_i a 0 (by omega)
  have q3 := h7.2.1 _ h0
  have w6 : wi64 (Ty.rd (t := (.int .i64)) a 0 - 6) = Ty.rd (t := (.int .i64)) a 0 - 6 := w64_id _ (by rw [e0]; omega)
  have := key a.length 0 (by omega) h j (by omega) hj
  rw [w6] at this
  exact Int.not_le.1 this
/-- A falling row of whole numbers between two is no longer than they are apart. -/
theorem fall_len : ∀ {a : List Int} {lo hi : Int}, a.Pairwise (fun x y => y < x) → (∀ x ∈ a, lo < x ∧ x ≤ hi) → a ≠ [] → (a.length : Int) ≤ hi - lo := by
  intro a
  induction a with
  | nil => intro lo hi _ _ h; exact absurd rfl h
  | cons x r ih =>
    intro lo hi hp hb _
    have hx := hb x (by simp)
    have hp' := List.pairwise_cons.1 hp
    by_cases hr : r = []
    · subst hr; simp; omega
    · have := ih (lo := lo) (hi := x - 1) hp'.2 (fun y hy => ⟨(hb y (List.mem_cons_of_mem _ hy)).1, by have := hp'.1 y hy; omega⟩) hr
      simp only [List.length_cons]
      omega
/-- The first of the new list: the greatest. -/
theorem listL_top {a : List Int} {n : Int} (h : ok7 a) (hn : n ∉ a) : ∃ t r, listL a n = t :: r ∧ (∀ x ∈ a, x ≤ t) ∧ n ≤ t ∧ (t = n ∨ (t ∈ a ∧ n < t)) := by
  have hs := listL_sorted (n := n) h
  have hm : n ∈ listL a n := by unfold listL; simp
  have hp := listL_perm hn
  cases hL : listL a n with
  | nil => rw [hL] at hm; cases hm
  | cons t r =>
    rw [hL] at hs
    have ht := List.pairwise_cons.1 hs
    have all : ∀ x ∈ a ++ [n], x ≤ t := fun x hx => by
      have : x ∈ listL a n := hp.mem_iff.2 hx
      rw [hL] at this
      rcases List.mem_cons.1 this with rfl | hx'
      · exact Int.le_refl _
      · exact ht.1 x hx'
    refine ⟨t, r, rfl, fun x hx => all x (by simp [hx]), all n (by simp), ?_⟩
    have : t ∈ a ++ [n] := hp.mem_iff.1 (by rw [hL]; simp)
    rcases List.mem_append.1 this with h1 | h1
    · have := all n (by simp)
      by_cases e : t = n
      · exact .inl e
      · exact .inr ⟨h1, by omega⟩
    · exact .inl (by simpa using h1)
theorem listL_strict {a : List Int} {n : Int} (h : ok7 a) : (listL a n).Pairwise (fun x y => y < x) := by
  unfold listL
  rw [List.pairwise_append, List.pairwise_append]
  refine ⟨⟨h.1.filter _, by simp, ?_⟩, h.1.filter _, ?_⟩
  · intro x hx y hy
    have := (List.mem_filter.1 hx).2
    simp at this hy
    omega
  · intro x hx y hy
    have h2 := (List.mem_filter.1 hy).2
    simp only [decide_eq_true_eq] at h2
    rcases List.mem_append.1 hx with hx | hx
    · have := (List.mem_filter.1 hx).2
      simp only [decide_eq_true_eq] at this
      omega
    · simp at hx
      omega
/-- What NoteSeen leaves behind a number that is fresh. -/
theorem note_fresh {a : List Int} {n : Int} (h : freshB a n = true) : ∃ t r, noteL a n = t :: r ∧ (t = n ∨ (t ∈ a ∧ n < t)) ∧ (∀ x ∈ a, x ≤ t) ∧ n ≤ t ∧ seenB (noteL a n) = true ∧ n ∈ noteL a n ∧ (∀ x ∈ noteL a n, x ∈ a ∨ x = n) ∧ (∀ x ∈ a, x ∈ noteL a n ∨ x ≤ t - 6) := by
  obtain ⟨h7, hn, n1, n2⟩ := fresh_ok h
  obtain ⟨t, r, hL, ha, hnt, htop⟩ := listL_top h7 hn
  have hp := listL_perm hn
  have hst := listL_strict (n := n) h7
  have hrange : ∀ x ∈ listL a n, 1 ≤ x ∧ x ≤ 1000000000 := fun x hx => by
    rcases List.mem_append.1 (hp.mem_iff.1 hx) with hx | hx
    · exact h7.2.1 x hx
    · simp at hx; omega
  have htr := hrange t (by rw [hL]; simp)
  have hn0 : Ty.rd (t := (.int .i64)) (listL a n) 0 = t := rd_zero _ t r hL
  have w6 : wi64 (t - 6) = t - 6 := w64_id _ (by omega)
  have hN : noteL a n = (listL a n).filter (fun x => decide (t - 6 < x)) := by
    unfold noteL
    rw [if_pos h, hn0, w6]
  have hN2 : noteL a n = t :: r.filter (fun x => decide (t - 6 < x)) := by
    rw [hN, hL, List.filter_cons_of_pos (by simp; omega)]
  have mem : ∀ x, x ∈ noteL a n ↔ (x ∈ a ∨ x = n) ∧ t - 6 < x := fun x => by
    rw [hN, List.mem_filter, decide_eq_true_eq, hp.mem_iff]
    simp
  have hnear : t - 6 < n := by
    rcases htop with e | ⟨e, hlt⟩
    · omega
    · have hf := h
      unfold freshB at hf
      simp only [Bool.and_eq_true, Bool.not_eq_true', Bool.or_eq_true, decide_eq_true_eq, decide_eq_false_iff_not] at hf
      have hlen : ¬ (a.length : Int) = 0 := fun e' => by
        have : a = [] := List.eq_nil_of_length_eq_zero (by omega)
        rw [this] at e; cases e
      have q := hf.2.2.2.resolve_left hlen
      have hpos : 0 < a.length := by omega
      have e0 : Ty.rd (t := (.int .i64)) a 0 = a[0] := rd_i a 0 hpos
      have r0 := h7.2.1 a[0] (List.getElem_mem _)
      have w0 : wi64 (Ty.rd (t := (.int .i64)) a 0 - 6) = Ty.rd (t := (.int .i64)) a 0 - 6 := w64_id _ (by rw [e0]; omega)
      rw [w0, e0] at q
      have : t ≤ a[0] := by
        obtain ⟨j, hj, rfl⟩ := List.mem_iff_getElem.1 e
        by_cases hz : j = 0
        · subst hz; exact Int.le_refl _
        · exact Int.le_of_lt (List.pairwise_iff_getElem.1 h7.1 0 j hpos hj (by omega))
      omega
  refine ⟨t, _, hN2, htop, ha, hnt, ?_, (mem n).2 ⟨.inr rfl, hnear⟩, fun x hx => ((mem x).1 hx).1, fun x hx => ?_⟩
  · have hst' : (noteL a n).Pairwise (fun x y => y < x) := by rw [hN]; exact hst.filter _
    refine seenB_of hst' (fun x hx => ?_) (fun x hx => ?_) ?_
    · rw [hN] at hx
      exact hrange x (List.mem_filter.1 hx).1
    · rw [rd_zero _ t _ hN2]
      exact ((mem x).1 hx).2
    · have := fall_len (lo := t - 6) (hi := t) hst' (fun x hx => ⟨((mem x).1 hx).2, by
        rcases ((mem x).1 hx).1 with h1 | h1
        · exact ha x h1
        · omega⟩) (by rw [hN2]; simp)
      omega
  · by_cases q : t - 6 < x
    · exact .inl ((mem x).2 ⟨.inl hx, q⟩)
    · exact .inr (by omega)
/-- Those of a list that are taken. -/
def taker : List Int → List Int → List Int
  | [], _ => []
  | v :: r, s => if freshB s v = true then v :: taker r (noteL s v) else taker r s
theorem taker_cons (v : Int) (r s : List Int) : taker (v :: r) s = if freshB s v = true then v :: taker r (noteL s v) else taker r s := rfl
theorem takeL_taker (a : List Int) : takeL a = (taker a [], ((), ())) := by
  have key : ∀ m i (s : List Int × List Int), i + m = a.length → (foldE (gTake a) (fun s => (s.2, ((), ()))) m i s : List Int × Unit × Unit) = (s.2 ++ taker (a.drop i) s.1, ((), ())) := by
    intro m
    induction m with
    | zero =>
      intro i s h
      rw [List.drop_of_length_le (by omega)]
      simp [foldE, taker]
    | succ m ih =>
      intro i s h
      have hi : i < a.length := by omega
      have e : (gTake a i s : (List Int × Unit × Unit) ⊕ _) = .inr (if freshB s.1 (Ty.rd (t := (.int .i64)) a i) = true then (noteL s.1 (Ty.rd (t := (.int .i64)) a i), s.2 ++ [Ty.rd (t := (.int .i64)) a i]) else s) := rfl
      unfold foldE
      rw [e]
      dsimp only
      rw [ih _ _ (by omega), rd_i a i hi, List.drop_eq_getElem_cons hi]
      rw [taker_cons]
      split <;> simp
  have := key a.length 0 ([], []) (by omega)
  unfold takeL
  rw [this]
  simp
theorem fresh_not_of {s : List Int} {n : Int} (h : n ∈ s) : freshB s n = false := by
  unfold freshB
  simp [h]
/-- What stands ahead of the next number taken. -/
structure OnceI (done s : List Int) (most : Int) : Prop where
  ok : seenB s = true
  old : ∀ x ∈ done, x ∈ s ∨ x ≤ most - 6
  top : (s = [] ∧ most = 0) ∨ ∃ r, s = most :: r
  lo : 0 ≤ most ∧ most ≤ 1000000000
theorem OnceI.start : OnceI [] [] 0 := ⟨by rfl, by simp, .inl ⟨rfl, rfl⟩, by omega⟩
theorem OnceI.next {done s : List Int} {most v : Int} (h : OnceI done s most) (hf : freshB s v = true) :
    v ∉ done ∧ most - 6 < v ∧ seenB (noteL s v) = true ∧ freshB (noteL s v) v = false ∧ OnceI (done ++ [v]) (noteL s v) (if most < v then v else most) := by
  obtain ⟨t, r, hN, htop, ha, hvt, hsb, hmem, hsub, hkeep⟩ := note_fresh hf
  obtain ⟨h7, hn, n1, n2⟩ := fresh_ok hf
  have hnear : most - 6 < v := by
    rcases h.top with ⟨e1, e2⟩ | ⟨r', e⟩
    · omega
    · have q : t - 6 < v := by
        have := seenB_near hsb v hmem
        rw [rd_zero _ t r hN] at this
        exact this
      have q2 := ha most (by rw [e]; simp)
      omega
  have ht : t = if most < v then v else most := by
    rcases h.top with ⟨e1, e2⟩ | ⟨r', e⟩
    · rcases htop with h1 | h1
      · rw [if_pos (by omega)]; exact h1
      · rw [e1] at h1; cases h1.1
    · have hm := ha most (by rw [e]; simp)
      have hmax : ∀ x ∈ s, x ≤ most := fun x hx => by
        rw [e] at hx
        rcases List.mem_cons.1 hx with rfl | hx
        · exact Int.le_refl _
        · have := h7.1
          rw [e] at this
          exact Int.le_of_lt ((List.pairwise_cons.1 this).1 x hx)
      rcases htop with h1 | h1
      · by_cases q : most < v
        · rw [if_pos q]; exact h1
        · have : most = v := by omega
          exact absurd (by rw [e, this]; simp) hn
      · have := hmax t h1.1
        rw [if_neg (by omega)]
        omega
  refine ⟨fun hd => ?_, hnear, hsb, fresh_not_of hmem, ⟨hsb, fun x hx => ?_, .inr ⟨r, by rw [← ht]; exact hN⟩, by split <;> have := h.lo <;> omega⟩⟩
  · rcases h.old v hd with h1 | h1
    · exact hn h1
    · omega
  · rw [← ht]
    rcases List.mem_append.1 hx with hx | hx
    · rcases h.old x hx with h1 | h1
      · exact hkeep x h1
      · refine .inr ?_
        rw [ht]
        split <;> omega
    · have : x = v := by simpa using hx
      subst this
      exact .inl hmem
/-- A row of numbers in order is taken whole. -/
theorem taker_row : ∀ (m : Nat) (i : Nat) (s : List Int), seenB s = true → (∀ x ∈ s, x ≤ (i : Int)) → (i + m : Nat) ≤ 1000000 → taker ((List.range' (i + 1) m).map fun (j : Nat) => (j : Int)) s = (List.range' (i + 1) m).map fun (j : Nat) => (j : Int) := by
  intro m
  induction m with
  | zero => intro i s _ _ _; rfl
  | succ m ih =>
    intro i s hs hb hm
    rw [List.range'_succ]
    simp only [List.map_cons]
    have h7 := seenB_ok hs
    have hn : (((i + 1 : Nat)) : Int) ∉ s := fun h => by have := hb _ h; omega
    have hf : freshB s ((i + 1 : Nat) : Int) = true := by
      unfold freshB
      simp only [Bool.and_eq_true, Bool.not_eq_true', Bool.or_eq_true, decide_eq_true_eq, decide_eq_false_iff_not]
      refine ⟨hs, by omega, hn, ?_⟩
      cases s with
      | nil => exact .inl rfl
      | cons t r =>
        refine .inr ?_
        have q := h7.2.1 t (by simp)
        have q2 := hb t (by simp)
        have e0 : Ty.rd (t := (.int .i64)) (t :: r) 0 = t := rfl
        have w6 : wi64 (Ty.rd (t := (.int .i64)) (t :: r) 0 - 6) = t - 6 := by rw [e0]; exact w64_id _ (by omega)
        rw [w6]
        omega
    obtain ⟨t, r, hN, htop, ha, hvt, hsb, hmem, hsub, hkeep⟩ := note_fresh hf
    rw [taker_cons, if_pos hf]
    congr 1
    exact ih (i + 1) (noteL s ((i + 1 : Nat) : Int)) hsb (fun x hx => by
      rcases hsub x hx with h1 | h1
      · have := hb x h1; omega
      · omega) (by omega)
theorem w_in_is (k : Nat) (a : List Int) (n : Int) (hk : 1048576 < k) (hl : a.length ≤ 1048576) : w_in k (a, (n, ())) = some (decide (n ∈ a), ((), ((), ()))) := l13In_is k a n hk hl
theorem sameInts_is (k : Nat) (a b : List Int) (hk : 1048576 < k) (hl : a.length ≤ 1048576) : w_sameInts k (a, (b, ())) = some (decide (a = b), ((), ((), ()))) := by
  unfold w_sameInts
  by_cases hab : a.length = b.length
  · have h : (a.length : Int) = (b.length : Int) := by omega
    simp only [h, decide_true, Bool.not_true, Bool.false_eq_true, if_false]
    refine (loop_eq (t := .int .i64) a b hab (false, ((), ((), ()))) (true, ((), ((), ()))) ?_ ?_ k (by omega)).trans ?_
    · intro again i h0 h1
      have g1 : 0 ≤ i ∧ i < (a.length : Int) := by omega
      have g2 : 0 ≤ i ∧ i < (b.length : Int) := by omega
      have w : wi64 (i + 1) = i + 1 := w64_id _ (by omega)
      by_cases q : Ty.rd (t := .int .i64) a i = Ty.rd (t := .int .i64) b i <;> simp only [g1, g2, w, q, and_self, decide_true, decide_false, Bool.not_true, Bool.not_false, Bool.false_eq_true, if_true, if_false]
    · intro again i h0
      have g1 : ¬ i < (a.length : Int) := by omega
      simp only [g1, decide_false, Bool.false_eq_true, if_false]
    · by_cases e : a = b <;> simp [e]
  · have h : ¬ (a.length : Int) = (b.length : Int) := by omega
    have h' : a ≠ b := fun e => hab (by rw [e])
    simp [h, h']
theorem DrawNumbers_is (k : Nat) (a : List Int) (hk : 1048576 < k) (hl : a.length ≤ 1048576) : ∃ L : List Int, s_DrawNumbers k (a, ()) = some (L, ((), ())) ∧ L.length ≤ 20 := by
  unfold s_DrawNumbers s_DrawTakeAll
  obtain ⟨c, e, hc⟩ := New_is k a hl hk
  simp only [e, Option.bind_some]
  have : ∃ L : List Int, whileK (fun (rec0 : ((List (Int) × Int × Int × Unit) × List (Int) × Int × Unit) → Option (List Int × Unit × Unit)) (y0 : (List (Int) × Int × Int × Unit) × List (Int) × Int × Unit) =>
((s_l01Below k ((y0.1.1, (y0.1.2.1, (y0.1.2.2.1, ()))), ((20 : Int), ()))).bind fun p2 =>
(if (decide (y0.2.2.1 < p2.1)) = true then
((s_l01Below k ((p2.2.1.1, (p2.2.1.2.1, (p2.2.1.2.2.1, ()))), ((16 : Int), ()))).bind fun p3 =>
(if List.length y0.2.1 + List.length ([p3.1] : List (Int)) ≤ capMax then
(rec0 ((p3.2.1.1, (p3.2.1.2.1, (p3.2.1.2.2.1, ()))), ((y0.2.1 ++ ([p3.1] : List (Int))), ((wi64 (y0.2.2.1 + (1 : Int))), ()))))
else none))
else
((fun (z1 : List (Int) × Unit) =>
some (z1.1, ((), ()))) (y0.2.1, ()))))) k ((c.1, (c.2.1, (c.2.2.1, ()))), (([] : List (Int)), ((0 : Int), ()))) = some (L, ((), ())) ∧ L.length ≤ 20 := by
    refine whileK_some (g := fun l : List Int => (l, ((), ()))) (fun y => (20 - y.2.2.1).toNat) (fun y => CurOk y.1 ∧ 0 ≤ y.2.2.1 ∧ (y.2.1.length : Int) = y.2.2.1 ∧ y.2.1.length ≤ 20) (fun _ L => L.length ≤ 20) ?_ k _ ⟨hc, by simp, by simp, by simp⟩ (by simp only; omega)
    rintro ⟨c, l, i, u⟩ ⟨g0, g1, g2, g3⟩ again hg
    simp only at g0 g1 g2 g3
    obtain ⟨v, c1, e1, v0, v1, hc1⟩ := Below_is k c 20 g0
    have v1 := v1 (by omega)
    have e1' : s_l01Below k ((c.1, (c.2.1, (c.2.2.1, ()))), ((20 : Int), ())) = some (v, (c1, ((), ()))) := e1
    simp only [e1', Option.bind_some]
    by_cases hi : i < v
    · obtain ⟨v', c2, e2, _, _, hc2⟩ := Below_is k c1 16 hc1
      have e2' : s_l01Below k ((c1.1, (c1.2.1, (c1.2.2.1, ()))), ((16 : Int), ())) = some (v', (c2, ((), ()))) := e2
      have w : wi64 (i + 1) = i + 1 := w64_id _ (by omega)
      simp only [hi, e2', w, decide_true, if_true, Option.bind_some]
      rw [if_pos (cap_add _ _ (by simp; omega))]
      exact hg (c2, (l ++ [v'], (i + 1, ()))) ⟨hc2, by simp only; omega, by simp; omega, by simp; omega⟩ (by simp only; omega)
    · simp only [hi, decide_false, Bool.false_eq_true, if_false]
      exact ⟨l, rfl, g3⟩
  obtain ⟨L, h1, h2⟩ := this
  exact ⟨L, by rw [h1]; rfl, h2⟩
/-- Each is fresh when its turn comes. -/
def Chain : List Int → List Int → Prop
  | _, [] => True
  | s, v :: r => freshB s v = true ∧ Chain (noteL s v) r
theorem taker_chain : ∀ (L s : List Int), Chain s (taker L s)
  | [], _ => trivial
  | v :: r, s => by
    rw [taker_cons]
    by_cases h : freshB s v = true
    · rw [if_pos h]; exact ⟨h, taker_chain r _⟩
    · rw [if_neg h]; exact taker_chain r s
theorem once_loop {R : Type} {step : (List Int × List Int × Int × List Int × Int × Unit → Option R) → List Int × List Int × Int × List Int × Int × Unit → Option R} (L out : List Int) (res : Option R)
    (hs : ∀ again done v r seen most, out = done ++ v :: r → OnceI done seen most → freshB seen v = true → step again (L, (out, (most, (seen, ((done.length : Int), ()))))) = again (L, (out, ((if most < v then v else most), (noteL seen v, (((done.length + 1 : Nat) : Int), ()))))))
    (he : ∀ again most seen, step again (L, (out, (most, (seen, ((out.length : Int), ()))))) = res) :
    ∀ (r done seen : List Int) (most : Int) (k : Nat), out = done ++ r → Chain seen r → OnceI done seen most → r.length < k → whileK step k (L, (out, (most, (seen, ((done.length : Int), ()))))) = res := by
  intro r
  induction r with
  | nil =>
    intro done seen most k ho _ _ hk
    obtain ⟨k, rfl⟩ : ∃ k', k = k' + 1 := ⟨k - 1, by omega⟩
    show step _ _ = _
    have : done.length = out.length := by rw [ho]; simp
    rw [this]
    exact he _ _ _
  | cons v r ih =>
    intro done seen most k ho hc hI hk
    obtain ⟨k, rfl⟩ : ∃ k', k = k' + 1 := ⟨k - 1, by omega⟩
    show step _ _ = _
    rw [hs _ done v r seen most ho hI hc.1]
    have := ih (done ++ [v]) (noteL seen v) (if most < v then v else most) k (by rw [ho]; simp) hc.2 (hI.next hc.1).2.2.2.2 (by simp at hk; omega)
    rw [List.length_append] at this
    exact this
theorem row_loop {R : Type} {step : (List Int × List Int × Int × Unit → Option R) → List Int × List Int × Int × Unit → Option R} (L : List Int) (res : Option R)
    (hs : ∀ again (i : Nat), i < L.length → step again (L, ((List.range' 1 i).map (fun (j : Nat) => (j : Int)), ((i : Int), ()))) = again (L, ((List.range' 1 (i + 1)).map (fun (j : Nat) => (j : Int)), (((i + 1 : Nat) : Int), ()))))
    (he : ∀ again, step again (L, ((List.range' 1 L.length).map (fun (j : Nat) => (j : Int)), ((L.length : Int), ()))) = res) :
    ∀ (m i k : Nat), i + m = L.length → m < k → whileK step k (L, ((List.range' 1 i).map (fun (j : Nat) => (j : Int)), ((i : Int), ()))) = res := by
  intro m
  induction m with
  | zero =>
    intro i k h hk
    obtain ⟨k, rfl⟩ : ∃ k', k = k' + 1 := ⟨k - 1, by omega⟩
    have : i = L.length := by omega
    subst this
    exact he _
  | succ m ih =>
    intro i k h hk
    obtain ⟨k, rfl⟩ : ∃ k', k = k' + 1 := ⟨k - 1, by omega⟩
    show step _ _ = _
    rw [hs _ i (by omega)]
    exact ih (i + 1) k (by omega) (by omega)
theorem pure_FnOnce (x : argsDen pars_FnOnce) (hx : argsWf pars_FnOnce x) : ∃ k o, w_FnOnce k (argsX pars_FnOnce x) = some (true, o) := by
  obtain ⟨a, u⟩ := x
  refine ⟨1048577, ((), ()), ?_⟩
  show w_FnOnce 1048577 (a, ()) = _
  have ha : ∃ b : List Int, b = a := ⟨a, rfl⟩
  obtain ⟨b, rfl⟩ := ha
  clear hx
  unfold w_FnOnce w_big
  by_cases g1 : (1048576 : Int) < (b.length : Int)
  · simp [g1]
  have hl : b.length ≤ 1048576 := by omega
  obtain ⟨L, eL, hL⟩ := DrawNumbers_is 1048577 b (by decide) hl
  have e2 := s_TakeAll_is 1048577 L (by decide) (by omega)
  have e3 := i_TakeAll_is 1048577 L (by decide) (by omega)
  have hN : (taker L []).length ≤ 20 := by have := takeL_len L; rw [takeL_taker] at this; simp only at this; omega
  rw [takeL_taker] at e2 e3
  have e4 := sameInts_is 1048577 (taker L []) (taker L []) (by decide) (by omega)
  simp only [g1, eL, e2, e3, e4, decide_true, decide_false, Option.bind_some, Bool.not_true, Bool.false_eq_true, if_false]
  refine once_loop L (taker L []) _ ?_ ?_ (taker L []) [] [] 0 1048577 (by simp) (taker_chain L []) OnceI.start (by omega)
  · intro again done v r seen most ho hI hf
    obtain ⟨p1, p2, p3, p4, p5⟩ := hI.next hf
    have hlo := hI.lo
    have hlen : done.length + (v :: r).length = (taker L []).length := by rw [ho]; simp
    simp only [List.length_cons] at hlen
    have q1 : (done.length : Int) < ((taker L []).length : Int) := by omega
    have q2 : (0 : Int) ≤ (done.length : Int) ∧ (done.length : Int) ≤ ((taker L []).length : Int) := by omega
    have q3 : (0 : Int) ≤ (done.length : Int) ∧ (done.length : Int) < ((taker L []).length : Int) := by omega
    have e_rd : Ty.rd (t := (.int .i64)) (taker L []) (done.length : Int) = v := by rw [ho]; exact rd_at _ _ _ _ rfl
    have e_tk : List.drop (Int.toNat 0) (List.take (Int.toNat (done.length : Int)) (taker L [])) = done := by rw [ho]; simp
    have w1 : wi64 (most - 6) = most - 6 := w64_id _ (by omega)
    have w2 : wi64 ((done.length : Int) + 1) = ((done.length + 1 : Nat) : Int) := (w64_id _ (by omega)).trans (by omega)
    have p2' : ¬ v ≤ most - 6 := by omega
    have h6 := (seenB_ok hI.ok).2.2
    have h6' := (seenB_ok p3).2.2
    have e5 := w_in_is 1048577 done v (by decide) (by omega)
    have e6 := i_IsFresh_is 1048577 seen v (by decide) (by omega)
    have e7 := i_NoteSeen_is 1048577 seen v (by decide) (by omega)
    have e8 := i_SeenOk_is 1048577 (noteL seen v) (by decide) (by omega)
    have e9 := i_IsFresh_is 1048577 (noteL seen v) v (by decide) (by omega)
    simp only [q1, q2, q3, e_rd, e_tk, w1, w2, p1, p2', e5, e6, e7, e8, e9, hf, p3, p4, and_self, decide_true, decide_false, Bool.not_true, Bool.not_false, Bool.false_eq_true, if_true, if_false, Option.bind_some]
    by_cases c : most < v <;> simp [c]
  · intro again most seen
    have q : ¬ ((taker L []).length : Int) < ((taker L []).length : Int) := by omega
    simp only [q, decide_false, Bool.false_eq_true, if_false]
    refine row_loop L _ ?_ ?_ L.length 0 1048577 (by omega) (by omega)
    · intro again i hi
      have g : (i : Int) < (L.length : Int) := by omega
      have w2 : wi64 ((i : Int) + 1) = ((i + 1 : Nat) : Int) := (w64_id _ (by omega)).trans (by omega)
      simp only [g, w2, decide_true, if_true]
      rw [if_pos (cap_add _ _ (by simp; omega)), List.range'_concat, List.map_append]
      simp only [List.map_cons, List.map_nil]
      have : ((1 + 1 * i : Nat) : Int) = ((i + 1 : Nat) : Int) := by omega
      rw [this]
    · intro again
      have g : ¬ (L.length : Int) < (L.length : Int) := by omega
      have e10 := i_TakeAll_is 1048577 ((List.range' 1 L.length).map (fun (j : Nat) => (j : Int))) (by decide) (by simp; omega)
      rw [takeL_taker, taker_row L.length 0 [] (by rfl) (by simp) (by omega)] at e10
      have e11 := sameInts_is 1048577 ((List.range' 1 L.length).map (fun (j : Nat) => (j : Int))) ((List.range' 1 L.length).map (fun (j : Nat) => (j : Int))) (by decide) (by simp; omega)
      simp only [g, e10, e11, decide_true, decide_false, Bool.false_eq_true, if_false, Option.bind_some]
open Go.ChangeShapes Go.WideShapes Go.ChangeAt Go.RowKit
theorem own_FnOnce : ownKnob Try.prog.godebug = none := by kernel_rfl
theorem lifted_FnOnce (os : Os) (started : os.Started) (H : Type) (enc : TypeId × Value → H) :
    ReturnsInHanded {} Try.checked os 7 .any (Rows.fnOnceSpec.pre6 enc Try.prog Try.f7 Rows.fnOnceRow.domain false) (Rows.fnOnceSpec.post enc Try.prog Try.f7 false true false false) :=
  law_lifted (C := Try.checked) (l := pars_FnOnce) (rb := 4) own_FnOnce started (by kernel_rfl) Try.func7
    (ChangeSpec.witness6 (enc := enc) (C := Try.checked) false ⟨#[], #[.slice none 0 0], []⟩ 8 (by kernel_rfl) (by kernel_rfl) (by kernel_rfl) (by kernel_rfl))
    e_w_FnOnce rfl (by decide) pure_FnOnce (by kernel_rfl) rfl Try.underlying4 (by kernel_rfl) (by kernel_rfl) rfl
    (fun ds h => match ds, h with | [_], _ => rfl)
theorem inPlace_FnOnce : Try.prog.inPlace 7 = Rows.fnOnceRow.inPlace := by kernel_rfl
theorem unfollowed_FnOnce : Try.prog.unfollowed 7 = Rows.fnOnceRow.unfollowed := by kernel_rfl
theorem recurses_FnOnce : Try.prog.recurses 7 = Rows.fnOnceRow.recurses := by kernel_rfl
theorem named_FnOnce : Try.prog.varsNamed 7 = Rows.fnOnceRow.named := by kernel_rfl
theorem facts_FnOnce : joinedFacts Try.prog 7 Try.f7 Rows.fnOnceSpec Rows.fnOnceRow = true := by
  unfold joinedFacts
  rw [seat_laid, seat_maps, seat_heard, seat_enter, inPlace_FnOnce, unfollowed_FnOnce, recurses_FnOnce, named_FnOnce]
  kernel_rfl
theorem fnOnce_holds : Rows.FnOnceSaid :=
  OpenClaim.holds_of_wide 7 Try.f7 rfl rfl rfl rfl rfl rfl rfl ⟨rfl, rfl, rfl, rfl, rfl⟩ rfl rfl rfl rfl rfl (by kernel_rfl) Try.func7 facts_FnOnce (of_decide_eq_true (by kernel_rfl))
    (by unfold Func.isWrapper; first | (rw [if_pos (by decide +kernel)]; kernel_rfl) | (rw [if_neg (by decide +kernel)]; exact ⟨rfl, rfl⟩)) (fun os started H enc _ => lifted_FnOnce os started H enc)
#print axioms fnOnce_holds
end Go.Proofs.Ytjmpbkkomiebhaa
