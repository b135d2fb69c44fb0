import Derived.Test.YtaamcelinnnncaaRows
import Derived.Test.YtaamcelinnnncaaFun1
import Derived.Test.YtaamcelinnnncaaBase
import Derived.Test.YtaamcelinnnncaaFacts
import Derived.WalkKit
import Derived.ProofKit
import Derived.OpenShut
import Derived.ShutString
import Derived.ChangeOld
import Derived.Below
import Derived.SizedLaws
/- FnShelves answers true for every input, and its arguments read behind the call as they did ahead of it. Conditions: none. -/
set_option linter.unusedVariables false
set_option linter.unusedSimpArgs false
namespace Go.Proofs.Ytaamcelinnnncaa
open Go Go.Eng Go.Proofs
abbrev pars_FnShelves : List Par := [(false, (.list (.int .u8)))]
theorem l01In_is (k : Nat) (a b c : Int) : s_l01In k (a, (b, (c, ()))) = some (decide (b ≤ a ∧ a ≤ c), ((), ((), ((), ())))) := by
  unfold s_l01In
  by_cases h : b ≤ a <;> simp [h]
theorem within_is (k : Nat) (a b c : Int) : i_within k (a, (b, (c, ()))) = some (decide (b ≤ a ∧ a ≤ c), ((), ((), ((), ())))) := l01In_is k a b c
theorem isId_is (k : Nat) (a : Int) : i_isId k (a, ()) = some (decide (1 ≤ a ∧ a ≤ 99), ((), ())) := by
  unfold i_isId
  rw [within_is]
  rfl
abbrev RT_Held : Ty := (.pair (.int .i64) (.pair (.int .i64) (.pair (.int .i64) (.pair (.list .str) (.pair (.list .bool) (.int .i64))))))
def ag_Held (r : RT_Held.den) : Int × Int × Int × List (ByteArray) × List (Bool) × Int × Unit := (r.1, (r.2.1, (r.2.2.1, (r.2.2.2.1, (r.2.2.2.2.1, (r.2.2.2.2.2, ()))))))
def Bd_StringS (a : List (ByteArray)) : Prop := a.length ≤ 1048576
def Bd_BoolS (a : List (Bool)) : Prop := a.length ≤ 1048576
def Bd_Held (x : Int × Int × Int × List (ByteArray) × List (Bool) × Int × Unit) : Prop := Bd_StringS x.2.2.2.1 ∧ Bd_BoolS x.2.2.2.2.1 ∧ True
def Bd_HeldS (a : List (Int × Int × Int × List (ByteArray) × List (Bool) × Int)) : Prop := a.length ≤ 1048576 ∧ ∀ r ∈ a, Bd_Held (ag_Held r)
theorem getD_some' {A : Type} {l : List A} {n : Nat} {r d : A} (h : l[n]? = some r) : l.getD n d = r := by simp [List.getD, h]
theorem getD_set' {A : Type} {l : List A} {n : Nat} {x d : A} (h : n < l.length) : (l.set n x).getD n d = x := by simp [List.getD, h]
theorem foldE_all {g : Nat → Unit → (Bool × Unit × Unit) ⊕ Unit} {fin : Unit → Bool × Unit × Unit} (hg : ∀ i, g i () = .inr () ∨ ∃ o, g i () = .inl (false, o)) :
    ∀ m i, (foldE g fin m i ()).1 = true → ∀ j, i ≤ j → j < i + m → g j () = .inr () := by
  intro m
  induction m with
  | zero => intro i _ j h1 h2; omega
  | succ m ih =>
    intro i h j h1 h2
    rcases hg i with e | ⟨o, e⟩
    · by_cases hj : j = i
      · rw [hj]; exact e
      · refine ih (i + 1) ?_ j (by omega) (by omega)
        simpa [foldE, e] using h
    · simp [foldE, e] at h
theorem foldE_fin {g : Nat → Unit → (Bool × Unit × Unit) ⊕ Unit} {fin : Unit → Bool × Unit × Unit} (hg : ∀ i, g i () = .inr () ∨ ∃ o, g i () = .inl (false, o)) :
    ∀ m i, (foldE g fin m i ()).1 = true → (fin ()).1 = true := by
  intro m
  induction m with
  | zero => intro i h; simpa [foldE] using h
  | succ m ih =>
    intro i h
    rcases hg i with e | ⟨o, e⟩
    · exact ih (i + 1) (by simpa [foldE, e] using h)
    · simp [foldE, e] at h
def goodP (ps : List ByteArray) (hv : List Bool) (i : Nat) : Bool := decide ((Ty.rd (t := .str) ps i).size ≤ 120) && (Ty.rd (t := .bool) hv i || decide (Ty.rd (t := .str) ps i = (⟨#[]⟩ : ByteArray)))
def gH (ps : List ByteArray) (hv : List Bool) (i : Nat) (n : Int) : (Bool × Unit × Unit) ⊕ Int :=
  if goodP ps hv i then .inr (if Ty.rd (t := .bool) hv i then n + 1 else n) else .inl (false, ((), ()))
def heldB (x : Int × Int × Int × List ByteArray × List Bool × Int × Unit) : Bool :=
  decide ((1 ≤ x.1 ∧ x.1 ≤ 99) ∧ (0 ≤ x.2.1 ∧ x.2.1 ≤ 255) ∧ (2 ≤ x.2.2.1 ∧ x.2.2.1 ≤ 15) ∧ (x.2.2.2.1.length : Int) = x.2.2.1 ∧ (x.2.2.2.2.1.length : Int) = x.2.2.1 ∧ (0 ≤ x.2.2.2.2.2.1 ∧ x.2.2.2.2.2.1 ≤ 1000000000)) &&
    (foldE (gH x.2.2.2.1 x.2.2.2.2.1) (fun n => (decide (1 ≤ n ∧ n < x.2.2.1), ((), ()))) x.2.2.1.toNat 0 0).1
theorem gH_step {ps : List ByteArray} {hv : List Bool} {i : Nat} {n n' : Int} (h : gH ps hv i n = .inr n') (hi : 0 ≤ n ∧ n ≤ i) : 0 ≤ n' ∧ n' ≤ (i + 1 : Nat) := by
  unfold gH at h
  split at h
  · simp only [Sum.inr.injEq] at h
    subst h
    split <;> omega
  · simp at h
theorem foldE_unit {g : Nat → Int → (Bool × Unit × Unit) ⊕ Int} {f : Int → Bool × Unit × Unit} (n m : Nat) (a : Int) : foldE g f n m a = ((foldE g f n m a).1, ((), ())) := rfl
theorem s_l20Held_is (k : Nat) (x : Int × Int × Int × List ByteArray × List Bool × Int × Unit) (hk : 1048576 < k) : s_l20Held k (x, ()) = some (heldB x, ((), ())) := by
  obtain ⟨f, id, c, ps, hv, u, w⟩ := x
  unfold s_l20Held heldB
  simp only [l01In_is, Option.bind_some]
  by_cases h1 : 1 ≤ f ∧ f ≤ 99
  rotate_left
  · simp [h1]
  by_cases h2 : 0 ≤ id ∧ id ≤ 255
  rotate_left
  · simp [h2]
  by_cases h3 : 2 ≤ c ∧ c ≤ 15
  rotate_left
  · simp [h3]
  by_cases h4 : (ps.length : Int) = c
  rotate_left
  · simp [h4]
  by_cases h5 : (hv.length : Int) = c
  rotate_left
  · simp [h5]
  by_cases h6 : 0 ≤ u ∧ u ≤ 1000000000
  rotate_left
  · simp [h6]
  simp only [h1, h2, h3, h4, h5, h6, and_self, decide_true, Bool.not_true, if_true, Bool.true_and, Bool.false_eq_true, if_false]
  refine (loop_fold (A := Int) (fun i n => ((f, (id, (c, (ps, (hv, (u, ())))))), (n, ((i : Nat) : Int), ()))) c.toNat (gH ps hv) (fun n => (decide (1 ≤ n ∧ n < c), ((), ()))) (fun i n => 0 ≤ n ∧ n ≤ i) ?_ (fun i a a' _ h e => gH_step e h) ?_ k 0 ⟨by omega, by simp⟩ (by omega)).trans ?_
  · intro again i n hi hn
    have w1 : wi64 (n + 1) = n + 1 := w64_id _ (by omega)
    have w2 : wi64 ((i : Int) + 1) = ((i + 1 : Nat) : Int) := (w64_id _ (by omega)).trans (by omega)
    have g1 : (0 : Int) ≤ (i : Int) ∧ (i : Int) < (hv.length : Int) := by omega
    have g2 : (0 : Int) ≤ (i : Int) ∧ (i : Int) < (ps.length : Int) := by omega
    have g3 : (i : Int) < c := by omega
    unfold gH goodP jn
    simp only [g1, g2, g3, w1, w2, and_self, decide_true, if_true]
    generalize Ty.rd (t := .str) ps i = p
    cases hb : Ty.rd (t := .bool) hv i with
    | true =>
      by_cases hs : p.size ≤ 120
      · have : ¬ (120 : Int) < (p.size : Int) := by omega
        simp [hs, this]
      · have : (120 : Int) < (p.size : Int) := by omega
        simp [hs, this]
    | false =>
      by_cases he : p = (⟨#[]⟩ : ByteArray)
      · subst he
        have : (⟨#[]⟩ : ByteArray).size = 0 := rfl
        simp [this]
      · simp [he]
  · intro again n hn
    have : ¬ ((c.toNat : Nat) : Int) < c := by omega
    simp only [this, decide_false, Bool.false_eq_true, if_false]
    by_cases a : 1 ≤ n <;> simp [a]
  · rfl
theorem i_heldOk_is (k : Nat) (x : Int × Int × Int × List ByteArray × List Bool × Int × Unit) (hk : 1048576 < k) : i_heldOk k (x, ()) = some (heldB x, ((), ())) := by
  obtain ⟨f, id, c, ps, hv, u, w⟩ := x
  unfold i_heldOk heldB
  simp only [within_is, isId_is, Option.bind_some]
  by_cases h1 : 1 ≤ f ∧ f ≤ 99
  rotate_left
  · simp [h1]
  by_cases h2 : 0 ≤ id ∧ id ≤ 255
  rotate_left
  · simp [h2]
  by_cases h3 : 2 ≤ c ∧ c ≤ 15
  rotate_left
  · simp [h3]
  by_cases h4 : (ps.length : Int) = c
  rotate_left
  · simp [h4]
  by_cases h5 : (hv.length : Int) = c
  rotate_left
  · simp [h5]
  simp only [h1, h2, h3, h4, h5, and_self, decide_true, Bool.not_true, if_true, Bool.false_eq_true, if_false, true_and]
  have wc : wi64 (c - 1) = c - 1 := w64_id _ (by omega)
  refine (loop_fold (A := Int) (fun i n => ((f, (id, (c, (ps, (hv, (u, ())))))), (n, (hv, (c, ((i : Nat) : Int), ()))))) c.toNat (gH ps hv) (fun n => (decide ((1 ≤ n ∧ n < c) ∧ (0 ≤ u ∧ u ≤ 1000000000)), ((), ()))) (fun i n => 0 ≤ n ∧ n ≤ i) ?_ (fun i a a' _ h e => gH_step e h) ?_ k 0 ⟨by omega, by simp⟩ (by omega)).trans ?_
  · intro again i n hi hn
    have w1 : wi64 (n + 1) = n + 1 := w64_id _ (by omega)
    have w2 : wi64 ((i : Int) + 1) = ((i + 1 : Nat) : Int) := (w64_id _ (by omega)).trans (by omega)
    have g1 : (0 : Int) ≤ (i : Int) ∧ (i : Int) < (hv.length : Int) := by omega
    have g2 : (0 : Int) ≤ (i : Int) ∧ (i : Int) < (ps.length : Int) := by omega
    have g3 : (i : Int) < c := by omega
    unfold gH goodP
    simp only [g1, g2, g3, w1, w2, and_self, decide_true, if_true]
    generalize Ty.rd (t := .str) ps i = p
    cases hb : Ty.rd (t := .bool) hv i with
    | true =>
      by_cases hs : p.size ≤ 120
      · have : ¬ (120 : Int) < (p.size : Int) := by omega
        simp [hs, this]
      · have : (120 : Int) < (p.size : Int) := by omega
        simp [hs, this]
    | false =>
      by_cases he : p = (⟨#[]⟩ : ByteArray)
      · subst he
        have : (⟨#[]⟩ : ByteArray).size = 0 := rfl
        simp [this]
      · by_cases hs : p.size ≤ 120
        · have : ¬ (120 : Int) < (p.size : Int) := by omega
          simp [he, this]
        · have : (120 : Int) < (p.size : Int) := by omega
          simp [he, this]
  · intro again n hn
    have : ¬ ((c.toNat : Nat) : Int) < c := by omega
    simp only [this, decide_false, Bool.false_eq_true, if_false, wc]
    have e : (1 ≤ n ∧ n ≤ c - 1) ↔ (1 ≤ n ∧ n < c) := by omega
    by_cases a : 1 ≤ n ∧ n < c
    · have a' := e.2 a
      simp [a, a']
    · have a' : ¬ (1 ≤ n ∧ n ≤ c - 1) := fun h => a (e.1 h)
      simp [a, a']
  · by_cases h6 : 0 ≤ u ∧ u ≤ 1000000000
    · simp only [h6, and_self, and_true, decide_true, Bool.true_and]
    · simp only [h6, and_false, decide_false, Bool.false_and]
      rw [foldE_unit]
      congr 2
      have key : ∀ m i a, (foldE (gH ps hv) (fun _ => (false, ((), ()))) m i a).1 = false := by
        intro m
        induction m with
        | zero => intro i a; rfl
        | succ m ih =>
          intro i a
          unfold foldE
          cases hq : gH ps hv i a with
          | inl r =>
            unfold gH at hq
            split at hq
            · cases hq
            · cases hq; rfl
          | inr a' => exact ih _ _
      exact key _ _ _
def sameH (a : List RT_Held.den) (j i : Nat) : Bool := decide ((Ty.rd (t := RT_Held) a j).1 = (Ty.rd (t := RT_Held) a i).1) && decide ((Ty.rd (t := RT_Held) a j).2.1 = (Ty.rd (t := RT_Held) a i).2.1)
def gS (a : List RT_Held.den) (i : Nat) (_ : Unit) : (Bool × Unit × Unit) ⊕ Unit :=
  if heldB (ag_Held (Ty.rd (t := RT_Held) a i)) && (List.range i).all (fun j => !sameH a j i) then .inr () else .inl (false, ((), ()))
theorem all_false_iff (n : Nat) (p : Nat → Bool) : (List.range n).all (fun j => !p j) = true ↔ ∀ j, j < n → p j = false := by simp
theorem s_ShelfOk_is (k : Nat) (a : List RT_Held.den) (hk : 1048576 < k) (hl : a.length ≤ 1048576) : s_ShelfOk k ((a, ()), ()) = some (foldE (gS a) (fun _ => (decide ((a.length : Int) ≤ 3), ((), ()))) a.length 0 ()) := by
  unfold s_ShelfOk
  refine loop_fold (A := Unit) (fun i _ => ((a, ()), (((i : Nat) : Int), ()))) a.length (gS a) (fun _ => (decide ((a.length : Int) ≤ 3), ((), ()))) (fun _ _ => True) ?_ (fun _ _ _ _ _ _ => trivial) ?_ k () trivial (by omega)
  · intro again i _ hi _
    have w2 : wi64 ((i : Int) + 1) = ((i + 1 : Nat) : Int) := (w64_id _ (by omega)).trans (by omega)
    have g1 : (0 : Int) ≤ (i : Int) ∧ (i : Int) < (a.length : Int) := by omega
    have eh := s_l20Held_is k (ag_Held (Ty.rd (t := RT_Held) a i)) hk
    simp only [ag_Held] at eh
    simp only [g1, and_self, decide_true, if_true, eh, Option.bind_some]
    unfold gS
    cases hh : heldB (ag_Held (Ty.rd (t := RT_Held) a i)) with
    | false => simp only [ag_Held] at hh; simp [hh]
    | true =>
      simp only [ag_Held] at hh
      simp only [hh, Bool.not_true, Bool.false_eq_true, if_false, Bool.true_and]
      refine (find_loop_opt (X := ((List RT_Held.den) × Unit) × Int × Int × Unit) (fun j => ((a, ()), ((i : Int), (((j : Nat) : Int), ())))) i (fun j => sameH a j i) (some (false, ((), ()))) (again ((a, ()), (((i + 1 : Nat) : Int), ()))) ?_ ?_ k (by omega)).trans ?_
      · intro ag j hj
        have q1 : (0 : Int) ≤ (j : Int) ∧ (j : Int) < (a.length : Int) := by omega
        have q2 : (j : Int) < (i : Int) := by omega
        have w3 : wi64 ((j : Int) + 1) = ((j + 1 : Nat) : Int) := (w64_id _ (by omega)).trans (by omega)
        simp only [q1, q2, g1, w3, and_self, decide_true, if_true]
        unfold sameH
        by_cases e1 : (Ty.rd (t := RT_Held) a j).1 = (Ty.rd (t := RT_Held) a i).1 <;> by_cases e2 : (Ty.rd (t := RT_Held) a j).2.1 = (Ty.rd (t := RT_Held) a i).2.1 <;> simp [e1, e2]
      · intro ag
        simp [w2]
      · cases (List.range i).all (fun j => !sameH a j i) <;> simp
  · intro again _ _
    simp
def sameK (a : List RT_Held.den) (f id : Int) (j : Nat) : Bool := decide ((Ty.rd (t := RT_Held) a j).1 = f) && decide ((Ty.rd (t := RT_Held) a j).2.1 = id)
theorem heldAt_is (k : Nat) (a : List RT_Held.den) (f id : Int) (hk : 1048576 < k) (hl : a.length ≤ 1048576) :
    i_heldAt k ((a, ()), (f, (id, ()))) = some ((match (List.range a.length).find? (sameK a f id) with | some i => ((i : Nat) : Int) | none => -1), ((), ((), ((), ())))) := by
  unfold i_heldAt x_slices_IndexFunc_impl_Held_impl_Held_of_i_heldAt_1
  have h := loop_find (X := List RT_Held.den × ((Int × Unit) × (Int × Unit) × Unit) × Int × Int × Unit) (R := Int × Unit × ((Int × Unit) × (Int × Unit) × Unit) × Unit)
    (step := fun (rec0 : ((List (Int × Int × Int × List (ByteArray) × List (Bool) × Int)) × ((Int × Unit) × (Int × Unit) × Unit) × Int × Int × Unit) → Option _) (y0 : (List (Int × Int × Int × List (ByteArray) × List (Bool) × Int)) × ((Int × Unit) × (Int × Unit) × Unit) × Int × Int × Unit) =>
      (if (decide (y0.2.2.2.1 < y0.2.2.1)) = true then
      (if 0 ≤ y0.2.2.2.1 ∧ y0.2.2.2.1 < (List.length y0.1 : Int) then
      ((i_heldAt_1 k (((Ty.rd (t := RT_Held) y0.1 y0.2.2.2.1).1, ((Ty.rd (t := RT_Held) y0.1 y0.2.2.2.1).2.1, ((Ty.rd (t := RT_Held) y0.1 y0.2.2.2.1).2.2.1, ((Ty.rd (t := RT_Held) y0.1 y0.2.2.2.1).2.2.2.1, ((Ty.rd (t := RT_Held) y0.1 y0.2.2.2.1).2.2.2.2.1, ((Ty.rd (t := RT_Held) y0.1 y0.2.2.2.1).2.2.2.2.2, ())))))), ((y0.2.1.1.1, ()), ((y0.2.1.2.1.1, ()), ())))).bind fun p1 =>
      (if p1.1 = true then
      some (y0.2.2.2.1, ((), (((p1.2.2.1.1, ()), ((p1.2.2.2.1.1, ()), ())), ())))
      else
      (rec0 (y0.1, (((p1.2.2.1.1, ()), ((p1.2.2.2.1.1, ()), ())), (y0.2.2.1, ((wi64 (y0.2.2.2.1 + (1 : Int))), ())))))))
      else none)
      else
      ((fun (z1 : ((Int × Unit) × (Int × Unit) × Unit) × Unit) =>
      some ((-1 : Int), ((), (((z1.1.1.1, ()), ((z1.1.2.1.1, ()), ())), ())))) (((y0.2.1.1.1, ()), ((y0.2.1.2.1.1, ()), ())), ()))))
    (fun j => (a, (((f, ()), ((id, ()), ())), ((a.length : Int), (((j : Nat) : Int), ()))))) a.length (sameK a f id) (fun j => (((j : Nat) : Int), ((), (((f, ()), ((id, ()), ())), ())))) (-1, ((), (((f, ()), ((id, ()), ())), ()))) ?_ ?_ k (by omega)
  · refine (congrArg (fun o => Option.bind o _) h).trans ?_
    cases (List.range a.length).find? (sameK a f id) <;> rfl
  · intro ag j hj
    have q1 : (0 : Int) ≤ (j : Int) ∧ (j : Int) < (a.length : Int) := by omega
    have w3 : wi64 ((j : Int) + 1) = ((j + 1 : Nat) : Int) := (w64_id _ (by omega)).trans (by omega)
    simp only [q1, w3, and_self, decide_true, if_true]
    unfold i_heldAt_1 sameK
    by_cases e1 : (Ty.rd (t := RT_Held) a j).1 = f <;> by_cases e2 : (Ty.rd (t := RT_Held) a j).2.1 = id <;> simp [e1, e2]
  · intro ag
    simp
theorem i_ShelfOk_is (k : Nat) (a : List RT_Held.den) (hk : 1048576 < k) (hl : a.length ≤ 1048576) : i_ShelfOk k ((a, ()), ()) = some (foldE (gS a) (fun _ => (decide ((a.length : Int) ≤ 3), ((), ()))) a.length 0 ()) := by
  unfold i_ShelfOk
  refine loop_fold (A := Unit) (fun i _ => ((a, ()), (a, ((a.length : Int), (((i : Nat) : Int), ()))))) a.length (gS a) (fun _ => (decide ((a.length : Int) ≤ 3), ((), ()))) (fun _ _ => True) ?_ (fun _ _ _ _ _ _ => trivial) ?_ k () trivial (by omega)
  · intro again i _ hi _
    have w2 : wi64 ((i : Int) + 1) = ((i + 1 : Nat) : Int) := (w64_id _ (by omega)).trans (by omega)
    have g1 : (0 : Int) ≤ (i : Int) ∧ (i : Int) < (a.length : Int) := by omega
    have eh := i_heldOk_is k (ag_Held (Ty.rd (t := RT_Held) a i)) hk
    simp only [ag_Held] at eh
    simp only [g1, and_self, decide_true, if_true, eh, Option.bind_some, heldAt_is k a _ _ hk hl]
    unfold gS
    have hsame : (fun j => sameH a j i) = sameK a (Ty.rd (t := RT_Held) a i).1 (Ty.rd (t := RT_Held) a i).2.1 := rfl
    have hself : sameK a (Ty.rd (t := RT_Held) a i).1 (Ty.rd (t := RT_Held) a i).2.1 i = true := by simp [sameK]
    cases hh : heldB (ag_Held (Ty.rd (t := RT_Held) a i)) with
    | false => simp only [ag_Held] at hh; simp [hh]
    | true =>
      simp only [ag_Held] at hh
      simp only [hh, Bool.not_true, if_true, Bool.true_and]
      have hfa := find_at hi hself
      have hall : (List.range i).all (fun j => !sameH a j i) = true ↔ ∀ j, j < i → sameK a (Ty.rd (t := RT_Held) a i).1 (Ty.rd (t := RT_Held) a i).2.1 j = false := all_false_iff i _
      cases hf : (List.range a.length).find? (sameK a (Ty.rd (t := RT_Held) a i).1 (Ty.rd (t := RT_Held) a i).2.1) with
      | none =>
        exfalso
        have := List.find?_eq_none.1 hf i (by simpa using hi)
        exact this hself
      | some j =>
        by_cases hj : j = i
        · subst hj
          have := hall.2 (hfa.1 hf)
          simp [this, w2]
        · have hne : ¬ (List.range i).all (fun j => !sameH a j i) = true := fun hh => by
            have := hfa.2 (hall.1 hh)
            rw [hf] at this
            exact hj (Option.some.inj this)
          have hj' : ¬ ((j : Nat) : Int) = (i : Int) := by omega
          simp only [hne, hj', decide_false, Bool.not_false, if_true]
          simp
  · intro again _ _
    simp
def byteOf (n : Int) : ByteArray := strOf [n % 256]
theorem byteOf_size (n : Int) : (byteOf n).size = 1 := by simp [byteOf, strOf, ByteArray.size]
theorem l05Byte_is (k : Nat) (n : Int) (hn : 0 ≤ n) : s_l05Byte k (n, ()) = some (byteOf n, ((), ())) := by
  unfold s_l05Byte byteOf
  rw [Int.tmod_eq_emod_of_nonneg hn]
  have h : ¬ n % 256 < 0 := by omega
  simp only [h, decide_false, w8_mod]
  rw [Int.emod_emod_of_dvd _ (Int.dvd_refl 256)]
  rfl
def partOf (id count size : Int) (s : ByteArray) (i : Nat) : ByteArray :=
  byteOf id ++ byteOf i ++ byteOf count ++ ByteArray.extract s (((i : Int) * size).toNat) (if (s.size : Int) < ((i : Int) + 1) * size then (s.size : Int) else ((i : Int) + 1) * size).toNat
structure SplitOk (id size count : Int) (s : ByteArray) : Prop where
  pid : 0 ≤ id ∧ id ≤ 255
  psz : 20 ≤ size ∧ size ≤ 120
  pln : (s.size : Int) ≤ 300
  pct : 1 ≤ count ∧ count ≤ 15
  pft : ∀ i : Int, 0 ≤ i → i < count → i * size ≤ s.size
theorem SplitOk.mul {id size count : Int} {s : ByteArray} (h : SplitOk id size count s) (i : Int) (h0 : 0 ≤ i) (h1 : i < count) : 0 ≤ i * size ∧ i * size ≤ 300 ∧ (i + 1) * size = i * size + size := by
  have := h.pft i h0 h1
  have := h.pln
  refine ⟨Int.mul_nonneg h0 (by have := h.psz; omega), by omega, by rw [Int.add_mul, Int.one_mul]⟩
theorem extract_le (s : ByteArray) (a b : Nat) : (s.extract a b).size ≤ s.size := by
  rw [ByteArray.size_extract]; omega
theorem range_step (a b : Nat) (h : a < b) : List.range' a (b - a) = a :: List.range' (a + 1) (b - (a + 1)) := by
  obtain ⟨c, rfl⟩ : ∃ c, b = a + (c + 1) := ⟨b - a - 1, by omega⟩
  rw [show a + (c + 1) - a = c + 1 by omega, show a + (c + 1) - (a + 1) = c by omega]
  rfl
def cntOf (len size : Int) : Int := if (1 : Int) < (len + size - 1) / size then (len + size - 1) / size else 1
theorem cnt_ok (id size : Int) (s : ByteArray) (h1 : 0 ≤ id ∧ id ≤ 255) (h2 : 20 ≤ size ∧ size ≤ 120) (h3 : (s.size : Int) ≤ 300) (h4 : cntOf s.size size ≤ 15) : SplitOk id size (cntOf s.size size) s := by
  refine ⟨h1, h2, h3, ⟨?_, h4⟩, fun i h0 hi => ?_⟩
  · unfold cntOf; split <;> omega
  · unfold cntOf at hi
    split at hi
    · have g1 : i + 1 ≤ ((s.size : Int) + size - 1) / size := by omega
      have g2 : (i + 1) * size ≤ ((s.size : Int) + size - 1) / size * size := Int.mul_le_mul_of_nonneg_right g1 (by omega)
      have g3 : ((s.size : Int) + size - 1) / size * size ≤ (s.size : Int) + size - 1 := Int.ediv_mul_le _ (by omega)
      rw [Int.add_mul, Int.one_mul] at g2
      omega
    · have : i = 0 := by omega
      subst this
      simp
theorem s_Split_ok (k : Nat) (id size : Int) (s : ByteArray) (h1 : 0 ≤ id ∧ id ≤ 255) (h2 : 20 ≤ size ∧ size ≤ 120) (h3 : (s.size : Int) ≤ 300) (hk : 20 < k) :
    s_Split k (id, (s, (size, ()))) = some ((if 15 < cntOf s.size size then ([], (false, ())) else ((List.range (cntOf s.size size).toNat).map (partOf id (cntOf s.size size) size s), (true, ()))), ((), ((), ((), ())))) := by
  unfold s_Split
  have e0 : ¬ (300 : Int) < (s.size : Int) := by omega
  have e1 : ¬ size = 0 := by omega
  have q0 : 0 ≤ ((s.size : Int) + size - 1) / size := Int.ediv_nonneg (by omega) (by omega)
  have q1 : ((s.size : Int) + size - 1) / size ≤ (s.size : Int) + size - 1 := Int.ediv_le_self _ (by omega)
  have w0 : wi64 ((s.size : Int) + size) = (s.size : Int) + size := w64_id _ (by omega)
  have w1 : wi64 ((s.size : Int) + size - 1) = (s.size : Int) + size - 1 := w64_id _ (by omega)
  have w2 : wi64 (Int.tdiv ((s.size : Int) + size - 1) size) = ((s.size : Int) + size - 1) / size := by
    rw [Int.tdiv_eq_ediv_of_nonneg (by omega)]; exact w64_id _ (by omega)
  simp only [l01In_is, Option.bind_some, h1, h2, and_self, decide_true, Bool.not_true, if_true, e0, decide_false, Bool.false_eq_true, if_false, e1, w0, w1, w2]
  have ec : (if ((s.size : Int) + size - 1) / size = 0 then (1 : Int) else ((s.size : Int) + size - 1) / size) = cntOf s.size size := by
    unfold cntOf; split <;> split <;> omega
  simp only [decide_eq_true_eq]
  rw [jn_one, ec]
  unfold jn
  by_cases h15 : (15 : Int) < cntOf s.size size
  · simp only [h15, if_true]
  have h := cnt_ok id size s h1 h2 h3 (by omega)
  generalize cntOf s.size size = count at h h15 ⊢
  have hc := h.pct
  have hz := h.psz
  have hl := h.pln
  have hm : maxStr = 9223372036854775807 := rfl
  have hcap : capMax = 274877906944 := rfl
  simp only [h15, if_false]
  refine (whileK_run (fun y : Int × ByteArray × Int × Int × List (ByteArray) × Int × Unit => count.toNat - y.2.2.2.2.2.1.toNat) (fun y => y.1 = id ∧ y.2.1 = s ∧ y.2.2.1 = size ∧ y.2.2.2.1 = count ∧ 0 ≤ y.2.2.2.2.2.1 ∧ y.2.2.2.2.2.1 ≤ count ∧ (y.2.2.2.2.1.length : Int) = y.2.2.2.2.2.1)
    (fun y => ((y.2.2.2.2.1 ++ (List.range' y.2.2.2.2.2.1.toNat (count.toNat - y.2.2.2.2.2.1.toNat)).map (partOf id count size s), (true, ())), ((), ((), ((), ()))))) ?_ k _ ⟨rfl, rfl, rfl, rfl, by simp, by simp only; omega, by simp⟩ (by simp only; omega)).trans ?_
  · rintro ⟨id', s', size', count', ps, i, u⟩ ⟨e1, e2, e3, e4, h0, h1, h2⟩ again hg
    simp only at e1 e2 e3 e4 h0 h1 h2
    subst e1 e2 e3 e4
    by_cases hi : i < count'
    · obtain ⟨m1, m2, m3⟩ := h.mul i h0 hi
      have w : wi64 (i + 1) = i + 1 := w64_id _ (by omega)
      have w2 : wi64 (i * size') = i * size' := w64_id _ (by omega)
      have w3 : wi64 ((i + 1) * size') = (i + 1) * size' := w64_id _ (by rw [m3]; omega)
      have hid := h.pid
      have hf := h.pft i h0 hi
      have hn : ((i.toNat : Nat) : Int) = i := by omega
      have hp : (byteOf id' ++ byteOf i ++ byteOf count' ++ ByteArray.extract s' ((i * size').toNat) (if (s'.size : Int) < (i + 1) * size' then (s'.size : Int) else (i + 1) * size').toNat) = partOf id' count' size' s' i.toNat := by
        unfold partOf; rw [hn]
      have := hg (id', (s', (size', (count', ((ps ++ [partOf id' count' size' s' i.toNat]), (i + 1, ())))))) ⟨rfl, rfl, rfl, rfl, by simp only; omega, by simp only; omega, by simp only [List.length_append, List.length_singleton]; omega⟩ (by simp only; omega)
      have x1 := extract_le s' (i * size').toNat (if (s'.size : Int) < (i + 1) * size' then (s'.size : Int) else (i + 1) * size').toNat
      have hr : List.range' i.toNat (count'.toNat - i.toNat) = i.toNat :: List.range' (i + 1).toNat (count'.toNat - (i + 1).toNat) := by
        rw [range_step _ _ (by omega), show (i + 1).toNat = i.toNat + 1 by omega]
      rw [hr]
      simp only [hi, if_true, w, w2, w3, l05Byte_is _ _ hid.1, l05Byte_is _ _ h0, l05Byte_is _ _ (by omega : 0 ≤ count'), Option.bind_some, byteOf_size, ByteArray.size_append, List.length_singleton]
      by_cases hb : (s'.size : Int) < (i + 1) * size'
      · rw [if_pos hb] at hp x1
        simp only [hb, if_true]
        rw [if_pos (by omega), if_pos (by omega), if_pos (by omega), if_pos (by omega), if_pos (by omega), if_pos (by omega), hp]
        refine this.trans ?_
        simp
      · rw [if_neg hb] at hp x1
        simp only [hb]
        have hb' : (i + 1) * size' ≤ (s'.size : Int) := by omega
        simp only [if_false]
        rw [if_pos (by omega), if_pos (by omega), if_pos (by omega), if_pos (by omega), if_pos (by omega), if_pos (by omega), hp]
        refine this.trans ?_
        simp
    · have : i = count' := by omega
      subst this
      simp
  · simp [List.range_eq_range']
abbrev Cur : Type := List Int × Int × Int × Unit
def CurOk (c : Cur) : Prop := 0 ≤ c.2.1 ∧ c.2.1 ≤ (c.1.length : Int) ∧ c.1.length ≤ 1048576
theorem and255 (y : Int) : 0 ≤ bitsI .and .i64 y 255 ∧ bitsI .and .i64 y 255 ≤ 255 := by
  have h : (BitVec.ofInt 64 y &&& BitVec.ofInt 64 255).toNat ≤ 255 := by
    rw [BitVec.toNat_and]
    exact Nat.le_trans Nat.and_le_right (by decide)
  show 0 ≤ IntKind.i64.wrap ((BitVec.ofInt 64 y &&& BitVec.ofInt 64 255).toNat : Int) ∧ IntKind.i64.wrap ((BitVec.ofInt 64 y &&& BitVec.ofInt 64 255).toNat : Int) ≤ 255
  rw [w64_id _ (by omega)]
  omega
theorem Byte_is (k : Nat) (c : Cur) (hc : CurOk c) : ∃ (v : Int) (c' : Cur), s_l01Byte k (c, ()) = some (v, (c', ())) ∧ 0 ≤ v ∧ v ≤ 255 ∧ CurOk c' := by
  obtain ⟨h0, h1, h2⟩ := hc
  unfold s_l01Byte
  by_cases h : c.2.1 < (c.1.length : Int)
  · have w : wi64 (c.2.1 + 1) = c.2.1 + 1 := w64_id _ (by omega)
    simp only [h, h0, and_self, decide_true, if_true]
    refine ⟨_, _, rfl, (and255 _).1, (and255 _).2, ?_⟩
    exact ⟨by simp only [w]; omega, by simp only [w]; omega, h2⟩
  · simp only [h, decide_false, Bool.false_eq_true, if_false]
    exact ⟨_, _, rfl, (and255 _).1, (and255 _).2, h0, h1, h2⟩
theorem tmod_in (v n : Int) (h : 0 ≤ v) (hn : 0 < n) : 0 ≤ Int.tmod v n ∧ Int.tmod v n < n := by
  rw [Int.tmod_eq_emod_of_nonneg h]
  exact ⟨Int.emod_nonneg _ (by omega), Int.emod_lt_of_pos _ hn⟩
theorem Below_is (k : Nat) (c : Cur) (n : Int) (hc : CurOk c) : ∃ (v : Int) (c' : Cur), s_l01Below k (c, (n, ())) = some (v, (c', ((), ()))) ∧ 0 ≤ v ∧ (0 < n → v < n) ∧ CurOk c' := by
  unfold s_l01Below
  by_cases hn : n ≤ 0
  · simp only [hn, decide_true, if_true]
    exact ⟨0, c, rfl, by omega, fun h => by omega, hc⟩
  · have hz : ¬ n = 0 := by omega
    obtain ⟨v1, c1, e1, a1, b1, hc1⟩ := Byte_is k c hc
    by_cases hs : n ≤ 256
    · simp only [hn, hs, hz, e1, decide_true, decide_false, Bool.false_eq_true, if_true, if_false, Option.bind_some]
      exact ⟨_, _, rfl, (tmod_in v1 n a1 (by omega)).1, fun _ => (tmod_in v1 n a1 (by omega)).2, hc1⟩
    · obtain ⟨v2, c2, e2, a2, b2, hc2⟩ := Byte_is k c1 hc1
      obtain ⟨v3, c3, e3, a3, b3, hc3⟩ := Byte_is k c2 hc2
      obtain ⟨v4, c4, e4, a4, b4, hc4⟩ := Byte_is k c3 hc3
      have e : 0 ≤ wi64 (wi64 (wi64 (wi64 (v1 * 16777216) + wi64 (v2 * 65536)) + wi64 (v3 * 256)) + v4) := by
        simp only [wi64, IntKind.wrap_i64]
        omega
      simp only [hn, hs, hz, e1, e2, e3, e4, decide_false, Bool.false_eq_true, if_false, Option.bind_some]
      exact ⟨_, _, rfl, (tmod_in _ n e (by omega)).1, fun _ => (tmod_in _ n e (by omega)).2, hc4⟩
theorem PickInt_is (k : Nat) (c : Cur) (l : List Int) (hc : CurOk c) (hl : 0 < l.length) : ∃ (v : Int) (c' : Cur), s_l01PickInt k (c, (l, ())) = some (v, (c', ((), ()))) ∧ v ∈ l ∧ CurOk c' := by
  obtain ⟨v, c', e, h0, h1, h⟩ := Below_is k c (l.length : Int) hc
  have h1 := h1 (by omega)
  unfold s_l01PickInt
  simp only [e, h0, h1, and_self, if_true, Option.bind_some]
  refine ⟨_, _, rfl, ?_, h⟩
  rw [rd_get (t := .int .i64) l v (by omega)]
  exact List.getElem_mem _
theorem strOf_size (l : List Int) : (strOf l).size = l.length := by simp [strOf, ByteArray.size]
theorem Text_is (k : Nat) (c : Cur) (n : Int) (hc : CurOk c) (hk : 1048576 < k) : ∃ (t : ByteArray) (c' : Cur), s_l01Text k (c, (n, ())) = some (t, (c', ((), ()))) ∧ t.size ≤ 5000 ∧ CurOk c' := by
  have hcap : capMax = 274877906944 := rfl
  unfold s_l01Text
  simp only [decide_eq_true_eq]
  rw [jn_one]
  have hm : (if 5000 < n then (5000 : Int) else n) ≤ 5000 := by split <;> omega
  generalize (if 5000 < n then (5000 : Int) else n) = m at hm
  obtain ⟨r, h1, h2, h3⟩ := (whileK_some (T := ByteArray × Cur) (g := fun r => (r.1, (r.2, ((), ())))) (fun y : Cur × Int × List Int × Int × Unit => (m - y.2.2.2.1).toNat) (fun y => CurOk y.1 ∧ y.2.1 = m ∧ 0 ≤ y.2.2.2.1 ∧ (y.2.2.1.length : Int) = y.2.2.2.1 ∧ y.2.2.1.length ≤ 5000) (fun _ r => r.1.size ≤ 5000 ∧ CurOk r.2) (step := fun (rec0 : (Cur × Int × List (Int) × Int × Unit) → Option (ByteArray × Cur × Unit × Unit)) (y0 : Cur × Int × List (Int) × Int × Unit) =>
    (if y0.2.2.2.1 < y0.2.1 then
    ((s_l01Byte k ((y0.1.1, (y0.1.2.1, (y0.1.2.2.1, ()))), ())).bind fun p2 =>
    (if List.length y0.2.2.1 + List.length ([(wu8 (p2.1))] : List (Int)) ≤ capMax then
    (rec0 ((p2.2.1.1, (p2.2.1.2.1, (p2.2.1.2.2.1, ()))), (y0.2.1, ((y0.2.2.1 ++ ([(wu8 (p2.1))] : List (Int))), ((wi64 (y0.2.2.2.1 + (1 : Int))), ())))))
    else none))
    else
    some ((strOf y0.2.2.1), ((y0.1.1, (y0.1.2.1, (y0.1.2.2.1, ()))), ((), ()))))) (by
      rintro ⟨c, m', l, i, u⟩ ⟨g0, g1, g2, g3, g4⟩ again hg
      simp only at g0 g1 g2 g3 g4
      subst g1
      by_cases hi : i < m'
      · obtain ⟨v, c', e, _, _, hc'⟩ := Byte_is k c g0
        have w : wi64 (i + 1) = i + 1 := w64_id _ (by omega)
        simp only [hi, if_true, e, Option.bind_some, w]
        rw [if_pos (by simp only [List.length_singleton]; omega)]
        exact hg (c', (m', ((l ++ [wu8 v]), (i + 1, ())))) ⟨hc', rfl, by simp only; omega, by simp only [List.length_append, List.length_singleton]; omega, by simp only [List.length_append, List.length_singleton]; omega⟩ (by simp only; omega)
      · simp only [hi, if_false]
        exact ⟨(strOf l, c), rfl, by rw [strOf_size]; exact g4, g0⟩) k (c, (m, (([] : List Int), ((0 : Int), ())))) ⟨hc, rfl, by simp, by simp, by simp⟩ (by simp only; omega))
  exact ⟨r.1, r.2, h1, h2, h3⟩
theorem Long_is (k : Nat) (n x : Int) (h0 : 0 ≤ n) (h1 : n ≤ 5000) (hk : 1048576 < k) : ∃ t : ByteArray, s_l01Long k (n, (x, ())) = some (t, ((), ((), ()))) ∧ t.size ≤ 5000 := by
  have hcap : (capMax : Int) = 274877906944 := rfl
  unfold s_l01Long
  simp only [if_true]
  rw [if_pos (by omega)]
  refine whileK_some (g := fun t : ByteArray => (t, ((), ((), ())))) (fun y : Int × Int × List Int × Int × Unit => (n - y.2.2.2.1).toNat) (fun y => y.1 = n ∧ y.2.2.1.length = n.toNat ∧ 0 ≤ y.2.2.2.1) (fun _ t => t.size ≤ 5000) ?_ k _ ⟨rfl, by simp, by simp⟩ (by simp only; omega)
  rintro ⟨m, y, l, i, u⟩ ⟨g1, g2, g3⟩ again hg
  simp only at g1 g2 g3
  subst g1
  by_cases hi : i < m
  · have w : wi64 (i + 1) = i + 1 := w64_id _ (by omega)
    have q : (0 : Int) ≤ i ∧ i < (l.length : Int) := by omega
    simp only [hi, q, and_self, decide_true, if_true, w]
    exact hg _ ⟨rfl, by simp [g2], by simp only; omega⟩ (by simp only; omega)
  · simp only [hi, decide_false, Bool.false_eq_true, if_false]
    exact ⟨_, rfl, by rw [strOf_size]; omega⟩
theorem New_is (k : Nat) (a : List Int) (hl : a.length ≤ 1048576) (hk : 1048576 < k) : ∃ c : Cur, s_l01New k (a, ()) = some (c, ((), ())) ∧ CurOk c := by
  unfold s_l01New
  refine whileK_some (g := fun c : Cur => (c, ((), ()))) (fun y : List Int × Int × Int × Unit => (a.length - y.2.2.1).toNat) (fun y => y.1 = a ∧ 0 ≤ y.2.2.1) (fun _ c => CurOk c) ?_ k _ ⟨rfl, by simp⟩ (by simp only; omega)
  rintro ⟨b, h, i, u⟩ ⟨g1, g2⟩ again hg
  simp only at g1 g2
  subst g1
  by_cases hi : i < (b.length : Int)
  · by_cases h4 : i < 4000
    · have w : wi64 (i + 1) = i + 1 := w64_id _ (by omega)
      simp only [hi, h4, g2, and_self, decide_true, if_true, w]
      exact hg _ ⟨rfl, by simp only; omega⟩ (by simp only; omega)
    · simp only [hi, h4, decide_true, decide_false, if_true, Bool.false_eq_true, if_false]
      exact ⟨_, rfl, by simp, by simp, hl⟩
  · simp only [hi, decide_false, Bool.false_eq_true, if_false]
    exact ⟨_, rfl, by simp, by simp, hl⟩
theorem loop_app {X R A : Type} {step : (X → Option R) → X → Option R} (a : List A) (st : Nat → List A → X) (r : R)
    (hs : ∀ again i out x, out.length = i → i < a.length → a[i]? = some x → step again (st i out) = again (st (i + 1) (out ++ [x])))
    (he : ∀ again, step again (st a.length a) = some r) : ∀ k, a.length < k → whileK step k (st 0 []) = some r := by
  have key : ∀ (s p : List A) k, p ++ s = a → s.length < k → whileK step k (st p.length p) = some r := by
    intro s
    induction s with
    | nil =>
      intro p k h hk
      obtain ⟨k, rfl⟩ : ∃ k', k = k' + 1 := ⟨k - 1, by omega⟩
      have : p = a := by simpa using h
      subst this
      exact he _
    | cons x s ih =>
      intro p k h hk
      obtain ⟨k, rfl⟩ : ∃ k', k = k' + 1 := ⟨k - 1, by omega⟩
      show step _ _ = _
      subst h
      rw [hs _ _ _ x rfl (by simp) (by simp)]
      have := ih (p ++ [x]) k (by simp) (by simpa using hk)
      simpa using this
  intro k hk
  exact key a [] k (by simp) hk
theorem held_lens {a : List (Int × Int × Int × List (ByteArray) × List (Bool) × Int)} (hb : Bd_HeldS a) {i : Nat} {x : Int × Int × Int × List (ByteArray) × List (Bool) × Int} (h : a[i]? = some x) : x.2.2.2.1.length ≤ 1048576 ∧ x.2.2.2.2.1.length ≤ 1048576 := by
  have := hb.2 x (List.mem_of_getElem? h)
  exact ⟨this.1, this.2.1⟩
theorem i_copyShelf_is (k : Nat) (a : List (Int × Int × Int × List (ByteArray) × List (Bool) × Int)) (hk : 1048576 < k) (hb : Bd_HeldS a) : i_copyShelf k ((a, ()), ()) = some ((a, ()), ((), ())) := by
  unfold i_copyShelf
  have hl : a.length ≤ 1048576 := hb.1
  have hcap : capMax = 274877906944 := rfl
  refine loop_app (A := Int × Int × Int × List (ByteArray) × List (Bool) × Int) a (fun i out => (([], ()), ((out, ()), (a, ((a.length : Int), ((i : Int), ())))))) ((a, ()), ((), ())) ?_ ?_ k (by omega)
  · intro again i out x ho hi hx
    obtain ⟨h1, h2⟩ := held_lens hb hx
    have w : wi64 ((i : Int) + 1) = ((i + 1 : Nat) : Int) := by rw [show wi64 ((i : Int) + 1) = (i : Int) + 1 from w64_id _ (by omega)]; omega
    have p1 : (i : Int) < (a.length : Int) := by omega
    have p2 : 0 ≤ (i : Int) := by omega
    have c3 : out.length + 1 ≤ capMax := by omega
    obtain ⟨x1, x2, x3, x4, x5, x6⟩ := x
    simp only at h1 h2
    have e : i_copyTexts k (x4, ()) = some (x4, ((), ())) := by
      unfold i_copyTexts
      rw [if_pos (by simp; omega)]
      simp
    simp only [Ty.rd, Int.toNat_natCast, getD_some' hx, p1, p2, w, c3, e, Option.bind_some, List.length_nil, List.length_cons, decide_true, and_self, if_true, List.nil_append, Nat.zero_add]
    rw [if_pos (by omega)]
  · intro again
    have : ¬ (a.length : Int) < (a.length : Int) := by omega
    simp [this]
theorem del_run {A R C : Type} {step : (List A × C × Int × Int × Unit → Option R) → List A × C × Int × Int × Unit → Option R} (D : A → Bool) (c : C) (fin : List A → R)
    (hs : ∀ again (p gs r : List A) (g v : A), p.length + gs.length + r.length ≤ 1048576 → step again (p ++ g :: (gs ++ v :: r), (c, ((p.length : Int), (((p.length + gs.length + 1 : Nat) : Int), ())))) =
      if D v = true then again (p ++ g :: (gs ++ v :: r), (c, ((p.length : Int), (((p.length + gs.length + 2 : Nat) : Int), ())))) else again (p ++ v :: (gs ++ v :: r), (c, (((p.length + 1 : Nat) : Int), (((p.length + gs.length + 2 : Nat) : Int), ())))))
    (he : ∀ again (q t : List A), step again (q ++ t, (c, ((q.length : Int), ((((q ++ t).length : Nat) : Int), ())))) = some (fin q)) :
    ∀ (r p gs : List A) (g : A) (k : Nat), p.length + gs.length + r.length ≤ 1048576 → r.length < k → whileK step k (p ++ g :: (gs ++ r), (c, ((p.length : Int), (((p.length + gs.length + 1 : Nat) : Int), ())))) = some (fin (p ++ r.filter (fun v => !D v))) := by
  intro r
  induction r with
  | nil =>
    intro p gs g k hb hk
    obtain ⟨k, rfl⟩ : ∃ k', k = k' + 1 := ⟨k - 1, by omega⟩
    have e1 : ((p.length + gs.length + 1 : Nat) : Int) = (((p ++ (g :: (gs ++ []))).length : Nat) : Int) := by simp; omega
    have := he (whileK step k) p (g :: (gs ++ []))
    show step _ _ = _
    rw [e1]
    simpa using this
  | cons v r ih =>
    intro p gs g k hb hk
    obtain ⟨k, rfl⟩ : ∃ k', k = k' + 1 := ⟨k - 1, by omega⟩
    simp only [List.length_cons] at hb hk
    by_cases d : D v = true
    · have ht := ih p (gs ++ [v]) g k (by simp; omega) (by omega)
      show step _ _ = _
      rw [hs _ p gs r g v (by omega), if_pos d, List.filter_cons_of_neg (by simp [d]), ← ht]
      simp
      rfl
    · have ht : whileK step k (p ++ v :: (gs ++ v :: r), (c, (((p.length + 1 : Nat) : Int), (((p.length + gs.length + 2 : Nat) : Int), ())))) = some (fin (p ++ (v :: r).filter (fun v => !D v))) := by
        cases gs with
        | nil =>
          have ht := ih (p ++ [v]) [] v k (by simp; omega) (by omega)
          rw [List.filter_cons_of_pos (by simp [d])]
          have e1 : ((p ++ [v]).length : Int) = ((p.length + 1 : Nat) : Int) := by simp
          have e2 : (((p ++ [v]).length + ([] : List A).length + 1 : Nat) : Int) = ((p.length + ([] : List A).length + 2 : Nat) : Int) := by simp; omega
          rw [e1, e2] at ht
          simpa using ht
        | cons g' gs' =>
          have ht := ih (p ++ [v]) (gs' ++ [v]) g' k (by simp at hb ⊢; omega) (by omega)
          rw [List.filter_cons_of_pos (by simp [d])]
          have e1 : ((p ++ [v]).length : Int) = ((p.length + 1 : Nat) : Int) := by simp
          have e2 : (((p ++ [v]).length + (gs' ++ [v]).length + 1 : Nat) : Int) = ((p.length + (g' :: gs').length + 2 : Nat) : Int) := by simp; omega
          rw [e1, e2] at ht
          simpa using ht
      show step _ _ = _
      rw [hs _ p gs r g v (by omega), if_neg d]
      exact ht
/-- What is found first, and the rest that stays. -/
theorem first_split {A : Type} (d : A) (D : A → Bool) (L : List A) : (match (List.range L.length).find? (fun i => D (L.getD i d)) with
    | none => L.filter (fun x => !D x) = L
    | some i => ∃ p g r, L = p ++ g :: r ∧ p.length = i ∧ L.filter (fun x => !D x) = p ++ r.filter (fun x => !D x)) := by
  cases hq : (List.range L.length).find? (fun i => D (L.getD i d)) with
  | none =>
    rw [List.find?_eq_none] at hq
    rw [List.filter_eq_self]
    intro x hx
    obtain ⟨i, hi, rfl⟩ := List.mem_iff_getElem.1 hx
    have := hq i (by simpa using hi)
    simp only [List.getD, List.getElem?_eq_getElem hi, Option.getD_some] at this
    simpa using this
  | some i =>
    have hi : i < L.length := by
      have := List.mem_of_find?_eq_some hq
      simpa using this
    have h1 := List.find?_some hq
    have h2 := (find_at hi h1).1 hq
    simp only [List.getD, List.getElem?_eq_getElem hi, Option.getD_some] at h1
    refine ⟨L.take i, L[i], L.drop (i + 1), ?_, by simp; omega, ?_⟩
    · rw [← List.drop_eq_getElem_cons hi, List.take_append_drop]
    · have hsplit : L = L.take i ++ L[i] :: L.drop (i + 1) := by rw [← List.drop_eq_getElem_cons hi, List.take_append_drop]
      conv => lhs; rw [hsplit]
      rw [List.filter_append, List.filter_cons_of_neg (by simp [h1])]
      congr 1
      rw [List.filter_eq_self]
      intro x hx
      obtain ⟨j, hj, rfl⟩ := List.mem_iff_getElem.1 hx
      have hj' : j < i := by simp at hj; omega
      have := h2 j hj'
      simp only [List.getD, List.getElem?_eq_getElem (show j < L.length by omega), Option.getD_some] at this
      rw [List.getElem_take]
      simp [this]
theorem getO_lt : ∀ {t : Ty} {x : t.den} {off : Nat} {o : OL}, t.getO x off = some o → off < t.w
  | .ols _ _, _, 0, _, _ => Nat.zero_lt_one
  | .ols _ _, _, _ + 1, _, h => by simp [Ty.getO] at h
  | .pair a b, x, off, o, h => by
    simp only [Ty.getO] at h
    show off < a.w + b.w
    split at h
    · omega
    · have := getO_lt h
      omega
  | .int _, _, _, _, h => by simp [Ty.getO] at h
  | .bool, _, _, _, h => by simp [Ty.getO] at h
  | .str, _, _, _, h => by simp [Ty.getO] at h
  | .list _, _, _, _, h => by simp [Ty.getO] at h
  | .unit, _, _, _, h => by simp [Ty.getO] at h
  | .nm, _, _, _, h => by simp [Ty.getO] at h
  | .olq _ _, _, _, _, h => by simp [Ty.getO] at h
theorem dec_enc {lk : Nat → Option OL} : ∀ {t : Ty} {x : t.den} {n : Nat}, 0 < n → (∀ off o, t.getO x off = some o → lk (n + off) = some o) → t.dec lk (t.enc x n) = some x
  | .ols e u, x, n, hn, h => by
    obtain ⟨m, rfl⟩ : ∃ m, n = m + 1 := ⟨n - 1, by omega⟩
    have := h 0 ⟨e, u, x⟩ rfl
    show decN lk e u (m + 1) = some x
    rw [Nat.add_zero] at this
    simp [decN, this]
  | .pair a b, x, n, hn, h => by
    have h1 := dec_enc (t := a) (x := x.1) (n := n) hn fun off o ho => h off o (by simp only [Ty.getO]; rw [if_pos (getO_lt ho)]; exact ho)
    have h2 := dec_enc (t := b) (x := x.2) (n := n + a.w) (by omega) fun off o ho => by
      rw [Nat.add_assoc]
      exact h (a.w + off) o (by simp only [Ty.getO]; rw [if_neg (by omega), Nat.add_sub_cancel_left]; exact ho)
    show (match a.dec lk (a.enc x.1 n), b.dec lk (b.enc x.2 (n + a.w)) with | some y, some z => some (y, z) | _, _ => none) = _
    rw [h1, h2]
  | .int _, _, _, _, _ => rfl
  | .bool, _, _, _, _ => rfl
  | .str, _, _, _, _ => rfl
  | .list _, _, _, _, _ => rfl
  | .unit, _, _, _, _ => rfl
  | .nm, _, _, _, _ => rfl
  | .olq _ _, x, _, _, _ => by cases x <;> rfl
theorem nms_enc : ∀ {t : Ty} {x : t.den} {n : Nat}, 0 < n → (t.nms (t.enc x n)).Pairwise (· < ·) ∧ ∀ m ∈ t.nms (t.enc x n), n ≤ m ∧ m < n + t.w
  | .ols e u, x, n, hn => by
    obtain ⟨m, rfl⟩ : ∃ m, n = m + 1 := ⟨n - 1, by omega⟩
    show (nmsN (m + 1)).Pairwise _ ∧ ∀ q ∈ nmsN (m + 1), _
    have : (Ty.ols e u).w = 1 := rfl
    simp [nmsN, this]
  | .pair a b, x, n, hn => by
    obtain ⟨h1, h2⟩ := nms_enc (t := a) (x := x.1) (n := n) hn
    obtain ⟨h3, h4⟩ := nms_enc (t := b) (x := x.2) (n := n + a.w) (by omega)
    have hw : (Ty.pair a b).w = a.w + b.w := rfl
    show (a.nms (a.enc x.1 n) ++ b.nms (b.enc x.2 (n + a.w))).Pairwise _ ∧ ∀ m ∈ a.nms (a.enc x.1 n) ++ b.nms (b.enc x.2 (n + a.w)), _
    refine ⟨List.pairwise_append.2 ⟨h1, h3, fun p hp q hq => ?_⟩, fun m hm => ?_⟩
    · have := h2 p hp
      have := h4 q hq
      omega
    · rcases List.mem_append.1 hm with hm | hm
      · have := h2 m hm; omega
      · have := h4 m hm; omega
  | .int _, _, _, _ => ⟨List.Pairwise.nil, by simp [Ty.nms]⟩
  | .bool, _, _, _ => ⟨List.Pairwise.nil, by simp [Ty.nms]⟩
  | .str, _, _, _ => ⟨List.Pairwise.nil, by simp [Ty.nms]⟩
  | .list _, _, _, _ => ⟨List.Pairwise.nil, by simp [Ty.nms]⟩
  | .unit, _, _, _ => ⟨List.Pairwise.nil, by simp [Ty.nms]⟩
  | .nm, _, _, _ => ⟨List.Pairwise.nil, by simp [Ty.nms]⟩
  | .olq _ _, _, _, _ => ⟨List.Pairwise.nil, by simp [Ty.nms]⟩
def encP (t : Ty) (xs : List t.den) : List (t.nmd.den × t.den) := xs.mapIdx fun i x => (t.enc x (i * t.w + 1), x)
theorem encP_fst (t : Ty) (xs : List t.den) : (encP t xs).map Prod.fst = t.encs xs := by
  apply List.ext_getElem?
  intro i
  simp only [encP, Ty.encs, List.getElem?_map, List.getElem?_mapIdx]
  cases xs[i]? <;> rfl
theorem encP_snd (t : Ty) (xs : List t.den) : (encP t xs).map Prod.snd = xs := by
  apply List.ext_getElem?
  intro i
  simp only [encP, List.getElem?_map, List.getElem?_mapIdx]
  cases xs[i]? <;> rfl
theorem encP_dec {t : Ty} {xs : List t.den} {y : t.nmd.den × t.den} (h : y ∈ encP t xs) : t.dec (t.lookN xs) y.1 = some y.2 ∧ ∃ n, y.1 = t.enc y.2 n := by
  obtain ⟨i, hi⟩ := List.getElem?_of_mem h
  unfold encP at hi
  rw [List.getElem?_mapIdx] at hi
  cases hx : xs[i]? with
  | none => rw [hx] at hi; cases hi
  | some x =>
    rw [hx] at hi
    injection hi with hi
    subst hi
    refine ⟨dec_enc (by omega) fun off o ho => ?_, _, rfl⟩
    have hlt := getO_lt ho
    rw [show i * t.w + 1 + off = (i * t.w + off) + 1 by omega]
    have e1 : (i * t.w + off) / t.w = i := by rw [Nat.mul_comm, Nat.mul_add_div (by omega), Nat.div_eq_of_lt hlt, Nat.add_zero]
    have e2 : (i * t.w + off) % t.w = off := by rw [Nat.mul_comm, Nat.mul_add_mod, Nat.mod_eq_of_lt hlt]
    simp only [Ty.lookN, e1, e2, hx, ho]
theorem decs_map {lk : Nat → Option OL} {t : Ty} : ∀ {Y : List (t.nmd.den × t.den)}, (∀ y ∈ Y, t.dec lk y.1 = some y.2) → t.decs lk (Y.map Prod.fst) = some (Y.map Prod.snd)
  | [], _ => rfl
  | y :: Y, h => by
    have h1 := h y (by simp)
    have h2 := decs_map (Y := Y) fun z hz => h z (List.mem_cons_of_mem _ hz)
    show (match t.dec lk y.1, t.decs lk (Y.map Prod.fst) with | some x, some xs => some (x :: xs) | _, _ => none) = _
    rw [h1, h2]
    rfl
theorem flatMap_sub {A B : Type} {f : A → List B} {l l' : List A} (h : l.Sublist l') : (l.flatMap f).Sublist (l'.flatMap f) := by
  induction h with
  | slnil => exact List.Sublist.refl _
  | cons a _ ih => rw [List.flatMap_cons]; exact ih.trans (List.sublist_append_right _ _)
  | cons_cons a _ ih => rw [List.flatMap_cons, List.flatMap_cons]; exact List.Sublist.append_left ih _
theorem encs_nms (t : Ty) (xs : List t.den) : ((t.encs xs).flatMap t.nms).Nodup := by
  have key : ∀ (xs : List t.den) (s : Nat), ((xs.mapIdx fun i x => t.enc x ((s + i) * t.w + 1)).flatMap t.nms).Pairwise (· < ·) ∧ ∀ m ∈ (xs.mapIdx fun i x => t.enc x ((s + i) * t.w + 1)).flatMap t.nms, s * t.w + 1 ≤ m := by
    intro xs
    induction xs with
    | nil => intro s; simp
    | cons x xs ih =>
      intro s
      rw [List.mapIdx_cons, List.flatMap_cons]
      have e : (xs.mapIdx fun i x => t.enc x ((s + (i + 1)) * t.w + 1)) = xs.mapIdx fun i x => t.enc x ((s + 1 + i) * t.w + 1) := by
        congr 1
        funext i x
        rw [show s + (i + 1) = s + 1 + i by omega]
      rw [e]
      obtain ⟨h1, h2⟩ := ih (s + 1)
      obtain ⟨h3, h4⟩ := nms_enc (t := t) (x := x) (n := (s + 0) * t.w + 1) (by omega)
      have hw : (s + 1) * t.w = s * t.w + t.w := by rw [Nat.add_mul, Nat.one_mul]
      rw [hw] at h2
      simp only [Nat.add_zero] at h3 h4 ⊢
      refine ⟨List.pairwise_append.2 ⟨h3, h1, fun p hp q hq => ?_⟩, fun m hm => ?_⟩
      · have := h4 p hp
        have := h2 q hq
        omega
      · rcases List.mem_append.1 hm with hm | hm
        · exact (h4 m hm).1
        · have := h2 m hm; omega
  have := (key xs 0).1
  have e : (xs.mapIdx fun i x => t.enc x ((0 + i) * t.w + 1)) = t.encs xs := by
    unfold Ty.encs
    congr 1
    funext i x
    rw [Nat.zero_add]
  rw [e] at this
  exact this.imp fun h => Nat.ne_of_lt h
/-- Rows that are picked under names are those rows. -/
theorem treeF_pick {t : Ty} {Y O : Type} {G : List t.nmd.den × Y → Option (List t.nmd.den × O)} {xs : List t.den} {y : Y} {o : O} {Z : List (t.nmd.den × t.den)} (hZ : Z.Sublist (encP t xs)) (hG : G (t.encs xs, y) = some (Z.map Prod.fst, o)) :
    treeF t G (xs, y) = some (Z.map Prod.snd, o) := by
  unfold treeF
  simp only [hG]
  rw [decs_map fun z hz => (encP_dec (hZ.subset hz)).1]
  have : ((Z.map Prod.fst).flatMap t.nms).Nodup := by
    refine (encs_nms t xs).sublist ?_
    rw [← encP_fst]
    exact flatMap_sub (hZ.map _)
  simp only [this, if_true]
theorem treeF_filter {t : Ty} {Y O : Type} {G : List t.nmd.den × Y → Option (List t.nmd.den × O)} {xs : List t.den} {y : Y} {o : O} (p : t.nmd.den → Bool) (q : t.den → Bool) (hpq : ∀ x n, p (t.enc x n) = q x) (hG : G (t.encs xs, y) = some ((t.encs xs).filter p, o)) :
    treeF t G (xs, y) = some (xs.filter q, o) := by
  have e1 : ((encP t xs).filter (fun z => p z.1)).map Prod.fst = (t.encs xs).filter p := by
    rw [← encP_fst, List.filter_map]
    rfl
  have e2 : ((encP t xs).filter (fun z => p z.1)).map Prod.snd = xs.filter q := by
    have : (encP t xs).filter (fun z => p z.1) = (encP t xs).filter (q ∘ Prod.snd) := by
      refine List.filter_congr fun z hz => ?_
      obtain ⟨_, n, hn⟩ := encP_dec hz
      rw [hn, hpq]
      rfl
    rw [this, ← List.filter_map, encP_snd]
  have := treeF_pick (Y := Y) (O := O) (G := G) (y := y) (o := o) (List.filter_sublist (p := fun z => p z.1) (l := encP t xs)) (by rw [e1]; exact hG)
  rw [e2] at this
  exact this
abbrev HeldN := Int × Int × Int × Nat × Nat × Int
abbrev HeldR := Int × Int × Int × List (ByteArray) × List (Bool) × Int
abbrev HeldNT : Ty := (.pair (.int .i64) (.pair (.int .i64) (.pair (.int .i64) (.pair .nm (.pair .nm (.int .i64))))))
theorem idxHeld_is (k : Nat) (a : List HeldN) (f : Int) (hk : 1048576 < k) (hl : a.length ≤ 1048576) : x_slices_IndexFunc_impl_Held_impl_Held_of_i_TidyShelf_1 k (a, (((f, ()), ()), ())) =
    some (match (List.range a.length).find? (fun i => decide ((a.getD i HeldNT.dflt).2.2.2.2.2 ≤ f)) with | some i => (((i : Nat) : Int), ((), (((f, ()), ()), ()))) | none => (-1, ((), (((f, ()), ()), ())))) := by
  unfold x_slices_IndexFunc_impl_Held_impl_Held_of_i_TidyShelf_1
  refine loop_find (fun i => (a, (((f, ()), ()), ((a.length : Int), (((i : Nat) : Int), ()))))) a.length (fun i => decide ((a.getD i HeldNT.dflt).2.2.2.2.2 ≤ f)) (fun i => (((i : Nat) : Int), ((), (((f, ()), ()), ())))) (-1, ((), (((f, ()), ()), ()))) ?_ ?_ k (by omega)
  · intro again i hi
    have g1 : (0 : Int) ≤ (i : Int) ∧ (i : Int) < (a.length : Int) := by omega
    have w2 : wi64 ((i : Int) + 1) = ((i + 1 : Nat) : Int) := (w64_id _ (by omega)).trans (by omega)
    simp only [g1, w2, i_TidyShelf_1, Ty.rd, Int.toNat_natCast, and_self, decide_true, if_true, Option.bind_some]
    rfl
  · intro again
    simp
theorem delHeldN_is (k : Nat) (L : List HeldN) (f : Int) (hk : 1048576 < k) (hl : L.length ≤ 1048576) : x_slices_DeleteFunc_impl_Held_impl_Held_of_i_TidyShelf_1_n k (L, (((f, ()), ()), ())) =
    some (L.filter (fun x => !decide (x.2.2.2.2.2 ≤ f)), ((), (((f, ()), ()), ()))) := by
  have e := idxHeld_is k L f hk hl
  have hsp := first_split HeldNT.dflt (fun x : HeldN => decide (x.2.2.2.2.2 ≤ f)) L
  unfold x_slices_DeleteFunc_impl_Held_impl_Held_of_i_TidyShelf_1_n
  simp only [e, Option.bind_some]
  cases hq : (List.range L.length).find? (fun i => decide ((L.getD i HeldNT.dflt).2.2.2.2.2 ≤ f)) with
  | none =>
    rw [hq] at hsp
    rw [hsp]
    simp
  | some i =>
    rw [hq] at hsp
    obtain ⟨p, g, r, rfl, rfl, hfil⟩ := hsp
    have hne : ¬ ((p.length : Nat) : Int) = -1 := by omega
    have hl' : p.length + r.length + 1 ≤ 1048576 := by simpa [Nat.add_assoc] using hl
    have w2 : wi64 ((p.length : Int) + 1) = ((p.length + ([] : List HeldN).length + 1 : Nat) : Int) := (w64_id _ (by omega)).trans (by simp)
    rw [hfil]
    simp only [hne, w2, decide_false, Bool.false_eq_true, if_false]
    refine (del_run (fun x : HeldN => decide (x.2.2.2.2.2 ≤ f)) ((f, ()), ()) (fun q => (q, ((), (((f, ()), ()), ())))) ?_ ?_ r p [] g k (by simp; omega) (by omega))
    · intro again p gs r g v hb
      have hlen : (p ++ g :: (gs ++ v :: r)).length = p.length + gs.length + r.length + 2 := by simp; omega
      have g1 : ((p.length + gs.length + 1 : Nat) : Int) < ((p ++ g :: (gs ++ v :: r)).length : Int) := by rw [hlen]; omega
      have g2 : (0 : Int) ≤ ((p.length + gs.length + 1 : Nat) : Int) ∧ ((p.length + gs.length + 1 : Nat) : Int) < ((p ++ g :: (gs ++ v :: r)).length : Int) := by rw [hlen]; omega
      have g3 : (0 : Int) ≤ (p.length : Int) ∧ (p.length : Int) < ((p ++ g :: (gs ++ v :: r)).length : Int) := by rw [hlen]; omega
      have r1 : (p ++ g :: (gs ++ v :: r)).getD (p.length + gs.length + 1) HeldNT.dflt = v := by
        rw [show p ++ g :: (gs ++ v :: r) = (p ++ g :: gs) ++ v :: r by simp, show p.length + gs.length + 1 = (p ++ g :: gs).length by simp; omega]
        simp [List.getD]
      have s1 : List.set (p ++ g :: (gs ++ v :: r)) p.length v = p ++ v :: (gs ++ v :: r) := by simp
      have w1 : wi64 ((p.length : Int) + 1) = ((p.length + 1 : Nat) : Int) := (w64_id _ (by omega)).trans (by omega)
      have w2 : wi64 (((p.length + gs.length + 1 : Nat) : Int) + 1) = ((p.length + gs.length + 2 : Nat) : Int) := (w64_id _ (by omega)).trans (by omega)
      obtain ⟨v1, v2, v3, v4, v5, v6⟩ := v
      simp only [jn, Ty.rd, Int.toNat_natCast, r1, g1, g2, g3, s1, w1, w2, i_TidyShelf_1, decide_true, and_self, if_true, Option.bind_some]
      by_cases q : v6 ≤ f <;> simp [q]
    · intro again q t
      have hd : ¬ (((q ++ t).length : Nat) : Int) < ((q ++ t).length : Int) := by omega
      have g1 : (0 : Int) ≤ (q.length : Int) ∧ (q.length : Int) ≤ ((q ++ t).length : Int) := by simp only [List.length_append]; omega
      simp only [hd, g1, decide_false, Bool.false_eq_true, if_false, and_self, if_true]
      simp
      omega
theorem tidyHeld_is (k : Nat) (L : List HeldR) (f : Int) (hk : 1048576 < k) (hl : L.length ≤ 1048576) : x_slices_DeleteFunc_impl_Held_impl_Held_of_i_TidyShelf_1 k (L, (((f, ()), ()), ())) =
    some (L.filter (fun x => !decide (x.2.2.2.2.2 ≤ f)), ((), (((f, ()), ()), ()))) := by
  unfold x_slices_DeleteFunc_impl_Held_impl_Held_of_i_TidyShelf_1
  refine treeF_filter (t := (.pair (.int .i64) (.pair (.int .i64) (.pair (.int .i64) (.pair (.ols 9 .str) (.pair (.ols 4 .bool) (.int .i64))))))) (fun x : HeldN => !decide (x.2.2.2.2.2 ≤ f)) (fun x : HeldR => !decide (x.2.2.2.2.2 ≤ f)) (fun x n => rfl) ?_
  exact delHeldN_is k _ f hk (Nat.le_trans (Nat.le_of_eq (Go.Eng.encs_len _ _)) hl)
theorem i_TidyShelf_is (k : Nat) (a : List HeldR) (f : Int) (hk : 1048576 < k) (hb : Bd_HeldS a) : i_TidyShelf k ((a, ()), (f, ())) = some ((a.filter (fun x => !decide (x.2.2.2.2.2 ≤ f)), ()), ((), ((), ()))) := by
  unfold i_TidyShelf
  simp only [i_copyShelf_is k a hk hb, tidyHeld_is k a f hk hb.1, Option.bind_some]
abbrev HeldP := Int × Int × Int × List (ByteArray) × List (Bool) × Int
def pS (n : Nat) (P : Nat → ByteArray) (S : Nat → Bool) : List ByteArray := (List.range n).map fun j => if S j then P j else ⟨#[]⟩
def hS (n : Nat) (S : Nat → Bool) : List Bool := (List.range n).map S
theorem set_range {A : Type} (n p : Nat) (F : Nat → A) (v : A) : ((List.range n).map F).set p v = (List.range n).map (fun j => if j = p then v else F j) := by
  refine List.ext_getElem (by simp) fun i h1 h2 => ?_
  simp only [List.getElem_set, List.getElem_map, List.getElem_range]
  by_cases h : p = i
  · simp [h]
  · simp [h, Ne.symm h]
theorem rd_bool (n : Nat) (S : Nat → Bool) (j : Nat) (hj : j < n) : Ty.rd (t := .bool) (hS n S) (j : Int) = S j := by
  show (hS n S).getD j _ = _
  unfold hS
  rw [List.getD_eq_getElem?_getD, List.getElem?_map, List.getElem?_range hj]
  rfl
theorem rd_str (n : Nat) (P : Nat → ByteArray) (S : Nat → Bool) (j : Nat) (hj : j < n) : Ty.rd (t := .str) (pS n P S) (j : Int) = if S j then P j else ⟨#[]⟩ := by
  show (pS n P S).getD j _ = _
  unfold pS
  rw [List.getD_eq_getElem?_getD, List.getElem?_map, List.getElem?_range hj]
  rfl
theorem gH_cnt (n : Nat) (P : Nat → ByteArray) (S : Nat → Bool) (hP : ∀ j, j < n → (P j).size ≤ 120) (fin : Int → Bool × Unit × Unit) :
    ∀ m i a, i + m ≤ n → foldE (gH (pS n P S) (hS n S)) fin m i a = fin (a + (((List.range' i m).countP S : Nat) : Int)) := by
  intro m
  induction m with
  | zero => intro i a h; simp [foldE]
  | succ m ih =>
    intro i a h
    have hg : goodP (pS n P S) (hS n S) i = true := by
      unfold goodP
      rw [rd_str n P S i (by omega), rd_bool n S i (by omega)]
      cases hs : S i with
      | true => simp [hP i (by omega)]
      | false => simp [ByteArray.size]
    have e : gH (pS n P S) (hS n S) i a = .inr (if S i then a + 1 else a) := by
      unfold gH
      rw [if_pos hg, rd_bool n S i (by omega)]
    rw [foldE, e]
    simp only
    rw [ih (i + 1) _ (by omega), List.range'_succ, List.countP_cons]
    congr 1
    cases S i <;> simp
    omega
theorem heldB_S {f id u : Int} {n : Nat} {P : Nat → ByteArray} {S : Nat → Bool} (hf : 1 ≤ f ∧ f ≤ 99) (hid : 0 ≤ id ∧ id ≤ 255) (hn : 2 ≤ n ∧ n ≤ 15) (hu : 0 ≤ u ∧ u ≤ 1000000000) (hP : ∀ j, j < n → (P j).size ≤ 120) (h1 : ∃ j, j < n ∧ S j = true) (h0 : ∃ j, j < n ∧ S j = false) :
    heldB (f, (id, ((n : Int), (pS n P S, (hS n S, (u, ())))))) = true := by
  unfold heldB
  have l1 : (pS n P S).length = n := by simp [pS]
  have l2 : (hS n S).length = n := by simp [hS]
  have hc : (2 : Int) ≤ (n : Int) ∧ (n : Int) ≤ 15 := by omega
  simp only [l1, l2, hf, hid, hc, hu, and_self, decide_true, Bool.true_and, Int.toNat_natCast]
  rw [gH_cnt n P S hP _ n 0 0 (by omega)]
  have c1 : 0 < (List.range' 0 n).countP S := by
    obtain ⟨j, hj, hs⟩ := h1
    exact List.countP_pos_iff.2 ⟨j, by simp; omega, hs⟩
  have c2 : (List.range' 0 n).countP S < n := by
    refine Nat.lt_of_le_of_ne (by have := List.countP_le_length (p := S) (l := List.range' 0 n); simpa using this) fun e => ?_
    obtain ⟨j, hj, hs⟩ := h0
    have e' : (List.range' 0 n).countP S = (List.range' 0 n).length := by rw [e]; simp
    have := List.countP_eq_length.1 e' j (by simp; omega)
    rw [hs] at this
    cases this
  simp only [decide_eq_true_eq]
  omega
theorem index_bool (k : Nat) (hk : 1048576 < k) (n : Nat) (hn : n ≤ 15) (S : Nat → Bool) : x_slices_Contains_bool_bool k (hS n S, (false, ())) = some (!(List.range n).all S, ((), ((), ()))) := by
  have l2 : (hS n S).length = n := by simp [hS]
  have h : x_slices_Index_bool_bool k (hS n S, (false, ())) = some (match (List.range n).find? (fun j => !S j) with | some i => (((i : Nat) : Int), ((), ((), ()))) | none => (-1, ((), ((), ())))) := by
    unfold x_slices_Index_bool_bool
    rw [l2]
    refine loop_find (fun j => (hS n S, (false, ((n : Int), (((j : Nat) : Int), ()))))) n (fun j => !S j) (fun i => (((i : Nat) : Int), ((), ((), ())))) (-1, ((), ((), ()))) ?_ ?_ k (by omega)
    · intro ag j hj
      have q1 : (0 : Int) ≤ (j : Int) ∧ (j : Int) < (n : Int) := by omega
      have w3 : wi64 ((j : Int) + 1) = ((j + 1 : Nat) : Int) := (w64_id _ (by omega)).trans (by omega)
      simp only [l2, q1, w3, and_self, decide_true, if_true, rd_bool n S j hj]
      cases S j <;> simp
    · intro ag
      simp only [Int.lt_irrefl, decide_false, Bool.false_eq_true, if_false]
  unfold x_slices_Contains_bool_bool
  rw [h]
  cases hf : (List.range n).find? (fun j => !S j) with
  | none =>
    have ha : (List.range n).all S = true := by
      rw [List.all_eq_true]
      intro j hj
      have := List.find?_eq_none.1 hf j hj
      simpa using this
    simp [ha]
  | some i =>
    have h1 := List.find?_some hf
    have h2 := List.mem_of_find?_eq_some hf
    have ha : (List.range n).all S = false := by
      rw [List.all_eq_false]
      exact ⟨i, h2, by simpa using h1⟩
    simp [ha]
theorem join_flat (xs : List (List UInt8)) : Lib.join xs [] = xs.flatten := by
  unfold Lib.join
  induction xs with
  | nil => rfl
  | cons x xs ih =>
    cases xs with
    | nil => simp [List.intercalate]
    | cons y ys =>
      simp only [List.intercalate, List.intersperse, List.flatten_cons, List.nil_append] at ih ⊢
      rw [ih]
def catS (l : List ByteArray) : ByteArray := ⟨((l.map (·.data.toList)).flatten).toArray⟩
theorem join_is (k : Nat) (l : List ByteArray) (h1 : l.length ≤ 15) (h2 : ∀ x ∈ l, x.size ≤ 120) : x_strings_Join k (l, (⟨#[]⟩, ())) = some (catS l, ((), ((), ()))) := by
  unfold x_strings_Join joinF catS
  have e : (⟨#[]⟩ : ByteArray).data.toList = [] := rfl
  have hlen : ∀ l : List ByteArray, (∀ x ∈ l, x.size ≤ 120) → ((l.map (·.data.toList)).flatten).length ≤ l.length * 120 := by
    intro l
    induction l with
    | nil => intro _; simp
    | cons x l ih =>
      intro h
      have h1 := ih fun y hy => h y (by simp [hy])
      have h2 : x.data.toList.length ≤ 120 := by have := h x (by simp); rw [Array.length_toList]; exact this
      simp only [List.map_cons, List.flatten_cons, List.length_append, List.length_cons]
      omega
  have := hlen l h2
  simp only [e, join_flat]
  rw [if_pos (by omega)]
def heldR (f id : Int) (n : Nat) (P : Nat → ByteArray) (S : Nat → Bool) (u : Int) : HeldP := (f, (id, ((n : Int), (pS n P S, (hS n S, u)))))
def andS (S : Nat → Bool) (p : Nat) (j : Nat) : Bool := S j || decide (j = p)
theorem hS_set (n p : Nat) (S : Nat → Bool) : (hS n S).set p true = hS n (andS S p) := by
  unfold hS andS
  rw [set_range]
  refine List.map_congr_left fun j _ => ?_
  by_cases h : j = p <;> simp [h]
theorem pS_set (n p : Nat) (P : Nat → ByteArray) (S : Nat → Bool) : (pS n P S).set p (P p) = pS n P (andS S p) := by
  unfold pS andS
  rw [set_range]
  refine List.map_congr_left fun j _ => ?_
  by_cases h : j = p <;> simp [h]
theorem rep_hS (n : Nat) : List.replicate n false = hS n (fun _ => false) := by
  unfold hS
  exact (List.eq_replicate_iff.2 ⟨by simp, by simp⟩).symm
theorem rep_pS (n : Nat) (P : Nat → ByteArray) : List.replicate n (⟨#[]⟩ : ByteArray) = pS n P (fun _ => false) := by
  unfold pS
  exact (List.eq_replicate_iff.2 ⟨by simp, by simp⟩).symm
theorem hS_len (n : Nat) (S : Nat → Bool) : (hS n S).length = n := by simp [hS]
theorem pS_len (n : Nat) (P : Nat → ByteArray) (S : Nat → Bool) : (pS n P S).length = n := by simp [pS]
abbrev HT : Ty := (.pair (.int .i64) (.pair (.int .i64) (.pair (.int .i64) (.pair (.ols 9 .str) (.pair (.ols 4 .bool) (.int .i64))))))
abbrev HeldU := Int × Int × Int × List ByteArray × List Bool × Int × Unit
def shelfB (a : List RT_Held.den) : Bool := (foldE (gS a) (fun _ => (decide ((a.length : Int) ≤ 3), ((), ()))) a.length 0 ()).1
theorem shelfB_foldE (a : List RT_Held.den) : foldE (gS a) (fun _ => (decide ((a.length : Int) ≤ 3), ((), ()))) a.length 0 () = (shelfB a, ((), ())) := rfl
theorem gS_or (a : List RT_Held.den) : ∀ i, gS a i () = .inr () ∨ ∃ o, gS a i () = .inl (false, o) := fun i => by
  unfold gS
  split
  · exact .inl rfl
  · exact .inr ⟨_, rfl⟩
theorem gH_all {ps : List ByteArray} {hv : List Bool} {fin : Int → Bool × Unit × Unit} : ∀ m i (n : Int), (foldE (gH ps hv) fin m i n).1 = true → ∀ j, i ≤ j → j < i + m → goodP ps hv j = true := by
  intro m
  induction m with
  | zero => intro i n _ j h1 h2; omega
  | succ m ih =>
    intro i n h j h1 h2
    by_cases hg : goodP ps hv i = true
    · by_cases hj : j = i
      · rw [hj]; exact hg
      · refine ih (i + 1) (if Ty.rd (t := .bool) hv i then n + 1 else n) ?_ j (by omega) (by omega)
        simpa [foldE, gH, hg] using h
    · simp [foldE, gH, hg] at h
structure HeldOk (r : HeldR) : Prop where
  cnt : 2 ≤ r.2.2.1 ∧ r.2.2.1 ≤ 15
  ps : (r.2.2.2.1.length : Int) = r.2.2.1
  hv : (r.2.2.2.2.1.length : Int) = r.2.2.1
  size : ∀ x ∈ r.2.2.2.1, x.size ≤ 120
theorem heldB_ok {r : HeldR} (h : heldB (ag_Held r) = true) : HeldOk r := by
  unfold heldB ag_Held at h
  simp only [Bool.and_eq_true, decide_eq_true_eq] at h
  obtain ⟨⟨_, _, h3, h4, h5, _⟩, h6⟩ := h
  refine ⟨h3, h4, h5, fun x hx => ?_⟩
  obtain ⟨j, hj, rfl⟩ := List.getElem_of_mem hx
  have := gH_all _ _ _ h6 j (by omega) (by omega)
  unfold goodP at this
  simp only [Bool.and_eq_true, decide_eq_true_eq] at this
  have e : Ty.rd (t := .str) r.2.2.2.1 ((j : Nat) : Int) = r.2.2.2.1[j] := by
    show r.2.2.2.1.getD j _ = _
    rw [List.getD_eq_getElem?_getD, List.getElem?_eq_getElem hj]; rfl
  rw [e] at this
  exact this.1
structure ShelfR (a : List HeldR) : Prop where
  len : a.length ≤ 3
  ok : ∀ r ∈ a, HeldOk r
  once : ∀ (i j : Nat) x y, a[i]? = some x → a[j]? = some y → j < i → ¬ (y.1 = x.1 ∧ y.2.1 = x.2.1)
theorem rd_held {a : List HeldR} {i : Nat} {x : HeldR} (h : a[i]? = some x) : Ty.rd (t := RT_Held) a ((i : Nat) : Int) = x := by
  show a.getD i _ = x
  rw [List.getD_eq_getElem?_getD, h]; rfl
theorem shelfB_ok {a : List HeldR} (h : shelfB a = true) : ShelfR a := by
  have hlen := foldE_fin (gS_or a) a.length 0 h
  have hall := foldE_all (gS_or a) a.length 0 h
  have hrow : ∀ (i : Nat) x, a[i]? = some x → heldB (ag_Held x) = true ∧ ∀ j, j < i → sameH a j i = false := fun i x hx => by
    have hi : i < a.length := (List.getElem?_eq_some_iff.1 hx).1
    have := hall i (by omega) (by omega)
    unfold gS at this
    split at this
    · rename_i hc
      rw [rd_held hx] at hc
      simp only [Bool.and_eq_true] at hc
      exact ⟨hc.1, (all_false_iff _ _).1 hc.2⟩
    · cases this
  refine ⟨by simp only [decide_eq_true_eq] at hlen; omega, fun r hr => ?_, fun i j x y hx hy hji hh => ?_⟩
  · obtain ⟨i, hi, rfl⟩ := List.getElem_of_mem hr
    exact heldB_ok (hrow i _ (List.getElem?_eq_getElem hi)).1
  · have := (hrow i x hx).2 j hji
    unfold sameH at this
    rw [rd_held hx, rd_held hy] at this
    simp [hh.1, hh.2] at this
theorem bd_held {a : List HeldR} (h : ShelfR a) : Bd_HeldS a := ⟨by have := h.len; omega, fun r hr => by
  have := h.ok r hr
  have h1 := this.cnt
  have h2 := this.ps
  have h3 := this.hv
  exact ⟨by show r.2.2.2.1.length ≤ 1048576; omega, by show r.2.2.2.2.1.length ≤ 1048576; omega, trivial⟩⟩
theorem s_l20Copy_t_is (k : Nat) (a : List HeldR) (hk : 1048576 < k) (hb : Bd_HeldS a) : s_l20Copy_t k ((a, ()), ()) = some ((a, ()), ((), ())) := by
  unfold s_l20Copy_t
  have hl : a.length ≤ 1048576 := hb.1
  have hcap : capMax = 274877906944 := rfl
  refine loop_app (A := Int × Int × Int × List (ByteArray) × List (Bool) × Int) a (fun i out => ((a, ()), (([], ()), ((out, ()), ((i : Int), ()))))) ((a, ()), ((), ())) ?_ ?_ k (by omega)
  · intro again i out x ho hi hx
    obtain ⟨h1, h2⟩ := held_lens hb hx
    have w : wi64 ((i : Int) + 1) = ((i + 1 : Nat) : Int) := by rw [show wi64 ((i : Int) + 1) = (i : Int) + 1 from w64_id _ (by omega)]; omega
    have p1 : (i : Int) < (a.length : Int) := by omega
    have p2 : 0 ≤ (i : Int) := by omega
    have c1 : 0 + x.2.2.2.1.length ≤ capMax := by omega
    have c2 : 0 + x.2.2.2.2.1.length ≤ capMax := by omega
    have c3 : out.length + 1 ≤ capMax := by omega
    obtain ⟨x1, x2, x3, x4, x5, x6⟩ := x
    simp only at c1 c2
    simp only [Ty.rd, Int.toNat_natCast, getD_some' hx, p1, p2, w, c1, c2, c3, List.length_nil, List.length_cons, decide_true, and_self, if_true, List.nil_append, Nat.zero_add]
    rw [if_pos (by omega), if_pos (by omega)]
  · intro again
    have : ¬ (a.length : Int) < (a.length : Int) := by omega
    simp [this]
def fullB (l : List Bool) : Bool := (List.range l.length).all (fun j => l.getD j false)
theorem hS_of (l : List Bool) : hS l.length (fun j => l.getD j false) = l := by
  refine List.ext_getElem (by simp [hS]) fun i h1 h2 => ?_
  simp [hS, List.getD, h2]
theorem contains_is (k : Nat) (hk : 1048576 < k) (l : List Bool) (hl : l.length ≤ 15) : x_slices_Contains_bool_bool k (l, (false, ())) = some (!fullB l, ((), ((), ()))) := by
  have := index_bool k hk l.length hl (fun j => l.getD j false)
  rw [hS_of] at this
  exact this
theorem s_l20All_is (k : Nat) (hk : 1048576 < k) (x : HeldU) (hl : x.2.2.2.2.1.length ≤ 1048576) : s_l20All k (x, ()) = some (fullB x.2.2.2.2.1, ((), ())) := by
  obtain ⟨x1, x2, x3, x4, x5, x6, ⟨⟩⟩ := x
  unfold s_l20All fullB
  simp only at hl ⊢
  refine (find_loop_opt (X := HeldU × Int × Unit) (fun j => ((x1, (x2, (x3, (x4, (x5, (x6, ())))))), (((j : Nat) : Int), ()))) x5.length (fun j => !x5.getD j false) (some (false, ((), ()))) (some (true, ((), ()))) ?_ ?_ k (by omega)).trans ?_
  · intro ag j hj
    have q1 : (0 : Int) ≤ (j : Int) ∧ (j : Int) < (x5.length : Int) := by omega
    have w3 : wi64 ((j : Int) + 1) = ((j + 1 : Nat) : Int) := (w64_id _ (by omega)).trans (by omega)
    have r : Ty.rd (t := .bool) x5 ((j : Nat) : Int) = x5.getD j false := rfl
    simp only [q1, w3, r, and_self, decide_true, if_true]
  · intro ag
    simp
  · have e : ∀ l : List Nat, (l.all fun j => !!x5.getD j false) = l.all fun j => x5.getD j false := fun l => by simp
    simp only [e]
    cases (List.range x5.length).all (fun j => x5.getD j false) <;> simp
theorem catS_snoc (l : List ByteArray) (x : ByteArray) : catS (l ++ [x]) = catS l ++ x := by
  unfold catS
  apply ByteArray.ext
  rw [ByteArray.data_append]
  simp
theorem drop_take_del {A : Type} (L R Z : List A) (i : Nat) (hi : i < L.length) : List.take (i + (L.drop (i + 1)).length) (List.take (i + (L.drop (i + 1)).length) (List.take i L ++ (L.drop (i + 1) ++ R)) ++ Z) = L.eraseIdx i := by
  have h1 : (List.take i L ++ L.drop (i + 1)).length = i + (L.drop (i + 1)).length := by rw [List.length_append, List.length_take]; omega
  have h2 : List.take (i + (L.drop (i + 1)).length) (List.take i L ++ (L.drop (i + 1) ++ R)) = List.take i L ++ L.drop (i + 1) := by
    rw [← List.append_assoc, ← h1, List.take_left']
    rfl
  rw [h2, ← h1, List.take_left', List.eraseIdx_eq_take_drop_succ]
  rfl
theorem del_N (k : Nat) (L : List HeldN) (i : Nat) (hi : i < L.length) (hl : L.length ≤ 1048576) : x_slices_Delete_impl_Held_impl_Held_n k (L, ((i : Int), (((i + 1 : Nat) : Int), ()))) = some (L.eraseIdx i, ((), ((), ((), ())))) := by
  have hcap : capMax = 274877906944 := rfl
  unfold x_slices_Delete_impl_Held_impl_Held_n
  have g1 : (0 : Int) ≤ (L.length : Int) ∧ (L.length : Int) ≤ (L.length : Int) := by omega
  have g2 : (0 : Int) ≤ ((i + 1 : Nat) : Int) ∧ ((i + 1 : Nat) : Int) ≤ (L.length : Int) := by omega
  have g3 : (0 : Int) ≤ (i : Int) ∧ (i : Int) ≤ ((i + 1 : Nat) : Int) := by omega
  have g4 : ¬ (i : Int) = ((i + 1 : Nat) : Int) := by omega
  have g5 : (0 : Int) ≤ (i : Int) ∧ (i : Int) ≤ (L.length : Int) := by omega
  have t1 : List.take L.length L = L := List.take_length
  have dl : (L.drop (i + 1)).length = L.length - (i + 1) := List.length_drop
  have g6 : (i : Int) + ((L.drop (i + 1)).length : Int) ≤ (L.length : Int) ∧ (i : Int) - 0 + ((L.drop (i + 1)).length : Int) ≤ (capMax : Int) := by omega
  have e1 : ∀ n : Nat, ((i : Int) + (n : Int)).toNat = i + n := fun n => by omega
  have e2 : ∀ n : Nat, ((0 : Int) + ((i : Int) + (n : Int) - 0)).toNat = i + n := fun n => by omega
  have lenall : (List.take i L ++ (L.drop (i + 1) ++ List.drop (i + (L.drop (i + 1)).length) L)).length = L.length := by
    simp only [List.length_append, List.length_take, List.length_drop]
    omega
  have g7 : (0 : Int) ≤ (L.length : Int) ∧ (L.length : Int) ≤ (L.length : Int) - 0 := by omega
  have g8 : (0 : Int) ≤ (i : Int) + ((L.drop (i + 1)).length : Int) - 0 ∧ (i : Int) + ((L.drop (i + 1)).length : Int) - 0 ≤ (L.length : Int) := by omega
  simp only [g1, g2, g3, g4, g5, Int.toNat_natCast, t1, decide_false, Bool.false_eq_true, if_false, and_self, if_true]
  rw [if_pos (by first | exact g6 | omega)]
  simp only [e1, e2, lenall]
  rw [if_pos (by refine ⟨trivial, ?_⟩; omega), if_pos g8]
  have z : (0 : Int).toNat = 0 := rfl
  rw [z, List.drop_zero, drop_take_del L _ _ i hi]
theorem map_eraseIdx {A B : Type} (f : A → B) (l : List A) (i : Nat) : (l.eraseIdx i).map f = (l.map f).eraseIdx i := by
  rw [List.eraseIdx_eq_take_drop_succ, List.eraseIdx_eq_take_drop_succ, List.map_append, List.map_take, List.map_drop]
theorem del_at (k : Nat) (L : List HeldR) (i : Nat) (hi : i < L.length) (hl : L.length ≤ 1048576) : x_slices_Delete_impl_Held_impl_Held k (L, ((i : Int), (((i + 1 : Nat) : Int), ()))) = some (L.eraseIdx i, ((), ((), ((), ())))) := by
  unfold x_slices_Delete_impl_Held_impl_Held
  have hlen : (encP HT L).length = L.length := by rw [← List.length_map (f := Prod.snd), encP_snd]
  have := treeF_pick (t := HT) (Y := Int × Int × Unit) (O := Unit × Unit × Unit × Unit) (G := x_slices_Delete_impl_Held_impl_Held_n k) (xs := L) (y := ((i : Int), (((i + 1 : Nat) : Int), ()))) (o := ((), ((), ((), ())))) (Z := (encP HT L).eraseIdx i) (List.eraseIdx_sublist _ _) (by
    have := del_N k (HT.encs L) i (Nat.lt_of_lt_of_eq hi (Go.Eng.encs_len HT L).symm) (Nat.le_trans (Nat.le_of_eq (Go.Eng.encs_len HT L)) hl)
    refine this.trans (congrArg (fun q => some (q, ((), ((), ((), ()))))) ?_)
    rw [map_eraseIdx, encP_fst]
    rfl)
  rw [this, map_eraseIdx, encP_snd]
abbrev HeldQ := Int × Int × Int × Option (List ByteArray) × Option (List Bool) × Int
abbrev HQ : Ty := (.pair (.int .i64) (.pair (.int .i64) (.pair (.int .i64) (.pair (.olq 9 .str) (.pair (.olq 4 .bool) (.int .i64))))))
theorem loop_gone {X R A C S : Type} {step : (X → Option R) → X → Option R} (a : List A) (q : A → C) (lf : C → C) (st : Nat → List C → S → X) (f : S → A → S) (I : Nat → S → Prop) (s0 : S) {r : Option R}
    (hs : ∀ again i bs s x, I i s → i < a.length → a[i]? = some x → bs.length = a.length → bs[i]? = some (q x) → step again (st i bs s) = again (st (i + 1) (bs.set i (lf (q x))) (f s x)))
    (hI : ∀ i s x, I i s → I (i + 1) (f s x)) (he : ∀ again bs, bs.length = a.length → I a.length (a.foldl f s0) → step again (st a.length bs (a.foldl f s0)) = r) :
    ∀ k, a.length < k → I 0 s0 → whileK step k (st 0 (a.map q) s0) = r := by
  have key : ∀ (s p : List A) (k : Nat) (bs : List C) (s1 : S), p ++ s = a → s.length < k → bs.length = a.length → (∀ j, p.length ≤ j → bs[j]? = (a.map q)[j]?) → I p.length s1 → s.foldl f s1 = a.foldl f s0 → whileK step k (st p.length bs s1) = r := by
    intro s
    induction s with
    | nil =>
      intro p k bs s1 h hk hl _ hi hf
      obtain ⟨k, rfl⟩ : ∃ k', k = k' + 1 := ⟨k - 1, by omega⟩
      have : p = a := by simpa using h
      subst this
      have hf : s1 = p.foldl f s0 := hf
      subst hf
      exact he _ _ hl hi
    | cons x s ih =>
      intro p k bs s1 h hk hl hb hi hf
      obtain ⟨k, rfl⟩ : ∃ k', k = k' + 1 := ⟨k - 1, by omega⟩
      show step _ _ = _
      have hx : a[p.length]? = some x := by rw [← h]; simp
      have hbx : bs[p.length]? = some (q x) := by rw [hb _ (Nat.le_refl _), List.getElem?_map, hx]; rfl
      rw [hs _ _ _ _ x hi (List.getElem?_eq_some_iff.1 hx).1 hx hl hbx]
      have := ih (p ++ [x]) k (bs.set p.length (lf (q x))) (f s1 x) (by simpa using h) (by simpa using hk) (by simpa using hl) (fun j hj => by
        have hj' : p.length + 1 ≤ j := by simpa using hj
        rw [List.getElem?_set_ne (by omega)]
        exact hb j (by omega)) (by rw [List.length_append]; exact hI _ _ _ hi) hf
      rw [List.length_append] at this
      exact this
  intro k hk hi
  exact key a [] k (a.map q) s0 rfl hk (by simp) (fun _ _ => rfl) hi rfl
def stp (f id c : Int) (s : HeldU × List HeldR × Int) (y : HeldR) : HeldU × List HeldR × Int :=
  if y.1 = f ∧ y.2.1 = id then (if y.2.2.1 = c then (ag_Held y, (s.2.1, (s.2.1.length : Int))) else s) else (s.1, (s.2.1 ++ [y], s.2.2))
theorem stp_none {f id c : Int} : ∀ (a : List HeldR) (s : HeldU × List HeldR × Int), (∀ r ∈ a, ¬ (r.1 = f ∧ r.2.1 = id)) → a.foldl (stp f id c) s = (s.1, (s.2.1 ++ a, s.2.2)) := by
  intro a
  induction a with
  | nil => intro s _; simp
  | cons y a ih =>
    intro s h
    have h1 := h y (by simp)
    have e : stp f id c s y = (s.1, (s.2.1 ++ [y], s.2.2)) := by unfold stp; rw [if_neg h1]
    rw [List.foldl_cons, e, ih _ fun r hr => h r (by simp [hr])]
    simp
theorem stp_one {f id c : Int} (u v : List HeldR) (y : HeldR) (s : HeldU × List HeldR × Int) (hy : y.1 = f ∧ y.2.1 = id) (hu : ∀ r ∈ u, ¬ (r.1 = f ∧ r.2.1 = id)) (hv : ∀ r ∈ v, ¬ (r.1 = f ∧ r.2.1 = id)) (hs : s.2.1 = []) :
    (u ++ y :: v).foldl (stp f id c) s = if y.2.2.1 = c then (ag_Held y, (u ++ v, (u.length : Int))) else (s.1, (u ++ v, s.2.2)) := by
  rw [List.foldl_append, stp_none u s hu, List.foldl_cons]
  have e : stp f id c (s.1, (s.2.1 ++ u, s.2.2)) y = if y.2.2.1 = c then (ag_Held y, (u, (u.length : Int))) else (s.1, (u, s.2.2)) := by
    unfold stp
    rw [if_pos hy, hs]
    rfl
  rw [e]
  split <;> rw [stp_none v _ hv]
def putP (p : Nat) (t : ByteArray) (r : HeldR) : HeldR :=
  if r.2.2.2.2.1.getD p false then r else (r.1, (r.2.1, (r.2.2.1, (r.2.2.2.1.set p t, (r.2.2.2.2.1.set p true, r.2.2.2.2.2)))))
def newR (f id now : Int) (c p : Nat) (t : ByteArray) : HeldR := putP p t (f, (id, ((c : Int), (List.replicate c ⟨#[]⟩, (List.replicate c false, now + 8)))))
def roll (a : List HeldR) : List HeldR := if a.length = 3 then a.drop 1 else a
def addR (a : List HeldR) (f id now : Int) (c p : Nat) (t : ByteArray) : List HeldR × ByteArray × Bool :=
  match (List.range a.length).find? (sameK a f id) with
  | none => (roll a ++ [newR f id now c p t], (⟨#[]⟩, false))
  | some i =>
    if (Ty.rd (t := RT_Held) a i).2.2.1 = (c : Int) then
      (if fullB (putP p t (Ty.rd (t := RT_Held) a i)).2.2.2.2.1 then (a.eraseIdx i, (catS (putP p t (Ty.rd (t := RT_Held) a i)).2.2.2.1, true))
       else (a.set i (putP p t (Ty.rd (t := RT_Held) a i)), (⟨#[]⟩, false)))
    else (roll (a.eraseIdx i) ++ [newR f id now c p t], (⟨#[]⟩, false))
theorem new_full {f id now : Int} {c p : Nat} {t : ByteArray} (hc : 2 ≤ c) (hp : p < c) : fullB (newR f id now c p t).2.2.2.2.1 = false := by
  have e : (List.replicate c false).getD p false = false := by simp [List.getD, List.getElem?_replicate, hp]
  unfold newR putP
  simp only [e, Bool.false_eq_true, if_false]
  unfold fullB
  rw [List.all_eq_false]
  refine ⟨if p = 0 then 1 else 0, ?_, ?_⟩
  · simp; split <;> omega
  · by_cases h : p = 0
    · subst h
      have : 1 < c := by omega
      simp [List.getD, List.getElem?_set, List.getElem?_replicate, this]
    · have : 0 < c := by omega
      simp [h, List.getD, List.getElem?_set, List.getElem?_replicate, this]
/-- The rest of the reference's function, behind the loop. -/
theorem putP_ok {p : Nat} {t : ByteArray} {r : HeldR} (h : HeldOk r) (ht : t.size ≤ 120) : HeldOk (putP p t r) := by
  unfold putP
  split
  · exact h
  · refine ⟨h.cnt, by simpa using h.ps, by simpa using h.hv, fun x hx => ?_⟩
    rcases List.mem_or_eq_of_mem_set hx with hx | hx
    · exact h.size x hx
    · subst hx; exact ht
theorem find_split {a : List HeldR} (hA : ShelfR a) (f id : Int) : match (List.range a.length).find? (sameK a f id) with
    | none => ∀ r ∈ a, ¬ (r.1 = f ∧ r.2.1 = id)
    | some i => ∃ u y v, a = u ++ y :: v ∧ u.length = i ∧ (y.1 = f ∧ y.2.1 = id) ∧ (∀ r ∈ u, ¬ (r.1 = f ∧ r.2.1 = id)) ∧ (∀ r ∈ v, ¬ (r.1 = f ∧ r.2.1 = id)) := by
  have hk : ∀ (j : Nat) x, a[j]? = some x → (sameK a f id j = true ↔ (x.1 = f ∧ x.2.1 = id)) := fun j x hx => by
    unfold sameK
    rw [rd_held hx]
    simp
  cases hq : (List.range a.length).find? (sameK a f id) with
  | none =>
    intro r hr hh
    obtain ⟨j, hj, rfl⟩ := List.getElem_of_mem hr
    exact List.find?_eq_none.1 hq j (by simpa using hj) ((hk j _ (List.getElem?_eq_getElem hj)).2 hh)
  | some i =>
    have hi : i < a.length := by simpa using List.mem_of_find?_eq_some hq
    have h1 := (hk i _ (List.getElem?_eq_getElem hi)).1 (List.find?_some hq)
    have hsp : a = a.take i ++ a[i] :: a.drop (i + 1) := by rw [← List.drop_eq_getElem_cons hi, List.take_append_drop]
    refine ⟨a.take i, a[i], a.drop (i + 1), hsp, by simp; omega, h1, fun r hr hh => ?_, fun r hr hh => ?_⟩
    · obtain ⟨j, hj, rfl⟩ := List.getElem_of_mem hr
      have hji : j < i := by simp at hj; omega
      rw [List.getElem_take] at hh
      exact hA.once i j _ _ (List.getElem?_eq_getElem hi) (List.getElem?_eq_getElem (by omega)) hji ⟨hh.1.trans h1.1.symm, hh.2.trans h1.2.symm⟩
    · obtain ⟨j, hj, rfl⟩ := List.getElem_of_mem hr
      have hlt : i + 1 + j < a.length := by rw [List.length_drop] at hj; omega
      rw [List.getElem_drop] at hh
      exact hA.once (i + 1 + j) i _ _ (List.getElem?_eq_getElem hlt) (List.getElem?_eq_getElem hi) (by omega) ⟨h1.1.trans hh.1.symm, h1.2.trans hh.2.symm⟩
def freshR (f id now : Int) (c : Nat) : HeldR := (f, (id, ((c : Int), (List.replicate c ⟨#[]⟩, (List.replicate c false, now + 8)))))
theorem fresh_ok (f id now : Int) {c : Nat} (hc : 2 ≤ c ∧ c ≤ 15) : HeldOk (freshR f id now c) := by
  refine ⟨by show 2 ≤ (c : Int) ∧ (c : Int) ≤ 15; omega, by simp [freshR], by simp [freshR], fun x hx => ?_⟩
  have : x = ⟨#[]⟩ := (List.mem_replicate.1 hx).2
  subst this
  simp [ByteArray.size]
def tailR (p : Nat) (t : ByteArray) (x : HeldR) (rest : List HeldR) (at' : Int) : List HeldR × ByteArray × Bool :=
  if fullB (putP p t x).2.2.2.2.1 then (rest, (catS (putP p t x).2.2.2.1, true))
  else if 0 ≤ at' then (rest.take at'.toNat ++ [putP p t x] ++ rest.drop at'.toNat, (⟨#[]⟩, false)) else (roll rest ++ [putP p t x], (⟨#[]⟩, false))
theorem add_cases {a : List HeldR} (hA : ShelfR a) (f id now : Int) (c p : Nat) (t : ByteArray) (hc : 2 ≤ c ∧ c ≤ 15) (hp : p < c) :
    ∃ (x : HeldR) (rest : List HeldR) (at' : Int), a.foldl (stp f id (c : Int)) (ag_Held (freshR f id now c), ([], -1)) = (ag_Held x, (rest, at')) ∧ HeldOk x ∧ x.2.2.1 = (c : Int) ∧
      (rest.length ≤ 3 ∧ (∀ r ∈ rest, HeldOk r)) ∧ at' ≤ (rest.length : Int) ∧ (rest.length < 3 ∨ at' < 0) ∧ addR a f id now c p t = tailR p t x rest at' := by
  have hl := hA.len
  have hsp := find_split hA f id
  have hnf : fullB (putP p t (freshR f id now c)).2.2.2.2.1 = false := new_full (f := f) (id := id) (now := now) (t := t) hc.1 hp
  have hneg : ¬ (0 : Int) ≤ -1 := by omega
  unfold addR
  cases hq : (List.range a.length).find? (sameK a f id) with
  | none =>
    rw [hq] at hsp
    dsimp only at hsp ⊢
    refine ⟨freshR f id now c, a, -1, by rw [stp_none a _ hsp]; rfl, fresh_ok f id now hc, rfl, ⟨hl, hA.ok⟩, by omega, .inr (by omega), ?_⟩
    unfold tailR
    rw [hnf, if_neg (by simp), if_neg hneg]
    rfl
  | some i =>
    rw [hq] at hsp
    dsimp only at hsp ⊢
    obtain ⟨u, y, v, rfl, rfl, hy, hu, hv⟩ := hsp
    have hrd : Ty.rd (t := RT_Held) (u ++ y :: v) ((u.length : Nat) : Int) = y := rd_held (by simp)
    have hel : (u ++ y :: v).eraseIdx u.length = u ++ v := by simp [List.eraseIdx_append_of_length_le]
    have hset : ∀ z, (u ++ y :: v).set u.length z = u ++ z :: v := fun z => by simp
    have hlen : (u ++ v).length + 1 ≤ 3 := by simp only [List.length_append, List.length_cons] at hl ⊢; omega
    have hok : ∀ r ∈ u ++ v, HeldOk r := fun r hr => hA.ok r (by rcases List.mem_append.1 hr with h | h <;> simp [h])
    rw [hrd, hel, hset, stp_one u v y _ hy hu hv rfl]
    by_cases hcnt : y.2.2.1 = (c : Int)
    · rw [if_pos hcnt, if_pos hcnt]
      refine ⟨y, u ++ v, (u.length : Int), rfl, hA.ok y (by simp), hcnt, ⟨by omega, hok⟩, by simp only [List.length_append]; omega, .inl (by omega), ?_⟩
      unfold tailR
      split
      · rfl
      · rw [if_pos (by omega)]
        simp
    · rw [if_neg hcnt, if_neg hcnt]
      refine ⟨freshR f id now c, u ++ v, -1, rfl, fresh_ok f id now hc, rfl, ⟨by omega, hok⟩, by omega, .inr (by omega), ?_⟩
      unfold tailR
      rw [hnf, if_neg (by simp), if_neg hneg]
      rfl
theorem foldl_catS : ∀ (l p : List ByteArray), l.foldl (fun t x => t ++ x) (catS p) = catS (p ++ l)
  | [], p => by simp
  | x :: l, p => by
    rw [List.foldl_cons, ← catS_snoc, foldl_catS l (p ++ [x])]
    simp
theorem loop_cat {X R A : Type} {step : (X → Option R) → X → Option R} (a : List A) (T : A → ByteArray) (B : Nat) (st : Nat → ByteArray → X) (r : Option R) (hT : ∀ x ∈ a, (T x).size ≤ B)
    (hs : ∀ again i t x, t.size ≤ i * B → i < a.length → a[i]? = some x → step again (st i t) = again (st (i + 1) (t ++ T x)))
    (he : ∀ again, step again (st a.length (a.foldl (fun t x => t ++ T x) ⟨#[]⟩)) = r) : ∀ k, a.length < k → whileK step k (st 0 ⟨#[]⟩) = r := by
  have key : ∀ (s p : List A) k, p ++ s = a → s.length < k → (p.foldl (fun t x => t ++ T x) ⟨#[]⟩).size ≤ p.length * B → whileK step k (st p.length (p.foldl (fun t x => t ++ T x) ⟨#[]⟩)) = r := by
    intro s
    induction s with
    | nil =>
      intro p k h hk _
      obtain ⟨k, rfl⟩ : ∃ k', k = k' + 1 := ⟨k - 1, by omega⟩
      have : p = a := by simpa using h
      subst this
      exact he _
    | cons x s ih =>
      intro p k h hk hb
      obtain ⟨k, rfl⟩ : ∃ k', k = k' + 1 := ⟨k - 1, by omega⟩
      show step _ _ = _
      have hx : a[p.length]? = some x := by rw [← h]; simp
      have hlt : p.length < a.length := by rw [← h]; simp
      rw [hs _ _ _ x hb hlt hx]
      have := ih (p ++ [x]) k (by simpa using h) (by simpa using hk) (by
        rw [List.foldl_append, List.length_append]
        simp only [List.foldl_cons, List.foldl_nil, ByteArray.size_append, List.length_cons, List.length_nil, Nat.add_mul]
        have := hT x (by rw [← h]; simp)
        omega)
      rw [List.foldl_append, List.length_append] at this
      simpa using this
  intro k hk
  exact key a [] k (by simp) hk (by simp [ByteArray.size])
def put4 (p : Nat) (t : ByteArray) (x4 : List ByteArray) (x5 : List Bool) : List ByteArray := if x5.getD p false then x4 else x4.set p t
def put5 (p : Nat) (x5 : List Bool) : List Bool := if x5.getD p false then x5 else x5.set p true
theorem putP_eq (p : Nat) (t : ByteArray) (x1 x2 x3 : Int) (x4 : List ByteArray) (x5 : List Bool) (x6 : Int) : putP p t (x1, (x2, (x3, (x4, (x5, x6))))) = (x1, (x2, (x3, (put4 p t x4 x5, (put5 p x5, x6))))) := by
  unfold putP put4 put5
  split <;> simp_all
theorem sel_jn {R : Type} {p : Nat} {t : ByteArray} {x4 : List ByteArray} {x5 : List Bool} (h4 : p < x4.length) (h5 : p < x5.length) (F : List ByteArray → List Bool → Option R) :
    jn F (fun (j3 : List ByteArray → List Bool → Option R) =>
      if 0 ≤ (p : Int) ∧ (p : Int) < (List.length x5 : Int) then
        (if (!(Ty.rd (t := .bool) x5 (p : Int))) = true then
          (if 0 ≤ (p : Int) ∧ (p : Int) < (List.length x5 : Int) then
            (if 0 ≤ (p : Int) ∧ (p : Int) < (List.length x4 : Int) then j3 (List.set x4 (Int.toNat (p : Int)) t) (List.set x5 (Int.toNat (p : Int)) true) else none)
          else none)
        else j3 x4 x5)
      else none) = F (put4 p t x4 x5) (put5 p x5) := by
  have g5 : (0 : Int) ≤ (p : Int) ∧ (p : Int) < (x5.length : Int) := by omega
  have g4 : (0 : Int) ≤ (p : Int) ∧ (p : Int) < (x4.length : Int) := by omega
  have r : Ty.rd (t := .bool) x5 (p : Int) = x5.getD p false := rfl
  unfold jn put4 put5
  dsimp only
  rw [if_pos g5, r, if_pos g5, if_pos g4, Int.toNat_natCast]
  cases x5.getD p false <;> rfl
theorem bd_rest {a : List HeldR} (h : a.length ≤ 3 ∧ ∀ r ∈ a, HeldOk r) : Bd_HeldS a := ⟨by have := h.1; omega, fun r hr => by
  have := h.2 r hr
  have h1 := this.cnt
  have h2 := this.ps
  have h3 := this.hv
  exact ⟨by show r.2.2.2.1.length ≤ 1048576; omega, by show r.2.2.2.2.1.length ≤ 1048576; omega, trivial⟩⟩
theorem roll_ok {a : List HeldR} (h : a.length ≤ 3 ∧ ∀ r ∈ a, HeldOk r) : (roll a).length ≤ 2 ∧ ∀ r ∈ roll a, HeldOk r := by
  unfold roll
  split
  · exact ⟨by rw [List.length_drop]; omega, fun r hr => h.2 r (List.mem_of_mem_drop hr)⟩
  · exact ⟨by omega, h.2⟩
theorem s_add (k : Nat) (hk : 1048576 < k) (a : List HeldR) (f id now : Int) (c p : Nat) (t : ByteArray) (T : ByteArray) (ha : shelfB a = true) (hr : s_ReadPart k (T, ()) = some ((id, ((p : Int), ((c : Int), (t, (true, ()))))), ((), ())))
    (hf : 1 ≤ f ∧ f ≤ 99) (hc : 2 ≤ c ∧ c ≤ 15) (hp : p < c) (ht : t.size ≤ 120) (hnow : 0 ≤ now ∧ now ≤ 999999992) :
    s_AddPart k ((a, ()), (f, (T, (now, ())))) = some ((((addR a f id now c p t).1, ()), ((addR a f id now c p t).2.1, ((addR a f id now c p t).2.2, ()))), ((), ((), ((), ((), ()))))) := by
  have hA := shelfB_ok ha
  have hcap : capMax = 274877906944 := rfl
  have hl := hA.len
  have h1 := s_l20Copy_t_is k a hk (bd_held hA)
  have h2 := s_ShelfOk_is k a hk (by omega)
  rw [shelfB_foldE, ha] at h2
  have hsz : ¬ (120 : Int) < (t.size : Int) := by omega
  have hn1 : ¬ (c : Int) = 1 := by omega
  have w8 : wi64 (now + 8) = now + 8 := w64_id _ (by omega)
  have g1 : (0 : Int) ≤ (c : Int) ∧ (c : Int) ≤ (capMax : Int) := by omega
  unfold s_AddPart
  simp only [h1, h2, hr, l01In_is, hf, hsz, hn1, hnow, w8, g1, Option.bind_some, decide_true, decide_false, Bool.not_true, Bool.false_eq_true, if_false, if_true, and_self, Int.toNat_natCast]
  refine (loop_gone (A := HeldR) (C := HeldQ) (S := HeldU × List HeldR × Int) a HT.toq HQ.left (fun i bs s => (f, (([], ()), (id, ((p : Int), ((c : Int), (t, ((bs, ()), (s.1, (s.2.1, (s.2.2, ((i : Int), ()))))))))))))
    (stp f id (c : Int)) (fun i s => s.2.1.length ≤ i) ((f, (id, ((c : Int), (List.replicate c ⟨#[]⟩, (List.replicate c false, (now + 8, ())))))), ([], -1)) ?_ ?_ ?_ k (by omega) (Nat.le_refl _))
  · intro again i bs s x hI hi hx hbl hbx
    obtain ⟨⟨s1, s2, s3, s4, s5, s6, ⟨⟩⟩, rest, at'⟩ := s
    obtain ⟨x1, x2, x3, x4, x5, x6⟩ := x
    have hq : HT.toq (x1, (x2, (x3, (x4, (x5, x6))))) = ((x1, (x2, (x3, (some x4, (some x5, x6))))) : HeldQ) := rfl
    rw [hq] at hbx ⊢
    have q1 : (i : Int) < (bs.length : Int) := by omega
    have q2 : (0 : Int) ≤ (i : Int) ∧ (i : Int) < (bs.length : Int) := by omega
    have w : wi64 ((i : Int) + 1) = ((i + 1 : Nat) : Int) := (w64_id _ (by omega)).trans (by omega)
    simp only at hI
    have c3 : rest.length + 1 ≤ capMax := by omega
    simp only [jn, Ty.rd, Int.toNat_natCast, getD_some' hbx, q1, q2, w, decide_true, and_self, if_true, Option.bind_some, List.length_cons, List.length_nil, Nat.zero_add, c3]
    by_cases e1 : x1 = f
    · by_cases e2 : x2 = id
      · by_cases e3 : x3 = (c : Int)
        · simp only [stp, e1, e2, e3, ag_Held, decide_true, and_self, if_true]
        · simp only [stp, e1, e2, e3, decide_true, decide_false, Bool.false_eq_true, if_false, and_self, if_true]
      · simp only [stp, e1, e2, decide_true, decide_false, Bool.false_eq_true, if_false, and_false, if_true]
    · simp only [stp, e1, decide_false, Bool.false_eq_true, if_false, false_and]
  · intro i s x hI
    unfold stp
    split
    · split
      · exact Nat.le_succ_of_le hI
      · exact Nat.le_succ_of_le hI
    · simp only [List.length_append, List.length_cons, List.length_nil]
      omega
  · intro again bs hbl hI
    rw [if_neg (by simp [hbl])]
    obtain ⟨x, rest, at', hfold, hx, hxc, hrest, hat, hroom, hadd⟩ := add_cases hA f id now c p t hc hp
    rw [hadd]
    have hfold' : a.foldl (stp f id (c : Int)) ((f, (id, ((c : Int), (List.replicate c ⟨#[]⟩, (List.replicate c false, (now + 8, ())))))), ([], -1)) = (ag_Held x, (rest, at')) := hfold
    rw [hfold']
    have hx' := putP_ok (p := p) hx ht
    obtain ⟨x1, x2, x3, x4, x5, x6⟩ := x
    have l4 : x4.length = c := by have := hx.ps; simp only at this hxc; omega
    have l5 : x5.length = c := by have := hx.hv; simp only at this hxc; omega
    unfold tailR
    rw [putP_eq] at hx' ⊢
    have m4 : ((put4 p t x4 x5).length : Int) = x3 := hx'.ps
    have m5 : ((put5 p x5).length : Int) = x3 := hx'.hv
    simp only at hxc
    have mz : ∀ q ∈ put4 p t x4 x5, q.size ≤ 120 := hx'.size
    dsimp only [ag_Held]
    refine (sel_jn (p := p) (t := t) (x4 := x4) (x5 := x5) (by omega) (by omega) _).trans ?_
    generalize put4 p t x4 x5 = y4 at *
    generalize put5 p x5 = y5 at *
    rw [s_l20All_is k hk _ (by dsimp only; omega)]
    dsimp only [Option.bind_some]
    have hnil : ([] : List HeldR) ++ List.drop (0 : Int).toNat (List.take at'.toNat rest) = List.take at'.toNat rest := by simp
    cases hfull : fullB y5 with
    | true =>
      simp only [if_true]
      refine loop_cat (A := ByteArray) y4 (fun x => x) 120 (fun i w => (([], ()), ((c : Int), ((x1, (x2, (x3, (y4, (y5, (x6, ())))))), (rest, (w, ((i : Int), ()))))))) _ mz ?_ ?_ k (by omega)
      · intro again i w z hw hi hz
        have q1 : (i : Int) < (c : Int) := by omega
        have q2 : (0 : Int) ≤ (i : Int) ∧ (i : Int) < (y4.length : Int) := by omega
        have w1 : wi64 ((i : Int) + 1) = ((i + 1 : Nat) : Int) := (w64_id _ (by omega)).trans (by omega)
        have r : Ty.rd (t := .str) y4 ((i : Nat) : Int) = z := getD_some' hz
        have hzs := mz z (List.mem_of_getElem? hz)
        have hmx : maxStr = 9223372036854775807 := rfl
        simp only [r, q1, q2, w1, decide_true, and_self, if_true]
        rw [if_pos (by omega)]
      · intro again
        have e : y4.foldl (fun t x => t ++ x) ⟨#[]⟩ = catS y4 := (foldl_catS y4 []).trans (by simp)
        rw [if_neg (by simp; omega), e]
        dsimp only
        rw [s_l20Copy_t_is k rest hk (bd_rest hrest)]
        rfl
    | false =>
      simp only [Bool.false_eq_true, if_false]
      have b1 := roll_ok hrest
      have hxr : HeldOk (x1, (x2, (x3, (y4, (y5, x6))))) := hx'
      by_cases hat0 : 0 ≤ at'
      · have k1 : 0 ≤ at' ∧ at' ≤ (rest.length : Int) := ⟨hat0, hat⟩
        have tk : List.take rest.length rest = rest := List.take_length
        have lt : (List.take at'.toNat rest).length = at'.toNat := by rw [List.length_take]; omega
        have ld : (List.drop at'.toNat rest).length = rest.length - at'.toNat := List.length_drop
        simp only [hat0, k1, and_self, decide_true, if_true, hnil, tk]
        rw [if_pos (by simp only [List.length_nil, List.drop_zero, show (0 : Int).toNat = 0 from rfl, lt]; omega), if_pos (by simp only [List.length_cons, List.length_nil, lt]; omega), if_pos (by simp only [List.length_append, List.length_cons, List.length_nil, lt, ld]; omega)]
        rw [s_l20Copy_t_is k _ hk (bd_rest ⟨by simp only [List.length_append, List.length_cons, List.length_nil, lt, ld]; omega, fun r hr => by
          simp only [List.mem_append, List.mem_cons, List.not_mem_nil, or_false] at hr
          rcases hr with (hr | rfl) | hr
          · exact hrest.2 r (List.mem_of_mem_take hr)
          · exact hxr
          · exact hrest.2 r (List.mem_of_mem_drop hr)⟩)]
        rfl
      · simp only [hat0, decide_false, Bool.false_eq_true, if_false]
        have hcopy := s_l20Copy_t_is k (roll rest ++ [(x1, (x2, (x3, (y4, (y5, x6)))))]) hk (bd_rest ⟨by simp only [List.length_append, List.length_cons, List.length_nil]; omega, fun r hr => by
          simp only [List.mem_append, List.mem_cons, List.not_mem_nil, or_false] at hr
          rcases hr with hr | rfl
          · exact b1.2 r hr
          · exact hxr⟩)
        unfold roll at hcopy ⊢
        by_cases h3 : rest.length = 3
        · have h3' : (rest.length : Int) = 3 := by omega
          rw [if_pos h3] at hcopy ⊢
          have e1 : (0 : Int) ≤ 1 ∧ (1 : Int) ≤ (rest.length : Int) := by omega
          simp only [h3', decide_true, if_true]
          rw [if_pos (by omega), if_pos (by refine ⟨trivial, ?_⟩; simp only [List.length_cons, List.length_nil]; omega), show (1 : Int).toNat = 1 from rfl, hcopy]
          rfl
        · have h3' : ¬ (rest.length : Int) = 3 := by omega
          rw [if_neg h3] at hcopy ⊢
          simp only [h3', decide_false, Bool.false_eq_true, if_false]
          rw [if_pos (by simp only [List.length_cons, List.length_nil]; omega), hcopy]
          rfl
theorem jn_eq {A R : Type} (f : A) (g : A → R) : jn f g = g f := rfl
theorem put_jn {R : Type} {L : List HeldR} {v : Int} {p : Nat} {t : ByteArray} {x : HeldR} (hv : 0 ≤ v) (hx : L[v.toNat]? = some x) (h4 : p < x.2.2.2.1.length) (h5 : p < x.2.2.2.2.1.length) (F : List HeldR → Option R) :
    jn F (fun (j3 : List HeldR → Option R) =>
      if 0 ≤ (p : Int) ∧ (p : Int) < (List.length (Ty.rd (t := HT) L v).2.2.2.2.1 : Int) then
        (if (!(Ty.rd (t := .bool) (Ty.rd (t := HT) L v).2.2.2.2.1 (p : Int))) = true then
          (if 0 ≤ (p : Int) ∧ (p : Int) < (List.length (Ty.rd (t := HT) L v).2.2.2.2.1 : Int) then
            (jn (List.set L (Int.toNat v) ((Ty.rd (t := HT) L v).1, ((Ty.rd (t := HT) L v).2.1, ((Ty.rd (t := HT) L v).2.2.1, ((Ty.rd (t := HT) L v).2.2.2.1, ((List.set (Ty.rd (t := HT) L v).2.2.2.2.1 (Int.toNat (p : Int)) true), (Ty.rd (t := HT) L v).2.2.2.2.2)))))) (fun (q3 : List HeldR) =>
              (if 0 ≤ (p : Int) ∧ (p : Int) < (List.length (Ty.rd (t := HT) q3 v).2.2.2.1 : Int) then
                (jn (List.set q3 (Int.toNat v) ((Ty.rd (t := HT) q3 v).1, ((Ty.rd (t := HT) q3 v).2.1, ((Ty.rd (t := HT) q3 v).2.2.1, ((List.set (Ty.rd (t := HT) q3 v).2.2.2.1 (Int.toNat (p : Int)) t), (Ty.rd (t := HT) q3 v).2.2.2.2))))) (fun (q4 : List HeldR) => j3 q4))
              else none)))
          else none)
        else j3 L)
      else none) = F (L.set v.toNat (putP p t x)) := by
  have hn : v.toNat < L.length := (List.getElem?_eq_some_iff.1 hx).1
  have r1 : Ty.rd (t := HT) L v = x := getD_some' hx
  have g5 : (0 : Int) ≤ (p : Int) ∧ (p : Int) < (x.2.2.2.2.1.length : Int) := by omega
  have g4 : (0 : Int) ≤ (p : Int) ∧ (p : Int) < (x.2.2.2.1.length : Int) := by omega
  have r : Ty.rd (t := .bool) x.2.2.2.2.1 (p : Int) = x.2.2.2.2.1.getD p false := rfl
  have r2 : ∀ z : HeldR, Ty.rd (t := HT) (L.set v.toNat z) v = z := fun z => getD_set' hn
  unfold jn
  dsimp only
  rw [r1, if_pos g5, r, if_pos g5, r2, if_pos g4, Int.toNat_natCast, List.set_set]
  cases hb : x.2.2.2.2.1.getD p false with
  | true =>
    have e : putP p t x = x := by unfold putP; rw [hb]; rfl
    rw [e]
    have : L.set v.toNat x = L := by
      refine List.ext_getElem? fun q => ?_
      rw [List.getElem?_set]
      split
      · rename_i e; subst e; rw [hx]
      · rfl
    rw [this]
    rfl
  | false =>
    have e : putP p t x = (x.1, (x.2.1, (x.2.2.1, (x.2.2.2.1.set p t, (x.2.2.2.2.1.set p true, x.2.2.2.2.2))))) := by unfold putP; rw [hb]; rfl
    rw [e]
    rfl
def tailI (k : Nat) (p : Nat) (t : ByteArray) (v : Int) (L : List HeldR) : Option ((((List (Int × Int × Int × List (ByteArray) × List (Bool) × Int)) × Unit) × ByteArray × Bool × Unit) × Unit × Unit × Unit × Unit × Unit) :=
  if 0 ≤ v ∧ v < (List.length L : Int) then
    jn (fun (j12v0 : List HeldR) =>
      ((x_slices_Contains_bool_bool k ((Ty.rd (t := HT) j12v0 v).2.2.2.2.1, (false, ()))).bind fun p53 =>
      (if p53.1 = true then
      some (((j12v0, ()), ((⟨#[]⟩ : ByteArray), (false, ()))), ((), ((), ((), ((), ())))))
      else
      ((x_strings_Join k ((Ty.rd (t := HT) j12v0 v).2.2.2.1, ((⟨#[]⟩ : ByteArray), ()))).bind fun p54 =>
      ((x_slices_Delete_impl_Held_impl_Held k (j12v0, (v, ((wi64 (v + (1 : Int))), ())))).bind fun p55 =>
      some (((p55.1, ()), (p54.1, (true, ()))), ((), ((), ((), ((), ())))))))))) (fun (j3 : List HeldR → Option _) =>
      if 0 ≤ (p : Int) ∧ (p : Int) < (List.length (Ty.rd (t := HT) L v).2.2.2.2.1 : Int) then
        (if (!(Ty.rd (t := .bool) (Ty.rd (t := HT) L v).2.2.2.2.1 (p : Int))) = true then
          (if 0 ≤ (p : Int) ∧ (p : Int) < (List.length (Ty.rd (t := HT) L v).2.2.2.2.1 : Int) then
            (jn (List.set L (Int.toNat v) ((Ty.rd (t := HT) L v).1, ((Ty.rd (t := HT) L v).2.1, ((Ty.rd (t := HT) L v).2.2.1, ((Ty.rd (t := HT) L v).2.2.2.1, ((List.set (Ty.rd (t := HT) L v).2.2.2.2.1 (Int.toNat (p : Int)) true), (Ty.rd (t := HT) L v).2.2.2.2.2)))))) (fun (q3 : List HeldR) =>
              (if 0 ≤ (p : Int) ∧ (p : Int) < (List.length (Ty.rd (t := HT) q3 v).2.2.2.1 : Int) then
                (jn (List.set q3 (Int.toNat v) ((Ty.rd (t := HT) q3 v).1, ((Ty.rd (t := HT) q3 v).2.1, ((Ty.rd (t := HT) q3 v).2.2.1, ((List.set (Ty.rd (t := HT) q3 v).2.2.2.1 (Int.toNat (p : Int)) t), (Ty.rd (t := HT) q3 v).2.2.2.2))))) (fun (q4 : List HeldR) => j3 q4))
              else none)))
          else none)
        else j3 L)
      else none)
  else none
theorem tailI_is (k : Nat) (hk : 1048576 < k) {L : List HeldR} {v : Int} {i : Nat} (hvi : v = (i : Int)) {x : HeldR} (hx : L[i]? = some x) (hok : HeldOk x) {p : Nat} (hp : (p : Int) < x.2.2.1) {t : ByteArray} (ht : t.size ≤ 120) (hl : L.length ≤ 1048576) :
    tailI k p t v L = some (if fullB (putP p t x).2.2.2.2.1 then (((L.eraseIdx i, ()), (catS (putP p t x).2.2.2.1, (true, ()))), ((), ((), ((), ((), ()))))) else (((L.set i (putP p t x), ()), (⟨#[]⟩, (false, ()))), ((), ((), ((), ((), ())))))) := by
  subst hvi
  have hi : i < L.length := (List.getElem?_eq_some_iff.1 hx).1
  have g : (0 : Int) ≤ (i : Int) ∧ (i : Int) < (L.length : Int) := by omega
  have h4 := hok.ps
  have h5 := hok.hv
  have hok' := putP_ok (p := p) hok ht
  have c1 := hok'.cnt
  have c2 := hok'.ps
  have c3 := hok'.hv
  unfold tailI
  rw [if_pos g]
  refine (put_jn (v := (i : Int)) (p := p) (t := t) (x := x) (by omega) (by rw [Int.toNat_natCast]; exact hx) (by omega) (by omega) _).trans ?_
  rw [Int.toNat_natCast]
  have r1 : Ty.rd (t := HT) (L.set i (putP p t x)) (i : Int) = putP p t x := getD_set' hi
  have hd : x_slices_Delete_impl_Held_impl_Held k (L.set i (putP p t x), ((i : Int), (((i + 1 : Nat) : Int), ()))) = some ((L.set i (putP p t x)).eraseIdx i, ((), ((), ((), ())))) := del_at k _ i (by rw [List.length_set]; exact hi) (by rw [List.length_set]; exact hl)
  have w1 : wi64 ((i : Int) + 1) = ((i + 1 : Nat) : Int) := (w64_id _ (by omega)).trans (by omega)
  have he : (L.set i (putP p t x)).eraseIdx i = L.eraseIdx i := by
    rw [List.eraseIdx_eq_take_drop_succ, List.eraseIdx_eq_take_drop_succ, List.take_set_of_le (Nat.le_refl _), List.drop_set_of_lt (Nat.lt_succ_self _)]
  rw [r1, contains_is k hk _ (by omega), w1, hd, he]
  have hj := join_is k (putP p t x).2.2.2.1 (by omega) hok'.size
  rw [hj]
  cases fullB (putP p t x).2.2.2.2.1 <;> rfl
theorem i_add (k : Nat) (hk : 1048576 < k) (a : List HeldR) (f id now : Int) (c p : Nat) (t : ByteArray) (T : ByteArray) (ha : shelfB a = true) (hr : i_ReadPart k (T, ()) = some ((id, ((p : Int), ((c : Int), (t, (true, ()))))), ((), ())))
    (hf : 1 ≤ f ∧ f ≤ 99) (hc : 2 ≤ c ∧ c ≤ 15) (hp : p < c) (ht : t.size ≤ 120) (hnow : 0 ≤ now ∧ now ≤ 999999992) :
    i_AddPart k ((a, ()), (f, (T, (now, ())))) = some ((((addR a f id now c p t).1, ()), ((addR a f id now c p t).2.1, ((addR a f id now c p t).2.2, ()))), ((), ((), ((), ((), ()))))) := by
  have hA := shelfB_ok ha
  have hcap : capMax = 274877906944 := rfl
  have hl := hA.len
  have h1 := i_copyShelf_is k a hk (bd_held hA)
  have h2 := i_ShelfOk_is k a hk (by omega)
  rw [shelfB_foldE, ha] at h2
  have h6 := heldAt_is k a f id hk (by omega)
  have hsz : ¬ (120 : Int) < (t.size : Int) := by omega
  have hn1 : ¬ (c : Int) = 1 := by omega
  have w8 : wi64 (now + 8) = now + 8 := w64_id _ (by omega)
  have g1 : (0 : Int) ≤ (c : Int) ∧ (c : Int) ≤ (capMax : Int) := by omega
  have hsp := find_split hA f id
  have hnf : fullB (newR f id now c p t).2.2.2.2.1 = false := new_full hc.1 hp
  unfold addR
  have hrow : ∀ b : List HeldR, (b ++ [freshR f id now c])[b.length]? = some (freshR f id now c) := fun b => by simp
  have hset : ∀ b : List HeldR, (b ++ [freshR f id now c]).set b.length (newR f id now c p t) = b ++ [newR f id now c p t] := fun b => by simp
  have hfp : (p : Int) < (freshR f id now c).2.2.1 := by show (p : Int) < (c : Int); omega
  have hnewT : ∀ (b : List HeldR) (v : Int), b.length ≤ 3 → v = (b.length : Int) → tailI k p t v (b ++ [freshR f id now c]) = some ((((b ++ [newR f id now c p t]), ()), (⟨#[]⟩, (false, ()))), ((), ((), ((), ((), ()))))) := fun b v hb hv => by
    rw [tailI_is k hk hv (hrow b) (fresh_ok f id now hc) hfp ht (by simp only [List.length_append, List.length_cons, List.length_nil]; omega)]
    have e : putP p t (freshR f id now c) = newR f id now c p t := rfl
    rw [e, hnf, hset]
    rfl
  cases hq : (List.range a.length).find? (sameK a f id) with
  | none =>
    rw [hq] at h6 hsp
    dsimp only at h6 hsp ⊢
    unfold i_AddPart
    simp only [h1, h2, hr, h6, isId_is, within_is, hf, hsz, hn1, hnow, w8, g1, Option.bind_some, decide_true, decide_false, Bool.not_true, Bool.false_eq_true, if_false, if_true, and_self]
    rw [jn_eq, if_neg (by decide), jn_eq, if_pos (by decide)]
    unfold roll
    by_cases h3 : a.length = 3
    · have h3' : (a.length : Int) = 3 := by omega
      rw [if_pos h3, if_pos (by simp only [h3', decide_true]), if_pos (by omega), if_pos (by refine ⟨trivial, ?_⟩; simp only [List.length_cons, List.length_nil]; omega)]
      exact hnewT (a.drop 1) _ (by rw [List.length_drop]; omega) (by rw [List.length_drop]; omega)
    · have h3' : ¬ (a.length : Int) = 3 := by omega
      rw [if_neg h3, if_neg (by simp only [h3', decide_false, Bool.false_eq_true, not_false_eq_true]), if_pos (by simp only [List.length_cons, List.length_nil]; omega)]
      exact hnewT a _ (by omega) rfl
  | some i =>
    rw [hq] at h6 hsp
    dsimp only at h6 hsp ⊢
    obtain ⟨u, y, v, he, hui, hy, hu, hv⟩ := hsp
    have hxi : a[i]? = some y := by rw [he, ← hui]; simp
    have hi : i < a.length := (List.getElem?_eq_some_iff.1 hxi).1
    have hrd : Ty.rd (t := RT_Held) a ((i : Nat) : Int) = y := rd_held hxi
    have hrd' : Ty.rd (t := HT) a ((i : Nat) : Int) = y := rd_held hxi
    have w1 : wi64 ((i : Int) + 1) = ((i + 1 : Nat) : Int) := (w64_id _ (by omega)).trans (by omega)
    have hyok := hA.ok y (List.mem_of_getElem? hxi)
    rw [hrd]
    unfold i_AddPart
    simp only [h1, h2, hr, h6, isId_is, within_is, hf, hsz, hn1, hnow, w8, g1, Option.bind_some, decide_true, decide_false, Bool.not_true, Bool.false_eq_true, if_false, if_true, and_self]
    have i0 : (0 : Int) ≤ (i : Int) := by omega
    have i1 : ¬ (i : Int) < 0 := by omega
    have i2 : (0 : Int) ≤ (i : Int) ∧ (i : Int) < (a.length : Int) := by omega
    rw [jn_eq, if_pos (by simp only [i0, decide_true]), if_pos i2]
    by_cases hcnt : y.2.2.1 = (c : Int)
    · rw [if_neg (by rw [hrd']; simp only [hcnt, decide_true, Bool.not_true, Bool.false_eq_true, not_false_eq_true]), jn_eq, if_neg (by simp only [i1, decide_false, Bool.false_eq_true, not_false_eq_true]), if_pos hcnt]
      refine (tailI_is k hk (L := a) (v := (i : Int)) (p := p) (t := t) rfl hxi hyok (by omega) ht (by omega)).trans ?_
      split <;> rfl
    · rw [if_pos (by rw [hrd']; simp only [hcnt, decide_false, Bool.not_false]), if_neg hcnt, w1, del_at k a i hi (by omega)]
      dsimp only [Option.bind_some]
      have hel : (a.eraseIdx i).length = a.length - 1 := List.length_eraseIdx_of_lt hi
      have h3 : ¬ (a.eraseIdx i).length = 3 := by omega
      have h3' : ¬ ((a.eraseIdx i).length : Int) = 3 := by omega
      unfold roll
      rw [jn_eq, if_pos (by decide), if_neg (by simp only [h3', decide_false, Bool.false_eq_true, not_false_eq_true]), if_pos (by simp only [List.length_cons, List.length_nil]; omega), if_neg h3]
      exact hnewT (a.eraseIdx i) _ (by omega) rfl
theorem bt_pos (s : ByteArray) (i : Int) : 0 ≤ bt s i ∧ bt s i ≤ 255 := by
  unfold bt
  split
  · have := (s[i.toNat]).toNat_lt
    omega
  · omega
theorem readPart_facts (k : Nat) (T : ByteArray) : ∃ (id pl c : Int) (t : ByteArray) (ok : Bool), s_ReadPart k (T, ()) = some ((id, (pl, (c, (t, (ok, ()))))), ((), ())) ∧ (ok = true → (1 ≤ c ∧ c ≤ 15) ∧ 0 ≤ pl ∧ pl < c ∧ (0 ≤ id ∧ id ≤ 255)) := by
  unfold s_ReadPart
  simp only [l01In_is, Option.bind_some]
  have b1 := bt_pos T 1
  have b2 := bt_pos T 2
  have b0 := bt_pos T 0
  have w1 : wi64 (bt T 1) = bt T 1 := w64_id _ (by omega)
  have w2 : wi64 (bt T 2) = bt T 2 := w64_id _ (by omega)
  have w0 : wi64 (bt T 0) = bt T 0 := w64_id _ (by omega)
  by_cases h3 : (T.size : Int) < 3
  · exact ⟨0, 0, 0, ⟨#[]⟩, false, by simp [h3], by simp⟩
  · have q2 : (0 : Int) ≤ 2 ∧ (2 : Int) < (T.size : Int) := by omega
    have q1 : (0 : Int) ≤ 1 ∧ (1 : Int) < (T.size : Int) := by omega
    have q0 : (0 : Int) ≤ 0 ∧ (0 : Int) < (T.size : Int) := by omega
    have q3 : (0 : Int) ≤ 3 ∧ (3 : Int) ≤ (T.size : Int) := by omega
    simp only [h3, q0, q1, q2, q3, w0, w1, w2, decide_false, if_true, and_self]
    by_cases h4 : 1 ≤ bt T 2 ∧ bt T 2 ≤ 15
    · by_cases h5 : bt T 2 ≤ bt T 1
      · exact ⟨0, 0, 0, ⟨#[]⟩, false, by simp [h4, h5], by simp⟩
      · refine ⟨_, _, _, _, true, by simp only [h4, h5, decide_true, decide_false, and_self, Bool.not_true, if_true, Bool.false_eq_true, if_false]; rfl, fun _ => ⟨h4, b1.1, by omega, by omega⟩⟩
    · exact ⟨0, 0, 0, ⟨#[]⟩, false, by simp only [h4, decide_false, Bool.not_false, Bool.true_eq_false, if_false], by simp⟩
theorem addPart_is0 (k : Nat) (hk : 1048576 < k) (a : List HeldR) (hb : Bd_HeldS a) (f now : Int) (T : ByteArray) : ∃ r : List HeldR × ByteArray × Bool, (r.1 = a ∨ ∃ (id : Int) (c p : Nat) (t : ByteArray), shelfB a = true ∧ (1 ≤ f ∧ f ≤ 99) ∧ (0 ≤ id ∧ id ≤ 255) ∧ (2 ≤ c ∧ c ≤ 15) ∧ p < c ∧ t.size ≤ 120 ∧ (0 ≤ now ∧ now ≤ 999999992) ∧ r = addR a f id now c p t) ∧
    s_AddPart k ((a, ()), (f, (T, (now, ())))) = some (((r.1, ()), (r.2.1, (r.2.2, ()))), ((), ((), ((), ((), ()))))) ∧
    i_AddPart k ((a, ()), (f, (T, (now, ())))) = some (((r.1, ()), (r.2.1, (r.2.2, ()))), ((), ((), ((), ((), ()))))) := by
  obtain ⟨id, pl, c, t, ok, hr, hok⟩ := readPart_facts k T
  have hr' : i_ReadPart k (T, ()) = some ((id, (pl, (c, (t, (ok, ()))))), ((), ())) := hr
  have hl : a.length ≤ 1048576 := hb.1
  have c1 := s_l20Copy_t_is k a hk hb
  have c2 := i_copyShelf_is k a hk hb
  have s1 := s_ShelfOk_is k a hk hl
  have s2 := i_ShelfOk_is k a hk hl
  rw [shelfB_foldE] at s1 s2
  by_cases H : shelfB a = true ∧ (1 ≤ f ∧ f ≤ 99) ∧ ok = true ∧ t.size ≤ 120 ∧ (0 ≤ now ∧ now ≤ 999999992)
  · obtain ⟨h1, h2, h3, h4, h5⟩ := H
    subst h3
    obtain ⟨k1, k2, k3, k4⟩ := hok rfl
    by_cases h6 : c = 1
    · refine ⟨(a, (t, true)), .inl rfl, ?_, ?_⟩
      · have hsz : ¬ (120 : Int) < (t.size : Int) := by omega
        unfold s_AddPart
        simp only [c1, s1, hr, h1, l01In_is, h2, hsz, h5, h6, Option.bind_some, decide_true, decide_false, Bool.not_true, Bool.false_eq_true, if_false, if_true, and_self]
      · have hsz : ¬ (120 : Int) < (t.size : Int) := by omega
        unfold i_AddPart
        simp only [c2, s2, hr', h1, isId_is, within_is, h2, hsz, h5, h6, Option.bind_some, decide_true, decide_false, Bool.not_true, Bool.false_eq_true, if_false, if_true, and_self]
    · obtain ⟨c', rfl⟩ : ∃ c' : Nat, c = (c' : Int) := ⟨c.toNat, by omega⟩
      obtain ⟨p, rfl⟩ : ∃ p : Nat, pl = (p : Int) := ⟨pl.toNat, by omega⟩
      exact ⟨addR a f id now c' p t, .inr ⟨id, c', p, t, h1, h2, k4, by omega, by omega, h4, h5, rfl⟩,
        s_add k hk a f id now c' p t T h1 hr h2 (by omega) (by omega) h4 h5, i_add k hk a f id now c' p t T h1 hr' h2 (by omega) (by omega) h4 h5⟩
  · refine ⟨(a, (⟨#[]⟩, false)), .inl rfl, ?_, ?_⟩
    · unfold s_AddPart
      simp only [c1, s1, hr, l01In_is, Option.bind_some]
      by_cases h1 : shelfB a = true
      · by_cases h2 : 1 ≤ f ∧ f ≤ 99
        · by_cases h3 : ok = true
          · by_cases h4 : (120 : Int) < (t.size : Int)
            · simp [h1, h2, h3, h4]
            · by_cases h5 : 0 ≤ now ∧ now ≤ 999999992
              · exact absurd ⟨h1, h2, h3, by omega, h5⟩ H
              · simp only [h1, h2, h3, h4, h5, decide_true, decide_false, and_self, Bool.not_true, Bool.not_false, if_true, Bool.false_eq_true, if_false]
          · simp [h1, h2, h3]
        · simp only [h1, h2, decide_false, Bool.not_true, Bool.not_false, if_true, Bool.true_eq_false, if_false]
      · simp [h1]
    · unfold i_AddPart
      simp only [c2, s2, hr', isId_is, within_is, Option.bind_some]
      by_cases h1 : shelfB a = true
      · by_cases h2 : 1 ≤ f ∧ f ≤ 99
        · by_cases h3 : ok = true
          · by_cases h4 : (120 : Int) < (t.size : Int)
            · simp [h1, h2, h3, h4]
            · by_cases h5 : 0 ≤ now ∧ now ≤ 999999992
              · exact absurd ⟨h1, h2, h3, by omega, h5⟩ H
              · simp only [h1, h2, h3, h4, h5, decide_true, decide_false, and_self, Bool.not_true, Bool.not_false, if_true, Bool.false_eq_true, if_false]
          · simp [h1, h2, h3]
        · simp only [h1, h2, decide_false, Bool.not_true, Bool.not_false, if_true, Bool.true_eq_false, if_false]
      · simp [h1]
structure GoodR (r : HeldR) (f id : Int) (n : Nat) (P : Nat → ByteArray) (S : Nat → Bool) (u : Int) : Prop where
  eq : r = heldR f id n P S u
  hf : 1 ≤ f ∧ f ≤ 99
  hid : 0 ≤ id ∧ id ≤ 255
  hn : 2 ≤ n ∧ n ≤ 15
  hu : 0 ≤ u ∧ u ≤ 1000000000
  size : ∀ j, j < n → (P j).size ≤ 120
  some : ∃ j, j < n ∧ S j = true
  lack : ∃ j, j < n ∧ S j = false
theorem held_good {r : HeldR} (h : heldB (ag_Held r) = true) : GoodR r r.1 r.2.1 r.2.2.1.toNat (fun j => r.2.2.2.1.getD j ⟨#[]⟩) (fun j => r.2.2.2.2.1.getD j false) r.2.2.2.2.2 := by
  obtain ⟨r1, r2, r3, r4, r5, r6⟩ := r
  unfold heldB ag_Held at h
  simp only [Bool.and_eq_true, decide_eq_true_eq] at h
  obtain ⟨⟨h1, h2, h3, h4, h5, h6⟩, h7⟩ := h
  have hg := gH_all _ _ _ h7
  simp only at h1 h2 h3 h4 h5 h6 hg ⊢
  have l4 : r4.length = r3.toNat := by omega
  have l5 : r5.length = r3.toNat := by omega
  have hrow : ∀ j, j < r3.toNat → (r4.getD j ⟨#[]⟩).size ≤ 120 ∧ (r5.getD j false = true ∨ r4.getD j ⟨#[]⟩ = ⟨#[]⟩) := fun j hj => by
    have := hg j (by omega) (by omega)
    unfold goodP at this
    simp only [Bool.and_eq_true, Bool.or_eq_true, decide_eq_true_eq] at this
    exact this
  have e4 : r4 = pS r3.toNat (fun j => r4.getD j ⟨#[]⟩) (fun j => r5.getD j false) := by
    refine List.ext_getElem (by rw [pS_len]; exact l4) fun j hj hj' => ?_
    have := (hrow j (by omega)).2
    simp only [pS, List.getElem_map, List.getElem_range]
    split
    · simp [List.getD, hj]
    · rename_i hn
      have := this.resolve_left hn
      simpa [List.getD, hj] using this
  have e5 : r5 = hS r3.toNat (fun j => r5.getD j false) := by rw [← l5]; exact (hS_of r5).symm
  have hcnt := h7
  have e7 : foldE (gH r4 r5) (fun n => (decide (1 ≤ n ∧ n < r3), ((), ()))) r3.toNat 0 0 = (decide (1 ≤ 0 + (((List.range' 0 r3.toNat).countP (fun j => r5.getD j false) : Nat) : Int) ∧ 0 + (((List.range' 0 r3.toNat).countP (fun j => r5.getD j false) : Nat) : Int) < r3), ((), ())) := by
    have := gH_cnt r3.toNat (fun j => r4.getD j ⟨#[]⟩) (fun j => r5.getD j false) (fun j hj => (hrow j hj).1) (fun n => (decide (1 ≤ n ∧ n < r3), ((), ()))) r3.toNat 0 0 (by omega)
    rw [← e4, ← e5] at this
    exact this
  simp only [e7, decide_eq_true_eq] at hcnt
  refine ⟨?_, h1, h2, by omega, h6, fun j hj => (hrow j hj).1, ?_, ?_⟩
  · unfold heldR
    rw [← e4, ← e5, Int.toNat_of_nonneg (by omega)]
  · have hp : 0 < (List.range' 0 r3.toNat).countP (fun j => r5.getD j false) := by omega
    obtain ⟨j, hj, hs⟩ := List.countP_pos_iff.1 hp
    exact ⟨j, by simpa using hj, hs⟩
  · refine Classical.byContradiction fun hne => ?_
    have hall : ∀ j ∈ List.range' 0 r3.toNat, r5.getD j false = true := fun j hj => by
      cases hb : r5.getD j false with
      | true => rfl
      | false => exact absurd ⟨j, by simpa using hj, hb⟩ hne
    have := List.countP_eq_length.2 hall
    simp only [List.length_range'] at this
    omega
theorem full_hS (n : Nat) (S : Nat → Bool) : fullB (hS n S) = (List.range n).all S := by
  unfold fullB
  rw [hS_len]
  refine (Bool.eq_iff_iff).2 ?_
  rw [List.all_eq_true, List.all_eq_true]
  refine ⟨fun h j hj => ?_, fun h j hj => ?_⟩
  · have := h j hj
    rw [show (hS n S).getD j false = S j from rd_bool n S j (by simpa using hj)] at this
    exact this
  · rw [show (hS n S).getD j false = S j from rd_bool n S j (by simpa using hj)]
    exact h j hj
theorem lack_of {n : Nat} {S : Nat → Bool} (h : (List.range n).all S = false) : ∃ j, j < n ∧ S j = false := by
  rw [List.all_eq_false] at h
  obtain ⟨j, hj, hs⟩ := h
  exact ⟨j, by simpa using hj, by simpa using hs⟩
theorem put_good {r : HeldR} {p : Nat} {t : ByteArray} (h : heldB (ag_Held r) = true) (hp : (p : Int) < r.2.2.1) (ht : t.size ≤ 120) (hf : fullB (putP p t r).2.2.2.2.1 = false) : heldB (ag_Held (putP p t r)) = true := by
  have hg := held_good h
  generalize (fun j => r.2.2.2.1.getD j ⟨#[]⟩) = P at hg
  generalize (fun j => r.2.2.2.2.1.getD j false) = S at hg
  have hn : (p : Nat) < r.2.2.1.toNat := by omega
  generalize r.2.2.1.toNat = n at hg hn
  generalize r.1 = f at hg
  generalize r.2.1 = id at hg
  generalize r.2.2.2.2.2 = u at hg
  obtain ⟨rfl, g1, g2, g3, g4, g5, g6, g7⟩ := hg
  have hSp : (hS n S).getD p false = S p := rd_bool n S p hn
  unfold putP heldR at hf ⊢
  simp only [hSp] at hf ⊢
  cases hs : S p with
  | true => simp only [if_true]; exact heldB_S g1 g2 g3 g4 g5 g6 g7
  | false =>
    rw [hs] at hf
    simp only [Bool.false_eq_true, if_false] at hf ⊢
    have ep : pS n P S = pS n (fun j => if j = p then t else P j) S := by
      unfold pS
      refine List.map_congr_left fun j _ => ?_
      by_cases e : j = p
      · subst e; simp [hs]
      · simp [e]
    have e1 : (pS n P S).set p t = pS n (fun j => if j = p then t else P j) (andS S p) := by
      have := pS_set n p (fun j => if j = p then t else P j) S
      simp only [if_true] at this
      rw [ep, this]
    rw [hS_set, full_hS] at hf
    rw [e1, hS_set]
    refine heldB_S g1 g2 g3 g4 (fun j hj => ?_) ⟨p, hn, by simp [andS]⟩ (lack_of hf)
    split
    · exact ht
    · exact g5 j hj
theorem new_good {f id now : Int} {c p : Nat} {t : ByteArray} (hf : 1 ≤ f ∧ f ≤ 99) (hid : 0 ≤ id ∧ id ≤ 255) (hc : 2 ≤ c ∧ c ≤ 15) (hp : p < c) (ht : t.size ≤ 120) (hnow : 0 ≤ now ∧ now ≤ 999999992) : heldB (ag_Held (newR f id now c p t)) = true := by
  have hfull := new_full (f := f) (id := id) (now := now) (t := t) hc.1 hp
  have e : newR f id now c p t = heldR f id c (fun _ => t) (andS (fun _ => false) p) (now + 8) := by
    have e0 : (List.replicate c false).getD p false = false := by simp [List.getD, List.getElem?_replicate, hp]
    have e1 := pS_set c p (fun _ => t) (fun _ => false)
    have e2 := hS_set c p (fun _ => false)
    unfold newR putP heldR
    simp only [e0, Bool.false_eq_true, if_false]
    rw [rep_pS c (fun _ => t), rep_hS, e1, e2]
  rw [e] at hfull ⊢
  have hl : (List.range c).all (andS (fun _ => false) p) = false := by rw [← full_hS]; exact hfull
  exact heldB_S (u := now + 8) hf hid hc (by omega) (fun j hj => ht) ⟨p, hp, by simp [andS]⟩ (lack_of hl)
theorem putP_key (p : Nat) (t : ByteArray) (r : HeldR) : (putP p t r).1 = r.1 ∧ (putP p t r).2.1 = r.2.1 := by
  unfold putP
  split <;> exact ⟨rfl, rfl⟩
def far (x y : HeldR) : Prop := ¬ (x.1 = y.1 ∧ x.2.1 = y.2.1)
structure ShelfG (a : List HeldR) : Prop where
  len : a.length ≤ 3
  ok : ∀ r ∈ a, heldB (ag_Held r) = true
  once : a.Pairwise far
theorem foldE_true {g : Nat → Unit → (Bool × Unit × Unit) ⊕ Unit} {fin : Unit → Bool × Unit × Unit} : ∀ m i, (∀ j, i ≤ j → j < i + m → g j () = .inr ()) → foldE g fin m i () = fin () := by
  intro m
  induction m with
  | zero => intro i _; rfl
  | succ m ih =>
    intro i h
    have e := h i (by omega) (by omega)
    rw [foldE, e]
    exact ih (i + 1) fun j h1 h2 => h j (by omega) (by omega)
theorem shelfB_G {a : List HeldR} (h : shelfB a = true) : ShelfG a := by
  have hA := shelfB_ok h
  have hall := foldE_all (gS_or a) a.length 0 h
  refine ⟨hA.len, fun r hr => ?_, ?_⟩
  · obtain ⟨i, hi, rfl⟩ := List.getElem_of_mem hr
    have := hall i (by omega) (by omega)
    unfold gS at this
    split at this
    · rename_i hc
      rw [rd_held (List.getElem?_eq_getElem hi)] at hc
      simp only [Bool.and_eq_true] at hc
      exact hc.1
    · cases this
  · rw [List.pairwise_iff_getElem]
    exact fun i j hi hj hij hh => hA.once j i _ _ (List.getElem?_eq_getElem hj) (List.getElem?_eq_getElem hi) hij hh
theorem shelfG_B {a : List HeldR} (h : ShelfG a) : shelfB a = true := by
  unfold shelfB
  rw [foldE_true]
  · have := h.len
    simp only [decide_eq_true_eq]
    omega
  · intro i _ hi
    have hi' : i < a.length := by omega
    unfold gS
    rw [rd_held (List.getElem?_eq_getElem hi'), h.ok _ (List.getElem_mem hi'), if_pos]
    simp only [Bool.true_and]
    rw [all_false_iff]
    intro j hj
    have hj' : j < a.length := by omega
    have := (List.pairwise_iff_getElem.1 h.once) j i hj' hi' hj
    unfold sameH
    rw [rd_held (List.getElem?_eq_getElem hj'), rd_held (List.getElem?_eq_getElem hi')]
    unfold far at this
    by_cases e1 : a[j].1 = a[i].1
    · by_cases e2 : a[j].2.1 = a[i].2.1
      · exact absurd ⟨e1, e2⟩ this
      · simp [e2]
    · simp [e1]
theorem ShelfG.sub {a b : List HeldR} (h : ShelfG a) (hs : b.Sublist a) : ShelfG b :=
  ⟨Nat.le_trans hs.length_le h.len, fun r hr => h.ok r (hs.subset hr), h.once.sublist hs⟩
theorem roll_sub (a : List HeldR) : (roll a).Sublist a := by
  unfold roll
  split
  · exact List.drop_sublist _ _
  · exact List.Sublist.refl _
theorem shelf_new {b : List HeldR} (h : ShelfG b) {r : HeldR} (hr : heldB (ag_Held r) = true) (hn : ∀ x ∈ b, ¬ (x.1 = r.1 ∧ x.2.1 = r.2.1)) : ShelfG (roll b ++ [r]) := by
  have hb := h.sub (roll_sub b)
  refine ⟨?_, fun x hx => ?_, ?_⟩
  · rw [List.length_append, List.length_cons, List.length_nil]
    unfold roll
    have := h.len
    split
    · rw [List.length_drop]; omega
    · omega
  · rcases List.mem_append.1 hx with hx | hx
    · exact hb.ok x hx
    · rw [List.mem_singleton.1 hx]; exact hr
  · rw [List.pairwise_append]
    refine ⟨hb.once, List.pairwise_singleton _ _, fun x hx y hy => ?_⟩
    rw [List.mem_singleton.1 hy]
    exact hn x ((roll_sub b).subset hx)
theorem add_shelf {a : List HeldR} (ha : shelfB a = true) (f id now : Int) (c p : Nat) (t : ByteArray) (hf : 1 ≤ f ∧ f ≤ 99) (hid : 0 ≤ id ∧ id ≤ 255) (hc : 2 ≤ c ∧ c ≤ 15) (hp : p < c) (ht : t.size ≤ 120) (hnow : 0 ≤ now ∧ now ≤ 999999992) : shelfB (addR a f id now c p t).1 = true := by
  have hA := shelfB_ok ha
  have hG := shelfB_G ha
  have hsp := find_split hA f id
  have hnew := new_good (f := f) (id := id) (now := now) hf hid hc hp ht hnow
  have hkey : (newR f id now c p t).1 = f ∧ (newR f id now c p t).2.1 = id := putP_key p t _
  unfold addR
  cases hq : (List.range a.length).find? (sameK a f id) with
  | none =>
    rw [hq] at hsp
    dsimp only at hsp ⊢
    exact shelfG_B (shelf_new hG hnew fun x hx hh => hsp x hx ⟨hh.1.trans hkey.1, hh.2.trans hkey.2⟩)
  | some i =>
    rw [hq] at hsp
    dsimp only at hsp ⊢
    obtain ⟨u, y, v, rfl, rfl, hy, hu, hv⟩ := hsp
    have hrd : Ty.rd (t := RT_Held) (u ++ y :: v) ((u.length : Nat) : Int) = y := rd_held (by simp)
    have hel : (u ++ y :: v).eraseIdx u.length = u ++ v := by simp [List.eraseIdx_append_of_length_le]
    have hset : ∀ z, (u ++ y :: v).set u.length z = u ++ z :: v := fun z => by simp
    have hsub : (u ++ v).Sublist (u ++ y :: v) := List.Sublist.append (List.Sublist.refl _) (List.sublist_cons_self _ _)
    rw [hrd, hel, hset]
    have hyB := hG.ok y (by simp)
    by_cases hcnt : y.2.2.1 = (c : Int)
    · rw [if_pos hcnt]
      split
      · exact shelfG_B (hG.sub hsub)
      · rename_i hfull
        have hput := put_good hyB (p := p) (by omega) ht (by simpa using hfull)
        have hpk := putP_key p t y
        refine shelfG_B ⟨by have := hG.len; simp only [List.length_append, List.length_cons] at this ⊢; exact this, fun x hx => ?_, ?_⟩
        · simp only [List.mem_append, List.mem_cons] at hx
          rcases hx with hx | rfl | hx
          · exact hG.ok x (by simp [hx])
          · exact hput
          · exact hG.ok x (by simp [hx])
        · have h0 := hG.once
          rw [List.pairwise_append, List.pairwise_cons] at h0 ⊢
          obtain ⟨h1, ⟨h2, h3⟩, h4⟩ := h0
          refine ⟨h1, ⟨fun x hx hh => h2 x hx ⟨hpk.1.symm.trans hh.1, hpk.2.symm.trans hh.2⟩, h3⟩, fun x hx z hz => ?_⟩
          rcases List.mem_cons.1 hz with rfl | hz
          · exact fun hh => h4 x hx y (by simp) ⟨hh.1.trans hpk.1, hh.2.trans hpk.2⟩
          · exact h4 x hx z (by simp [hz])
    · rw [if_neg hcnt]
      refine shelfG_B (shelf_new (hG.sub hsub) hnew fun x hx hh => ?_)
      rcases List.mem_append.1 hx with hx | hx
      · exact hu x hx ⟨hh.1.trans hkey.1, hh.2.trans hkey.2⟩
      · exact hv x hx ⟨hh.1.trans hkey.1, hh.2.trans hkey.2⟩
theorem addPart_shelf (k : Nat) (hk : 1048576 < k) (a : List HeldR) (ha : shelfB a = true) (f now : Int) (T : ByteArray) : ∃ r : List HeldR × ByteArray × Bool, shelfB r.1 = true ∧
    s_AddPart k ((a, ()), (f, (T, (now, ())))) = some (((r.1, ()), (r.2.1, (r.2.2, ()))), ((), ((), ((), ((), ()))))) ∧
    i_AddPart k ((a, ()), (f, (T, (now, ())))) = some (((r.1, ()), (r.2.1, (r.2.2, ()))), ((), ((), ((), ((), ()))))) := by
  obtain ⟨r, hr, h1, h2⟩ := addPart_is0 k hk a (bd_held (shelfB_ok ha)) f now T
  refine ⟨r, ?_, h1, h2⟩
  rcases hr with hr | ⟨id, c, p, t, g1, g2, g3, g4, g5, g6, g7, rfl⟩
  · rw [hr]; exact ha
  · exact add_shelf ha f id now c p t g2 g3 g4 g5 g6 g7
theorem s_split_all (k : Nat) (hk : 20 < k) (id size : Int) (s : ByteArray) (h1 : 0 ≤ id ∧ id ≤ 255) (h2 : 20 ≤ size ∧ size ≤ 120) : ∃ (l : List ByteArray) (ok : Bool), s_Split k (id, (s, (size, ()))) = some ((l, (ok, ())), ((), ((), ((), ())))) ∧ (ok = true → 0 < l.length ∧ l.length ≤ 15) := by
  by_cases h3 : (s.size : Int) ≤ 300
  · have hc : 1 ≤ cntOf s.size size := by unfold cntOf; split <;> omega
    rw [s_Split_ok _ id size s h1 h2 h3 hk]
    split
    · exact ⟨[], false, rfl, by simp⟩
    · exact ⟨_, true, rfl, fun _ => by simp only [List.length_map, List.length_range]; omega⟩
  · refine ⟨[], false, ?_, by simp⟩
    unfold s_Split
    have : (300 : Int) < (s.size : Int) := by omega
    simp [l01In_is, h1, h2, this]
theorem l20Long_is (k : Nat) (c : Cur) (hc : CurOk c) (hk : 2097152 < k) : ∃ (s : ByteArray) (c' : Cur), s_l20Long k (c, ()) = some (s, (c', ())) ∧ CurOk c' := by
  have hmx : (10000 : Nat) ≤ maxStr := by decide
  obtain ⟨v1, c1, h1, q1, q1', hc1⟩ := Below_is k c 9 hc
  obtain ⟨t, c2, h2, q2, hc2⟩ := Text_is k c1 v1 hc1 (by omega)
  obtain ⟨v3, c3, h3, q3, hc3⟩ := PickInt_is k c2 [0, 10, 20, 40, 55, 90, 200] hc2 (by simp)
  obtain ⟨v4, c4, h4, q4, q4', hc4⟩ := Below_is k c3 9 hc3
  have q3' : 0 ≤ v3 ∧ v3 ≤ 5000 := by
    simp only [List.mem_cons, List.not_mem_nil, or_false] at q3
    omega
  obtain ⟨t5, h5, q5⟩ := Long_is k v3 (wu8 (wi64 (65 + v4))) q3'.1 q3'.2 (by omega)
  refine ⟨t ++ t5, c4, ?_, hc4⟩
  unfold s_l20Long
  have hsz : t.size + t5.size ≤ maxStr := by omega
  simp only [h1, h2, h3, h4, h5, hsz, if_true, Option.bind_some]
theorem l20Shelf_is (k : Nat) (c : Cur) (hc : CurOk c) (hk : 2097152 < k) : ∃ t : List HeldR × Cur, s_l20Shelf k (c, ()) = some ((fun t : List HeldR × Cur => ((t.1, ()), (t.2, ()))) t) ∧ shelfB t.1 = true ∧ CurOk t.2 := by
  unfold s_l20Shelf
  refine whileK_some (T := List HeldR × Cur) (g := fun t : List HeldR × Cur => ((t.1, ()), (t.2, ()))) (fun y : Cur × (List HeldR × Unit) × (List HeldR × Unit) × Int × Unit => (9 - y.2.2.2.1).toNat) (fun y => CurOk y.1 ∧ shelfB y.2.2.1.1 = true ∧ 0 ≤ y.2.2.2.1) (fun _ t => shelfB t.1 = true ∧ CurOk t.2) ?_ k (c, (([], ()), (([], ()), ((0 : Int), ())))) ⟨hc, rfl, by simp⟩ (by simp only; omega)
  rintro ⟨c0, h0, ⟨a, ⟨⟩⟩, i, ⟨⟩⟩ ⟨g1, g2, g3⟩ again hg
  simp only at g1 g2 g3 hg
  obtain ⟨v1, c1, e1, q1, q1', hc1⟩ := Below_is k c0 9 g1
  have q1'' := q1' (by omega)
  simp only [e1, Option.bind_some]
  by_cases hi : i < v1
  · have w : wi64 (i + 1) = i + 1 := w64_id _ (by omega)
    obtain ⟨v2, c2, e2, q2, q2', hc2⟩ := Below_is k c1 3 hc1
    obtain ⟨s3, c3, e3, hc3⟩ := l20Long_is k c2 hc2 hk
    obtain ⟨v4, c4, e4, q4, q4', hc4⟩ := Below_is k c3 20 hc3
    have q2'' := q2' (by omega)
    have q4'' := q4' (by omega)
    have w4 : wi64 (20 + v4) = 20 + v4 := w64_id _ (by omega)
    obtain ⟨l, ok, e5, hok⟩ := s_split_all k (by omega) v2 (20 + v4) s3 (by omega) (by omega)
    simp only [hi, e2, e3, e4, w4, e5, decide_true, if_true, Option.bind_some, w]
    cases ok with
    | false =>
      simp only [Bool.false_eq_true, if_false]
      exact hg _ ⟨hc4, g2, by simp only; omega⟩ (by simp only; omega)
    | true =>
      obtain ⟨l1, l2⟩ := hok rfl
      obtain ⟨v6, c6, e6, q6, q6', hc6⟩ := Below_is k c4 2 hc4
      obtain ⟨v7, c7, e7, q7, q7', hc7⟩ := Below_is k c6 (l.length : Int) hc6
      obtain ⟨v8, c8, e8, q8, q8', hc8⟩ := Below_is k c7 20 hc7
      have q7'' := q7' (by omega)
      have b7 : 0 ≤ v7 ∧ v7 < (l.length : Int) := by omega
      obtain ⟨r, hr, hs, _⟩ := addPart_shelf k (by omega) a g2 (wi64 (1 + v6)) v8 (Ty.rd (t := .str) l v7)
      simp only [if_true, e6, e7, e8, b7, and_self, hs, Option.bind_some]
      exact hg _ ⟨hc8, hr, by simp only; omega⟩ (by simp only; omega)
  · simp only [hi, decide_false, Bool.false_eq_true, if_false]
    exact ⟨(a, c1), rfl, g2, hc1⟩
theorem DrawShelf_is (k : Nat) (a : List Int) (ha : a.length ≤ 1048576) (hk : 2097152 < k) : ∃ (h : List HeldR) (s : ByteArray) (now : Int), s_DrawShelf k (a, ()) = some (((h, ()), (s, (now, ()))), ((), ())) ∧ shelfB h = true ∧ (0 ≤ now ∧ now < 30) := by
  obtain ⟨c, h0, hc⟩ := New_is k a ha (by omega)
  obtain ⟨⟨b, c2⟩, h2, hb, hc2⟩ := l20Shelf_is k c hc hk
  simp only at h2 hb hc2
  obtain ⟨v3, c3, h3, q3, q3', hc3⟩ := Below_is k c2 3 hc2
  obtain ⟨s4, c4, h4, hc4⟩ := l20Long_is k c3 hc3 hk
  obtain ⟨v5, c5, h5, q5, q5', hc5⟩ := Below_is k c4 20 hc4
  have q3'' := q3' (by omega)
  have q5'' := q5' (by omega)
  have w5 : wi64 (20 + v5) = 20 + v5 := w64_id _ (by omega)
  obtain ⟨l, ok, h6, hok⟩ := s_split_all k (by omega) v3 (20 + v5) s4 (by omega) (by omega)
  unfold s_DrawShelf
  simp only [h0, h2, h3, h4, h5, w5, h6, Option.bind_some]
  cases ok with
  | false => exact ⟨b, ⟨#[97, 98, 99]⟩, 3, by simp only [Bool.not_false, if_true], hb, by omega⟩
  | true =>
    obtain ⟨l1, l2⟩ := hok rfl
    obtain ⟨v7, c7, h7, q7, q7', hc7⟩ := Below_is k c5 (l.length : Int) hc5
    obtain ⟨v8, c8, h8, q8, q8', hc8⟩ := Below_is k c7 30 hc7
    have q7'' := q7' (by omega)
    have q8'' := q8' (by omega)
    have b7 : 0 ≤ v7 ∧ v7 < (l.length : Int) := by omega
    exact ⟨b, Ty.rd (t := .str) l v7, v8, by simp only [Bool.not_true, Bool.false_eq_true, if_false, h7, h8, b7, and_self, if_true, Option.bind_some], hb, by omega⟩
theorem loop_cnt {X R A : Type} {step : (X → Option R) → X → Option R} (a : List A) (D : A → Bool) (st : Nat → Int → X) {r : Option R}
    (hs : ∀ again i (n : Nat) x, n ≤ i → i < a.length → a[i]? = some x → step again (st i n) = again (st (i + 1) ((n + (if D x = true then 1 else 0) : Nat) : Int)))
    (he : ∀ again, step again (st a.length ((a.countP D : Nat) : Int)) = r) : ∀ k, a.length < k → whileK step k (st 0 0) = r := by
  have key : ∀ (s p : List A) k, p ++ s = a → s.length < k → whileK step k (st p.length ((p.countP D : Nat) : Int)) = r := by
    intro s
    induction s with
    | nil =>
      intro p k h hk
      obtain ⟨k, rfl⟩ : ∃ k', k = k' + 1 := ⟨k - 1, by omega⟩
      have : p = a := by simpa using h
      subst this
      exact he _
    | cons x s ih =>
      intro p k h hk
      obtain ⟨k, rfl⟩ : ∃ k', k = k' + 1 := ⟨k - 1, by omega⟩
      show step _ _ = _
      subst h
      rw [hs _ _ _ x List.countP_le_length (by simp) (by simp)]
      have := ih (p ++ [x]) k (by simp) (by simpa using hk)
      rw [List.countP_append, List.countP_cons, List.countP_nil, Nat.zero_add, List.length_append] at this
      exact this
  intro k hk
  exact key a [] k (by simp) hk
theorem shelves_law (k : Nat) (hk : 2097152 < k) (code : List Int) : ∃ o, w_FnShelves k (code, ()) = some (true, o) := by
  unfold w_FnShelves
  have hbig : w_big k (code, ()) = some (decide ((1048576 : Int) < (code.length : Int)), ((), ())) := rfl
  simp only [hbig, Option.bind_some]
  by_cases hb : (1048576 : Int) < (code.length : Int)
  · exact ⟨((), ()), by simp [hb]⟩
  obtain ⟨h, s, now, e1, hh, hn⟩ := DrawShelf_is k code (by omega) hk
  obtain ⟨r, hr, e2, e3⟩ := addPart_shelf k (by omega) h hh 1 now s
  obtain ⟨a, w, d⟩ := r
  simp only at hr e2 e3
  have hA := shelfB_ok hr
  have hl := hA.len
  have w3 : wi64 (now + 3) = now + 3 := w64_id _ (by omega)
  have e4 := i_TidyShelf_is k a (now + 3) (by omega) (bd_held hA)
  have eD : (fun x : HeldR => !decide (x.2.2.2.2.2 ≤ now + 3)) = fun x => decide (now + 3 < x.2.2.2.2.2) := by
    funext x
    by_cases q : now + 3 < x.2.2.2.2.2
    · have : ¬ x.2.2.2.2.2 ≤ now + 3 := by omega
      simp [q, this]
    · have : x.2.2.2.2.2 ≤ now + 3 := by omega
      simp [q, this]
  rw [eD] at e4
  have hT : shelfB (a.filter fun x => decide (now + 3 < x.2.2.2.2.2)) = true := shelfG_B ((shelfB_G hr).sub List.filter_sublist)
  have hcnt : (a.filter fun x => decide (now + 3 < x.2.2.2.2.2)).length = a.countP fun x => decide (now + 3 < x.2.2.2.2.2) := List.countP_eq_length_filter.symm
  have hTl := (shelfB_ok hT).len
  have hall : ∀ x ∈ a.filter (fun x => decide (now + 3 < x.2.2.2.2.2)), now + 3 < x.2.2.2.2.2 := fun x hx => by simpa using (List.mem_filter.1 hx).2
  generalize a.filter (fun x => decide (now + 3 < x.2.2.2.2.2)) = t at e4 hT hcnt hTl hall
  have s1 : i_ShelfOk k ((h, ()), ()) = some (true, ((), ())) := by rw [i_ShelfOk_is k h (by omega) (by have := (shelfB_ok hh).len; omega), shelfB_foldE, hh]
  have s2 : i_ShelfOk k ((a, ()), ()) = some (true, ((), ())) := by rw [i_ShelfOk_is k a (by omega) (by omega), shelfB_foldE, hr]
  have s3 : i_ShelfOk k ((t, ()), ()) = some (true, ((), ())) := by rw [i_ShelfOk_is k t (by omega) (by omega), shelfB_foldE, hT]
  refine ⟨((), ()), ?_⟩
  simp only [hb, e1, e2, e3, e4, w3, decide_false, Bool.false_eq_true, if_false, Option.bind_some]
  refine (find_loop_opt (fun i => ((h, ()), (now, ((a, ()), (w, (d, (w, (d, ((t, ()), ((i : Int), ())))))))))) t.length (fun _ => false) none _ ?_ ?_ k (by omega)).trans (if_pos (by simp))
  · intro again i hi
    have q1 : (i : Int) < (t.length : Int) := by omega
    have q2 : (0 : Int) ≤ (i : Int) ∧ (i : Int) < (t.length : Int) := by omega
    have wi : wi64 ((i : Int) + 1) = ((i + 1 : Nat) : Int) := (w64_id _ (by omega)).trans (by omega)
    have hx := hall t[i] (List.getElem_mem hi)
    have hrd : Ty.rd (t := HT) t ((i : Nat) : Int) = t[i] := rd_held (List.getElem?_eq_getElem hi)
    have hno : ¬ t[i].2.2.2.2.2 ≤ now + 3 := by omega
    simp only [q1, q2, wi, w3, hrd, hno, decide_true, decide_false, and_self, Bool.false_eq_true, if_false, if_true]
  · intro again
    have : ¬ (t.length : Int) < (t.length : Int) := by omega
    simp only [this, decide_false, Bool.false_eq_true, if_false]
    refine loop_cnt a (fun x => decide (now + 3 < x.2.2.2.2.2)) (fun i n => ((h, ()), (now, ((a, ()), (w, (d, (w, (d, ((t, ()), (n, ((i : Int), ()))))))))))) ?_ ?_ k (by omega)
    · intro again i n x hni hi hx
      have q1 : (i : Int) < (a.length : Int) := by omega
      have q2 : (0 : Int) ≤ (i : Int) ∧ (i : Int) < (a.length : Int) := by omega
      have wi : wi64 ((i : Int) + 1) = ((i + 1 : Nat) : Int) := (w64_id _ (by omega)).trans (by omega)
      have wn : wi64 ((n : Int) + 1) = ((n + 1 : Nat) : Int) := (w64_id _ (by omega)).trans (by omega)
      have hrd : Ty.rd (t := HT) a ((i : Nat) : Int) = x := rd_held hx
      simp only [q1, q2, wi, wn, w3, hrd, decide_true, and_self, if_true]
      by_cases q : now + 3 < x.2.2.2.2.2
      · simp only [q, decide_true, if_true]
      · simp only [q, decide_false, Bool.false_eq_true, if_false, Nat.add_zero]
    · intro again
      have : ¬ (a.length : Int) < (a.length : Int) := by omega
      simp only [this, decide_false, Bool.false_eq_true, if_false, s1, s2, s3, hcnt, decide_true, if_true, Option.bind_some]
theorem pure_FnShelves (x : argsDen pars_FnShelves) (_hx : argsWf pars_FnShelves x) : ∃ k o, w_FnShelves k (argsX pars_FnShelves x) = some (true, o) := by
  obtain ⟨code, u⟩ := x
  exact ⟨2097153, shelves_law 2097153 (by decide) code⟩
open Go.ChangeShapes Go.WideShapes Go.ChangeAt Go.RowKit
theorem own_FnShelves : ownKnob Try.prog.godebug = none := by kernel_rfl
theorem lifted_FnShelves (os : Os) (started : os.Started) (H : Type) (enc : TypeId × Value → H) :
    ReturnsInHanded {} Try.checked os 5 .any (Rows.fnShelvesSpec.pre6 enc Try.prog Try.f5 Rows.fnShelvesRow.domain false) (Rows.fnShelvesSpec.post enc Try.prog Try.f5 false true false false) :=
  law_lifted (C := Try.checked) (l := pars_FnShelves) (rb := 4) own_FnShelves started (by kernel_rfl) Try.func5
    (ChangeSpec.witness6 (enc := enc) (C := Try.checked) false ⟨#[], #[.slice none 0 0], []⟩ 8 (by kernel_rfl) (by kernel_rfl) (by kernel_rfl) (by kernel_rfl))
    e_w_FnShelves rfl (by decide) pure_FnShelves (by kernel_rfl) rfl Try.underlying4 (by kernel_rfl) (by kernel_rfl) rfl (fun _ => ⟨fun _ h => h.elim, trivial⟩)
    (fun ds h => match ds, h with | [_], _ => rfl)
theorem inPlace_FnShelves : Try.prog.inPlace 5 = Rows.fnShelvesRow.inPlace := by kernel_rfl
theorem unfollowed_FnShelves : Try.prog.unfollowed 5 = Rows.fnShelvesRow.unfollowed := by kernel_rfl
theorem recurses_FnShelves : Try.prog.recurses 5 = Rows.fnShelvesRow.recurses := by kernel_rfl
theorem named_FnShelves : Try.prog.varsNamed 5 = Rows.fnShelvesRow.named := by kernel_rfl
theorem facts_FnShelves : joinedFacts Try.prog 5 Try.f5 Rows.fnShelvesSpec Rows.fnShelvesRow = true := by
  unfold joinedFacts
  rw [seat_laid, seat_maps, seat_heard, seat_enter, inPlace_FnShelves, unfollowed_FnShelves, recurses_FnShelves, named_FnShelves]
  kernel_rfl
theorem fnShelves_holds : Rows.FnShelvesSaid :=
  OpenClaim.holds_of_wide 5 Try.f5 rfl rfl rfl rfl rfl rfl rfl ⟨rfl, rfl, rfl, rfl, rfl⟩ rfl rfl rfl rfl rfl (by kernel_rfl) Try.func5 facts_FnShelves (of_decide_eq_true (by kernel_rfl))
    (by unfold Func.isWrapper; first | (rw [if_pos (by decide +kernel)]; kernel_rfl) | (rw [if_neg (by decide +kernel)]; exact ⟨rfl, rfl⟩)) (fun os started H enc _ => lifted_FnShelves os started H enc)
#print axioms fnShelves_holds
end Go.Proofs.Ytaamcelinnnncaa
