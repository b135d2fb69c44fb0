import Derived.Test.YtodnoiblplnpcaaRows
import Derived.Test.YtodnoiblplnpcaaFun2
import Derived.Test.YtodnoiblplnpcaaBase
import Derived.WalkKit
import Derived.ProofKit
import Derived.OpenShut
import Derived.ShutString
import Derived.ChangeOld
import Derived.Below
import Derived.SizedLaws
/- FnExactInstall answers true for every input, and its arguments read behind the call as they did ahead of it. Conditions: none. -/
set_option linter.unusedVariables false
namespace Go.Proofs.Ytodnoiblplnpcaa
open Go Go.Eng Go.Proofs
abbrev pars_FnExactInstall : List Par := [(true, (.pair (.pair (.int .i64) (.pair .str (.pair .str (.pair (.int .i64) (.pair (.list (.int .i64)) (.int .i64)))))) (.pair (.int .i64) (.pair .str (.pair .str (.pair (.int .i64) (.pair (.list (.int .i64)) (.int .i64)))))))), (false, .str), (false, .str), (false, (.int .i64))]
theorem l01In_is (k : Nat) (a b c : Int) : s_l01In k (a, (b, (c, ()))) = some (decide (b ≤ a ∧ a ≤ c), ((), ((), ((), ())))) := by
  unfold s_l01In
  by_cases h : b ≤ a <;> simp [h]
theorem within_is (k : Nat) (a b c : Int) : i_within k (a, (b, (c, ()))) = some (decide (b ≤ a ∧ a ≤ c), ((), ((), ((), ())))) := l01In_is k a b c
def gSeen (a : List Int) (i : Nat) (_ : Unit) : (Bool × Unit × Unit) ⊕ Unit :=
  if decide (1 ≤ Ty.rd (t := (.int .i64)) a i ∧ Ty.rd (t := (.int .i64)) a i ≤ 1000000000) && !(decide (0 < (i : Int)) && decide (Ty.rd (t := (.int .i64)) a (wi64 ((i : Int) - 1)) ≤ Ty.rd (t := (.int .i64)) a i)) && !decide (Ty.rd (t := (.int .i64)) a i ≤ wi64 (Ty.rd (t := (.int .i64)) a 0 - 6)) then .inr () else .inl (false, ((), ()))
def seenB (a : List Int) : Bool := (foldE (gSeen a) (fun _ => (decide ((a.length : Int) ≤ 6), ((), ()))) a.length 0 ()).1
theorem s_SeenOk_is (k : Nat) (a : List Int) (hk : 1048576 < k) (hl : a.length ≤ 1048576) : s_SeenOk k (a, ()) = some (seenB a, ((), ())) := by
  unfold s_SeenOk
  refine (loop_fold (A := Unit) (fun i _ => (a, (((i : Nat) : Int), ()))) a.length (gSeen a) (fun _ => (decide ((a.length : Int) ≤ 6), ((), ()))) (fun _ _ => True) ?_ (fun _ _ _ _ _ _ => trivial) ?_ k () trivial (by omega)).trans rfl
  · intro again i _ hi _
    have w2 : wi64 ((i : Int) + 1) = ((i + 1 : Nat) : Int) := (w64_id _ (by omega)).trans (by omega)
    have w1 : wi64 ((i : Int) - 1) = (i : Int) - 1 := w64_id _ (by omega)
    have g1 : (0 : Int) ≤ (i : Int) ∧ (i : Int) < (a.length : Int) := by omega
    have g0 : (0 : Int) ≤ 0 ∧ (0 : Int) < (a.length : Int) := by omega
    unfold gSeen
    simp only [g1, g0, l01In_is, w2, and_self, decide_true, if_true, Option.bind_some]
    by_cases h1 : 1 ≤ Ty.rd (t := (.int .i64)) a i ∧ Ty.rd (t := (.int .i64)) a i ≤ 1000000000
    · by_cases h2 : 0 < (i : Int)
      · have g3 : (0 : Int) ≤ wi64 ((i : Int) - 1) ∧ wi64 ((i : Int) - 1) < (a.length : Int) := by rw [w1]; omega
        simp only [h1, h2, g3, and_self, decide_true, Bool.not_true, if_true]
        by_cases h4 : Ty.rd (t := (.int .i64)) a (wi64 ((i : Int) - 1)) ≤ Ty.rd (t := (.int .i64)) a i <;> by_cases h5 : Ty.rd (t := (.int .i64)) a i ≤ wi64 (Ty.rd (t := (.int .i64)) a 0 - 6) <;> simp [h4, h5]
      · simp only [h1, h2, and_self, decide_true, decide_false, Bool.not_true, if_true]
        by_cases h5 : Ty.rd (t := (.int .i64)) a i ≤ wi64 (Ty.rd (t := (.int .i64)) a 0 - 6) <;> simp [h5]
    · simp [h1]
  · intro again _ _
    simp
theorem i_SeenOk_is (k : Nat) (a : List Int) (hk : 1048576 < k) (hl : a.length ≤ 1048576) : i_SeenOk k (a, ()) = some (seenB a, ((), ())) := by
  unfold i_SeenOk
  refine (loop_fold (A := Unit) (fun i _ => (a, (a, ((a.length : Int), (((i : Nat) : Int), ()))))) a.length (gSeen a) (fun _ => (decide ((a.length : Int) ≤ 6), ((), ()))) (fun _ _ => True) ?_ (fun _ _ _ _ _ _ => trivial) ?_ k () trivial (by omega)).trans rfl
  · intro again i _ hi _
    have w2 : wi64 ((i : Int) + 1) = ((i + 1 : Nat) : Int) := (w64_id _ (by omega)).trans (by omega)
    have w1 : wi64 ((i : Int) - 1) = (i : Int) - 1 := w64_id _ (by omega)
    have g1 : (0 : Int) ≤ (i : Int) ∧ (i : Int) < (a.length : Int) := by omega
    have g0 : (0 : Int) ≤ 0 ∧ (0 : Int) < (a.length : Int) := by omega
    unfold gSeen
    simp only [g1, g0, within_is, w2, and_self, decide_true, if_true, Option.bind_some]
    by_cases h1 : 1 ≤ Ty.rd (t := (.int .i64)) a i ∧ Ty.rd (t := (.int .i64)) a i ≤ 1000000000
    · by_cases h2 : 0 < (i : Int)
      · have g3 : (0 : Int) ≤ wi64 ((i : Int) - 1) ∧ wi64 ((i : Int) - 1) < (a.length : Int) := by rw [w1]; omega
        simp only [h1, h2, g3, and_self, decide_true, Bool.not_true, if_true]
        by_cases h4 : Ty.rd (t := (.int .i64)) a (wi64 ((i : Int) - 1)) ≤ Ty.rd (t := (.int .i64)) a i <;> by_cases h5 : Ty.rd (t := (.int .i64)) a i ≤ wi64 (Ty.rd (t := (.int .i64)) a 0 - 6) <;> simp [h4, h5]
      · simp only [h1, h2, and_self, decide_true, decide_false, Bool.not_true, if_true]
        by_cases h5 : Ty.rd (t := (.int .i64)) a i ≤ wi64 (Ty.rd (t := (.int .i64)) a 0 - 6) <;> simp [h5]
    · simp [h1]
  · intro again _ _
    simp
def noneB (x : Int × ByteArray × ByteArray × Int × List Int × Int × Unit) : Bool := decide (x.1 = 0 ∧ x.2.1 = (⟨#[]⟩ : ByteArray) ∧ x.2.2.1 = (⟨#[]⟩ : ByteArray) ∧ x.2.2.2.1 = 0 ∧ (x.2.2.2.2.1.length : Int) = 0 ∧ x.2.2.2.2.2.1 = 0)
theorem l17None_is (k : Nat) (x) : s_l17None k (x, ()) = some (noneB x, ((), ())) := by
  obtain ⟨e, s, o, c, q, u, w⟩ := x
  unfold s_l17None noneB
  simp only []
  by_cases h1 : e = 0
  rotate_left
  · simp [h1]
  by_cases h2 : s = (⟨#[]⟩ : ByteArray)
  rotate_left
  · simp [h2]
  by_cases h3 : o = (⟨#[]⟩ : ByteArray)
  rotate_left
  · simp [h3]
  by_cases h4 : c = 0
  rotate_left
  · simp [h4]
  by_cases h5 : (q.length : Int) = 0
  rotate_left
  · simp only [h1, h2, h3, h4, h5, decide_true, decide_false, if_true, true_and, false_and]
    rfl
  simp only [h1, h2, h3, h4, h5, decide_true, if_true, true_and]
def slotB (x : Int × ByteArray × ByteArray × Int × List Int × Int × Unit) : Bool :=
  noneB x || (decide ((1 ≤ x.1 ∧ x.1 ≤ 1000000000) ∧ (x.2.1.size : Int) = 32 ∧ (x.2.2.1.size : Int) = 32 ∧ (0 ≤ x.2.2.2.1 ∧ x.2.2.2.1 ≤ 12)) && (seenB x.2.2.2.2.1 && decide (0 ≤ x.2.2.2.2.2.1 ∧ x.2.2.2.2.2.1 ≤ 1000000000)))
theorem s_SlotOk_is (k : Nat) (x : Int × ByteArray × ByteArray × Int × List Int × Int × Unit) (hk : 1048576 < k) (hl : x.2.2.2.2.1.length ≤ 1048576) : s_SlotOk k (x, ()) = some (slotB x, ((), ())) := by
  obtain ⟨e, s, o, c, q, u, w⟩ := x
  have hl : q.length ≤ 1048576 := hl
  unfold s_SlotOk slotB
  simp only [l17None_is, l01In_is, s_SeenOk_is k q hk hl, Option.bind_some]
  cases hn : noneB (e, (s, (o, (c, (q, (u, ())))))) with
  | true => simp
  | false =>
    by_cases h1 : 1 ≤ e ∧ e ≤ 1000000000
    rotate_left
    · simp [h1]
    by_cases h2 : (s.size : Int) = 32
    rotate_left
    · simp [h2]
    by_cases h3 : (o.size : Int) = 32
    rotate_left
    · simp [h3]
    by_cases h4 : 0 ≤ c ∧ c ≤ 12
    rotate_left
    · simp [h4]
    simp only [h1, h2, h3, h4, and_self, decide_true, if_true, Bool.false_or, Bool.true_and]
    cases seenB q <;> simp
theorem i_SlotOk_is (k : Nat) (x : Int × ByteArray × ByteArray × Int × List Int × Int × Unit) (hk : 1048576 < k) (hl : x.2.2.2.2.1.length ≤ 1048576) : i_SlotOk k (x, ()) = some (slotB x, ((), ())) := by
  obtain ⟨e, s, o, c, q, u, w⟩ := x
  have hl : q.length ≤ 1048576 := hl
  have hn := l17None_is k (e, (s, (o, (c, (q, (u, ()))))))
  unfold s_l17None at hn
  unfold i_SlotOk slotB
  simp only [within_is, i_SeenOk_is k q hk hl, Option.bind_some] at hn ⊢
  by_cases h0 : e = 0
  · subst h0
    simp only [decide_true, if_true] at hn ⊢
    rw [hn]
    simp
  · have hnf : noneB (e, (s, (o, (c, (q, (u, ())))))) = false := by simp [noneB, h0]
    simp only [hnf, h0, decide_false, Bool.false_or, Bool.false_eq_true, if_false]
    by_cases h2 : (s.size : Int) = 32
    rotate_left
    · simp [h2]
    by_cases h1 : 1 ≤ e ∧ e ≤ 1000000000
    rotate_left
    · simp [h1, h2]
    by_cases h3 : (o.size : Int) = 32
    rotate_left
    · simp [h1, h2, h3]
    by_cases h4 : 0 ≤ c ∧ c ≤ 12
    rotate_left
    · simp [h1, h2, h3, h4]
    simp only [h1, h2, h3, h4, and_self, decide_true, if_true, Bool.true_and]
    cases seenB q <;> simp
abbrev SlotsA : Type := Int × ByteArray × ByteArray × Int × List Int × Int × Int × ByteArray × ByteArray × Int × List Int × Int × Unit
def mainOf (x : SlotsA) : Int × ByteArray × ByteArray × Int × List Int × Int × Unit := (x.1, (x.2.1, (x.2.2.1, (x.2.2.2.1, (x.2.2.2.2.1, (x.2.2.2.2.2.1, ()))))))
def lameOf (x : SlotsA) : Int × ByteArray × ByteArray × Int × List Int × Int × Unit := x.2.2.2.2.2.2
def slotsB (x : SlotsA) : Bool := slotB (mainOf x) && slotB (lameOf x) && (decide (x.2.2.2.2.2.2.1 = 0) || decide (x.2.2.2.2.2.2.1 < x.1))
theorem slot_zero {x : Int × ByteArray × ByteArray × Int × List Int × Int × Unit} (h : slotB x = true) : noneB x = decide (x.1 = 0) := by
  cases hn : noneB x with
  | true =>
    have : x.1 = 0 := by
      unfold noneB at hn
      exact (of_decide_eq_true hn).1
    simp [this]
  | false =>
    unfold slotB at h
    rw [hn, Bool.false_or, Bool.and_eq_true] at h
    have := (of_decide_eq_true h.1).1.1
    have : ¬ x.1 = 0 := by omega
    simp [this]
theorem s_SlotsOk_is (k : Nat) (x : SlotsA) (hk : 1048576 < k) (h1 : x.2.2.2.2.1.length ≤ 1048576) (h2 : x.2.2.2.2.2.2.2.2.2.2.1.length ≤ 1048576) : s_SlotsOk k (x, ()) = some (slotsB x, ((), ())) := by
  have e1 := s_SlotOk_is k (mainOf x) hk h1
  have e2 := s_SlotOk_is k (lameOf x) hk h2
  have e3 := l17None_is k (lameOf x)
  simp only [mainOf, lameOf] at e1 e2 e3
  unfold s_SlotsOk slotsB
  simp only [e1, e2, e3, Option.bind_some, mainOf, lameOf]
  cases a : slotB (x.1, (x.2.1, (x.2.2.1, (x.2.2.2.1, (x.2.2.2.2.1, (x.2.2.2.2.2.1, ())))))) with
  | false => simp
  | true =>
    cases b : slotB x.2.2.2.2.2.2 with
    | false => simp
    | true =>
      rw [slot_zero b]
      by_cases z : x.2.2.2.2.2.2.1 = 0 <;> simp [z]
theorem i_SlotsOk_is (k : Nat) (x : SlotsA) (hk : 1048576 < k) (h1 : x.2.2.2.2.1.length ≤ 1048576) (h2 : x.2.2.2.2.2.2.2.2.2.2.1.length ≤ 1048576) : i_SlotsOk k (x, ()) = some (slotsB x, ((), ())) := by
  have e1 := i_SlotOk_is k (mainOf x) hk h1
  have e2 := i_SlotOk_is k (lameOf x) hk h2
  simp only [mainOf, lameOf] at e1 e2
  unfold i_SlotsOk slotsB
  simp only [e1, e2, Option.bind_some, mainOf, lameOf]
  cases a : slotB (x.1, (x.2.1, (x.2.2.1, (x.2.2.2.1, (x.2.2.2.2.1, (x.2.2.2.2.2.1, ())))))) with
  | false => simp
  | true =>
    cases b : slotB x.2.2.2.2.2.2 with
    | false => simp
    | true => by_cases z : x.2.2.2.2.2.2.1 = 0 <;> simp [z]
def marksI (n : Int) (l : Nat) : List Int := (List.range l).map fun i => n + (i : Nat)
theorem marksI_len (n : Int) (l : Nat) : (marksI n l).length = l := by simp [marksI]
theorem markIntS_is (k : Nat) (a : List Int) (n : Int) (hn : 0 ≤ n) (hN : n + a.length ≤ 1000000000) (hk : 1048576 < k) (hl : a.length ≤ 1048576) :
    w_markIntS k (a, (n, ())) = some (n + a.length, (marksI n a.length, ((), ()))) := by
  unfold w_markIntS
  refine loop_mark (t := .int .i64) (fun n => n) (fun out n => (n, (out, ((), ())))) 1000000000 ?_ ?_ a n hn hN k (by omega)
  · intro again out n i hi hl h0 h1
    have w' : wi64 (n + 1) = n + 1 := w64_id _ (by omega)
    have w : wi64 (i + 1) = i + 1 := w64_id _ (by omega)
    simp only [hl, hi, w, w', decide_true, and_self, if_true]
  · intro again out n i hi
    have : ¬ i < (out.length : Int) := by omega
    simp [this]
theorem heldIntS_is (k : Nat) (l : Nat) (n : Int) (hn : 0 ≤ n) (hN : n + l ≤ 1000000000) (hk : 1048576 < k) (hl : l ≤ 1048576) :
    w_heldIntS k (marksI n l, (n, ())) = some (n + l, ((), ((), ()))) := by
  unfold w_heldIntS
  have e := marksI_len n l
  refine (loop_held (t := .int .i64) (fun n => n) (fun n => (n, ((), ((), ())))) (-1, ((), ((), ()))) 1000000000 (marksI n l) ?_ ?_ n hn (by omega) (by rw [e]; rfl) k (by omega)).trans (by rw [e])
  · intro again n' i hi hl' h0 h1
    have w' : wi64 (n' + 1) = n' + 1 := w64_id _ (by omega)
    have w : wi64 (i + 1) = i + 1 := w64_id _ (by omega)
    simp only [hl', hi, w, w', decide_true, and_self, if_true]
    by_cases q : Ty.rd (t := .int .i64) (marksI n l) i = n' <;> simp [q]
  · intro again n' i hi
    have : ¬ i < ((marksI n l).length : Int) := by omega
    simp [this]
def Wf_IntS (a : List (Int)) : Prop := a.length ≤ 9223372036854775807
def Bd_IntS (a : List (Int)) : Prop := a.length ≤ 1048576
def Wf_Slots (x : Int × ByteArray × ByteArray × Int × List (Int) × Int × Int × ByteArray × ByteArray × Int × List (Int) × Int × Unit) : Prop := ByteArray.size x.2.1 ≤ 9223372036854775807 ∧ ByteArray.size x.2.2.1 ≤ 9223372036854775807 ∧ Wf_IntS x.2.2.2.2.1 ∧ ByteArray.size x.2.2.2.2.2.2.2.1 ≤ 9223372036854775807 ∧ ByteArray.size x.2.2.2.2.2.2.2.2.1 ≤ 9223372036854775807 ∧ Wf_IntS x.2.2.2.2.2.2.2.2.2.2.1 ∧ True
def Bd_Slots (x : Int × ByteArray × ByteArray × Int × List (Int) × Int × Int × ByteArray × ByteArray × Int × List (Int) × Int × Unit) : Prop := ByteArray.size x.2.1 ≤ 1048576 ∧ ByteArray.size x.2.2.1 ≤ 1048576 ∧ Bd_IntS x.2.2.2.2.1 ∧ ByteArray.size x.2.2.2.2.2.2.2.1 ≤ 1048576 ∧ ByteArray.size x.2.2.2.2.2.2.2.2.1 ≤ 1048576 ∧ Bd_IntS x.2.2.2.2.2.2.2.2.2.2.1 ∧ True
def Wf_Slot (x : Int × ByteArray × ByteArray × Int × List (Int) × Int × Unit) : Prop := ByteArray.size x.2.1 ≤ 9223372036854775807 ∧ ByteArray.size x.2.2.1 ≤ 9223372036854775807 ∧ Wf_IntS x.2.2.2.2.1 ∧ True
def Bd_Slot (x : Int × ByteArray × ByteArray × Int × List (Int) × Int × Unit) : Prop := ByteArray.size x.2.1 ≤ 1048576 ∧ ByteArray.size x.2.2.1 ≤ 1048576 ∧ Bd_IntS x.2.2.2.2.1 ∧ True
theorem szIntS_le (k : Nat) (a : List (Int)) (n : Int) (h : 0 ≤ n ∧ n ≤ 1048576) (hk : 1048576 < k) (hw : Wf_IntS a) : ∃ m : Int, w_szIntS k (a, (n, ())) = some (m, ((), ((), ()))) ∧ (0 ≤ m → m ≤ n ∧ Bd_IntS a) := by
  unfold w_szIntS
  have hl : a.length ≤ 9223372036854775807 := hw
  have e : wi64 (n - (List.length a : Int)) = n - (List.length a : Int) := w64_id _ (by omega)
  simp only [e]
  by_cases hc : n - (List.length a : Int) < 0
  · simp only [hc, decide_true, if_true]
    exact ⟨_, rfl, fun h => by omega⟩
  · simp only [hc, decide_false, Bool.false_eq_true, if_false]
    exact ⟨_, rfl, fun _ => ⟨by omega, by show a.length ≤ 1048576; omega⟩⟩
theorem szSlot_le (k : Nat) (x : Int × ByteArray × ByteArray × Int × List (Int) × Int × Unit) (n : Int) (h : 0 ≤ n ∧ n ≤ 1048576) (hk : 1048576 < k) (hw : Wf_Slot x) : ∃ m : Int, w_szSlot k (x, (n, ())) = some (m, ((), ((), ()))) ∧ (0 ≤ m → m ≤ n ∧ Bd_Slot x) := by
  obtain ⟨a0, a1, a2, a3, a4, a5, u⟩ := x
  unfold w_szSlot
  unfold Wf_Slot at hw
  unfold Bd_Slot
  simp only [] at hw ⊢
  obtain ⟨w1, w2, w4, _⟩ := hw
  have e0 : wi64 (n - (ByteArray.size a1 : Int)) = n - (ByteArray.size a1 : Int) := w64_id _ (by omega)
  simp only [e0]
  by_cases c0 : (n - (ByteArray.size a1 : Int)) < 0
  · simp only [c0, decide_true, if_true]
    exact ⟨_, rfl, fun h => by omega⟩
  simp only [c0, decide_false, Bool.false_eq_true, if_false]
  have e1 : wi64 ((n - (ByteArray.size a1 : Int)) - (ByteArray.size a2 : Int)) = (n - (ByteArray.size a1 : Int)) - (ByteArray.size a2 : Int) := w64_id _ (by omega)
  simp only [e1]
  by_cases c1 : ((n - (ByteArray.size a1 : Int)) - (ByteArray.size a2 : Int)) < 0
  · simp only [c1, decide_true, if_true]
    exact ⟨_, rfl, fun h => by omega⟩
  simp only [c1, decide_false, Bool.false_eq_true, if_false]
  obtain ⟨m2, e2, b2⟩ := szIntS_le k a4 ((n - (ByteArray.size a1 : Int)) - (ByteArray.size a2 : Int)) ⟨by omega, by omega⟩ hk w4
  simp only [e2, Option.bind_some]
  by_cases c2 : m2 < 0
  · simp only [c2, decide_true, if_true]
    exact ⟨_, rfl, fun h => by omega⟩
  have d2 := b2 (by omega)
  simp only [c2, decide_false, Bool.false_eq_true, if_false]
  exact ⟨_, rfl, fun _ => ⟨by omega, ⟨by omega, by omega, d2.2, trivial⟩⟩⟩
theorem szSlots_le (k : Nat) (x : Int × ByteArray × ByteArray × Int × List (Int) × Int × Int × ByteArray × ByteArray × Int × List (Int) × Int × Unit) (n : Int) (h : 0 ≤ n ∧ n ≤ 1048576) (hk : 1048576 < k) (hw : Wf_Slots x) : ∃ m : Int, w_szSlots k (x, (n, ())) = some (m, ((), ((), ()))) ∧ (0 ≤ m → m ≤ n ∧ Bd_Slots x) := by
  obtain ⟨a0, a1, a2, a3, a4, a5, a6, a7, a8, a9, a10, a11, u⟩ := x
  unfold w_szSlots
  unfold Wf_Slots at hw
  unfold Bd_Slots
  simp only [] at hw ⊢
  obtain ⟨w1, w2, w4, w7, w8, w10, _⟩ := hw
  obtain ⟨m0, e0, b0⟩ := szSlot_le k (a0, (a1, (a2, (a3, (a4, (a5, ())))))) n ⟨by omega, by omega⟩ hk ⟨w1, w2, w4, trivial⟩
  simp only [e0, Option.bind_some]
  by_cases c0 : m0 < 0
  · simp only [c0, decide_true, if_true]
    exact ⟨_, rfl, fun h => by omega⟩
  have d0 := b0 (by omega)
  simp only [c0, decide_false, Bool.false_eq_true, if_false]
  obtain ⟨m1, e1, b1⟩ := szSlot_le k (a6, (a7, (a8, (a9, (a10, (a11, ())))))) m0 ⟨by omega, by omega⟩ hk ⟨w7, w8, w10, trivial⟩
  simp only [e1, Option.bind_some]
  by_cases c1 : m1 < 0
  · simp only [c1, decide_true, if_true]
    exact ⟨_, rfl, fun h => by omega⟩
  have d1 := b1 (by omega)
  simp only [c1, decide_false, Bool.false_eq_true, if_false]
  exact ⟨_, rfl, fun _ => ⟨by omega, ⟨d0.2.1, d0.2.2.1, d0.2.2.2.1, d1.2.1, d1.2.2.1, d1.2.2.2.1, trivial⟩⟩⟩
theorem toIntS_is (k : Nat) (a : List (Int)) (hk : 1048576 < k) (hb : Bd_IntS a) : w_toIntS k (a, ()) = some (a, ((), ())) := by
  unfold w_toIntS
  have hl : a.length ≤ 1048576 := hb
  have hcap : (capMax : Int) = 274877906944 := rfl
  simp only [if_true]
  rw [if_pos (by omega)]
  refine loop_to (t := (.int .i64)) a (fun out => (out, ((), ()))) ?_ ?_ _ (by simp) k (by omega)
  · intro again out i hi hl' ho
    have w : wi64 (i + 1) = i + 1 := w64_id _ (by omega)
    simp only [hl', hi, ho, w, decide_true, and_self, if_true]
  · intro again out i hi
    have : ¬ i < (a.length : Int) := by omega
    simp [this]
theorem toSlot_is (k : Nat) (x : Int × ByteArray × ByteArray × Int × List (Int) × Int × Unit) (hk : 1048576 < k) (hb : Bd_Slot x) : w_toSlot k (x, ()) = some (x, ((), ())) := by
  obtain ⟨a0, a1, a2, a3, a4, a5, u⟩ := x
  unfold w_toSlot
  unfold Bd_Slot at hb
  obtain ⟨b1, b2, b4, b⟩ := hb
  simp only [] at b1 b2 b4
  simp only [toIntS_is k a4 hk b4, Option.bind_some]
theorem toSlots_is (k : Nat) (x : Int × ByteArray × ByteArray × Int × List (Int) × Int × Int × ByteArray × ByteArray × Int × List (Int) × Int × Unit) (hk : 1048576 < k) (hb : Bd_Slots x) : w_toSlots k (x, ()) = some (x, ((), ())) := by
  obtain ⟨a0, a1, a2, a3, a4, a5, a6, a7, a8, a9, a10, a11, u⟩ := x
  unfold w_toSlots
  unfold Bd_Slots at hb
  obtain ⟨b1, b2, b4, b7, b8, b10, b⟩ := hb
  simp only [] at b1 b2 b4 b7 b8 b10
  simp only [toSlot_is k (a0, (a1, (a2, (a3, (a4, (a5, ())))))) hk ⟨b1, b2, b4, trivial⟩, toSlot_is k (a6, (a7, (a8, (a9, (a10, (a11, ())))))) hk ⟨b7, b8, b10, trivial⟩, Option.bind_some]
theorem eqIntS_is (k : Nat) (a b : List ((.int .i64) : Ty).den) (hk : 1048576 < k) (hb : Bd_IntS a) : w_eqIntS k (a, (b, ())) = some (dq a b, ((), ((), ()))) := by
  unfold w_eqIntS
  have hl : a.length ≤ 1048576 := hb
  by_cases hab : a.length = b.length
  · simp only [hab, decide_true, Bool.not_true]
    refine (loop_dq (t := (.int .i64)) (R := Bool × Unit × Unit × Unit) a b hab (false, ((), ((), ()))) (true, ((), ((), ()))) ?_ ?_ k (by omega)).trans ?_
    · intro again i hi hl'
      have w : wi64 (i + 1) = i + 1 := w64_id _ (by omega)
      have hlb : i < (b.length : Int) := by omega
      simp only [hl', hi, hlb, w, decide_true, and_self, if_true]
      by_cases e : Ty.rd (t := (.int .i64)) a i = Ty.rd (t := (.int .i64)) b i <;> simp [e, dq_self, dq_false]
    · intro again i hi
      have : ¬ i < (a.length : Int) := by omega
      simp only [this, decide_false]
      rfl
    · cases dq a b <;> simp
  · have : ¬ ((a.length : Int) = (b.length : Int)) := by omega
    have h2 : a ≠ b := fun h => hab (by rw [h])
    simp [this, dq_false h2]
theorem eqSlot_is (k : Nat) (x y : Int × ByteArray × ByteArray × Int × List (Int) × Int × Unit) (hk : 1048576 < k) (hb : Bd_Slot x) : w_eqSlot k (x, (y, ())) = some (dq x y, ((), ((), ()))) := by
  obtain ⟨a0, a1, a2, a3, a4, a5, u⟩ := x
  obtain ⟨b0, b1, b2, b3, b4, b5, u'⟩ := y
  unfold w_eqSlot
  unfold Bd_Slot at hb
  obtain ⟨w1, w2, w4, _⟩ := hb
  simp only [] at w1 w2 w4
  simp only [eqIntS_is k a4 b4 hk w4, Option.bind_some]
  by_cases h0 : a0 = b0
  rotate_left
  · have hn : (a0, (a1, (a2, (a3, (a4, (a5, ())))))) ≠ (b0, (b1, (b2, (b3, (b4, (b5, ())))))) := fun h => h0 (by simp only [Prod.mk.injEq] at h; simp_all)
    rw [dq_false hn]
    simp [h0]
  subst h0
  by_cases h1 : a1 = b1
  rotate_left
  · have hn : (a0, (a1, (a2, (a3, (a4, (a5, ())))))) ≠ (a0, (b1, (b2, (b3, (b4, (b5, ())))))) := fun h => h1 (by simp only [Prod.mk.injEq] at h; simp_all)
    rw [dq_false hn]
    simp [h1]
  subst h1
  by_cases h2 : a2 = b2
  rotate_left
  · have hn : (a0, (a1, (a2, (a3, (a4, (a5, ())))))) ≠ (a0, (a1, (b2, (b3, (b4, (b5, ())))))) := fun h => h2 (by simp only [Prod.mk.injEq] at h; simp_all)
    rw [dq_false hn]
    simp [h2]
  subst h2
  by_cases h3 : a3 = b3
  rotate_left
  · have hn : (a0, (a1, (a2, (a3, (a4, (a5, ())))))) ≠ (a0, (a1, (a2, (b3, (b4, (b5, ())))))) := fun h => h3 (by simp only [Prod.mk.injEq] at h; simp_all)
    rw [dq_false hn]
    simp [h3]
  subst h3
  by_cases h4 : a4 = b4
  rotate_left
  · have hn : (a0, (a1, (a2, (a3, (a4, (a5, ())))))) ≠ (a0, (a1, (a2, (a3, (b4, (b5, ())))))) := fun h => h4 (by simp only [Prod.mk.injEq] at h; simp_all)
    rw [dq_false hn]
    simp [h4, dq_false]
  subst h4
  by_cases h5 : a5 = b5
  rotate_left
  · have hn : (a0, (a1, (a2, (a3, (a4, (a5, ())))))) ≠ (a0, (a1, (a2, (a3, (a4, (b5, ())))))) := fun h => h5 (by simp only [Prod.mk.injEq] at h; simp_all)
    rw [dq_false hn]
    simp [h5]
  subst h5
  simp [dq_self]
theorem eqSlots_is (k : Nat) (x y : Int × ByteArray × ByteArray × Int × List (Int) × Int × Int × ByteArray × ByteArray × Int × List (Int) × Int × Unit) (hk : 1048576 < k) (hb : Bd_Slots x) : w_eqSlots k (x, (y, ())) = some (dq x y, ((), ((), ()))) := by
  obtain ⟨a0, a1, a2, a3, a4, a5, a6, a7, a8, a9, a10, a11, u⟩ := x
  obtain ⟨b0, b1, b2, b3, b4, b5, b6, b7, b8, b9, b10, b11, u'⟩ := y
  unfold w_eqSlots
  unfold Bd_Slots at hb
  obtain ⟨w1, w2, w4, w7, w8, w10, _⟩ := hb
  simp only [] at w1 w2 w4 w7 w8 w10
  simp only [eqSlot_is k (a0, (a1, (a2, (a3, (a4, (a5, ())))))) (b0, (b1, (b2, (b3, (b4, (b5, ())))))) hk ⟨w1, w2, w4, trivial⟩, eqSlot_is k (a6, (a7, (a8, (a9, (a10, (a11, ())))))) (b6, (b7, (b8, (b9, (b10, (b11, ())))))) hk ⟨w7, w8, w10, trivial⟩, Option.bind_some]
  by_cases h0 : (a0, (a1, (a2, (a3, (a4, (a5, ())))))) = (b0, (b1, (b2, (b3, (b4, (b5, ()))))))
  rotate_left
  · have hn : (a0, (a1, (a2, (a3, (a4, (a5, (a6, (a7, (a8, (a9, (a10, (a11, ())))))))))))) ≠ (b0, (b1, (b2, (b3, (b4, (b5, (b6, (b7, (b8, (b9, (b10, (b11, ())))))))))))) := fun h => h0 (by simp only [Prod.mk.injEq] at h; simp_all)
    rw [dq_false hn]
    simp [h0, dq_false]
  simp only [Prod.mk.injEq, and_true] at h0
  obtain ⟨rfl, rfl, rfl, rfl, rfl, rfl⟩ := h0
  by_cases h1 : (a6, (a7, (a8, (a9, (a10, (a11, ())))))) = (b6, (b7, (b8, (b9, (b10, (b11, ()))))))
  rotate_left
  · have hn : (a0, (a1, (a2, (a3, (a4, (a5, (a6, (a7, (a8, (a9, (a10, (a11, ())))))))))))) ≠ (a0, (a1, (a2, (a3, (a4, (a5, (b6, (b7, (b8, (b9, (b10, (b11, ())))))))))))) := fun h => h1 (by simp only [Prod.mk.injEq] at h; simp_all)
    rw [dq_false hn]
    simp [h1, dq_false]
  simp only [Prod.mk.injEq, and_true] at h1
  obtain ⟨rfl, rfl, rfl, rfl, rfl, rfl⟩ := h1
  simp [dq_self]
theorem copy_list (a : List Int) (hl : a.length ≤ 1048576) : ([] : List Int).length + a.length ≤ capMax := by
  have : capMax = 274877906944 := rfl
  simp; omega
theorem s_l17Copy_is (k : Nat) (x : SlotsA) (h1 : x.2.2.2.2.1.length ≤ 1048576) (h2 : x.2.2.2.2.2.2.2.2.2.2.1.length ≤ 1048576) : s_l17Copy k (x, ()) = some (x, ((), ())) := by
  unfold s_l17Copy s_l17CopySlot
  simp only [copy_list _ h1, copy_list _ h2, if_true, Option.bind_some, List.nil_append]
theorem i_copySlots_is (k : Nat) (x : SlotsA) (h1 : x.2.2.2.2.1.length ≤ 1048576) (h2 : x.2.2.2.2.2.2.2.2.2.2.1.length ≤ 1048576) : i_copySlots k (x, ()) = some (x, ((), ())) := by
  unfold i_copySlots i_copyInts
  simp only [copy_list _ h1, copy_list _ h2, if_true, Option.bind_some, List.nil_append]
def instB (x : SlotsA) (send op : ByteArray) (now : Int) : Bool := slotsB x && (decide ((send.size : Int) = 32) && (decide ((op.size : Int) = 32) && (decide (0 ≤ now ∧ now ≤ 999999990) && !decide (x.1 = 1000000000))))
def instR (x : SlotsA) (send op : ByteArray) (now : Int) : SlotsA :=
  (wi64 (x.1 + 1), (send, (op, (0, ([], (0, (x.1, (x.2.1, (x.2.2.1, (x.2.2.2.1, (x.2.2.2.2.1, ((if x.1 = 0 then x.2.2.2.2.2.1 else wi64 (now + 10)), ()))))))))))))
theorem s_Install_is (k : Nat) (x : SlotsA) (send op : ByteArray) (now : Int) (hk : 1048576 < k) (h1 : x.2.2.2.2.1.length ≤ 1048576) (h2 : x.2.2.2.2.2.2.2.2.2.2.1.length ≤ 1048576) :
    s_Install k (x, (send, (op, (now, ())))) = some ((if instB x send op now then instR x send op now else x, (instB x send op now, ())), ((), ((), ((), ((), ()))))) := by
  have e1 := s_l17Copy_is k x h1 h2
  have e2 := s_SlotsOk_is k x hk h1 h2
  have e3 := l17None_is k (mainOf x)
  simp only [mainOf] at e3
  unfold s_Install instB instR
  simp only [e1, e2, e3, l01In_is, Option.bind_some]
  cases a : slotsB x with
  | false => simp
  | true =>
    have hz : noneB (x.1, (x.2.1, (x.2.2.1, (x.2.2.2.1, (x.2.2.2.2.1, (x.2.2.2.2.2.1, ())))))) = decide (x.1 = 0) := slot_zero (x := mainOf x) (by
      unfold slotsB at a
      simp only [Bool.and_eq_true] at a
      exact a.1.1)
    rw [hz]
    by_cases c1 : (send.size : Int) = 32
    rotate_left
    · simp [c1]
    by_cases c2 : (op.size : Int) = 32
    rotate_left
    · simp [c1, c2]
    by_cases c3 : 0 ≤ now ∧ now ≤ 999999990
    rotate_left
    · simp [c1, c2, c3]
    by_cases c4 : x.1 = 1000000000
    · simp [c1, c2, c3, c4]
      rw [← c4]
    by_cases c5 : x.1 = 0 <;> simp [c1, c2, c3, c4, c5]
theorem i_Install_is (k : Nat) (x : SlotsA) (send op : ByteArray) (now : Int) (hk : 1048576 < k) (h1 : x.2.2.2.2.1.length ≤ 1048576) (h2 : x.2.2.2.2.2.2.2.2.2.2.1.length ≤ 1048576) :
    i_Install k (x, (send, (op, (now, ())))) = some ((if instB x send op now then instR x send op now else x, (instB x send op now, ())), ((), ((), ((), ((), ()))))) := by
  have e1 := i_copySlots_is k x h1 h2
  have e2 := i_SlotsOk_is k x hk h1 h2
  unfold i_Install instB instR
  simp only [e1, e2, within_is, Option.bind_some]
  cases a : slotsB x with
  | false => simp
  | true =>
    by_cases c1 : (send.size : Int) = 32
    rotate_left
    · simp [c1]
    by_cases c2 : (op.size : Int) = 32
    rotate_left
    · simp [c1, c2]
    by_cases c3 : 0 ≤ now ∧ now ≤ 999999990
    rotate_left
    · simp [c1, c2, c3]
    by_cases c4 : x.1 = 1000000000
    · simp [c1, c2, c3, c4]
      rw [← c4]
    by_cases c5 : x.1 = 0 <;> simp [c1, c2, c3, c4, c5]
/-- The slots' lists are short. -/
def Short (x : SlotsA) : Prop := x.2.2.2.2.1.length ≤ 1048576 ∧ x.2.2.2.2.2.2.2.2.2.2.1.length ≤ 1048576
def markedS (x : SlotsA) (n : Int) : SlotsA := (x.1, (x.2.1, (x.2.2.1, (x.2.2.2.1, (marksI n x.2.2.2.2.1.length, (x.2.2.2.2.2.1, (x.2.2.2.2.2.2.1, (x.2.2.2.2.2.2.2.1, (x.2.2.2.2.2.2.2.2.1, (x.2.2.2.2.2.2.2.2.2.1, (marksI (n + x.2.2.2.2.1.length) x.2.2.2.2.2.2.2.2.2.2.1.length, (x.2.2.2.2.2.2.2.2.2.2.2.1, ()))))))))))))
theorem markSlots_is (k : Nat) (x : SlotsA) (n : Int) (hk : 1048576 < k) (h : Short x) (hn : 0 ≤ n) (hn' : n ≤ 1000) :
    w_markSlots k (x, (n, ())) = some (n + x.2.2.2.2.1.length + x.2.2.2.2.2.2.2.2.2.2.1.length, (((), ((), ((), ((), (marksI n x.2.2.2.2.1.length, ((), ((), ((), ((), ((), (marksI (n + x.2.2.2.2.1.length) x.2.2.2.2.2.2.2.2.2.2.1.length, ((), ())))))))))))), ((), ()))) := by
  obtain ⟨h1, h2⟩ := h
  unfold w_markSlots w_markSlot
  simp only [markIntS_is k _ n hn (by omega) hk h1, markIntS_is k _ (n + x.2.2.2.2.1.length) (by omega) (by omega) hk h2, Option.bind_some]
theorem heldSlots_is (k : Nat) (x : SlotsA) (n : Int) (hk : 1048576 < k) (h : Short x) (hn : 0 ≤ n) (hn' : n ≤ 1000) :
    w_heldSlots k (markedS x n, (n, ())) = some (n + x.2.2.2.2.1.length + x.2.2.2.2.2.2.2.2.2.2.1.length, ((), ((), ()))) := by
  obtain ⟨h1, h2⟩ := h
  have p1 : ¬ n + (x.2.2.2.2.1.length : Int) < 0 := by omega
  have p2 : ¬ n + (x.2.2.2.2.1.length : Int) + (x.2.2.2.2.2.2.2.2.2.2.1.length : Int) < 0 := by omega
  unfold w_heldSlots w_heldSlot markedS
  simp only [heldIntS_is k x.2.2.2.2.1.length n hn (by omega) hk h1, heldIntS_is k x.2.2.2.2.2.2.2.2.2.2.1.length (n + x.2.2.2.2.1.length) (by omega) (by omega) hk h2, Option.bind_some, p1, p2, decide_false, Bool.false_eq_true, if_false]
theorem short_bd {x : SlotsA} (h : Bd_Slots x) : Short x := ⟨h.2.2.1, h.2.2.2.2.2.1⟩
theorem instR_bd {x : SlotsA} {send op : ByteArray} {now : Int} (h : Bd_Slots x) (hs : send.size ≤ 1048576) (ho : op.size ≤ 1048576) : Bd_Slots (if instB x send op now then instR x send op now else x) := by
  split
  · obtain ⟨b1, b2, b3, _⟩ := h
    exact ⟨hs, ho, (by show ([] : List Int).length ≤ 1048576; simp), b1, b2, b3, trivial⟩
  · exact h
theorem pure_FnExactInstall (x : argsDen pars_FnExactInstall) (hx : argsWf pars_FnExactInstall x) : ∃ k o, w_FnExactInstall k (argsX pars_FnExactInstall x) = some (true, o) := by
  obtain ⟨⟨⟨a, b, c, d, e, f⟩, a', b', c', d', e', f'⟩, send, op, now, u⟩ := x
  refine ⟨1048577, ((), ((), ((), ((), ())))), ?_⟩
  let y : SlotsA := (a, (b, (c, (d, (e, (f, (a', (b', (c', (d', (e', (f', ()))))))))))))
  show w_FnExactInstall 1048577 (y, (send, (op, (now, ())))) = _
  have hw : Wf_Slots y := ⟨hx.1.1.2.1, hx.1.1.2.2.1, hx.1.1.2.2.2.2.1.1, hx.1.2.2.1, hx.1.2.2.2.1, hx.1.2.2.2.2.2.1.1, trivial⟩
  clear hx
  generalize y = y at hw
  unfold w_FnExactInstall
  by_cases g1 : (1048576 : Int) < (send.size : Int)
  · simp [g1]
  by_cases g2 : (1048576 : Int) < (op.size : Int)
  · simp [g1, g2]
  obtain ⟨m, h1, h2⟩ := szSlots_le 1048577 y 1048576 (by omega) (by decide) hw
  simp only [g1, g2, decide_false, h1, Option.bind_some, Bool.false_eq_true, if_false]
  by_cases hm : m < 0
  · simp [hm]
  obtain ⟨_, hb⟩ := h2 (by omega)
  have hs := short_bd hb
  have hr := instR_bd (now := now) hb (by omega : send.size ≤ 1048576) (by omega : op.size ≤ 1048576)
  have e1 := toSlots_is 1048577 y (by decide) hb
  have e2 := s_Install_is 1048577 y send op now (by decide) hs.1 hs.2
  have e3 := i_Install_is 1048577 y send op now (by decide) hs.1 hs.2
  generalize hR : (if instB y send op now then instR y send op now else y) = r at hr e2 e3
  generalize instB y send op now = q at e2 e3
  have hsr := short_bd hr
  have e4 := eqSlots_is 1048577 r r (by decide) hr
  have e5 := eqSlots_is 1048577 y y (by decide) hb
  have e6 := markSlots_is 1048577 y 1 (by decide) hs (by decide) (by decide)
  have e7 := markSlots_is 1048577 r 1 (by decide) hsr (by decide) (by decide)
  have e8 := heldSlots_is 1048577 r 1 (by decide) hsr (by decide) (by decide)
  unfold markedS at e8
  have p1 : ¬ (1 : Int) + (y.2.2.2.2.1.length : Int) + (y.2.2.2.2.2.2.2.2.2.2.1.length : Int) < 0 := by omega
  have p2 : ¬ (1 : Int) + (r.2.2.2.2.1.length : Int) + (r.2.2.2.2.2.2.2.2.2.2.1.length : Int) < 0 := by omega
  simp only [hm, decide_false, e1, e2, e3, e4, e5, e6, e7, e8, p1, p2, dq_self, Option.bind_some, Bool.false_eq_true, if_false, Bool.not_true, if_true, decide_true]
open Go.ChangeShapes Go.WideShapes Go.ChangeAt Go.RowKit
theorem own_FnExactInstall : ownKnob Try.prog.godebug = none := by kernel_rfl
theorem lifted_FnExactInstall (os : Os) (started : os.Started) (H : Type) (enc : TypeId × Value → H) :
    ReturnsInHanded {} Try.checked os 12 .any (Rows.fnExactInstallSpec.pre6 enc Try.prog Try.f12 Rows.fnExactInstallRow.domain false) (Rows.fnExactInstallSpec.post enc Try.prog Try.f12 false true false false) :=
  law_lifted (C := Try.checked) (l := pars_FnExactInstall) (rb := 4) own_FnExactInstall started (by kernel_rfl) Try.func12
    (ChangeSpec.witness6 (enc := enc) (C := Try.checked) false ⟨#[], #[.agg #[.int .i64 0, .string ByteArray.empty, .string ByteArray.empty, .int .i64 0, .slice none 0 0, .int .i64 0, .int .i64 0, .string ByteArray.empty, .string ByteArray.empty, .int .i64 0, .slice none 0 0, .int .i64 0], .string ByteArray.empty, .string ByteArray.empty, .int .i64 0], []⟩ 8 (by kernel_rfl) (by kernel_rfl) (by kernel_rfl) (by kernel_rfl))
    e_w_FnExactInstall rfl (by decide) pure_FnExactInstall (by kernel_rfl) rfl Try.underlying4 (by kernel_rfl) (by kernel_rfl) rfl
    (fun ds h => match ds, h with | [_, _, _, _], _ => rfl)
theorem fnExactInstall_holds : Rows.FnExactInstallSaid :=
  OpenClaim.holds_of_wide 12 Try.f12 rfl rfl rfl rfl rfl rfl rfl ⟨rfl, rfl, rfl, rfl, rfl⟩ rfl rfl rfl rfl rfl (by kernel_rfl) Try.func12 (by kernel_rfl) (of_decide_eq_true (by kernel_rfl))
    (by unfold Func.isWrapper; first | (rw [if_pos (by decide +kernel)]; kernel_rfl) | (rw [if_neg (by decide +kernel)]; exact ⟨rfl, rfl⟩)) (fun os started H enc _ => lifted_FnExactInstall os started H enc)
#print axioms fnExactInstall_holds
end Go.Proofs.Ytodnoiblplnpcaa
