import Derived.Test.YtaamcelinnnncaaRows
import Derived.Test.YtaamcelinnnncaaFun1
import Derived.Test.YtaamcelinnnncaaBase
import Derived.Test.YtaamcelinnnncaaFacts
import Derived.WalkKit
import Derived.ProofKit
import Derived.OpenShut
import Derived.ShutString
import Derived.ChangeOld
import Derived.Below
import Derived.SizedLaws
/- FnExactAddPart answers true for every input, and its arguments read behind the call as they did ahead of it. Conditions: none. -/
set_option linter.unusedVariables false
set_option linter.unusedSimpArgs false
namespace Go.Proofs.Ytaamcelinnnncaa
open Go Go.Eng Go.Proofs
abbrev pars_FnExactAddPart : List Par := [(true, (.list (.pair (.int .i64) (.pair (.int .i64) (.pair (.int .i64) (.pair (.list .str) (.pair (.list .bool) (.int .i64)))))))), (false, (.int .i64)), (false, .str), (false, (.int .i64))]
theorem l01In_is (k : Nat) (a b c : Int) : s_l01In k (a, (b, (c, ()))) = some (decide (b ≤ a ∧ a ≤ c), ((), ((), ((), ())))) := by
  unfold s_l01In
  by_cases h : b ≤ a <;> simp [h]
theorem within_is (k : Nat) (a b c : Int) : i_within k (a, (b, (c, ()))) = some (decide (b ≤ a ∧ a ≤ c), ((), ((), ((), ())))) := l01In_is k a b c
theorem isId_is (k : Nat) (a : Int) : i_isId k (a, ()) = some (decide (1 ≤ a ∧ a ≤ 99), ((), ())) := by
  unfold i_isId
  rw [within_is]
  rfl
abbrev RT_Held : Ty := (.pair (.int .i64) (.pair (.int .i64) (.pair (.int .i64) (.pair (.list .str) (.pair (.list .bool) (.int .i64))))))
def ag_Held (r : RT_Held.den) : Int × Int × Int × List (ByteArray) × List (Bool) × Int × Unit := (r.1, (r.2.1, (r.2.2.1, (r.2.2.2.1, (r.2.2.2.2.1, (r.2.2.2.2.2, ()))))))
theorem ag_Held_inj (r r' : RT_Held.den) : (ag_Held r = ag_Held r') ↔ r = r' := by
  constructor
  · intro h
    obtain ⟨x0, ⟨x1, ⟨x2, ⟨x3, ⟨x4, x5⟩⟩⟩⟩⟩ := r
    obtain ⟨y0, ⟨y1, ⟨y2, ⟨y3, ⟨y4, y5⟩⟩⟩⟩⟩ := r'
    simp only [ag_Held, Prod.mk.injEq, and_true] at h
    simp only [Prod.mk.injEq]
    simp_all
  · intro h
    rw [h]
def Wf_StringS (a : List (ByteArray)) : Prop := a.length ≤ 9223372036854775807 ∧ ∀ r ∈ a, ByteArray.size r ≤ 9223372036854775807
def Bd_StringS (a : List (ByteArray)) : Prop := a.length ≤ 1048576
def Wf_BoolS (a : List (Bool)) : Prop := a.length ≤ 9223372036854775807
def Bd_BoolS (a : List (Bool)) : Prop := a.length ≤ 1048576
def Wf_Held (x : Int × Int × Int × List (ByteArray) × List (Bool) × Int × Unit) : Prop := Wf_StringS x.2.2.2.1 ∧ Wf_BoolS x.2.2.2.2.1 ∧ True
def Bd_Held (x : Int × Int × Int × List (ByteArray) × List (Bool) × Int × Unit) : Prop := Bd_StringS x.2.2.2.1 ∧ Bd_BoolS x.2.2.2.2.1 ∧ True
def Wf_HeldS (a : List (Int × Int × Int × List (ByteArray) × List (Bool) × Int)) : Prop := a.length ≤ 9223372036854775807 ∧ ∀ r ∈ a, Wf_Held (ag_Held r)
def Bd_HeldS (a : List (Int × Int × Int × List (ByteArray) × List (Bool) × Int)) : Prop := a.length ≤ 1048576 ∧ ∀ r ∈ a, Bd_Held (ag_Held r)
def Wf_Shelf (x : (List (Int × Int × Int × List (ByteArray) × List (Bool) × Int)) × Unit) : Prop := Wf_HeldS x.1 ∧ True
def Bd_Shelf (x : (List (Int × Int × Int × List (ByteArray) × List (Bool) × Int)) × Unit) : Prop := Bd_HeldS x.1 ∧ True
theorem szStringS_le (k : Nat) (a : List (ByteArray)) (n : Int) (h : 0 ≤ n ∧ n ≤ 1048576) (hk : 1048576 < k) (hw : Wf_StringS a) : ∃ m : Int, w_szStringS k (a, (n, ())) = some (m, ((), ((), ()))) ∧ (0 ≤ m → m ≤ n ∧ Bd_StringS a) := by
  unfold w_szStringS
  have hl : a.length ≤ 9223372036854775807 := hw.1
  have e : wi64 (n - (List.length a : Int)) = n - (List.length a : Int) := w64_id _ (by omega)
  simp only [e]
  by_cases hc : n - (List.length a : Int) < 0
  · simp only [hc, decide_true, if_true]
    exact ⟨_, rfl, fun h => by omega⟩
  · simp only [hc, decide_false, Bool.false_eq_true, if_false]
    refine (loop_sz (t := .str) a (fun m => (m, ((), ((), ())))) (fun _ => True) ?_ ?_ (n - a.length) (by omega) (by omega) k (by omega)).imp fun m hm => ⟨hm.1, fun h0 => ⟨by have := (hm.2 h0).1; omega, by show a.length ≤ 1048576; omega⟩⟩
    · intro again n' i hn0 hn1 hi hl'
      have w : wi64 (i + 1) = i + 1 := w64_id _ (by omega)
      have hr := rd_get (t := .str) a i (by omega)
      have hs : ByteArray.size (Ty.rd (t := .str) a i) ≤ 9223372036854775807 := by rw [hr]; exact hw.2 _ (List.getElem_mem _)
      have w2 : wi64 (n' - (ByteArray.size (Ty.rd (t := .str) a i) : Int)) = n' - (ByteArray.size (Ty.rd (t := .str) a i) : Int) := w64_id _ (by omega)
      refine ⟨n' - (ByteArray.size (Ty.rd (t := .str) a i) : Int), fun hm => ⟨by omega, trivial⟩, ?_⟩
      simp only [hl', hi, w2, w, decide_true, and_self, if_true, decide_eq_true_eq]
    · intro again n' i hi
      have : ¬ i < (a.length : Int) := by omega
      simp [this]
theorem szBoolS_le (k : Nat) (a : List (Bool)) (n : Int) (h : 0 ≤ n ∧ n ≤ 1048576) (hk : 1048576 < k) (hw : Wf_BoolS a) : ∃ m : Int, w_szBoolS k (a, (n, ())) = some (m, ((), ((), ()))) ∧ (0 ≤ m → m ≤ n ∧ Bd_BoolS a) := by
  unfold w_szBoolS
  have hl : a.length ≤ 9223372036854775807 := hw
  have e : wi64 (n - (List.length a : Int)) = n - (List.length a : Int) := w64_id _ (by omega)
  simp only [e]
  by_cases hc : n - (List.length a : Int) < 0
  · simp only [hc, decide_true, if_true]
    exact ⟨_, rfl, fun h => by omega⟩
  · simp only [hc, decide_false, Bool.false_eq_true, if_false]
    exact ⟨_, rfl, fun _ => ⟨by omega, by show a.length ≤ 1048576; omega⟩⟩
theorem szHeld_le (k : Nat) (x : Int × Int × Int × List (ByteArray) × List (Bool) × Int × Unit) (n : Int) (h : 0 ≤ n ∧ n ≤ 1048576) (hk : 1048576 < k) (hw : Wf_Held x) : ∃ m : Int, w_szHeld k (x, (n, ())) = some (m, ((), ((), ()))) ∧ (0 ≤ m → m ≤ n ∧ Bd_Held x) := by
  obtain ⟨a0, a1, a2, a3, a4, a5, u⟩ := x
  unfold w_szHeld
  unfold Wf_Held at hw
  unfold Bd_Held
  simp only [] at hw ⊢
  obtain ⟨w3, w4, _⟩ := hw
  obtain ⟨m0, e0, b0⟩ := szStringS_le k a3 n ⟨by omega, by omega⟩ hk w3
  simp only [e0, Option.bind_some]
  by_cases c0 : m0 < 0
  · simp only [c0, decide_true, if_true]
    exact ⟨_, rfl, fun h => by omega⟩
  have d0 := b0 (by omega)
  simp only [c0, decide_false, Bool.false_eq_true, if_false]
  obtain ⟨m1, e1, b1⟩ := szBoolS_le k a4 m0 ⟨by omega, by omega⟩ hk w4
  simp only [e1, Option.bind_some]
  by_cases c1 : m1 < 0
  · simp only [c1, decide_true, if_true]
    exact ⟨_, rfl, fun h => by omega⟩
  have d1 := b1 (by omega)
  simp only [c1, decide_false, Bool.false_eq_true, if_false]
  exact ⟨_, rfl, fun _ => ⟨by omega, ⟨d0.2, d1.2, trivial⟩⟩⟩
theorem szHeldS_le (k : Nat) (a : List (Int × Int × Int × List (ByteArray) × List (Bool) × Int)) (n : Int) (h : 0 ≤ n ∧ n ≤ 1048576) (hk : 1048576 < k) (hw : Wf_HeldS a) : ∃ m : Int, w_szHeldS k (a, (n, ())) = some (m, ((), ((), ()))) ∧ (0 ≤ m → m ≤ n ∧ Bd_HeldS a) := by
  unfold w_szHeldS
  have hl : a.length ≤ 9223372036854775807 := hw.1
  have e : wi64 (n - (List.length a : Int)) = n - (List.length a : Int) := w64_id _ (by omega)
  simp only [e]
  by_cases hc : n - (List.length a : Int) < 0
  · simp only [hc, decide_true, if_true]
    exact ⟨_, rfl, fun h => by omega⟩
  · simp only [hc, decide_false, Bool.false_eq_true, if_false]
    refine (loop_sz (t := (.pair (.int .i64) (.pair (.int .i64) (.pair (.int .i64) (.pair (.list .str) (.pair (.list .bool) (.int .i64))))))) a (fun m => (m, ((), ((), ())))) (fun r => Bd_Held (ag_Held r)) ?_ ?_ (n - a.length) (by omega) (by omega) k (by omega)).imp fun m hm => ⟨hm.1, fun h0 => ⟨by have := (hm.2 h0).1; omega, ⟨by omega, (hm.2 h0).2⟩⟩⟩
    · intro again n' i hn0 hn1 hi hl'
      have w : wi64 (i + 1) = i + 1 := w64_id _ (by omega)
      have hr := rd_get (t := (.pair (.int .i64) (.pair (.int .i64) (.pair (.int .i64) (.pair (.list .str) (.pair (.list .bool) (.int .i64))))))) a i (by omega)
      obtain ⟨m, e1, e2⟩ := szHeld_le k (ag_Held (Ty.rd (t := (.pair (.int .i64) (.pair (.int .i64) (.pair (.int .i64) (.pair (.list .str) (.pair (.list .bool) (.int .i64))))))) a i)) n' ⟨hn0, hn1⟩ hk (by rw [hr]; exact hw.2 _ (List.getElem_mem _))
      simp only [ag_Held] at e1
      refine ⟨m, fun hm => e2 hm, ?_⟩
      simp only [hl', hi, e1, w, decide_true, and_self, if_true, Option.bind_some, decide_eq_true_eq]
    · intro again n' i hi
      have : ¬ i < (a.length : Int) := by omega
      simp [this]
theorem szShelf_le (k : Nat) (x : (List (Int × Int × Int × List (ByteArray) × List (Bool) × Int)) × Unit) (n : Int) (h : 0 ≤ n ∧ n ≤ 1048576) (hk : 1048576 < k) (hw : Wf_Shelf x) : ∃ m : Int, w_szShelf k (x, (n, ())) = some (m, ((), ((), ()))) ∧ (0 ≤ m → m ≤ n ∧ Bd_Shelf x) := by
  obtain ⟨a0, u⟩ := x
  unfold w_szShelf
  unfold Wf_Shelf at hw
  unfold Bd_Shelf
  simp only [] at hw ⊢
  obtain ⟨w0, _⟩ := hw
  obtain ⟨m0, e0, b0⟩ := szHeldS_le k a0 n ⟨by omega, by omega⟩ hk w0
  simp only [e0, Option.bind_some]
  by_cases c0 : m0 < 0
  · simp only [c0, decide_true, if_true]
    exact ⟨_, rfl, fun h => by omega⟩
  have d0 := b0 (by omega)
  simp only [c0, decide_false, Bool.false_eq_true, if_false]
  exact ⟨_, rfl, fun _ => ⟨by omega, ⟨d0.2, trivial⟩⟩⟩
theorem toStringS_is (k : Nat) (a : List (ByteArray)) (hk : 1048576 < k) (hb : Bd_StringS a) : w_toStringS k (a, ()) = some (a, ((), ())) := by
  unfold w_toStringS
  have hl : a.length ≤ 1048576 := hb
  have hcap : (capMax : Int) = 274877906944 := rfl
  simp only [if_true]
  rw [if_pos (by omega)]
  refine loop_to (t := .str) a (fun out => (out, ((), ()))) ?_ ?_ _ (by simp) k (by omega)
  · intro again out i hi hl' ho
    have w : wi64 (i + 1) = i + 1 := w64_id _ (by omega)
    simp only [hl', hi, ho, w, decide_true, and_self, if_true]
  · intro again out i hi
    have : ¬ i < (a.length : Int) := by omega
    simp [this]
theorem toBoolS_is (k : Nat) (a : List (Bool)) (hk : 1048576 < k) (hb : Bd_BoolS a) : w_toBoolS k (a, ()) = some (a, ((), ())) := by
  unfold w_toBoolS
  have hl : a.length ≤ 1048576 := hb
  have hcap : (capMax : Int) = 274877906944 := rfl
  simp only [if_true]
  rw [if_pos (by omega)]
  refine loop_to (t := .bool) a (fun out => (out, ((), ()))) ?_ ?_ _ (by simp) k (by omega)
  · intro again out i hi hl' ho
    have w : wi64 (i + 1) = i + 1 := w64_id _ (by omega)
    simp only [hl', hi, ho, w, decide_true, and_self, if_true]
  · intro again out i hi
    have : ¬ i < (a.length : Int) := by omega
    simp [this]
theorem toHeld_is (k : Nat) (x : Int × Int × Int × List (ByteArray) × List (Bool) × Int × Unit) (hk : 1048576 < k) (hb : Bd_Held x) : w_toHeld k (x, ()) = some (x, ((), ())) := by
  obtain ⟨a0, a1, a2, a3, a4, a5, u⟩ := x
  unfold w_toHeld
  unfold Bd_Held at hb
  obtain ⟨b3, b4, b⟩ := hb
  simp only [] at b3 b4
  simp only [toStringS_is k a3 hk b3, toBoolS_is k a4 hk b4, Option.bind_some]
theorem toHeldS_is (k : Nat) (a : List (Int × Int × Int × List (ByteArray) × List (Bool) × Int)) (hk : 1048576 < k) (hb : Bd_HeldS a) : w_toHeldS k (a, ()) = some (a, ((), ())) := by
  unfold w_toHeldS
  have hl : a.length ≤ 1048576 := hb.1
  have hcap : (capMax : Int) = 274877906944 := rfl
  simp only [if_true]
  rw [if_pos (by omega)]
  refine loop_to (t := (.pair (.int .i64) (.pair (.int .i64) (.pair (.int .i64) (.pair (.list .str) (.pair (.list .bool) (.int .i64))))))) a (fun out => (out, ((), ()))) ?_ ?_ _ (by simp) k (by omega)
  · intro again out i hi hl' ho
    have w : wi64 (i + 1) = i + 1 := w64_id _ (by omega)
    have hr := rd_get (t := (.pair (.int .i64) (.pair (.int .i64) (.pair (.int .i64) (.pair (.list .str) (.pair (.list .bool) (.int .i64))))))) a i (by omega)
    have e := toHeld_is k (ag_Held (Ty.rd (t := (.pair (.int .i64) (.pair (.int .i64) (.pair (.int .i64) (.pair (.list .str) (.pair (.list .bool) (.int .i64))))))) a i)) hk (by rw [hr]; exact hb.2 _ (List.getElem_mem _))
    simp only [ag_Held] at e
    simp only [hl', hi, ho, e, w, decide_true, and_self, if_true, Option.bind_some]
  · intro again out i hi
    have : ¬ i < (a.length : Int) := by omega
    simp [this]
theorem toShelf_is (k : Nat) (x : (List (Int × Int × Int × List (ByteArray) × List (Bool) × Int)) × Unit) (hk : 1048576 < k) (hb : Bd_Shelf x) : w_toShelf k (x, ()) = some (x, ((), ())) := by
  obtain ⟨a0, u⟩ := x
  unfold w_toShelf
  unfold Bd_Shelf at hb
  obtain ⟨b0, b⟩ := hb
  simp only [] at b0
  simp only [toHeldS_is k a0 hk b0, Option.bind_some]
theorem eqStringS_is (k : Nat) (a b : List (.str : Ty).den) (hk : 1048576 < k) (hb : Bd_StringS a) : w_eqStringS k (a, (b, ())) = some (dq a b, ((), ((), ()))) := by
  unfold w_eqStringS
  have hl : a.length ≤ 1048576 := hb
  by_cases hab : a.length = b.length
  · simp only [hab, decide_true, Bool.not_true]
    refine (loop_dq (t := .str) (R := Bool × Unit × Unit × Unit) a b hab (false, ((), ((), ()))) (true, ((), ((), ()))) ?_ ?_ k (by omega)).trans ?_
    · intro again i hi hl'
      have w : wi64 (i + 1) = i + 1 := w64_id _ (by omega)
      have hlb : i < (b.length : Int) := by omega
      simp only [hl', hi, hlb, w, decide_true, and_self, if_true]
      by_cases e : Ty.rd (t := .str) a i = Ty.rd (t := .str) b i <;> simp [e, dq_self, dq_false]
    · intro again i hi
      have : ¬ i < (a.length : Int) := by omega
      simp only [this, decide_false]
      rfl
    · cases dq a b <;> simp
  · have : ¬ ((a.length : Int) = (b.length : Int)) := by omega
    have h2 : a ≠ b := fun h => hab (by rw [h])
    simp [this, dq_false h2]
theorem eqBoolS_is (k : Nat) (a b : List (.bool : Ty).den) (hk : 1048576 < k) (hb : Bd_BoolS a) : w_eqBoolS k (a, (b, ())) = some (dq a b, ((), ((), ()))) := by
  unfold w_eqBoolS
  have hl : a.length ≤ 1048576 := hb
  by_cases hab : a.length = b.length
  · simp only [hab, decide_true, Bool.not_true]
    refine (loop_dq (t := .bool) (R := Bool × Unit × Unit × Unit) a b hab (false, ((), ((), ()))) (true, ((), ((), ()))) ?_ ?_ k (by omega)).trans ?_
    · intro again i hi hl'
      have w : wi64 (i + 1) = i + 1 := w64_id _ (by omega)
      have hlb : i < (b.length : Int) := by omega
      simp only [hl', hi, hlb, w, decide_true, and_self, if_true]
      by_cases e : Ty.rd (t := .bool) a i = Ty.rd (t := .bool) b i <;> simp [e, dq_self, dq_false]
    · intro again i hi
      have : ¬ i < (a.length : Int) := by omega
      simp only [this, decide_false]
      rfl
    · cases dq a b <;> simp
  · have : ¬ ((a.length : Int) = (b.length : Int)) := by omega
    have h2 : a ≠ b := fun h => hab (by rw [h])
    simp [this, dq_false h2]
theorem eqHeld_is (k : Nat) (x y : Int × Int × Int × List (ByteArray) × List (Bool) × Int × Unit) (hk : 1048576 < k) (hb : Bd_Held x) : w_eqHeld k (x, (y, ())) = some (dq x y, ((), ((), ()))) := by
  obtain ⟨a0, a1, a2, a3, a4, a5, u⟩ := x
  obtain ⟨b0, b1, b2, b3, b4, b5, u'⟩ := y
  unfold w_eqHeld
  unfold Bd_Held at hb
  obtain ⟨w3, w4, _⟩ := hb
  simp only [] at w3 w4
  simp only [eqStringS_is k a3 b3 hk w3, eqBoolS_is k a4 b4 hk w4, Option.bind_some]
  by_cases h0 : a0 = b0
  rotate_left
  · have hn : (a0, (a1, (a2, (a3, (a4, (a5, ())))))) ≠ (b0, (b1, (b2, (b3, (b4, (b5, ())))))) := fun h => h0 (by simp only [Prod.mk.injEq] at h; simp_all)
    rw [dq_false hn]
    simp [h0]
  subst h0
  by_cases h1 : a1 = b1
  rotate_left
  · have hn : (a0, (a1, (a2, (a3, (a4, (a5, ())))))) ≠ (a0, (b1, (b2, (b3, (b4, (b5, ())))))) := fun h => h1 (by simp only [Prod.mk.injEq] at h; simp_all)
    rw [dq_false hn]
    simp [h1]
  subst h1
  by_cases h2 : a2 = b2
  rotate_left
  · have hn : (a0, (a1, (a2, (a3, (a4, (a5, ())))))) ≠ (a0, (a1, (b2, (b3, (b4, (b5, ())))))) := fun h => h2 (by simp only [Prod.mk.injEq] at h; simp_all)
    rw [dq_false hn]
    simp [h2]
  subst h2
  by_cases h3 : a3 = b3
  rotate_left
  · have hn : (a0, (a1, (a2, (a3, (a4, (a5, ())))))) ≠ (a0, (a1, (a2, (b3, (b4, (b5, ())))))) := fun h => h3 (by simp only [Prod.mk.injEq] at h; simp_all)
    rw [dq_false hn]
    simp [h3, dq_false]
  subst h3
  by_cases h4 : a4 = b4
  rotate_left
  · have hn : (a0, (a1, (a2, (a3, (a4, (a5, ())))))) ≠ (a0, (a1, (a2, (a3, (b4, (b5, ())))))) := fun h => h4 (by simp only [Prod.mk.injEq] at h; simp_all)
    rw [dq_false hn]
    simp [h4, dq_false]
  subst h4
  by_cases h5 : a5 = b5
  rotate_left
  · have hn : (a0, (a1, (a2, (a3, (a4, (a5, ())))))) ≠ (a0, (a1, (a2, (a3, (a4, (b5, ())))))) := fun h => h5 (by simp only [Prod.mk.injEq] at h; simp_all)
    rw [dq_false hn]
    simp [h5]
  subst h5
  simp [dq_self]
theorem eqHeldS_is (k : Nat) (a b : List RT_Held.den) (hk : 1048576 < k) (hb : Bd_HeldS a) : w_eqHeldS k (a, (b, ())) = some (dq a b, ((), ((), ()))) := by
  unfold w_eqHeldS
  have hl : a.length ≤ 1048576 := hb.1
  by_cases hab : a.length = b.length
  · simp only [hab, decide_true, Bool.not_true]
    refine (loop_dq (t := RT_Held) (R := Bool × Unit × Unit × Unit) a b hab (false, ((), ((), ()))) (true, ((), ((), ()))) ?_ ?_ k (by omega)).trans ?_
    · intro again i hi hl'
      have w : wi64 (i + 1) = i + 1 := w64_id _ (by omega)
      have hlb : i < (b.length : Int) := by omega
      have hr := rd_get (t := RT_Held) a i (by omega)
      have e := eqHeld_is k (ag_Held (Ty.rd (t := RT_Held) a i)) (ag_Held (Ty.rd (t := RT_Held) b i)) hk (by rw [hr]; exact hb.2 _ (List.getElem_mem _))
      rw [show (dq (ag_Held (Ty.rd (t := RT_Held) a i)) (ag_Held (Ty.rd (t := RT_Held) b i))) = dq (Ty.rd (t := RT_Held) a i) (Ty.rd (t := RT_Held) b i) from dq_of (ag_Held_inj _ _)] at e
      simp only [ag_Held] at e
      simp only [hl', hi, hlb, e, w, decide_true, and_self, if_true, Option.bind_some]
      cases dq (Ty.rd (t := RT_Held) a i) (Ty.rd (t := RT_Held) b i) <;> simp
    · intro again i hi
      have : ¬ i < (a.length : Int) := by omega
      simp only [this, decide_false]
      rfl
    · cases dq a b <;> simp
  · have : ¬ ((a.length : Int) = (b.length : Int)) := by omega
    have h2 : a ≠ b := fun h => hab (by rw [h])
    simp [this, dq_false h2]
theorem eqShelf_is (k : Nat) (x y : (List (Int × Int × Int × List (ByteArray) × List (Bool) × Int)) × Unit) (hk : 1048576 < k) (hb : Bd_Shelf x) : w_eqShelf k (x, (y, ())) = some (dq x y, ((), ((), ()))) := by
  obtain ⟨a0, u⟩ := x
  obtain ⟨b0, u'⟩ := y
  unfold w_eqShelf
  unfold Bd_Shelf at hb
  obtain ⟨w0, _⟩ := hb
  simp only [] at w0
  simp only [eqHeldS_is k a0 b0 hk w0, Option.bind_some]
  by_cases h0 : a0 = b0
  rotate_left
  · have hn : (a0, ()) ≠ (b0, ()) := fun h => h0 (by simp only [Prod.mk.injEq] at h; simp_all)
    rw [dq_false hn]
    simp [h0, dq_false]
  subst h0
  simp [dq_self]
theorem getD_some' {A : Type} {l : List A} {n : Nat} {r d : A} (h : l[n]? = some r) : l.getD n d = r := by simp [List.getD, h]
theorem getD_set' {A : Type} {l : List A} {n : Nat} {x d : A} (h : n < l.length) : (l.set n x).getD n d = x := by simp [List.getD, h]
theorem set_set' {A : Type} (l : List A) (n : Nat) (x y : A) : (l.set n x).set n y = l.set n y := by simp
/-- Marks are laid row by row, and found again. -/
theorem loop_MH {A R R' : Type} {step : (List A × Int × Int × Unit → Option R) → List A × Int × Int × Unit → Option R} {hstep : (List A × Int × Int × Unit → Option R') → List A × Int × Int × Unit → Option R'} (fin : List A → Int → R) (hfin : Int → R') (c N : Int) (hc : 0 ≤ c) (P : A → Prop)
    (hs : ∀ (r : A), P r → ∀ n : Int, 0 ≤ n → n + c ≤ N → ∃ (r' : A) (n' : Int), n ≤ n' ∧ n' ≤ n + c ∧ (∀ again (out : List A) (i : Int), 0 ≤ i → i < out.length → i ≤ 1048576 → out[i.toNat]? = some r → step again (out, (n, (i, ()))) = again (out.set i.toNat r', (n', (i + 1, ())))) ∧
      (∀ again (out : List A) (i : Int), 0 ≤ i → i < out.length → i ≤ 1048576 → out[i.toNat]? = some r' → hstep again (out, (n, (i, ()))) = again (out, (n', (i + 1, ())))))
    (he : ∀ again (out : List A) (n i : Int), (out.length : Int) ≤ i → step again (out, (n, (i, ()))) = some (fin out n))
    (hhe : ∀ again (out : List A) (n i : Int), (out.length : Int) ≤ i → hstep again (out, (n, (i, ()))) = some (hfin n))
    (a : List A) (ha : ∀ r ∈ a, P r) (hal : a.length ≤ 1048576) (n : Int) (hn : 0 ≤ n) (C : Int) (hC : C = c * (a.length : Nat)) (hN : n + C ≤ N) (k : Nat) (hk : 1048576 < k) :
    ∃ (a' : List A) (n' : Int), a'.length = a.length ∧ n ≤ n' ∧ n' ≤ n + C ∧ whileK step k (a, (n, (0, ()))) = some (fin a' n') ∧ whileK hstep k (a', (n, (0, ()))) = some (hfin n') := by
  subst hC
  have key : ∀ (s p : List A) (n : Int) (k : Nat), (∀ r ∈ s, P r) → p.length + s.length ≤ 1048576 → 0 ≤ n → n + c * (s.length : Nat) ≤ N → s.length < k →
      ∃ (s' : List A) (n' : Int), s'.length = s.length ∧ n ≤ n' ∧ n' ≤ n + c * (s.length : Nat) ∧ whileK step k (p ++ s, (n, ((p.length : Int), ()))) = some (fin (p ++ s') n') ∧ whileK hstep k (p ++ s', (n, ((p.length : Int), ()))) = some (hfin n') := by
    intro s
    induction s with
    | nil =>
      intro p n k _ _ _ _ hk
      obtain ⟨k, rfl⟩ : ∃ k', k = k' + 1 := ⟨k - 1, by omega⟩
      exact ⟨[], n, rfl, by omega, by simp, he _ _ _ _ (by simp), hhe _ _ _ _ (by simp)⟩
    | cons r s ih =>
      intro p n k hP hl hn hN hk
      obtain ⟨k, rfl⟩ : ∃ k', k = k' + 1 := ⟨k - 1, by omega⟩
      simp only [List.length_cons] at hl hN hk
      have e : c * ((s.length + 1 : Nat) : Int) = c * (s.length : Nat) + c := by rw [Int.natCast_add, Int.mul_add]; simp
      have hpos : 0 ≤ c * ((s.length : Nat) : Int) := Int.mul_nonneg hc (by omega)
      rw [e] at hN
      obtain ⟨r', n1, h1, h2, h3, h4⟩ := hs r (hP r (by simp)) n hn (by omega)
      obtain ⟨s', n', g1, g2, g3, g4, g5⟩ := ih (p ++ [r']) n1 k (fun x hx => hP x (List.mem_cons_of_mem _ hx)) (by simp; omega) (by omega) (by omega) (by omega)
      have ep : ((p ++ [r']).length : Int) = (p.length : Int) + 1 := by simp
      rw [ep, List.append_assoc, List.append_assoc] at g4
      rw [ep, List.append_assoc] at g5
      refine ⟨r' :: s', n', by simp [g1], by omega, by simp only [List.length_cons]; rw [e]; omega, ?_, ?_⟩
      · show step (whileK step k) _ = _
        rw [h3 _ _ _ (by omega) (by simp; omega) (by omega) (by simp)]
        have : (p ++ r :: s).set ((p.length : Int)).toNat r' = p ++ ([r'] ++ s) := by simp
        rw [this]
        exact g4
      · show hstep (whileK hstep k) _ = _
        rw [h4 _ _ _ (by omega) (by simp; omega) (by omega) (by simp)]
        exact g5
  have := key a [] n k ha (by simpa using hal) hn hN (by omega)
  simpa using this
theorem MH_BoolS (k : Nat) (a : List Bool) (n : Int) (hn : 0 ≤ n) (hN : n + a.length ≤ 4611686018427387904) (hk : 1048576 < k) (hl : a.length ≤ 1048576) :
    ∃ (a' : List Bool) (n' : Int), a'.length = a.length ∧ n ≤ n' ∧ n' ≤ n + a.length ∧ w_markBoolS k (a, (n, ())) = some (n', (a', ((), ()))) ∧ w_heldBoolS k (a', (n, ())) = some (n', ((), ((), ()))) := by
  unfold w_markBoolS w_heldBoolS
  refine loop_MH (A := Bool) (fun out n => (n, (out, ((), ())))) (fun n => (n, ((), ((), ())))) 1 4611686018427387904 (by decide) (fun _ => True) ?_ ?_ ?_ a (fun _ _ => trivial) hl n hn (a.length : Int) (by omega) (by omega) k hk
  · intro r _ n hn hN
    refine ⟨decide (Int.tmod n 3 = 0), n + 1, by omega, by omega, fun again out i h0 h1 h2 hr => ?_, fun again out i h0 h1 h2 hr => ?_⟩
    · have w : wi64 (n + 1) = n + 1 := w64_id _ (by omega)
      have w' : wi64 (i + 1) = i + 1 := w64_id _ (by omega)
      simp only [h0, h1, w, w', decide_true, and_self, if_true]
    · have w : wi64 (n + 1) = n + 1 := w64_id _ (by omega)
      have w' : wi64 (i + 1) = i + 1 := w64_id _ (by omega)
      simp only [Ty.rd, getD_some' hr, h0, h1, w, w', decide_true, and_self, if_true, Bool.not_true, Bool.false_eq_true, if_false]
  · intro again out n i hi
    have : ¬ i < (out.length : Int) := by omega
    simp [this]
  · intro again out n i hi
    have : ¬ i < (out.length : Int) := by omega
    simp [this]
theorem markText_ends (k : Nat) (n : Int) (hn : n < 4611686018427387904) (hk : n < k) : ∃ r, w_markText k (n, ()) = some (r, ((), ())) := by
  unfold w_markText
  by_cases h0 : n ≤ 0
  · simp only [h0, decide_true, if_true]
    exact ⟨_, rfl⟩
  · simp only [h0, decide_false]
    have hm : maxStr = 9223372036854775807 := rfl
    have h1 : (⟨#[109]⟩ : ByteArray).size = 1 := rfl
    refine (whileK_some (g := fun t : ByteArray => (t, ((), ()))) (fun y : Int × ByteArray × Unit => y.1.toNat) (fun y : Int × ByteArray × Unit => 0 ≤ y.1 ∧ y.1 + (y.2.1.size : Int) < 4611686018427387905) (fun _ _ => True) ?_ k (n, ((⟨#[]⟩ : ByteArray), ())) ⟨by simp only; omega, by simp only; have : (⟨#[]⟩ : ByteArray).size = 0 := rfl; omega⟩ (by simp only; omega)).imp fun t h => h.1
    · rintro ⟨a, s, u⟩ ⟨g1, g2⟩ again hg
      simp only at g1 g2
      have hsz : ∀ c : Int, (strOf [c]).size = 1 := fun c => by simp [strOf, ByteArray.size]
      by_cases ha : 0 < a
      · have hq : Int.tdiv a 10 = a / 10 := Int.tdiv_eq_ediv_of_nonneg g1
        have hw : wi64 (a / 10) = a / 10 := w64_id _ (by omega)
        simp only [ha, decide_true, if_true, hsz, hq, hw]
        rw [if_pos (by omega)]
        exact hg _ ⟨by simp only; omega, by simp only [ByteArray.size_append, hsz]; omega⟩ (by simp only; omega)
      · simp only [ha, decide_false]
        have : ((⟨#[109]⟩ : ByteArray).size + s.size ≤ maxStr) := by omega
        simp only [this, if_true]
        exact ⟨_, rfl, trivial⟩
theorem MH_StringS (k : Nat) (a : List ByteArray) (n : Int) (hn : 0 ≤ n) (hN : n + a.length < 4611686018427387904) (hk : 4611686018427387904 < k) (hl : a.length ≤ 1048576) :
    ∃ (a' : List ByteArray) (n' : Int), a'.length = a.length ∧ n ≤ n' ∧ n' ≤ n + a.length ∧ w_markStringS k (a, (n, ())) = some (n', (a', ((), ()))) ∧ w_heldStringS k (a', (n, ())) = some (n', ((), ((), ()))) := by
  unfold w_markStringS w_heldStringS
  refine loop_MH (A := ByteArray) (fun out n => (n, (out, ((), ())))) (fun n => (n, ((), ((), ())))) 1 4611686018427387904 (by decide) (fun _ => True) ?_ ?_ ?_ a (fun _ _ => trivial) hl n hn (a.length : Int) (by omega) (by omega) k (by omega)
  · intro r _ n hn hN
    obtain ⟨tx, ht⟩ := markText_ends k n (by omega) (by omega)
    refine ⟨tx, n + 1, by omega, by omega, fun again out i h0 h1 h2 hr => ?_, fun again out i h0 h1 h2 hr => ?_⟩
    · have w : wi64 (n + 1) = n + 1 := w64_id _ (by omega)
      have w' : wi64 (i + 1) = i + 1 := w64_id _ (by omega)
      simp only [ht, Option.bind_some, h0, h1, w, w', decide_true, and_self, if_true]
    · have w : wi64 (n + 1) = n + 1 := w64_id _ (by omega)
      have w' : wi64 (i + 1) = i + 1 := w64_id _ (by omega)
      simp only [ht, Option.bind_some, Ty.rd, getD_some' hr, h0, h1, w, w', decide_true, and_self, if_true, Bool.not_true, Bool.false_eq_true, if_false]
  · intro again out n i hi
    have : ¬ i < (out.length : Int) := by omega
    simp [this]
  · intro again out n i hi
    have : ¬ i < (out.length : Int) := by omega
    simp [this]
theorem MH_HeldS (k : Nat) (a : List (Int × Int × Int × List (ByteArray) × List (Bool) × Int)) (n : Int) (hn : 0 ≤ n) (C : Int) (hC : C = 2097160 * (a.length : Nat)) (hN : n + C < 4611686018427387904) (hk : 4611686018427387904 < k) (hb : Bd_HeldS a) :
    ∃ (a' : List (Int × Int × Int × List (ByteArray) × List (Bool) × Int)) (n' : Int), a'.length = a.length ∧ n ≤ n' ∧ n' ≤ n + C ∧ w_markHeldS k (a, (n, ())) = some (n', (a', ((), ()))) ∧ w_heldHeldS k (a', (n, ())) = some (n', ((), ((), ()))) := by
  unfold w_markHeldS w_heldHeldS
  refine loop_MH (A := Int × Int × Int × List (ByteArray) × List (Bool) × Int) (fun out n => (n, (out, ((), ())))) (fun n => (n, ((), ((), ())))) 2097160 4611686018427387903 (by decide) (fun r => r.2.2.2.1.length ≤ 1048576 ∧ r.2.2.2.2.1.length ≤ 1048576) ?_ ?_ ?_ a (fun r hr => ⟨(hb.2 r hr).1, (hb.2 r hr).2.1⟩) hb.1 n hn C hC (by omega) k (by omega)
  · rintro ⟨r1, r2, r3, ps, hv, r6⟩ ⟨p1, p2⟩ n hn hN
    simp only at p1 p2
    have w1 : wi64 (n + 1) = n + 1 := w64_id _ (by omega)
    have w2 : wi64 (n + 1 + 1) = n + 1 + 1 := w64_id _ (by omega)
    have w3 : wi64 (n + 1 + 1 + 1) = n + 1 + 1 + 1 := w64_id _ (by omega)
    obtain ⟨ps', n1, a1, a2, a3, a4, a5⟩ := MH_StringS k ps (n + 1 + 1 + 1) (by omega) (by omega) hk p1
    obtain ⟨hv', n2, b1, b2, b3, b4, b5⟩ := MH_BoolS k hv n1 (by omega) (by omega) (by omega) p2
    have w4 : wi64 (n2 + 1) = n2 + 1 := w64_id _ (by omega)
    have c1 : ¬ n1 < 0 := by omega
    have c2 : ¬ n2 < 0 := by omega
    refine ⟨(n, n + 1, n + 1 + 1, ps', hv', n2), n2 + 1, by omega, by omega, fun again out i h0 h1 h2 hr => ?_, fun again out i h0 h1 h2 hr => ?_⟩
    · have w' : wi64 (i + 1) = i + 1 := w64_id _ (by omega)
      have hlt : i.toNat < out.length := by omega
      simp only [jn, Ty.rd, getD_some' hr, getD_set' (show i.toNat < _ by simpa using hlt), List.length_set, set_set', h0, h1, hlt, w1, w2, w3, w4, w', a4, b4, Option.bind_some, decide_true, and_self, if_true, getD_set']
    · have w' : wi64 (i + 1) = i + 1 := w64_id _ (by omega)
      simp only [Ty.rd, getD_some' hr, h0, h1, w1, w2, w3, w4, w', a5, b5, c1, c2, Option.bind_some, decide_true, decide_false, and_self, if_true, Bool.not_true, Bool.false_eq_true, if_false]
  · intro again out n i hi
    have : ¬ i < (out.length : Int) := by omega
    simp [this]
  · intro again out n i hi
    have : ¬ i < (out.length : Int) := by omega
    simp [this]
theorem foldE_all {g : Nat → Unit → (Bool × Unit × Unit) ⊕ Unit} {fin : Unit → Bool × Unit × Unit} (hg : ∀ i, g i () = .inr () ∨ ∃ o, g i () = .inl (false, o)) :
    ∀ m i, (foldE g fin m i ()).1 = true → ∀ j, i ≤ j → j < i + m → g j () = .inr () := by
  intro m
  induction m with
  | zero => intro i _ j h1 h2; omega
  | succ m ih =>
    intro i h j h1 h2
    rcases hg i with e | ⟨o, e⟩
    · by_cases hj : j = i
      · rw [hj]; exact e
      · refine ih (i + 1) ?_ j (by omega) (by omega)
        simpa [foldE, e] using h
    · simp [foldE, e] at h
theorem foldE_fin {g : Nat → Unit → (Bool × Unit × Unit) ⊕ Unit} {fin : Unit → Bool × Unit × Unit} (hg : ∀ i, g i () = .inr () ∨ ∃ o, g i () = .inl (false, o)) :
    ∀ m i, (foldE g fin m i ()).1 = true → (fin ()).1 = true := by
  intro m
  induction m with
  | zero => intro i h; simpa [foldE] using h
  | succ m ih =>
    intro i h
    rcases hg i with e | ⟨o, e⟩
    · exact ih (i + 1) (by simpa [foldE, e] using h)
    · simp [foldE, e] at h
def goodP (ps : List ByteArray) (hv : List Bool) (i : Nat) : Bool := decide ((Ty.rd (t := .str) ps i).size ≤ 120) && (Ty.rd (t := .bool) hv i || decide (Ty.rd (t := .str) ps i = (⟨#[]⟩ : ByteArray)))
def gH (ps : List ByteArray) (hv : List Bool) (i : Nat) (n : Int) : (Bool × Unit × Unit) ⊕ Int :=
  if goodP ps hv i then .inr (if Ty.rd (t := .bool) hv i then n + 1 else n) else .inl (false, ((), ()))
def heldB (x : Int × Int × Int × List ByteArray × List Bool × Int × Unit) : Bool :=
  decide ((1 ≤ x.1 ∧ x.1 ≤ 99) ∧ (0 ≤ x.2.1 ∧ x.2.1 ≤ 255) ∧ (2 ≤ x.2.2.1 ∧ x.2.2.1 ≤ 15) ∧ (x.2.2.2.1.length : Int) = x.2.2.1 ∧ (x.2.2.2.2.1.length : Int) = x.2.2.1 ∧ (0 ≤ x.2.2.2.2.2.1 ∧ x.2.2.2.2.2.1 ≤ 1000000000)) &&
    (foldE (gH x.2.2.2.1 x.2.2.2.2.1) (fun n => (decide (1 ≤ n ∧ n < x.2.2.1), ((), ()))) x.2.2.1.toNat 0 0).1
theorem gH_step {ps : List ByteArray} {hv : List Bool} {i : Nat} {n n' : Int} (h : gH ps hv i n = .inr n') (hi : 0 ≤ n ∧ n ≤ i) : 0 ≤ n' ∧ n' ≤ (i + 1 : Nat) := by
  unfold gH at h
  split at h
  · simp only [Sum.inr.injEq] at h
    subst h
    split <;> omega
  · simp at h
theorem foldE_unit {g : Nat → Int → (Bool × Unit × Unit) ⊕ Int} {f : Int → Bool × Unit × Unit} (n m : Nat) (a : Int) : foldE g f n m a = ((foldE g f n m a).1, ((), ())) := rfl
theorem s_l20Held_is (k : Nat) (x : Int × Int × Int × List ByteArray × List Bool × Int × Unit) (hk : 1048576 < k) : s_l20Held k (x, ()) = some (heldB x, ((), ())) := by
  obtain ⟨f, id, c, ps, hv, u, w⟩ := x
  unfold s_l20Held heldB
  simp only [l01In_is, Option.bind_some]
  by_cases h1 : 1 ≤ f ∧ f ≤ 99
  rotate_left
  · simp [h1]
  by_cases h2 : 0 ≤ id ∧ id ≤ 255
  rotate_left
  · simp [h2]
  by_cases h3 : 2 ≤ c ∧ c ≤ 15
  rotate_left
  · simp [h3]
  by_cases h4 : (ps.length : Int) = c
  rotate_left
  · simp [h4]
  by_cases h5 : (hv.length : Int) = c
  rotate_left
  · simp [h5]
  by_cases h6 : 0 ≤ u ∧ u ≤ 1000000000
  rotate_left
  · simp [h6]
  simp only [h1, h2, h3, h4, h5, h6, and_self, decide_true, Bool.not_true, if_true, Bool.true_and, Bool.false_eq_true, if_false]
  refine (loop_fold (A := Int) (fun i n => ((f, (id, (c, (ps, (hv, (u, ())))))), (n, ((i : Nat) : Int), ()))) c.toNat (gH ps hv) (fun n => (decide (1 ≤ n ∧ n < c), ((), ()))) (fun i n => 0 ≤ n ∧ n ≤ i) ?_ (fun i a a' _ h e => gH_step e h) ?_ k 0 ⟨by omega, by simp⟩ (by omega)).trans ?_
  · intro again i n hi hn
    have w1 : wi64 (n + 1) = n + 1 := w64_id _ (by omega)
    have w2 : wi64 ((i : Int) + 1) = ((i + 1 : Nat) : Int) := (w64_id _ (by omega)).trans (by omega)
    have g1 : (0 : Int) ≤ (i : Int) ∧ (i : Int) < (hv.length : Int) := by omega
    have g2 : (0 : Int) ≤ (i : Int) ∧ (i : Int) < (ps.length : Int) := by omega
    have g3 : (i : Int) < c := by omega
    unfold gH goodP jn
    simp only [g1, g2, g3, w1, w2, and_self, decide_true, if_true]
    generalize Ty.rd (t := .str) ps i = p
    cases hb : Ty.rd (t := .bool) hv i with
    | true =>
      by_cases hs : p.size ≤ 120
      · have : ¬ (120 : Int) < (p.size : Int) := by omega
        simp [hs, this]
      · have : (120 : Int) < (p.size : Int) := by omega
        simp [hs, this]
    | false =>
      by_cases he : p = (⟨#[]⟩ : ByteArray)
      · subst he
        have : (⟨#[]⟩ : ByteArray).size = 0 := rfl
        simp [this]
      · simp [he]
  · intro again n hn
    have : ¬ ((c.toNat : Nat) : Int) < c := by omega
    simp only [this, decide_false, Bool.false_eq_true, if_false]
    by_cases a : 1 ≤ n <;> simp [a]
  · rfl
theorem i_heldOk_is (k : Nat) (x : Int × Int × Int × List ByteArray × List Bool × Int × Unit) (hk : 1048576 < k) : i_heldOk k (x, ()) = some (heldB x, ((), ())) := by
  obtain ⟨f, id, c, ps, hv, u, w⟩ := x
  unfold i_heldOk heldB
  simp only [within_is, isId_is, Option.bind_some]
  by_cases h1 : 1 ≤ f ∧ f ≤ 99
  rotate_left
  · simp [h1]
  by_cases h2 : 0 ≤ id ∧ id ≤ 255
  rotate_left
  · simp [h2]
  by_cases h3 : 2 ≤ c ∧ c ≤ 15
  rotate_left
  · simp [h3]
  by_cases h4 : (ps.length : Int) = c
  rotate_left
  · simp [h4]
  by_cases h5 : (hv.length : Int) = c
  rotate_left
  · simp [h5]
  simp only [h1, h2, h3, h4, h5, and_self, decide_true, Bool.not_true, if_true, Bool.false_eq_true, if_false, true_and]
  have wc : wi64 (c - 1) = c - 1 := w64_id _ (by omega)
  refine (loop_fold (A := Int) (fun i n => ((f, (id, (c, (ps, (hv, (u, ())))))), (n, (hv, (c, ((i : Nat) : Int), ()))))) c.toNat (gH ps hv) (fun n => (decide ((1 ≤ n ∧ n < c) ∧ (0 ≤ u ∧ u ≤ 1000000000)), ((), ()))) (fun i n => 0 ≤ n ∧ n ≤ i) ?_ (fun i a a' _ h e => gH_step e h) ?_ k 0 ⟨by omega, by simp⟩ (by omega)).trans ?_
  · intro again i n hi hn
    have w1 : wi64 (n + 1) = n + 1 := w64_id _ (by omega)
    have w2 : wi64 ((i : Int) + 1) = ((i + 1 : Nat) : Int) := (w64_id _ (by omega)).trans (by omega)
    have g1 : (0 : Int) ≤ (i : Int) ∧ (i : Int) < (hv.length : Int) := by omega
    have g2 : (0 : Int) ≤ (i : Int) ∧ (i : Int) < (ps.length : Int) := by omega
    have g3 : (i : Int) < c := by omega
    unfold gH goodP
    simp only [g1, g2, g3, w1, w2, and_self, decide_true, if_true]
    generalize Ty.rd (t := .str) ps i = p
    cases hb : Ty.rd (t := .bool) hv i with
    | true =>
      by_cases hs : p.size ≤ 120
      · have : ¬ (120 : Int) < (p.size : Int) := by omega
        simp [hs, this]
      · have : (120 : Int) < (p.size : Int) := by omega
        simp [hs, this]
    | false =>
      by_cases he : p = (⟨#[]⟩ : ByteArray)
      · subst he
        have : (⟨#[]⟩ : ByteArray).size = 0 := rfl
        simp [this]
      · by_cases hs : p.size ≤ 120
        · have : ¬ (120 : Int) < (p.size : Int) := by omega
          simp [he, this]
        · have : (120 : Int) < (p.size : Int) := by omega
          simp [he, this]
  · intro again n hn
    have : ¬ ((c.toNat : Nat) : Int) < c := by omega
    simp only [this, decide_false, Bool.false_eq_true, if_false, wc]
    have e : (1 ≤ n ∧ n ≤ c - 1) ↔ (1 ≤ n ∧ n < c) := by omega
    by_cases a : 1 ≤ n ∧ n < c
    · have a' := e.2 a
      simp [a, a']
    · have a' : ¬ (1 ≤ n ∧ n ≤ c - 1) := fun h => a (e.1 h)
      simp [a, a']
  · by_cases h6 : 0 ≤ u ∧ u ≤ 1000000000
    · simp only [h6, and_self, and_true, decide_true, Bool.true_and]
    · simp only [h6, and_false, decide_false, Bool.false_and]
      rw [foldE_unit]
      congr 2
      have key : ∀ m i a, (foldE (gH ps hv) (fun _ => (false, ((), ()))) m i a).1 = false := by
        intro m
        induction m with
        | zero => intro i a; rfl
        | succ m ih =>
          intro i a
          unfold foldE
          cases hq : gH ps hv i a with
          | inl r =>
            unfold gH at hq
            split at hq
            · cases hq
            · cases hq; rfl
          | inr a' => exact ih _ _
      exact key _ _ _
def sameH (a : List RT_Held.den) (j i : Nat) : Bool := decide ((Ty.rd (t := RT_Held) a j).1 = (Ty.rd (t := RT_Held) a i).1) && decide ((Ty.rd (t := RT_Held) a j).2.1 = (Ty.rd (t := RT_Held) a i).2.1)
def gS (a : List RT_Held.den) (i : Nat) (_ : Unit) : (Bool × Unit × Unit) ⊕ Unit :=
  if heldB (ag_Held (Ty.rd (t := RT_Held) a i)) && (List.range i).all (fun j => !sameH a j i) then .inr () else .inl (false, ((), ()))
theorem all_false_iff (n : Nat) (p : Nat → Bool) : (List.range n).all (fun j => !p j) = true ↔ ∀ j, j < n → p j = false := by simp
theorem s_ShelfOk_is (k : Nat) (a : List RT_Held.den) (hk : 1048576 < k) (hl : a.length ≤ 1048576) : s_ShelfOk k ((a, ()), ()) = some (foldE (gS a) (fun _ => (decide ((a.length : Int) ≤ 3), ((), ()))) a.length 0 ()) := by
  unfold s_ShelfOk
  refine loop_fold (A := Unit) (fun i _ => ((a, ()), (((i : Nat) : Int), ()))) a.length (gS a) (fun _ => (decide ((a.length : Int) ≤ 3), ((), ()))) (fun _ _ => True) ?_ (fun _ _ _ _ _ _ => trivial) ?_ k () trivial (by omega)
  · intro again i _ hi _
    have w2 : wi64 ((i : Int) + 1) = ((i + 1 : Nat) : Int) := (w64_id _ (by omega)).trans (by omega)
    have g1 : (0 : Int) ≤ (i : Int) ∧ (i : Int) < (a.length : Int) := by omega
    have eh := s_l20Held_is k (ag_Held (Ty.rd (t := RT_Held) a i)) hk
    simp only [ag_Held] at eh
    simp only [g1, and_self, decide_true, if_true, eh, Option.bind_some]
    unfold gS
    cases hh : heldB (ag_Held (Ty.rd (t := RT_Held) a i)) with
    | false => simp only [ag_Held] at hh; simp [hh]
    | true =>
      simp only [ag_Held] at hh
      simp only [hh, Bool.not_true, Bool.false_eq_true, if_false, Bool.true_and]
      refine (find_loop_opt (X := ((List RT_Held.den) × Unit) × Int × Int × Unit) (fun j => ((a, ()), ((i : Int), (((j : Nat) : Int), ())))) i (fun j => sameH a j i) (some (false, ((), ()))) (again ((a, ()), (((i + 1 : Nat) : Int), ()))) ?_ ?_ k (by omega)).trans ?_
      · intro ag j hj
        have q1 : (0 : Int) ≤ (j : Int) ∧ (j : Int) < (a.length : Int) := by omega
        have q2 : (j : Int) < (i : Int) := by omega
        have w3 : wi64 ((j : Int) + 1) = ((j + 1 : Nat) : Int) := (w64_id _ (by omega)).trans (by omega)
        simp only [q1, q2, g1, w3, and_self, decide_true, if_true]
        unfold sameH
        by_cases e1 : (Ty.rd (t := RT_Held) a j).1 = (Ty.rd (t := RT_Held) a i).1 <;> by_cases e2 : (Ty.rd (t := RT_Held) a j).2.1 = (Ty.rd (t := RT_Held) a i).2.1 <;> simp [e1, e2]
      · intro ag
        simp [w2]
      · cases (List.range i).all (fun j => !sameH a j i) <;> simp
  · intro again _ _
    simp
def sameK (a : List RT_Held.den) (f id : Int) (j : Nat) : Bool := decide ((Ty.rd (t := RT_Held) a j).1 = f) && decide ((Ty.rd (t := RT_Held) a j).2.1 = id)
theorem heldAt_is (k : Nat) (a : List RT_Held.den) (f id : Int) (hk : 1048576 < k) (hl : a.length ≤ 1048576) :
    i_heldAt k ((a, ()), (f, (id, ()))) = some ((match (List.range a.length).find? (sameK a f id) with | some i => ((i : Nat) : Int) | none => -1), ((), ((), ((), ())))) := by
  unfold i_heldAt x_slices_IndexFunc_impl_Held_impl_Held_of_i_heldAt_1
  have h := loop_find (X := List RT_Held.den × ((Int × Unit) × (Int × Unit) × Unit) × Int × Int × Unit) (R := Int × Unit × ((Int × Unit) × (Int × Unit) × Unit) × Unit)
    (step := fun (rec0 : ((List (Int × Int × Int × List (ByteArray) × List (Bool) × Int)) × ((Int × Unit) × (Int × Unit) × Unit) × Int × Int × Unit) → Option _) (y0 : (List (Int × Int × Int × List (ByteArray) × List (Bool) × Int)) × ((Int × Unit) × (Int × Unit) × Unit) × Int × Int × Unit) =>
      (if (decide (y0.2.2.2.1 < y0.2.2.1)) = true then
      (if 0 ≤ y0.2.2.2.1 ∧ y0.2.2.2.1 < (List.length y0.1 : Int) then
      ((i_heldAt_1 k (((Ty.rd (t := RT_Held) y0.1 y0.2.2.2.1).1, ((Ty.rd (t := RT_Held) y0.1 y0.2.2.2.1).2.1, ((Ty.rd (t := RT_Held) y0.1 y0.2.2.2.1).2.2.1, ((Ty.rd (t := RT_Held) y0.1 y0.2.2.2.1).2.2.2.1, ((Ty.rd (t := RT_Held) y0.1 y0.2.2.2.1).2.2.2.2.1, ((Ty.rd (t := RT_Held) y0.1 y0.2.2.2.1).2.2.2.2.2, ())))))), ((y0.2.1.1.1, ()), ((y0.2.1.2.1.1, ()), ())))).bind fun p1 =>
      (if p1.1 = true then
      some (y0.2.2.2.1, ((), (((p1.2.2.1.1, ()), ((p1.2.2.2.1.1, ()), ())), ())))
      else
      (rec0 (y0.1, (((p1.2.2.1.1, ()), ((p1.2.2.2.1.1, ()), ())), (y0.2.2.1, ((wi64 (y0.2.2.2.1 + (1 : Int))), ())))))))
      else none)
      else
      ((fun (z1 : ((Int × Unit) × (Int × Unit) × Unit) × Unit) =>
      some ((-1 : Int), ((), (((z1.1.1.1, ()), ((z1.1.2.1.1, ()), ())), ())))) (((y0.2.1.1.1, ()), ((y0.2.1.2.1.1, ()), ())), ()))))
    (fun j => (a, (((f, ()), ((id, ()), ())), ((a.length : Int), (((j : Nat) : Int), ()))))) a.length (sameK a f id) (fun j => (((j : Nat) : Int), ((), (((f, ()), ((id, ()), ())), ())))) (-1, ((), (((f, ()), ((id, ()), ())), ()))) ?_ ?_ k (by omega)
  · refine (congrArg (fun o => Option.bind o _) h).trans ?_
    cases (List.range a.length).find? (sameK a f id) <;> rfl
  · intro ag j hj
    have q1 : (0 : Int) ≤ (j : Int) ∧ (j : Int) < (a.length : Int) := by omega
    have w3 : wi64 ((j : Int) + 1) = ((j + 1 : Nat) : Int) := (w64_id _ (by omega)).trans (by omega)
    simp only [q1, w3, and_self, decide_true, if_true]
    unfold i_heldAt_1 sameK
    by_cases e1 : (Ty.rd (t := RT_Held) a j).1 = f <;> by_cases e2 : (Ty.rd (t := RT_Held) a j).2.1 = id <;> simp [e1, e2]
  · intro ag
    simp
theorem i_ShelfOk_is (k : Nat) (a : List RT_Held.den) (hk : 1048576 < k) (hl : a.length ≤ 1048576) : i_ShelfOk k ((a, ()), ()) = some (foldE (gS a) (fun _ => (decide ((a.length : Int) ≤ 3), ((), ()))) a.length 0 ()) := by
  unfold i_ShelfOk
  refine loop_fold (A := Unit) (fun i _ => ((a, ()), (a, ((a.length : Int), (((i : Nat) : Int), ()))))) a.length (gS a) (fun _ => (decide ((a.length : Int) ≤ 3), ((), ()))) (fun _ _ => True) ?_ (fun _ _ _ _ _ _ => trivial) ?_ k () trivial (by omega)
  · intro again i _ hi _
    have w2 : wi64 ((i : Int) + 1) = ((i + 1 : Nat) : Int) := (w64_id _ (by omega)).trans (by omega)
    have g1 : (0 : Int) ≤ (i : Int) ∧ (i : Int) < (a.length : Int) := by omega
    have eh := i_heldOk_is k (ag_Held (Ty.rd (t := RT_Held) a i)) hk
    simp only [ag_Held] at eh
    simp only [g1, and_self, decide_true, if_true, eh, Option.bind_some, heldAt_is k a _ _ hk hl]
    unfold gS
    have hsame : (fun j => sameH a j i) = sameK a (Ty.rd (t := RT_Held) a i).1 (Ty.rd (t := RT_Held) a i).2.1 := rfl
    have hself : sameK a (Ty.rd (t := RT_Held) a i).1 (Ty.rd (t := RT_Held) a i).2.1 i = true := by simp [sameK]
    cases hh : heldB (ag_Held (Ty.rd (t := RT_Held) a i)) with
    | false => simp only [ag_Held] at hh; simp [hh]
    | true =>
      simp only [ag_Held] at hh
      simp only [hh, Bool.not_true, if_true, Bool.true_and]
      have hfa := find_at hi hself
      have hall : (List.range i).all (fun j => !sameH a j i) = true ↔ ∀ j, j < i → sameK a (Ty.rd (t := RT_Held) a i).1 (Ty.rd (t := RT_Held) a i).2.1 j = false := all_false_iff i _
      cases hf : (List.range a.length).find? (sameK a (Ty.rd (t := RT_Held) a i).1 (Ty.rd (t := RT_Held) a i).2.1) with
      | none =>
        exfalso
        have := List.find?_eq_none.1 hf i (by simpa using hi)
        exact this hself
      | some j =>
        by_cases hj : j = i
        · subst hj
          have := hall.2 (hfa.1 hf)
          simp [this, w2]
        · have hne : ¬ (List.range i).all (fun j => !sameH a j i) = true := fun hh => by
            have := hfa.2 (hall.1 hh)
            rw [hf] at this
            exact hj (Option.some.inj this)
          have hj' : ¬ ((j : Nat) : Int) = (i : Int) := by omega
          simp only [hne, hj', decide_false, Bool.not_false, if_true]
          simp
  · intro again _ _
    simp
theorem loop_app {X R A : Type} {step : (X → Option R) → X → Option R} (a : List A) (st : Nat → List A → X) (r : R)
    (hs : ∀ again i out x, out.length = i → i < a.length → a[i]? = some x → step again (st i out) = again (st (i + 1) (out ++ [x])))
    (he : ∀ again, step again (st a.length a) = some r) : ∀ k, a.length < k → whileK step k (st 0 []) = some r := by
  have key : ∀ (s p : List A) k, p ++ s = a → s.length < k → whileK step k (st p.length p) = some r := by
    intro s
    induction s with
    | nil =>
      intro p k h hk
      obtain ⟨k, rfl⟩ : ∃ k', k = k' + 1 := ⟨k - 1, by omega⟩
      have : p = a := by simpa using h
      subst this
      exact he _
    | cons x s ih =>
      intro p k h hk
      obtain ⟨k, rfl⟩ : ∃ k', k = k' + 1 := ⟨k - 1, by omega⟩
      show step _ _ = _
      subst h
      rw [hs _ _ _ x rfl (by simp) (by simp)]
      have := ih (p ++ [x]) k (by simp) (by simpa using hk)
      simpa using this
  intro k hk
  exact key a [] k (by simp) hk
theorem held_lens {a : List (Int × Int × Int × List (ByteArray) × List (Bool) × Int)} (hb : Bd_HeldS a) {i : Nat} {x : Int × Int × Int × List (ByteArray) × List (Bool) × Int} (h : a[i]? = some x) : x.2.2.2.1.length ≤ 1048576 ∧ x.2.2.2.2.1.length ≤ 1048576 := by
  have := hb.2 x (List.mem_of_getElem? h)
  exact ⟨this.1, this.2.1⟩
theorem i_copyShelf_is (k : Nat) (a : List (Int × Int × Int × List (ByteArray) × List (Bool) × Int)) (hk : 1048576 < k) (hb : Bd_HeldS a) : i_copyShelf k ((a, ()), ()) = some ((a, ()), ((), ())) := by
  unfold i_copyShelf
  have hl : a.length ≤ 1048576 := hb.1
  have hcap : capMax = 274877906944 := rfl
  refine loop_app (A := Int × Int × Int × List (ByteArray) × List (Bool) × Int) a (fun i out => (([], ()), ((out, ()), (a, ((a.length : Int), ((i : Int), ())))))) ((a, ()), ((), ())) ?_ ?_ k (by omega)
  · intro again i out x ho hi hx
    obtain ⟨h1, h2⟩ := held_lens hb hx
    have w : wi64 ((i : Int) + 1) = ((i + 1 : Nat) : Int) := by rw [show wi64 ((i : Int) + 1) = (i : Int) + 1 from w64_id _ (by omega)]; omega
    have p1 : (i : Int) < (a.length : Int) := by omega
    have p2 : 0 ≤ (i : Int) := by omega
    have c3 : out.length + 1 ≤ capMax := by omega
    obtain ⟨x1, x2, x3, x4, x5, x6⟩ := x
    simp only at h1 h2
    have e : i_copyTexts k (x4, ()) = some (x4, ((), ())) := by
      unfold i_copyTexts
      rw [if_pos (by simp; omega)]
      simp
    simp only [Ty.rd, Int.toNat_natCast, getD_some' hx, p1, p2, w, c3, e, Option.bind_some, List.length_nil, List.length_cons, decide_true, and_self, if_true, List.nil_append, Nat.zero_add]
    rw [if_pos (by omega)]
  · intro again
    have : ¬ (a.length : Int) < (a.length : Int) := by omega
    simp [this]
theorem getO_lt : ∀ {t : Ty} {x : t.den} {off : Nat} {o : OL}, t.getO x off = some o → off < t.w
  | .ols _ _, _, 0, _, _ => Nat.zero_lt_one
  | .ols _ _, _, _ + 1, _, h => by simp [Ty.getO] at h
  | .pair a b, x, off, o, h => by
    simp only [Ty.getO] at h
    show off < a.w + b.w
    split at h
    · omega
    · have := getO_lt h
      omega
  | .int _, _, _, _, h => by simp [Ty.getO] at h
  | .bool, _, _, _, h => by simp [Ty.getO] at h
  | .str, _, _, _, h => by simp [Ty.getO] at h
  | .list _, _, _, _, h => by simp [Ty.getO] at h
  | .unit, _, _, _, h => by simp [Ty.getO] at h
  | .nm, _, _, _, h => by simp [Ty.getO] at h
  | .olq _ _, _, _, _, h => by simp [Ty.getO] at h
theorem dec_enc {lk : Nat → Option OL} : ∀ {t : Ty} {x : t.den} {n : Nat}, 0 < n → (∀ off o, t.getO x off = some o → lk (n + off) = some o) → t.dec lk (t.enc x n) = some x
  | .ols e u, x, n, hn, h => by
    obtain ⟨m, rfl⟩ : ∃ m, n = m + 1 := ⟨n - 1, by omega⟩
    have := h 0 ⟨e, u, x⟩ rfl
    show decN lk e u (m + 1) = some x
    rw [Nat.add_zero] at this
    simp [decN, this]
  | .pair a b, x, n, hn, h => by
    have h1 := dec_enc (t := a) (x := x.1) (n := n) hn fun off o ho => h off o (by simp only [Ty.getO]; rw [if_pos (getO_lt ho)]; exact ho)
    have h2 := dec_enc (t := b) (x := x.2) (n := n + a.w) (by omega) fun off o ho => by
      rw [Nat.add_assoc]
      exact h (a.w + off) o (by simp only [Ty.getO]; rw [if_neg (by omega), Nat.add_sub_cancel_left]; exact ho)
    show (match a.dec lk (a.enc x.1 n), b.dec lk (b.enc x.2 (n + a.w)) with | some y, some z => some (y, z) | _, _ => none) = _
    rw [h1, h2]
  | .int _, _, _, _, _ => rfl
  | .bool, _, _, _, _ => rfl
  | .str, _, _, _, _ => rfl
  | .list _, _, _, _, _ => rfl
  | .unit, _, _, _, _ => rfl
  | .nm, _, _, _, _ => rfl
  | .olq _ _, x, _, _, _ => by cases x <;> rfl
theorem nms_enc : ∀ {t : Ty} {x : t.den} {n : Nat}, 0 < n → (t.nms (t.enc x n)).Pairwise (· < ·) ∧ ∀ m ∈ t.nms (t.enc x n), n ≤ m ∧ m < n + t.w
  | .ols e u, x, n, hn => by
    obtain ⟨m, rfl⟩ : ∃ m, n = m + 1 := ⟨n - 1, by omega⟩
    show (nmsN (m + 1)).Pairwise _ ∧ ∀ q ∈ nmsN (m + 1), _
    have : (Ty.ols e u).w = 1 := rfl
    simp [nmsN, this]
  | .pair a b, x, n, hn => by
    obtain ⟨h1, h2⟩ := nms_enc (t := a) (x := x.1) (n := n) hn
    obtain ⟨h3, h4⟩ := nms_enc (t := b) (x := x.2) (n := n + a.w) (by omega)
    have hw : (Ty.pair a b).w = a.w + b.w := rfl
    show (a.nms (a.enc x.1 n) ++ b.nms (b.enc x.2 (n + a.w))).Pairwise _ ∧ ∀ m ∈ a.nms (a.enc x.1 n) ++ b.nms (b.enc x.2 (n + a.w)), _
    refine ⟨List.pairwise_append.2 ⟨h1, h3, fun p hp q hq => ?_⟩, fun m hm => ?_⟩
    · have := h2 p hp
      have := h4 q hq
      omega
    · rcases List.mem_append.1 hm with hm | hm
      · have := h2 m hm; omega
      · have := h4 m hm; omega
  | .int _, _, _, _ => ⟨List.Pairwise.nil, by simp [Ty.nms]⟩
  | .bool, _, _, _ => ⟨List.Pairwise.nil, by simp [Ty.nms]⟩
  | .str, _, _, _ => ⟨List.Pairwise.nil, by simp [Ty.nms]⟩
  | .list _, _, _, _ => ⟨List.Pairwise.nil, by simp [Ty.nms]⟩
  | .unit, _, _, _ => ⟨List.Pairwise.nil, by simp [Ty.nms]⟩
  | .nm, _, _, _ => ⟨List.Pairwise.nil, by simp [Ty.nms]⟩
  | .olq _ _, _, _, _ => ⟨List.Pairwise.nil, by simp [Ty.nms]⟩
def encP (t : Ty) (xs : List t.den) : List (t.nmd.den × t.den) := xs.mapIdx fun i x => (t.enc x (i * t.w + 1), x)
theorem encP_fst (t : Ty) (xs : List t.den) : (encP t xs).map Prod.fst = t.encs xs := by
  apply List.ext_getElem?
  intro i
  simp only [encP, Ty.encs, List.getElem?_map, List.getElem?_mapIdx]
  cases xs[i]? <;> rfl
theorem encP_snd (t : Ty) (xs : List t.den) : (encP t xs).map Prod.snd = xs := by
  apply List.ext_getElem?
  intro i
  simp only [encP, List.getElem?_map, List.getElem?_mapIdx]
  cases xs[i]? <;> rfl
theorem encP_dec {t : Ty} {xs : List t.den} {y : t.nmd.den × t.den} (h : y ∈ encP t xs) : t.dec (t.lookN xs) y.1 = some y.2 ∧ ∃ n, y.1 = t.enc y.2 n := by
  obtain ⟨i, hi⟩ := List.getElem?_of_mem h
  unfold encP at hi
  rw [List.getElem?_mapIdx] at hi
  cases hx : xs[i]? with
  | none => rw [hx] at hi; cases hi
  | some x =>
    rw [hx] at hi
    injection hi with hi
    subst hi
    refine ⟨dec_enc (by omega) fun off o ho => ?_, _, rfl⟩
    have hlt := getO_lt ho
    rw [show i * t.w + 1 + off = (i * t.w + off) + 1 by omega]
    have e1 : (i * t.w + off) / t.w = i := by rw [Nat.mul_comm, Nat.mul_add_div (by omega), Nat.div_eq_of_lt hlt, Nat.add_zero]
    have e2 : (i * t.w + off) % t.w = off := by rw [Nat.mul_comm, Nat.mul_add_mod, Nat.mod_eq_of_lt hlt]
    simp only [Ty.lookN, e1, e2, hx, ho]
theorem decs_map {lk : Nat → Option OL} {t : Ty} : ∀ {Y : List (t.nmd.den × t.den)}, (∀ y ∈ Y, t.dec lk y.1 = some y.2) → t.decs lk (Y.map Prod.fst) = some (Y.map Prod.snd)
  | [], _ => rfl
  | y :: Y, h => by
    have h1 := h y (by simp)
    have h2 := decs_map (Y := Y) fun z hz => h z (List.mem_cons_of_mem _ hz)
    show (match t.dec lk y.1, t.decs lk (Y.map Prod.fst) with | some x, some xs => some (x :: xs) | _, _ => none) = _
    rw [h1, h2]
    rfl
theorem flatMap_sub {A B : Type} {f : A → List B} {l l' : List A} (h : l.Sublist l') : (l.flatMap f).Sublist (l'.flatMap f) := by
  induction h with
  | slnil => exact List.Sublist.refl _
  | cons a _ ih => rw [List.flatMap_cons]; exact ih.trans (List.sublist_append_right _ _)
  | cons_cons a _ ih => rw [List.flatMap_cons, List.flatMap_cons]; exact List.Sublist.append_left ih _
theorem encs_nms (t : Ty) (xs : List t.den) : ((t.encs xs).flatMap t.nms).Nodup := by
  have key : ∀ (xs : List t.den) (s : Nat), ((xs.mapIdx fun i x => t.enc x ((s + i) * t.w + 1)).flatMap t.nms).Pairwise (· < ·) ∧ ∀ m ∈ (xs.mapIdx fun i x => t.enc x ((s + i) * t.w + 1)).flatMap t.nms, s * t.w + 1 ≤ m := by
    intro xs
    induction xs with
    | nil => intro s; simp
    | cons x xs ih =>
      intro s
      rw [List.mapIdx_cons, List.flatMap_cons]
      have e : (xs.mapIdx fun i x => t.enc x ((s + (i + 1)) * t.w + 1)) = xs.mapIdx fun i x => t.enc x ((s + 1 + i) * t.w + 1) := by
        congr 1
        funext i x
        rw [show s + (i + 1) = s + 1 + i by omega]
      rw [e]
      obtain ⟨h1, h2⟩ := ih (s + 1)
      obtain ⟨h3, h4⟩ := nms_enc (t := t) (x := x) (n := (s + 0) * t.w + 1) (by omega)
      have hw : (s + 1) * t.w = s * t.w + t.w := by rw [Nat.add_mul, Nat.one_mul]
      rw [hw] at h2
      simp only [Nat.add_zero] at h3 h4 ⊢
      refine ⟨List.pairwise_append.2 ⟨h3, h1, fun p hp q hq => ?_⟩, fun m hm => ?_⟩
      · have := h4 p hp
        have := h2 q hq
        omega
      · rcases List.mem_append.1 hm with hm | hm
        · exact (h4 m hm).1
        · have := h2 m hm; omega
  have := (key xs 0).1
  have e : (xs.mapIdx fun i x => t.enc x ((0 + i) * t.w + 1)) = t.encs xs := by
    unfold Ty.encs
    congr 1
    funext i x
    rw [Nat.zero_add]
  rw [e] at this
  exact this.imp fun h => Nat.ne_of_lt h
/-- Rows that are picked under names are those rows. -/
theorem treeF_pick {t : Ty} {Y O : Type} {G : List t.nmd.den × Y → Option (List t.nmd.den × O)} {xs : List t.den} {y : Y} {o : O} {Z : List (t.nmd.den × t.den)} (hZ : Z.Sublist (encP t xs)) (hG : G (t.encs xs, y) = some (Z.map Prod.fst, o)) :
    treeF t G (xs, y) = some (Z.map Prod.snd, o) := by
  unfold treeF
  simp only [hG]
  rw [decs_map fun z hz => (encP_dec (hZ.subset hz)).1]
  have : ((Z.map Prod.fst).flatMap t.nms).Nodup := by
    refine (encs_nms t xs).sublist ?_
    rw [← encP_fst]
    exact flatMap_sub (hZ.map _)
  simp only [this, if_true]
abbrev HeldN := Int × Int × Int × Nat × Nat × Int
abbrev HeldR := Int × Int × Int × List (ByteArray) × List (Bool) × Int
def hS (n : Nat) (S : Nat → Bool) : List Bool := (List.range n).map S
theorem rd_bool (n : Nat) (S : Nat → Bool) (j : Nat) (hj : j < n) : Ty.rd (t := .bool) (hS n S) (j : Int) = S j := by
  show (hS n S).getD j _ = _
  unfold hS
  rw [List.getD_eq_getElem?_getD, List.getElem?_map, List.getElem?_range hj]
  rfl
theorem index_bool (k : Nat) (hk : 1048576 < k) (n : Nat) (hn : n ≤ 15) (S : Nat → Bool) : x_slices_Contains_bool_bool k (hS n S, (false, ())) = some (!(List.range n).all S, ((), ((), ()))) := by
  have l2 : (hS n S).length = n := by simp [hS]
  have h : x_slices_Index_bool_bool k (hS n S, (false, ())) = some (match (List.range n).find? (fun j => !S j) with | some i => (((i : Nat) : Int), ((), ((), ()))) | none => (-1, ((), ((), ())))) := by
    unfold x_slices_Index_bool_bool
    rw [l2]
    refine loop_find (fun j => (hS n S, (false, ((n : Int), (((j : Nat) : Int), ()))))) n (fun j => !S j) (fun i => (((i : Nat) : Int), ((), ((), ())))) (-1, ((), ((), ()))) ?_ ?_ k (by omega)
    · intro ag j hj
      have q1 : (0 : Int) ≤ (j : Int) ∧ (j : Int) < (n : Int) := by omega
      have w3 : wi64 ((j : Int) + 1) = ((j + 1 : Nat) : Int) := (w64_id _ (by omega)).trans (by omega)
      simp only [l2, q1, w3, and_self, decide_true, if_true, rd_bool n S j hj]
      cases S j <;> simp
    · intro ag
      simp only [Int.lt_irrefl, decide_false, Bool.false_eq_true, if_false]
  unfold x_slices_Contains_bool_bool
  rw [h]
  cases hf : (List.range n).find? (fun j => !S j) with
  | none =>
    have ha : (List.range n).all S = true := by
      rw [List.all_eq_true]
      intro j hj
      have := List.find?_eq_none.1 hf j hj
      simpa using this
    simp [ha]
  | some i =>
    have h1 := List.find?_some hf
    have h2 := List.mem_of_find?_eq_some hf
    have ha : (List.range n).all S = false := by
      rw [List.all_eq_false]
      exact ⟨i, h2, by simpa using h1⟩
    simp [ha]
theorem join_flat (xs : List (List UInt8)) : Lib.join xs [] = xs.flatten := by
  unfold Lib.join
  induction xs with
  | nil => rfl
  | cons x xs ih =>
    cases xs with
    | nil => simp [List.intercalate]
    | cons y ys =>
      simp only [List.intercalate, List.intersperse, List.flatten_cons, List.nil_append] at ih ⊢
      rw [ih]
def catS (l : List ByteArray) : ByteArray := ⟨((l.map (·.data.toList)).flatten).toArray⟩
theorem join_is (k : Nat) (l : List ByteArray) (h1 : l.length ≤ 15) (h2 : ∀ x ∈ l, x.size ≤ 120) : x_strings_Join k (l, (⟨#[]⟩, ())) = some (catS l, ((), ((), ()))) := by
  unfold x_strings_Join joinF catS
  have e : (⟨#[]⟩ : ByteArray).data.toList = [] := rfl
  have hlen : ∀ l : List ByteArray, (∀ x ∈ l, x.size ≤ 120) → ((l.map (·.data.toList)).flatten).length ≤ l.length * 120 := by
    intro l
    induction l with
    | nil => intro _; simp
    | cons x l ih =>
      intro h
      have h1 := ih fun y hy => h y (by simp [hy])
      have h2 : x.data.toList.length ≤ 120 := by have := h x (by simp); rw [Array.length_toList]; exact this
      simp only [List.map_cons, List.flatten_cons, List.length_append, List.length_cons]
      omega
  have := hlen l h2
  simp only [e, join_flat]
  rw [if_pos (by omega)]
abbrev HT : Ty := (.pair (.int .i64) (.pair (.int .i64) (.pair (.int .i64) (.pair (.ols 9 .str) (.pair (.ols 4 .bool) (.int .i64))))))
abbrev HeldU := Int × Int × Int × List ByteArray × List Bool × Int × Unit
def shelfB (a : List RT_Held.den) : Bool := (foldE (gS a) (fun _ => (decide ((a.length : Int) ≤ 3), ((), ()))) a.length 0 ()).1
theorem shelfB_foldE (a : List RT_Held.den) : foldE (gS a) (fun _ => (decide ((a.length : Int) ≤ 3), ((), ()))) a.length 0 () = (shelfB a, ((), ())) := rfl
theorem gS_or (a : List RT_Held.den) : ∀ i, gS a i () = .inr () ∨ ∃ o, gS a i () = .inl (false, o) := fun i => by
  unfold gS
  split
  · exact .inl rfl
  · exact .inr ⟨_, rfl⟩
theorem gH_all {ps : List ByteArray} {hv : List Bool} {fin : Int → Bool × Unit × Unit} : ∀ m i (n : Int), (foldE (gH ps hv) fin m i n).1 = true → ∀ j, i ≤ j → j < i + m → goodP ps hv j = true := by
  intro m
  induction m with
  | zero => intro i n _ j h1 h2; omega
  | succ m ih =>
    intro i n h j h1 h2
    by_cases hg : goodP ps hv i = true
    · by_cases hj : j = i
      · rw [hj]; exact hg
      · refine ih (i + 1) (if Ty.rd (t := .bool) hv i then n + 1 else n) ?_ j (by omega) (by omega)
        simpa [foldE, gH, hg] using h
    · simp [foldE, gH, hg] at h
structure HeldOk (r : HeldR) : Prop where
  cnt : 2 ≤ r.2.2.1 ∧ r.2.2.1 ≤ 15
  ps : (r.2.2.2.1.length : Int) = r.2.2.1
  hv : (r.2.2.2.2.1.length : Int) = r.2.2.1
  size : ∀ x ∈ r.2.2.2.1, x.size ≤ 120
theorem heldB_ok {r : HeldR} (h : heldB (ag_Held r) = true) : HeldOk r := by
  unfold heldB ag_Held at h
  simp only [Bool.and_eq_true, decide_eq_true_eq] at h
  obtain ⟨⟨_, _, h3, h4, h5, _⟩, h6⟩ := h
  refine ⟨h3, h4, h5, fun x hx => ?_⟩
  obtain ⟨j, hj, rfl⟩ := List.getElem_of_mem hx
  have := gH_all _ _ _ h6 j (by omega) (by omega)
  unfold goodP at this
  simp only [Bool.and_eq_true, decide_eq_true_eq] at this
  have e : Ty.rd (t := .str) r.2.2.2.1 ((j : Nat) : Int) = r.2.2.2.1[j] := by
    show r.2.2.2.1.getD j _ = _
    rw [List.getD_eq_getElem?_getD, List.getElem?_eq_getElem hj]; rfl
  rw [e] at this
  exact this.1
structure ShelfR (a : List HeldR) : Prop where
  len : a.length ≤ 3
  ok : ∀ r ∈ a, HeldOk r
  once : ∀ (i j : Nat) x y, a[i]? = some x → a[j]? = some y → j < i → ¬ (y.1 = x.1 ∧ y.2.1 = x.2.1)
theorem rd_held {a : List HeldR} {i : Nat} {x : HeldR} (h : a[i]? = some x) : Ty.rd (t := RT_Held) a ((i : Nat) : Int) = x := by
  show a.getD i _ = x
  rw [List.getD_eq_getElem?_getD, h]; rfl
theorem shelfB_ok {a : List HeldR} (h : shelfB a = true) : ShelfR a := by
  have hlen := foldE_fin (gS_or a) a.length 0 h
  have hall := foldE_all (gS_or a) a.length 0 h
  have hrow : ∀ (i : Nat) x, a[i]? = some x → heldB (ag_Held x) = true ∧ ∀ j, j < i → sameH a j i = false := fun i x hx => by
    have hi : i < a.length := (List.getElem?_eq_some_iff.1 hx).1
    have := hall i (by omega) (by omega)
    unfold gS at this
    split at this
    · rename_i hc
      rw [rd_held hx] at hc
      simp only [Bool.and_eq_true] at hc
      exact ⟨hc.1, (all_false_iff _ _).1 hc.2⟩
    · cases this
  refine ⟨by simp only [decide_eq_true_eq] at hlen; omega, fun r hr => ?_, fun i j x y hx hy hji hh => ?_⟩
  · obtain ⟨i, hi, rfl⟩ := List.getElem_of_mem hr
    exact heldB_ok (hrow i _ (List.getElem?_eq_getElem hi)).1
  · have := (hrow i x hx).2 j hji
    unfold sameH at this
    rw [rd_held hx, rd_held hy] at this
    simp [hh.1, hh.2] at this
theorem bd_held {a : List HeldR} (h : ShelfR a) : Bd_HeldS a := ⟨by have := h.len; omega, fun r hr => by
  have := h.ok r hr
  have h1 := this.cnt
  have h2 := this.ps
  have h3 := this.hv
  exact ⟨by show r.2.2.2.1.length ≤ 1048576; omega, by show r.2.2.2.2.1.length ≤ 1048576; omega, trivial⟩⟩
theorem s_l20Copy_t_is (k : Nat) (a : List HeldR) (hk : 1048576 < k) (hb : Bd_HeldS a) : s_l20Copy_t k ((a, ()), ()) = some ((a, ()), ((), ())) := by
  unfold s_l20Copy_t
  have hl : a.length ≤ 1048576 := hb.1
  have hcap : capMax = 274877906944 := rfl
  refine loop_app (A := Int × Int × Int × List (ByteArray) × List (Bool) × Int) a (fun i out => ((a, ()), (([], ()), ((out, ()), ((i : Int), ()))))) ((a, ()), ((), ())) ?_ ?_ k (by omega)
  · intro again i out x ho hi hx
    obtain ⟨h1, h2⟩ := held_lens hb hx
    have w : wi64 ((i : Int) + 1) = ((i + 1 : Nat) : Int) := by rw [show wi64 ((i : Int) + 1) = (i : Int) + 1 from w64_id _ (by omega)]; omega
    have p1 : (i : Int) < (a.length : Int) := by omega
    have p2 : 0 ≤ (i : Int) := by omega
    have c1 : 0 + x.2.2.2.1.length ≤ capMax := by omega
    have c2 : 0 + x.2.2.2.2.1.length ≤ capMax := by omega
    have c3 : out.length + 1 ≤ capMax := by omega
    obtain ⟨x1, x2, x3, x4, x5, x6⟩ := x
    simp only at c1 c2
    simp only [Ty.rd, Int.toNat_natCast, getD_some' hx, p1, p2, w, c1, c2, c3, List.length_nil, List.length_cons, decide_true, and_self, if_true, List.nil_append, Nat.zero_add]
    rw [if_pos (by omega), if_pos (by omega)]
  · intro again
    have : ¬ (a.length : Int) < (a.length : Int) := by omega
    simp [this]
def fullB (l : List Bool) : Bool := (List.range l.length).all (fun j => l.getD j false)
theorem hS_of (l : List Bool) : hS l.length (fun j => l.getD j false) = l := by
  refine List.ext_getElem (by simp [hS]) fun i h1 h2 => ?_
  simp [hS, List.getD, h2]
theorem contains_is (k : Nat) (hk : 1048576 < k) (l : List Bool) (hl : l.length ≤ 15) : x_slices_Contains_bool_bool k (l, (false, ())) = some (!fullB l, ((), ((), ()))) := by
  have := index_bool k hk l.length hl (fun j => l.getD j false)
  rw [hS_of] at this
  exact this
theorem s_l20All_is (k : Nat) (hk : 1048576 < k) (x : HeldU) (hl : x.2.2.2.2.1.length ≤ 1048576) : s_l20All k (x, ()) = some (fullB x.2.2.2.2.1, ((), ())) := by
  obtain ⟨x1, x2, x3, x4, x5, x6, ⟨⟩⟩ := x
  unfold s_l20All fullB
  simp only at hl ⊢
  refine (find_loop_opt (X := HeldU × Int × Unit) (fun j => ((x1, (x2, (x3, (x4, (x5, (x6, ())))))), (((j : Nat) : Int), ()))) x5.length (fun j => !x5.getD j false) (some (false, ((), ()))) (some (true, ((), ()))) ?_ ?_ k (by omega)).trans ?_
  · intro ag j hj
    have q1 : (0 : Int) ≤ (j : Int) ∧ (j : Int) < (x5.length : Int) := by omega
    have w3 : wi64 ((j : Int) + 1) = ((j + 1 : Nat) : Int) := (w64_id _ (by omega)).trans (by omega)
    have r : Ty.rd (t := .bool) x5 ((j : Nat) : Int) = x5.getD j false := rfl
    simp only [q1, w3, r, and_self, decide_true, if_true]
  · intro ag
    simp
  · have e : ∀ l : List Nat, (l.all fun j => !!x5.getD j false) = l.all fun j => x5.getD j false := fun l => by simp
    simp only [e]
    cases (List.range x5.length).all (fun j => x5.getD j false) <;> simp
theorem catS_snoc (l : List ByteArray) (x : ByteArray) : catS (l ++ [x]) = catS l ++ x := by
  unfold catS
  apply ByteArray.ext
  rw [ByteArray.data_append]
  simp
theorem drop_take_del {A : Type} (L R Z : List A) (i : Nat) (hi : i < L.length) : List.take (i + (L.drop (i + 1)).length) (List.take (i + (L.drop (i + 1)).length) (List.take i L ++ (L.drop (i + 1) ++ R)) ++ Z) = L.eraseIdx i := by
  have h1 : (List.take i L ++ L.drop (i + 1)).length = i + (L.drop (i + 1)).length := by rw [List.length_append, List.length_take]; omega
  have h2 : List.take (i + (L.drop (i + 1)).length) (List.take i L ++ (L.drop (i + 1) ++ R)) = List.take i L ++ L.drop (i + 1) := by
    rw [← List.append_assoc, ← h1, List.take_left']
    rfl
  rw [h2, ← h1, List.take_left', List.eraseIdx_eq_take_drop_succ]
  rfl
theorem del_N (k : Nat) (L : List HeldN) (i : Nat) (hi : i < L.length) (hl : L.length ≤ 1048576) : x_slices_Delete_impl_Held_impl_Held_n k (L, ((i : Int), (((i + 1 : Nat) : Int), ()))) = some (L.eraseIdx i, ((), ((), ((), ())))) := by
  have hcap : capMax = 274877906944 := rfl
  unfold x_slices_Delete_impl_Held_impl_Held_n
  have g1 : (0 : Int) ≤ (L.length : Int) ∧ (L.length : Int) ≤ (L.length : Int) := by omega
  have g2 : (0 : Int) ≤ ((i + 1 : Nat) : Int) ∧ ((i + 1 : Nat) : Int) ≤ (L.length : Int) := by omega
  have g3 : (0 : Int) ≤ (i : Int) ∧ (i : Int) ≤ ((i + 1 : Nat) : Int) := by omega
  have g4 : ¬ (i : Int) = ((i + 1 : Nat) : Int) := by omega
  have g5 : (0 : Int) ≤ (i : Int) ∧ (i : Int) ≤ (L.length : Int) := by omega
  have t1 : List.take L.length L = L := List.take_length
  have dl : (L.drop (i + 1)).length = L.length - (i + 1) := List.length_drop
  have g6 : (i : Int) + ((L.drop (i + 1)).length : Int) ≤ (L.length : Int) ∧ (i : Int) - 0 + ((L.drop (i + 1)).length : Int) ≤ (capMax : Int) := by omega
  have e1 : ∀ n : Nat, ((i : Int) + (n : Int)).toNat = i + n := fun n => by omega
  have e2 : ∀ n : Nat, ((0 : Int) + ((i : Int) + (n : Int) - 0)).toNat = i + n := fun n => by omega
  have lenall : (List.take i L ++ (L.drop (i + 1) ++ List.drop (i + (L.drop (i + 1)).length) L)).length = L.length := by
    simp only [List.length_append, List.length_take, List.length_drop]
    omega
  have g7 : (0 : Int) ≤ (L.length : Int) ∧ (L.length : Int) ≤ (L.length : Int) - 0 := by omega
  have g8 : (0 : Int) ≤ (i : Int) + ((L.drop (i + 1)).length : Int) - 0 ∧ (i : Int) + ((L.drop (i + 1)).length : Int) - 0 ≤ (L.length : Int) := by omega
  simp only [g1, g2, g3, g4, g5, Int.toNat_natCast, t1, decide_false, Bool.false_eq_true, if_false, and_self, if_true]
  rw [if_pos (by first | exact g6 | omega)]
  simp only [e1, e2, lenall]
  rw [if_pos (by refine ⟨trivial, ?_⟩; omega), if_pos g8]
  have z : (0 : Int).toNat = 0 := rfl
  rw [z, List.drop_zero, drop_take_del L _ _ i hi]
theorem map_eraseIdx {A B : Type} (f : A → B) (l : List A) (i : Nat) : (l.eraseIdx i).map f = (l.map f).eraseIdx i := by
  rw [List.eraseIdx_eq_take_drop_succ, List.eraseIdx_eq_take_drop_succ, List.map_append, List.map_take, List.map_drop]
theorem del_at (k : Nat) (L : List HeldR) (i : Nat) (hi : i < L.length) (hl : L.length ≤ 1048576) : x_slices_Delete_impl_Held_impl_Held k (L, ((i : Int), (((i + 1 : Nat) : Int), ()))) = some (L.eraseIdx i, ((), ((), ((), ())))) := by
  unfold x_slices_Delete_impl_Held_impl_Held
  have hlen : (encP HT L).length = L.length := by rw [← List.length_map (f := Prod.snd), encP_snd]
  have := treeF_pick (t := HT) (Y := Int × Int × Unit) (O := Unit × Unit × Unit × Unit) (G := x_slices_Delete_impl_Held_impl_Held_n k) (xs := L) (y := ((i : Int), (((i + 1 : Nat) : Int), ()))) (o := ((), ((), ((), ())))) (Z := (encP HT L).eraseIdx i) (List.eraseIdx_sublist _ _) (by
    have := del_N k (HT.encs L) i (Nat.lt_of_lt_of_eq hi (Go.Eng.encs_len HT L).symm) (Nat.le_trans (Nat.le_of_eq (Go.Eng.encs_len HT L)) hl)
    refine this.trans (congrArg (fun q => some (q, ((), ((), ((), ()))))) ?_)
    rw [map_eraseIdx, encP_fst]
    rfl)
  rw [this, map_eraseIdx, encP_snd]
abbrev HeldQ := Int × Int × Int × Option (List ByteArray) × Option (List Bool) × Int
abbrev HQ : Ty := (.pair (.int .i64) (.pair (.int .i64) (.pair (.int .i64) (.pair (.olq 9 .str) (.pair (.olq 4 .bool) (.int .i64))))))
theorem loop_gone {X R A C S : Type} {step : (X → Option R) → X → Option R} (a : List A) (q : A → C) (lf : C → C) (st : Nat → List C → S → X) (f : S → A → S) (I : Nat → S → Prop) (s0 : S) {r : Option R}
    (hs : ∀ again i bs s x, I i s → i < a.length → a[i]? = some x → bs.length = a.length → bs[i]? = some (q x) → step again (st i bs s) = again (st (i + 1) (bs.set i (lf (q x))) (f s x)))
    (hI : ∀ i s x, I i s → I (i + 1) (f s x)) (he : ∀ again bs, bs.length = a.length → I a.length (a.foldl f s0) → step again (st a.length bs (a.foldl f s0)) = r) :
    ∀ k, a.length < k → I 0 s0 → whileK step k (st 0 (a.map q) s0) = r := by
  have key : ∀ (s p : List A) (k : Nat) (bs : List C) (s1 : S), p ++ s = a → s.length < k → bs.length = a.length → (∀ j, p.length ≤ j → bs[j]? = (a.map q)[j]?) → I p.length s1 → s.foldl f s1 = a.foldl f s0 → whileK step k (st p.length bs s1) = r := by
    intro s
    induction s with
    | nil =>
      intro p k bs s1 h hk hl _ hi hf
      obtain ⟨k, rfl⟩ : ∃ k', k = k' + 1 := ⟨k - 1, by omega⟩
      have : p = a := by simpa using h
      subst this
      have hf : s1 = p.foldl f s0 := hf
      subst hf
      exact he _ _ hl hi
    | cons x s ih =>
      intro p k bs s1 h hk hl hb hi hf
      obtain ⟨k, rfl⟩ : ∃ k', k = k' + 1 := ⟨k - 1, by omega⟩
      show step _ _ = _
      have hx : a[p.length]? = some x := by rw [← h]; simp
      have hbx : bs[p.length]? = some (q x) := by rw [hb _ (Nat.le_refl _), List.getElem?_map, hx]; rfl
      rw [hs _ _ _ _ x hi (List.getElem?_eq_some_iff.1 hx).1 hx hl hbx]
      have := ih (p ++ [x]) k (bs.set p.length (lf (q x))) (f s1 x) (by simpa using h) (by simpa using hk) (by simpa using hl) (fun j hj => by
        have hj' : p.length + 1 ≤ j := by simpa using hj
        rw [List.getElem?_set_ne (by omega)]
        exact hb j (by omega)) (by rw [List.length_append]; exact hI _ _ _ hi) hf
      rw [List.length_append] at this
      exact this
  intro k hk hi
  exact key a [] k (a.map q) s0 rfl hk (by simp) (fun _ _ => rfl) hi rfl
def stp (f id c : Int) (s : HeldU × List HeldR × Int) (y : HeldR) : HeldU × List HeldR × Int :=
  if y.1 = f ∧ y.2.1 = id then (if y.2.2.1 = c then (ag_Held y, (s.2.1, (s.2.1.length : Int))) else s) else (s.1, (s.2.1 ++ [y], s.2.2))
theorem stp_none {f id c : Int} : ∀ (a : List HeldR) (s : HeldU × List HeldR × Int), (∀ r ∈ a, ¬ (r.1 = f ∧ r.2.1 = id)) → a.foldl (stp f id c) s = (s.1, (s.2.1 ++ a, s.2.2)) := by
  intro a
  induction a with
  | nil => intro s _; simp
  | cons y a ih =>
    intro s h
    have h1 := h y (by simp)
    have e : stp f id c s y = (s.1, (s.2.1 ++ [y], s.2.2)) := by unfold stp; rw [if_neg h1]
    rw [List.foldl_cons, e, ih _ fun r hr => h r (by simp [hr])]
    simp
theorem stp_one {f id c : Int} (u v : List HeldR) (y : HeldR) (s : HeldU × List HeldR × Int) (hy : y.1 = f ∧ y.2.1 = id) (hu : ∀ r ∈ u, ¬ (r.1 = f ∧ r.2.1 = id)) (hv : ∀ r ∈ v, ¬ (r.1 = f ∧ r.2.1 = id)) (hs : s.2.1 = []) :
    (u ++ y :: v).foldl (stp f id c) s = if y.2.2.1 = c then (ag_Held y, (u ++ v, (u.length : Int))) else (s.1, (u ++ v, s.2.2)) := by
  rw [List.foldl_append, stp_none u s hu, List.foldl_cons]
  have e : stp f id c (s.1, (s.2.1 ++ u, s.2.2)) y = if y.2.2.1 = c then (ag_Held y, (u, (u.length : Int))) else (s.1, (u, s.2.2)) := by
    unfold stp
    rw [if_pos hy, hs]
    rfl
  rw [e]
  split <;> rw [stp_none v _ hv]
def putP (p : Nat) (t : ByteArray) (r : HeldR) : HeldR :=
  if r.2.2.2.2.1.getD p false then r else (r.1, (r.2.1, (r.2.2.1, (r.2.2.2.1.set p t, (r.2.2.2.2.1.set p true, r.2.2.2.2.2)))))
def newR (f id now : Int) (c p : Nat) (t : ByteArray) : HeldR := putP p t (f, (id, ((c : Int), (List.replicate c ⟨#[]⟩, (List.replicate c false, now + 8)))))
def roll (a : List HeldR) : List HeldR := if a.length = 3 then a.drop 1 else a
def addR (a : List HeldR) (f id now : Int) (c p : Nat) (t : ByteArray) : List HeldR × ByteArray × Bool :=
  match (List.range a.length).find? (sameK a f id) with
  | none => (roll a ++ [newR f id now c p t], (⟨#[]⟩, false))
  | some i =>
    if (Ty.rd (t := RT_Held) a i).2.2.1 = (c : Int) then
      (if fullB (putP p t (Ty.rd (t := RT_Held) a i)).2.2.2.2.1 then (a.eraseIdx i, (catS (putP p t (Ty.rd (t := RT_Held) a i)).2.2.2.1, true))
       else (a.set i (putP p t (Ty.rd (t := RT_Held) a i)), (⟨#[]⟩, false)))
    else (roll (a.eraseIdx i) ++ [newR f id now c p t], (⟨#[]⟩, false))
theorem new_full {f id now : Int} {c p : Nat} {t : ByteArray} (hc : 2 ≤ c) (hp : p < c) : fullB (newR f id now c p t).2.2.2.2.1 = false := by
  have e : (List.replicate c false).getD p false = false := by simp [List.getD, List.getElem?_replicate, hp]
  unfold newR putP
  simp only [e, Bool.false_eq_true, if_false]
  unfold fullB
  rw [List.all_eq_false]
  refine ⟨if p = 0 then 1 else 0, ?_, ?_⟩
  · simp; split <;> omega
  · by_cases h : p = 0
    · subst h
      have : 1 < c := by omega
      simp [List.getD, List.getElem?_set, List.getElem?_replicate, this]
    · have : 0 < c := by omega
      simp [h, List.getD, List.getElem?_set, List.getElem?_replicate, this]
/-- The rest of the reference's function, behind the loop. -/
theorem putP_ok {p : Nat} {t : ByteArray} {r : HeldR} (h : HeldOk r) (ht : t.size ≤ 120) : HeldOk (putP p t r) := by
  unfold putP
  split
  · exact h
  · refine ⟨h.cnt, by simpa using h.ps, by simpa using h.hv, fun x hx => ?_⟩
    rcases List.mem_or_eq_of_mem_set hx with hx | hx
    · exact h.size x hx
    · subst hx; exact ht
theorem find_split {a : List HeldR} (hA : ShelfR a) (f id : Int) : match (List.range a.length).find? (sameK a f id) with
    | none => ∀ r ∈ a, ¬ (r.1 = f ∧ r.2.1 = id)
    | some i => ∃ u y v, a = u ++ y :: v ∧ u.length = i ∧ (y.1 = f ∧ y.2.1 = id) ∧ (∀ r ∈ u, ¬ (r.1 = f ∧ r.2.1 = id)) ∧ (∀ r ∈ v, ¬ (r.1 = f ∧ r.2.1 = id)) := by
  have hk : ∀ (j : Nat) x, a[j]? = some x → (sameK a f id j = true ↔ (x.1 = f ∧ x.2.1 = id)) := fun j x hx => by
    unfold sameK
    rw [rd_held hx]
    simp
  cases hq : (List.range a.length).find? (sameK a f id) with
  | none =>
    intro r hr hh
    obtain ⟨j, hj, rfl⟩ := List.getElem_of_mem hr
    exact List.find?_eq_none.1 hq j (by simpa using hj) ((hk j _ (List.getElem?_eq_getElem hj)).2 hh)
  | some i =>
    have hi : i < a.length := by simpa using List.mem_of_find?_eq_some hq
    have h1 := (hk i _ (List.getElem?_eq_getElem hi)).1 (List.find?_some hq)
    have hsp : a = a.take i ++ a[i] :: a.drop (i + 1) := by rw [← List.drop_eq_getElem_cons hi, List.take_append_drop]
    refine ⟨a.take i, a[i], a.drop (i + 1), hsp, by simp; omega, h1, fun r hr hh => ?_, fun r hr hh => ?_⟩
    · obtain ⟨j, hj, rfl⟩ := List.getElem_of_mem hr
      have hji : j < i := by simp at hj; omega
      rw [List.getElem_take] at hh
      exact hA.once i j _ _ (List.getElem?_eq_getElem hi) (List.getElem?_eq_getElem (by omega)) hji ⟨hh.1.trans h1.1.symm, hh.2.trans h1.2.symm⟩
    · obtain ⟨j, hj, rfl⟩ := List.getElem_of_mem hr
      have hlt : i + 1 + j < a.length := by rw [List.length_drop] at hj; omega
      rw [List.getElem_drop] at hh
      exact hA.once (i + 1 + j) i _ _ (List.getElem?_eq_getElem hlt) (List.getElem?_eq_getElem hi) (by omega) ⟨h1.1.trans hh.1.symm, h1.2.trans hh.2.symm⟩
def freshR (f id now : Int) (c : Nat) : HeldR := (f, (id, ((c : Int), (List.replicate c ⟨#[]⟩, (List.replicate c false, now + 8)))))
theorem fresh_ok (f id now : Int) {c : Nat} (hc : 2 ≤ c ∧ c ≤ 15) : HeldOk (freshR f id now c) := by
  refine ⟨by show 2 ≤ (c : Int) ∧ (c : Int) ≤ 15; omega, by simp [freshR], by simp [freshR], fun x hx => ?_⟩
  have : x = ⟨#[]⟩ := (List.mem_replicate.1 hx).2
  subst this
  simp [ByteArray.size]
def tailR (p : Nat) (t : ByteArray) (x : HeldR) (rest : List HeldR) (at' : Int) : List HeldR × ByteArray × Bool :=
  if fullB (putP p t x).2.2.2.2.1 then (rest, (catS (putP p t x).2.2.2.1, true))
  else if 0 ≤ at' then (rest.take at'.toNat ++ [putP p t x] ++ rest.drop at'.toNat, (⟨#[]⟩, false)) else (roll rest ++ [putP p t x], (⟨#[]⟩, false))
theorem add_cases {a : List HeldR} (hA : ShelfR a) (f id now : Int) (c p : Nat) (t : ByteArray) (hc : 2 ≤ c ∧ c ≤ 15) (hp : p < c) :
    ∃ (x : HeldR) (rest : List HeldR) (at' : Int), a.foldl (stp f id (c : Int)) (ag_Held (freshR f id now c), ([], -1)) = (ag_Held x, (rest, at')) ∧ HeldOk x ∧ x.2.2.1 = (c : Int) ∧
      (rest.length ≤ 3 ∧ (∀ r ∈ rest, HeldOk r)) ∧ at' ≤ (rest.length : Int) ∧ (rest.length < 3 ∨ at' < 0) ∧ addR a f id now c p t = tailR p t x rest at' := by
  have hl := hA.len
  have hsp := find_split hA f id
  have hnf : fullB (putP p t (freshR f id now c)).2.2.2.2.1 = false := new_full (f := f) (id := id) (now := now) (t := t) hc.1 hp
  have hneg : ¬ (0 : Int) ≤ -1 := by omega
  unfold addR
  cases hq : (List.range a.length).find? (sameK a f id) with
  | none =>
    rw [hq] at hsp
    dsimp only at hsp ⊢
    refine ⟨freshR f id now c, a, -1, by rw [stp_none a _ hsp]; rfl, fresh_ok f id now hc, rfl, ⟨hl, hA.ok⟩, by omega, .inr (by omega), ?_⟩
    unfold tailR
    rw [hnf, if_neg (by simp), if_neg hneg]
    rfl
  | some i =>
    rw [hq] at hsp
    dsimp only at hsp ⊢
    obtain ⟨u, y, v, rfl, rfl, hy, hu, hv⟩ := hsp
    have hrd : Ty.rd (t := RT_Held) (u ++ y :: v) ((u.length : Nat) : Int) = y := rd_held (by simp)
    have hel : (u ++ y :: v).eraseIdx u.length = u ++ v := by simp [List.eraseIdx_append_of_length_le]
    have hset : ∀ z, (u ++ y :: v).set u.length z = u ++ z :: v := fun z => by simp
    have hlen : (u ++ v).length + 1 ≤ 3 := by simp only [List.length_append, List.length_cons] at hl ⊢; omega
    have hok : ∀ r ∈ u ++ v, HeldOk r := fun r hr => hA.ok r (by rcases List.mem_append.1 hr with h | h <;> simp [h])
    rw [hrd, hel, hset, stp_one u v y _ hy hu hv rfl]
    by_cases hcnt : y.2.2.1 = (c : Int)
    · rw [if_pos hcnt, if_pos hcnt]
      refine ⟨y, u ++ v, (u.length : Int), rfl, hA.ok y (by simp), hcnt, ⟨by omega, hok⟩, by simp only [List.length_append]; omega, .inl (by omega), ?_⟩
      unfold tailR
      split
      · rfl
      · rw [if_pos (by omega)]
        simp
    · rw [if_neg hcnt, if_neg hcnt]
      refine ⟨freshR f id now c, u ++ v, -1, rfl, fresh_ok f id now hc, rfl, ⟨by omega, hok⟩, by omega, .inr (by omega), ?_⟩
      unfold tailR
      rw [hnf, if_neg (by simp), if_neg hneg]
      rfl
theorem foldl_catS : ∀ (l p : List ByteArray), l.foldl (fun t x => t ++ x) (catS p) = catS (p ++ l)
  | [], p => by simp
  | x :: l, p => by
    rw [List.foldl_cons, ← catS_snoc, foldl_catS l (p ++ [x])]
    simp
theorem loop_cat {X R A : Type} {step : (X → Option R) → X → Option R} (a : List A) (T : A → ByteArray) (B : Nat) (st : Nat → ByteArray → X) (r : Option R) (hT : ∀ x ∈ a, (T x).size ≤ B)
    (hs : ∀ again i t x, t.size ≤ i * B → i < a.length → a[i]? = some x → step again (st i t) = again (st (i + 1) (t ++ T x)))
    (he : ∀ again, step again (st a.length (a.foldl (fun t x => t ++ T x) ⟨#[]⟩)) = r) : ∀ k, a.length < k → whileK step k (st 0 ⟨#[]⟩) = r := by
  have key : ∀ (s p : List A) k, p ++ s = a → s.length < k → (p.foldl (fun t x => t ++ T x) ⟨#[]⟩).size ≤ p.length * B → whileK step k (st p.length (p.foldl (fun t x => t ++ T x) ⟨#[]⟩)) = r := by
    intro s
    induction s with
    | nil =>
      intro p k h hk _
      obtain ⟨k, rfl⟩ : ∃ k', k = k' + 1 := ⟨k - 1, by omega⟩
      have : p = a := by simpa using h
      subst this
      exact he _
    | cons x s ih =>
      intro p k h hk hb
      obtain ⟨k, rfl⟩ : ∃ k', k = k' + 1 := ⟨k - 1, by omega⟩
      show step _ _ = _
      have hx : a[p.length]? = some x := by rw [← h]; simp
      have hlt : p.length < a.length := by rw [← h]; simp
      rw [hs _ _ _ x hb hlt hx]
      have := ih (p ++ [x]) k (by simpa using h) (by simpa using hk) (by
        rw [List.foldl_append, List.length_append]
        simp only [List.foldl_cons, List.foldl_nil, ByteArray.size_append, List.length_cons, List.length_nil, Nat.add_mul]
        have := hT x (by rw [← h]; simp)
        omega)
      rw [List.foldl_append, List.length_append] at this
      simpa using this
  intro k hk
  exact key a [] k (by simp) hk (by simp [ByteArray.size])
def put4 (p : Nat) (t : ByteArray) (x4 : List ByteArray) (x5 : List Bool) : List ByteArray := if x5.getD p false then x4 else x4.set p t
def put5 (p : Nat) (x5 : List Bool) : List Bool := if x5.getD p false then x5 else x5.set p true
theorem putP_eq (p : Nat) (t : ByteArray) (x1 x2 x3 : Int) (x4 : List ByteArray) (x5 : List Bool) (x6 : Int) : putP p t (x1, (x2, (x3, (x4, (x5, x6))))) = (x1, (x2, (x3, (put4 p t x4 x5, (put5 p x5, x6))))) := by
  unfold putP put4 put5
  split <;> simp_all
theorem sel_jn {R : Type} {p : Nat} {t : ByteArray} {x4 : List ByteArray} {x5 : List Bool} (h4 : p < x4.length) (h5 : p < x5.length) (F : List ByteArray → List Bool → Option R) :
    jn F (fun (j3 : List ByteArray → List Bool → Option R) =>
      if 0 ≤ (p : Int) ∧ (p : Int) < (List.length x5 : Int) then
        (if (!(Ty.rd (t := .bool) x5 (p : Int))) = true then
          (if 0 ≤ (p : Int) ∧ (p : Int) < (List.length x5 : Int) then
            (if 0 ≤ (p : Int) ∧ (p : Int) < (List.length x4 : Int) then j3 (List.set x4 (Int.toNat (p : Int)) t) (List.set x5 (Int.toNat (p : Int)) true) else none)
          else none)
        else j3 x4 x5)
      else none) = F (put4 p t x4 x5) (put5 p x5) := by
  have g5 : (0 : Int) ≤ (p : Int) ∧ (p : Int) < (x5.length : Int) := by omega
  have g4 : (0 : Int) ≤ (p : Int) ∧ (p : Int) < (x4.length : Int) := by omega
  have r : Ty.rd (t := .bool) x5 (p : Int) = x5.getD p false := rfl
  unfold jn put4 put5
  dsimp only
  rw [if_pos g5, r, if_pos g5, if_pos g4, Int.toNat_natCast]
  cases x5.getD p false <;> rfl
theorem bd_rest {a : List HeldR} (h : a.length ≤ 3 ∧ ∀ r ∈ a, HeldOk r) : Bd_HeldS a := ⟨by have := h.1; omega, fun r hr => by
  have := h.2 r hr
  have h1 := this.cnt
  have h2 := this.ps
  have h3 := this.hv
  exact ⟨by show r.2.2.2.1.length ≤ 1048576; omega, by show r.2.2.2.2.1.length ≤ 1048576; omega, trivial⟩⟩
theorem roll_ok {a : List HeldR} (h : a.length ≤ 3 ∧ ∀ r ∈ a, HeldOk r) : (roll a).length ≤ 2 ∧ ∀ r ∈ roll a, HeldOk r := by
  unfold roll
  split
  · exact ⟨by rw [List.length_drop]; omega, fun r hr => h.2 r (List.mem_of_mem_drop hr)⟩
  · exact ⟨by omega, h.2⟩
theorem s_add (k : Nat) (hk : 1048576 < k) (a : List HeldR) (f id now : Int) (c p : Nat) (t : ByteArray) (T : ByteArray) (ha : shelfB a = true) (hr : s_ReadPart k (T, ()) = some ((id, ((p : Int), ((c : Int), (t, (true, ()))))), ((), ())))
    (hf : 1 ≤ f ∧ f ≤ 99) (hc : 2 ≤ c ∧ c ≤ 15) (hp : p < c) (ht : t.size ≤ 120) (hnow : 0 ≤ now ∧ now ≤ 999999992) :
    s_AddPart k ((a, ()), (f, (T, (now, ())))) = some ((((addR a f id now c p t).1, ()), ((addR a f id now c p t).2.1, ((addR a f id now c p t).2.2, ()))), ((), ((), ((), ((), ()))))) := by
  have hA := shelfB_ok ha
  have hcap : capMax = 274877906944 := rfl
  have hl := hA.len
  have h1 := s_l20Copy_t_is k a hk (bd_held hA)
  have h2 := s_ShelfOk_is k a hk (by omega)
  rw [shelfB_foldE, ha] at h2
  have hsz : ¬ (120 : Int) < (t.size : Int) := by omega
  have hn1 : ¬ (c : Int) = 1 := by omega
  have w8 : wi64 (now + 8) = now + 8 := w64_id _ (by omega)
  have g1 : (0 : Int) ≤ (c : Int) ∧ (c : Int) ≤ (capMax : Int) := by omega
  unfold s_AddPart
  simp only [h1, h2, hr, l01In_is, hf, hsz, hn1, hnow, w8, g1, Option.bind_some, decide_true, decide_false, Bool.not_true, Bool.false_eq_true, if_false, if_true, and_self, Int.toNat_natCast]
  refine (loop_gone (A := HeldR) (C := HeldQ) (S := HeldU × List HeldR × Int) a HT.toq HQ.left (fun i bs s => (f, (([], ()), (id, ((p : Int), ((c : Int), (t, ((bs, ()), (s.1, (s.2.1, (s.2.2, ((i : Int), ()))))))))))))
    (stp f id (c : Int)) (fun i s => s.2.1.length ≤ i) ((f, (id, ((c : Int), (List.replicate c ⟨#[]⟩, (List.replicate c false, (now + 8, ())))))), ([], -1)) ?_ ?_ ?_ k (by omega) (Nat.le_refl _))
  · intro again i bs s x hI hi hx hbl hbx
    obtain ⟨⟨s1, s2, s3, s4, s5, s6, ⟨⟩⟩, rest, at'⟩ := s
    obtain ⟨x1, x2, x3, x4, x5, x6⟩ := x
    have hq : HT.toq (x1, (x2, (x3, (x4, (x5, x6))))) = ((x1, (x2, (x3, (some x4, (some x5, x6))))) : HeldQ) := rfl
    rw [hq] at hbx ⊢
    have q1 : (i : Int) < (bs.length : Int) := by omega
    have q2 : (0 : Int) ≤ (i : Int) ∧ (i : Int) < (bs.length : Int) := by omega
    have w : wi64 ((i : Int) + 1) = ((i + 1 : Nat) : Int) := (w64_id _ (by omega)).trans (by omega)
    simp only at hI
    have c3 : rest.length + 1 ≤ capMax := by omega
    simp only [jn, Ty.rd, Int.toNat_natCast, getD_some' hbx, q1, q2, w, decide_true, and_self, if_true, Option.bind_some, List.length_cons, List.length_nil, Nat.zero_add, c3]
    by_cases e1 : x1 = f
    · by_cases e2 : x2 = id
      · by_cases e3 : x3 = (c : Int)
        · simp only [stp, e1, e2, e3, ag_Held, decide_true, and_self, if_true]
        · simp only [stp, e1, e2, e3, decide_true, decide_false, Bool.false_eq_true, if_false, and_self, if_true]
      · simp only [stp, e1, e2, decide_true, decide_false, Bool.false_eq_true, if_false, and_false, if_true]
    · simp only [stp, e1, decide_false, Bool.false_eq_true, if_false, false_and]
  · intro i s x hI
    unfold stp
    split
    · split
      · exact Nat.le_succ_of_le hI
      · exact Nat.le_succ_of_le hI
    · simp only [List.length_append, List.length_cons, List.length_nil]
      omega
  · intro again bs hbl hI
    rw [if_neg (by simp [hbl])]
    obtain ⟨x, rest, at', hfold, hx, hxc, hrest, hat, hroom, hadd⟩ := add_cases hA f id now c p t hc hp
    rw [hadd]
    have hfold' : a.foldl (stp f id (c : Int)) ((f, (id, ((c : Int), (List.replicate c ⟨#[]⟩, (List.replicate c false, (now + 8, ())))))), ([], -1)) = (ag_Held x, (rest, at')) := hfold
    rw [hfold']
    have hx' := putP_ok (p := p) hx ht
    obtain ⟨x1, x2, x3, x4, x5, x6⟩ := x
    have l4 : x4.length = c := by have := hx.ps; simp only at this hxc; omega
    have l5 : x5.length = c := by have := hx.hv; simp only at this hxc; omega
    unfold tailR
    rw [putP_eq] at hx' ⊢
    have m4 : ((put4 p t x4 x5).length : Int) = x3 := hx'.ps
    have m5 : ((put5 p x5).length : Int) = x3 := hx'.hv
    simp only at hxc
    have mz : ∀ q ∈ put4 p t x4 x5, q.size ≤ 120 := hx'.size
    dsimp only [ag_Held]
    refine (sel_jn (p := p) (t := t) (x4 := x4) (x5 := x5) (by omega) (by omega) _).trans ?_
    generalize put4 p t x4 x5 = y4 at *
    generalize put5 p x5 = y5 at *
    rw [s_l20All_is k hk _ (by dsimp only; omega)]
    dsimp only [Option.bind_some]
    have hnil : ([] : List HeldR) ++ List.drop (0 : Int).toNat (List.take at'.toNat rest) = List.take at'.toNat rest := by simp
    cases hfull : fullB y5 with
    | true =>
      simp only [if_true]
      refine loop_cat (A := ByteArray) y4 (fun x => x) 120 (fun i w => (([], ()), ((c : Int), ((x1, (x2, (x3, (y4, (y5, (x6, ())))))), (rest, (w, ((i : Int), ()))))))) _ mz ?_ ?_ k (by omega)
      · intro again i w z hw hi hz
        have q1 : (i : Int) < (c : Int) := by omega
        have q2 : (0 : Int) ≤ (i : Int) ∧ (i : Int) < (y4.length : Int) := by omega
        have w1 : wi64 ((i : Int) + 1) = ((i + 1 : Nat) : Int) := (w64_id _ (by omega)).trans (by omega)
        have r : Ty.rd (t := .str) y4 ((i : Nat) : Int) = z := getD_some' hz
        have hzs := mz z (List.mem_of_getElem? hz)
        have hmx : maxStr = 9223372036854775807 := rfl
        simp only [r, q1, q2, w1, decide_true, and_self, if_true]
        rw [if_pos (by omega)]
      · intro again
        have e : y4.foldl (fun t x => t ++ x) ⟨#[]⟩ = catS y4 := (foldl_catS y4 []).trans (by simp)
        rw [if_neg (by simp; omega), e]
        dsimp only
        rw [s_l20Copy_t_is k rest hk (bd_rest hrest)]
        rfl
    | false =>
      simp only [Bool.false_eq_true, if_false]
      have b1 := roll_ok hrest
      have hxr : HeldOk (x1, (x2, (x3, (y4, (y5, x6))))) := hx'
      by_cases hat0 : 0 ≤ at'
      · have k1 : 0 ≤ at' ∧ at' ≤ (rest.length : Int) := ⟨hat0, hat⟩
        have tk : List.take rest.length rest = rest := List.take_length
        have lt : (List.take at'.toNat rest).length = at'.toNat := by rw [List.length_take]; omega
        have ld : (List.drop at'.toNat rest).length = rest.length - at'.toNat := List.length_drop
        simp only [hat0, k1, and_self, decide_true, if_true, hnil, tk]
        rw [if_pos (by simp only [List.length_nil, List.drop_zero, show (0 : Int).toNat = 0 from rfl, lt]; omega), if_pos (by simp only [List.length_cons, List.length_nil, lt]; omega), if_pos (by simp only [List.length_append, List.length_cons, List.length_nil, lt, ld]; omega)]
        rw [s_l20Copy_t_is k _ hk (bd_rest ⟨by simp only [List.length_append, List.length_cons, List.length_nil, lt, ld]; omega, fun r hr => by
          simp only [List.mem_append, List.mem_cons, List.not_mem_nil, or_false] at hr
          rcases hr with (hr | rfl) | hr
          · exact hrest.2 r (List.mem_of_mem_take hr)
          · exact hxr
          · exact hrest.2 r (List.mem_of_mem_drop hr)⟩)]
        rfl
      · simp only [hat0, decide_false, Bool.false_eq_true, if_false]
        have hcopy := s_l20Copy_t_is k (roll rest ++ [(x1, (x2, (x3, (y4, (y5, x6)))))]) hk (bd_rest ⟨by simp only [List.length_append, List.length_cons, List.length_nil]; omega, fun r hr => by
          simp only [List.mem_append, List.mem_cons, List.not_mem_nil, or_false] at hr
          rcases hr with hr | rfl
          · exact b1.2 r hr
          · exact hxr⟩)
        unfold roll at hcopy ⊢
        by_cases h3 : rest.length = 3
        · have h3' : (rest.length : Int) = 3 := by omega
          rw [if_pos h3] at hcopy ⊢
          have e1 : (0 : Int) ≤ 1 ∧ (1 : Int) ≤ (rest.length : Int) := by omega
          simp only [h3', decide_true, if_true]
          rw [if_pos (by omega), if_pos (by refine ⟨trivial, ?_⟩; simp only [List.length_cons, List.length_nil]; omega), show (1 : Int).toNat = 1 from rfl, hcopy]
          rfl
        · have h3' : ¬ (rest.length : Int) = 3 := by omega
          rw [if_neg h3] at hcopy ⊢
          simp only [h3', decide_false, Bool.false_eq_true, if_false]
          rw [if_pos (by simp only [List.length_cons, List.length_nil]; omega), hcopy]
          rfl
theorem jn_eq {A R : Type} (f : A) (g : A → R) : jn f g = g f := rfl
theorem put_jn {R : Type} {L : List HeldR} {v : Int} {p : Nat} {t : ByteArray} {x : HeldR} (hv : 0 ≤ v) (hx : L[v.toNat]? = some x) (h4 : p < x.2.2.2.1.length) (h5 : p < x.2.2.2.2.1.length) (F : List HeldR → Option R) :
    jn F (fun (j3 : List HeldR → Option R) =>
      if 0 ≤ (p : Int) ∧ (p : Int) < (List.length (Ty.rd (t := HT) L v).2.2.2.2.1 : Int) then
        (if (!(Ty.rd (t := .bool) (Ty.rd (t := HT) L v).2.2.2.2.1 (p : Int))) = true then
          (if 0 ≤ (p : Int) ∧ (p : Int) < (List.length (Ty.rd (t := HT) L v).2.2.2.2.1 : Int) then
            (jn (List.set L (Int.toNat v) ((Ty.rd (t := HT) L v).1, ((Ty.rd (t := HT) L v).2.1, ((Ty.rd (t := HT) L v).2.2.1, ((Ty.rd (t := HT) L v).2.2.2.1, ((List.set (Ty.rd (t := HT) L v).2.2.2.2.1 (Int.toNat (p : Int)) true), (Ty.rd (t := HT) L v).2.2.2.2.2)))))) (fun (q3 : List HeldR) =>
              (if 0 ≤ (p : Int) ∧ (p : Int) < (List.length (Ty.rd (t := HT) q3 v).2.2.2.1 : Int) then
                (jn (List.set q3 (Int.toNat v) ((Ty.rd (t := HT) q3 v).1, ((Ty.rd (t := HT) q3 v).2.1, ((Ty.rd (t := HT) q3 v).2.2.1, ((List.set (Ty.rd (t := HT) q3 v).2.2.2.1 (Int.toNat (p : Int)) t), (Ty.rd (t := HT) q3 v).2.2.2.2))))) (fun (q4 : List HeldR) => j3 q4))
              else none)))
          else none)
        else j3 L)
      else none) = F (L.set v.toNat (putP p t x)) := by
  have hn : v.toNat < L.length := (List.getElem?_eq_some_iff.1 hx).1
  have r1 : Ty.rd (t := HT) L v = x := getD_some' hx
  have g5 : (0 : Int) ≤ (p : Int) ∧ (p : Int) < (x.2.2.2.2.1.length : Int) := by omega
  have g4 : (0 : Int) ≤ (p : Int) ∧ (p : Int) < (x.2.2.2.1.length : Int) := by omega
  have r : Ty.rd (t := .bool) x.2.2.2.2.1 (p : Int) = x.2.2.2.2.1.getD p false := rfl
  have r2 : ∀ z : HeldR, Ty.rd (t := HT) (L.set v.toNat z) v = z := fun z => getD_set' hn
  unfold jn
  dsimp only
  rw [r1, if_pos g5, r, if_pos g5, r2, if_pos g4, Int.toNat_natCast, List.set_set]
  cases hb : x.2.2.2.2.1.getD p false with
  | true =>
    have e : putP p t x = x := by unfold putP; rw [hb]; rfl
    rw [e]
    have : L.set v.toNat x = L := by
      refine List.ext_getElem? fun q => ?_
      rw [List.getElem?_set]
      split
      · rename_i e; subst e; rw [hx]
      · rfl
    rw [this]
    rfl
  | false =>
    have e : putP p t x = (x.1, (x.2.1, (x.2.2.1, (x.2.2.2.1.set p t, (x.2.2.2.2.1.set p true, x.2.2.2.2.2))))) := by unfold putP; rw [hb]; rfl
    rw [e]
    rfl
def tailI (k : Nat) (p : Nat) (t : ByteArray) (v : Int) (L : List HeldR) : Option ((((List (Int × Int × Int × List (ByteArray) × List (Bool) × Int)) × Unit) × ByteArray × Bool × Unit) × Unit × Unit × Unit × Unit × Unit) :=
  if 0 ≤ v ∧ v < (List.length L : Int) then
    jn (fun (j12v0 : List HeldR) =>
      ((x_slices_Contains_bool_bool k ((Ty.rd (t := HT) j12v0 v).2.2.2.2.1, (false, ()))).bind fun p53 =>
      (if p53.1 = true then
      some (((j12v0, ()), ((⟨#[]⟩ : ByteArray), (false, ()))), ((), ((), ((), ((), ())))))
      else
      ((x_strings_Join k ((Ty.rd (t := HT) j12v0 v).2.2.2.1, ((⟨#[]⟩ : ByteArray), ()))).bind fun p54 =>
      ((x_slices_Delete_impl_Held_impl_Held k (j12v0, (v, ((wi64 (v + (1 : Int))), ())))).bind fun p55 =>
      some (((p55.1, ()), (p54.1, (true, ()))), ((), ((), ((), ((), ())))))))))) (fun (j3 : List HeldR → Option _) =>
      if 0 ≤ (p : Int) ∧ (p : Int) < (List.length (Ty.rd (t := HT) L v).2.2.2.2.1 : Int) then
        (if (!(Ty.rd (t := .bool) (Ty.rd (t := HT) L v).2.2.2.2.1 (p : Int))) = true then
          (if 0 ≤ (p : Int) ∧ (p : Int) < (List.length (Ty.rd (t := HT) L v).2.2.2.2.1 : Int) then
            (jn (List.set L (Int.toNat v) ((Ty.rd (t := HT) L v).1, ((Ty.rd (t := HT) L v).2.1, ((Ty.rd (t := HT) L v).2.2.1, ((Ty.rd (t := HT) L v).2.2.2.1, ((List.set (Ty.rd (t := HT) L v).2.2.2.2.1 (Int.toNat (p : Int)) true), (Ty.rd (t := HT) L v).2.2.2.2.2)))))) (fun (q3 : List HeldR) =>
              (if 0 ≤ (p : Int) ∧ (p : Int) < (List.length (Ty.rd (t := HT) q3 v).2.2.2.1 : Int) then
                (jn (List.set q3 (Int.toNat v) ((Ty.rd (t := HT) q3 v).1, ((Ty.rd (t := HT) q3 v).2.1, ((Ty.rd (t := HT) q3 v).2.2.1, ((List.set (Ty.rd (t := HT) q3 v).2.2.2.1 (Int.toNat (p : Int)) t), (Ty.rd (t := HT) q3 v).2.2.2.2))))) (fun (q4 : List HeldR) => j3 q4))
              else none)))
          else none)
        else j3 L)
      else none)
  else none
theorem tailI_is (k : Nat) (hk : 1048576 < k) {L : List HeldR} {v : Int} {i : Nat} (hvi : v = (i : Int)) {x : HeldR} (hx : L[i]? = some x) (hok : HeldOk x) {p : Nat} (hp : (p : Int) < x.2.2.1) {t : ByteArray} (ht : t.size ≤ 120) (hl : L.length ≤ 1048576) :
    tailI k p t v L = some (if fullB (putP p t x).2.2.2.2.1 then (((L.eraseIdx i, ()), (catS (putP p t x).2.2.2.1, (true, ()))), ((), ((), ((), ((), ()))))) else (((L.set i (putP p t x), ()), (⟨#[]⟩, (false, ()))), ((), ((), ((), ((), ())))))) := by
  subst hvi
  have hi : i < L.length := (List.getElem?_eq_some_iff.1 hx).1
  have g : (0 : Int) ≤ (i : Int) ∧ (i : Int) < (L.length : Int) := by omega
  have h4 := hok.ps
  have h5 := hok.hv
  have hok' := putP_ok (p := p) hok ht
  have c1 := hok'.cnt
  have c2 := hok'.ps
  have c3 := hok'.hv
  unfold tailI
  rw [if_pos g]
  refine (put_jn (v := (i : Int)) (p := p) (t := t) (x := x) (by omega) (by rw [Int.toNat_natCast]; exact hx) (by omega) (by omega) _).trans ?_
  rw [Int.toNat_natCast]
  have r1 : Ty.rd (t := HT) (L.set i (putP p t x)) (i : Int) = putP p t x := getD_set' hi
  have hd : x_slices_Delete_impl_Held_impl_Held k (L.set i (putP p t x), ((i : Int), (((i + 1 : Nat) : Int), ()))) = some ((L.set i (putP p t x)).eraseIdx i, ((), ((), ((), ())))) := del_at k _ i (by rw [List.length_set]; exact hi) (by rw [List.length_set]; exact hl)
  have w1 : wi64 ((i : Int) + 1) = ((i + 1 : Nat) : Int) := (w64_id _ (by omega)).trans (by omega)
  have he : (L.set i (putP p t x)).eraseIdx i = L.eraseIdx i := by
    rw [List.eraseIdx_eq_take_drop_succ, List.eraseIdx_eq_take_drop_succ, List.take_set_of_le (Nat.le_refl _), List.drop_set_of_lt (Nat.lt_succ_self _)]
  rw [r1, contains_is k hk _ (by omega), w1, hd, he]
  have hj := join_is k (putP p t x).2.2.2.1 (by omega) hok'.size
  rw [hj]
  cases fullB (putP p t x).2.2.2.2.1 <;> rfl
theorem i_add (k : Nat) (hk : 1048576 < k) (a : List HeldR) (f id now : Int) (c p : Nat) (t : ByteArray) (T : ByteArray) (ha : shelfB a = true) (hr : i_ReadPart k (T, ()) = some ((id, ((p : Int), ((c : Int), (t, (true, ()))))), ((), ())))
    (hf : 1 ≤ f ∧ f ≤ 99) (hc : 2 ≤ c ∧ c ≤ 15) (hp : p < c) (ht : t.size ≤ 120) (hnow : 0 ≤ now ∧ now ≤ 999999992) :
    i_AddPart k ((a, ()), (f, (T, (now, ())))) = some ((((addR a f id now c p t).1, ()), ((addR a f id now c p t).2.1, ((addR a f id now c p t).2.2, ()))), ((), ((), ((), ((), ()))))) := by
  have hA := shelfB_ok ha
  have hcap : capMax = 274877906944 := rfl
  have hl := hA.len
  have h1 := i_copyShelf_is k a hk (bd_held hA)
  have h2 := i_ShelfOk_is k a hk (by omega)
  rw [shelfB_foldE, ha] at h2
  have h6 := heldAt_is k a f id hk (by omega)
  have hsz : ¬ (120 : Int) < (t.size : Int) := by omega
  have hn1 : ¬ (c : Int) = 1 := by omega
  have w8 : wi64 (now + 8) = now + 8 := w64_id _ (by omega)
  have g1 : (0 : Int) ≤ (c : Int) ∧ (c : Int) ≤ (capMax : Int) := by omega
  have hsp := find_split hA f id
  have hnf : fullB (newR f id now c p t).2.2.2.2.1 = false := new_full hc.1 hp
  unfold addR
  have hrow : ∀ b : List HeldR, (b ++ [freshR f id now c])[b.length]? = some (freshR f id now c) := fun b => by simp
  have hset : ∀ b : List HeldR, (b ++ [freshR f id now c]).set b.length (newR f id now c p t) = b ++ [newR f id now c p t] := fun b => by simp
  have hfp : (p : Int) < (freshR f id now c).2.2.1 := by show (p : Int) < (c : Int); omega
  have hnewT : ∀ (b : List HeldR) (v : Int), b.length ≤ 3 → v = (b.length : Int) → tailI k p t v (b ++ [freshR f id now c]) = some ((((b ++ [newR f id now c p t]), ()), (⟨#[]⟩, (false, ()))), ((), ((), ((), ((), ()))))) := fun b v hb hv => by
    rw [tailI_is k hk hv (hrow b) (fresh_ok f id now hc) hfp ht (by simp only [List.length_append, List.length_cons, List.length_nil]; omega)]
    have e : putP p t (freshR f id now c) = newR f id now c p t := rfl
    rw [e, hnf, hset]
    rfl
  cases hq : (List.range a.length).find? (sameK a f id) with
  | none =>
    rw [hq] at h6 hsp
    dsimp only at h6 hsp ⊢
    unfold i_AddPart
    simp only [h1, h2, hr, h6, isId_is, within_is, hf, hsz, hn1, hnow, w8, g1, Option.bind_some, decide_true, decide_false, Bool.not_true, Bool.false_eq_true, if_false, if_true, and_self]
    rw [jn_eq, if_neg (by decide), jn_eq, if_pos (by decide)]
    unfold roll
    by_cases h3 : a.length = 3
    · have h3' : (a.length : Int) = 3 := by omega
      rw [if_pos h3, if_pos (by simp only [h3', decide_true]), if_pos (by omega), if_pos (by refine ⟨trivial, ?_⟩; simp only [List.length_cons, List.length_nil]; omega)]
      exact hnewT (a.drop 1) _ (by rw [List.length_drop]; omega) (by rw [List.length_drop]; omega)
    · have h3' : ¬ (a.length : Int) = 3 := by omega
      rw [if_neg h3, if_neg (by simp only [h3', decide_false, Bool.false_eq_true, not_false_eq_true]), if_pos (by simp only [List.length_cons, List.length_nil]; omega)]
      exact hnewT a _ (by omega) rfl
  | some i =>
    rw [hq] at h6 hsp
    dsimp only at h6 hsp ⊢
    obtain ⟨u, y, v, he, hui, hy, hu, hv⟩ := hsp
    have hxi : a[i]? = some y := by rw [he, ← hui]; simp
    have hi : i < a.length := (List.getElem?_eq_some_iff.1 hxi).1
    have hrd : Ty.rd (t := RT_Held) a ((i : Nat) : Int) = y := rd_held hxi
    have hrd' : Ty.rd (t := HT) a ((i : Nat) : Int) = y := rd_held hxi
    have w1 : wi64 ((i : Int) + 1) = ((i + 1 : Nat) : Int) := (w64_id _ (by omega)).trans (by omega)
    have hyok := hA.ok y (List.mem_of_getElem? hxi)
    rw [hrd]
    unfold i_AddPart
    simp only [h1, h2, hr, h6, isId_is, within_is, hf, hsz, hn1, hnow, w8, g1, Option.bind_some, decide_true, decide_false, Bool.not_true, Bool.false_eq_true, if_false, if_true, and_self]
    have i0 : (0 : Int) ≤ (i : Int) := by omega
    have i1 : ¬ (i : Int) < 0 := by omega
    have i2 : (0 : Int) ≤ (i : Int) ∧ (i : Int) < (a.length : Int) := by omega
    rw [jn_eq, if_pos (by simp only [i0, decide_true]), if_pos i2]
    by_cases hcnt : y.2.2.1 = (c : Int)
    · rw [if_neg (by rw [hrd']; simp only [hcnt, decide_true, Bool.not_true, Bool.false_eq_true, not_false_eq_true]), jn_eq, if_neg (by simp only [i1, decide_false, Bool.false_eq_true, not_false_eq_true]), if_pos hcnt]
      refine (tailI_is k hk (L := a) (v := (i : Int)) (p := p) (t := t) rfl hxi hyok (by omega) ht (by omega)).trans ?_
      split <;> rfl
    · rw [if_pos (by rw [hrd']; simp only [hcnt, decide_false, Bool.not_false]), if_neg hcnt, w1, del_at k a i hi (by omega)]
      dsimp only [Option.bind_some]
      have hel : (a.eraseIdx i).length = a.length - 1 := List.length_eraseIdx_of_lt hi
      have h3 : ¬ (a.eraseIdx i).length = 3 := by omega
      have h3' : ¬ ((a.eraseIdx i).length : Int) = 3 := by omega
      unfold roll
      rw [jn_eq, if_pos (by decide), if_neg (by simp only [h3', decide_false, Bool.false_eq_true, not_false_eq_true]), if_pos (by simp only [List.length_cons, List.length_nil]; omega), if_neg h3]
      exact hnewT (a.eraseIdx i) _ (by omega) rfl
theorem bt_pos (s : ByteArray) (i : Int) : 0 ≤ bt s i ∧ bt s i ≤ 255 := by
  unfold bt
  split
  · have := (s[i.toNat]).toNat_lt
    omega
  · omega
theorem readPart_facts (k : Nat) (T : ByteArray) : ∃ (id pl c : Int) (t : ByteArray) (ok : Bool), s_ReadPart k (T, ()) = some ((id, (pl, (c, (t, (ok, ()))))), ((), ())) ∧ (ok = true → (1 ≤ c ∧ c ≤ 15) ∧ 0 ≤ pl ∧ pl < c) := by
  unfold s_ReadPart
  simp only [l01In_is, Option.bind_some]
  have b1 := bt_pos T 1
  have b2 := bt_pos T 2
  have b0 := bt_pos T 0
  have w1 : wi64 (bt T 1) = bt T 1 := w64_id _ (by omega)
  have w2 : wi64 (bt T 2) = bt T 2 := w64_id _ (by omega)
  have w0 : wi64 (bt T 0) = bt T 0 := w64_id _ (by omega)
  by_cases h3 : (T.size : Int) < 3
  · exact ⟨0, 0, 0, ⟨#[]⟩, false, by simp [h3], by simp⟩
  · have q2 : (0 : Int) ≤ 2 ∧ (2 : Int) < (T.size : Int) := by omega
    have q1 : (0 : Int) ≤ 1 ∧ (1 : Int) < (T.size : Int) := by omega
    have q0 : (0 : Int) ≤ 0 ∧ (0 : Int) < (T.size : Int) := by omega
    have q3 : (0 : Int) ≤ 3 ∧ (3 : Int) ≤ (T.size : Int) := by omega
    simp only [h3, q0, q1, q2, q3, w0, w1, w2, decide_false, if_true, and_self]
    by_cases h4 : 1 ≤ bt T 2 ∧ bt T 2 ≤ 15
    · by_cases h5 : bt T 2 ≤ bt T 1
      · exact ⟨0, 0, 0, ⟨#[]⟩, false, by simp [h4, h5], by simp⟩
      · refine ⟨_, _, _, _, true, by simp only [h4, h5, decide_true, decide_false, and_self, Bool.not_true, if_true, Bool.false_eq_true, if_false]; rfl, fun _ => ⟨h4, b1.1, by omega⟩⟩
    · exact ⟨0, 0, 0, ⟨#[]⟩, false, by simp only [h4, decide_false, Bool.not_false, Bool.true_eq_false, if_false], by simp⟩
theorem add_ok {a : List HeldR} (hA : ShelfR a) (f id now : Int) (c p : Nat) (t : ByteArray) (hc : 2 ≤ c ∧ c ≤ 15) (hp : p < c) (ht : t.size ≤ 120) : (addR a f id now c p t).1.length ≤ 3 ∧ ∀ r ∈ (addR a f id now c p t).1, HeldOk r := by
  obtain ⟨x, rest, at', _, hx, hxc, hrest, hat, hroom, hadd⟩ := add_cases hA f id now c p t hc hp
  rw [hadd]
  have hx' := putP_ok (p := p) hx ht
  unfold tailR
  split
  · exact hrest
  · split
    · have lt : (List.take at'.toNat rest).length = at'.toNat := by rw [List.length_take]; omega
      have ld : (List.drop at'.toNat rest).length = rest.length - at'.toNat := List.length_drop
      refine ⟨by simp only [List.length_append, List.length_cons, List.length_nil, lt, ld]; omega, fun r hr => ?_⟩
      simp only [List.mem_append, List.mem_cons, List.not_mem_nil, or_false] at hr
      rcases hr with (hr | rfl) | hr
      · exact hrest.2 r (List.mem_of_mem_take hr)
      · exact hx'
      · exact hrest.2 r (List.mem_of_mem_drop hr)
    · have b1 := roll_ok hrest
      refine ⟨by simp only [List.length_append, List.length_cons, List.length_nil]; omega, fun r hr => ?_⟩
      simp only [List.mem_append, List.mem_cons, List.not_mem_nil, or_false] at hr
      rcases hr with hr | rfl
      · exact b1.2 r hr
      · exact hx'
theorem addPart_is (k : Nat) (hk : 1048576 < k) (a : List HeldR) (hb : Bd_HeldS a) (f now : Int) (T : ByteArray) : ∃ r : List HeldR × ByteArray × Bool, Bd_HeldS r.1 ∧
    s_AddPart k ((a, ()), (f, (T, (now, ())))) = some (((r.1, ()), (r.2.1, (r.2.2, ()))), ((), ((), ((), ((), ()))))) ∧
    i_AddPart k ((a, ()), (f, (T, (now, ())))) = some (((r.1, ()), (r.2.1, (r.2.2, ()))), ((), ((), ((), ((), ()))))) := by
  obtain ⟨id, pl, c, t, ok, hr, hok⟩ := readPart_facts k T
  have hr' : i_ReadPart k (T, ()) = some ((id, (pl, (c, (t, (ok, ()))))), ((), ())) := hr
  have hl : a.length ≤ 1048576 := hb.1
  have c1 := s_l20Copy_t_is k a hk hb
  have c2 := i_copyShelf_is k a hk hb
  have s1 := s_ShelfOk_is k a hk hl
  have s2 := i_ShelfOk_is k a hk hl
  rw [shelfB_foldE] at s1 s2
  by_cases H : shelfB a = true ∧ (1 ≤ f ∧ f ≤ 99) ∧ ok = true ∧ t.size ≤ 120 ∧ (0 ≤ now ∧ now ≤ 999999992)
  · obtain ⟨h1, h2, h3, h4, h5⟩ := H
    subst h3
    obtain ⟨k1, k2, k3⟩ := hok rfl
    by_cases h6 : c = 1
    · refine ⟨(a, (t, true)), hb, ?_, ?_⟩
      · have hsz : ¬ (120 : Int) < (t.size : Int) := by omega
        unfold s_AddPart
        simp only [c1, s1, hr, h1, l01In_is, h2, hsz, h5, h6, Option.bind_some, decide_true, decide_false, Bool.not_true, Bool.false_eq_true, if_false, if_true, and_self]
      · have hsz : ¬ (120 : Int) < (t.size : Int) := by omega
        unfold i_AddPart
        simp only [c2, s2, hr', h1, isId_is, within_is, h2, hsz, h5, h6, Option.bind_some, decide_true, decide_false, Bool.not_true, Bool.false_eq_true, if_false, if_true, and_self]
    · obtain ⟨c', rfl⟩ : ∃ c' : Nat, c = (c' : Int) := ⟨c.toNat, by omega⟩
      obtain ⟨p, rfl⟩ : ∃ p : Nat, pl = (p : Int) := ⟨pl.toNat, by omega⟩
      exact ⟨addR a f id now c' p t, bd_rest (add_ok (shelfB_ok h1) f id now c' p t (by omega) (by omega) h4),
        s_add k hk a f id now c' p t T h1 hr h2 (by omega) (by omega) h4 h5, i_add k hk a f id now c' p t T h1 hr' h2 (by omega) (by omega) h4 h5⟩
  · refine ⟨(a, (⟨#[]⟩, false)), hb, ?_, ?_⟩
    · unfold s_AddPart
      simp only [c1, s1, hr, l01In_is, Option.bind_some]
      by_cases h1 : shelfB a = true
      · by_cases h2 : 1 ≤ f ∧ f ≤ 99
        · by_cases h3 : ok = true
          · by_cases h4 : (120 : Int) < (t.size : Int)
            · simp [h1, h2, h3, h4]
            · by_cases h5 : 0 ≤ now ∧ now ≤ 999999992
              · exact absurd ⟨h1, h2, h3, by omega, h5⟩ H
              · simp only [h1, h2, h3, h4, h5, decide_true, decide_false, and_self, Bool.not_true, Bool.not_false, if_true, Bool.false_eq_true, if_false]
          · simp [h1, h2, h3]
        · simp only [h1, h2, decide_false, Bool.not_true, Bool.not_false, if_true, Bool.true_eq_false, if_false]
      · simp [h1]
    · unfold i_AddPart
      simp only [c2, s2, hr', isId_is, within_is, Option.bind_some]
      by_cases h1 : shelfB a = true
      · by_cases h2 : 1 ≤ f ∧ f ≤ 99
        · by_cases h3 : ok = true
          · by_cases h4 : (120 : Int) < (t.size : Int)
            · simp [h1, h2, h3, h4]
            · by_cases h5 : 0 ≤ now ∧ now ≤ 999999992
              · exact absurd ⟨h1, h2, h3, by omega, h5⟩ H
              · simp only [h1, h2, h3, h4, h5, decide_true, decide_false, and_self, Bool.not_true, Bool.not_false, if_true, Bool.false_eq_true, if_false]
          · simp [h1, h2, h3]
        · simp only [h1, h2, decide_false, Bool.not_true, Bool.not_false, if_true, Bool.true_eq_false, if_false]
      · simp [h1]
theorem addPart_law (k : Nat) (hk : 4611686018427387904 < k) (a : List HeldR) (f now : Int) (T : ByteArray) (hw : Wf_Shelf (a, ())) : w_FnExactAddPart k ((a, ()), (f, (T, (now, ())))) = some (true, ((), ((), ((), ((), ()))))) := by
  unfold w_FnExactAddPart
  by_cases hT : (1048576 : Int) < (T.size : Int)
  · simp [hT]
  obtain ⟨m, h1, h2⟩ := szShelf_le k (a, ()) 1048576 (by omega) (by omega) hw
  simp only [hT, h1, decide_false, Bool.false_eq_true, if_false, Option.bind_some]
  by_cases hm : m < 0
  · simp [hm]
  obtain ⟨_, hb⟩ := h2 (by omega)
  have hb' : Bd_HeldS a := hb.1
  have e1 := toShelf_is k (a, ()) (by omega) hb
  obtain ⟨r, hbr, e2, e3⟩ := addPart_is k (by omega) a hb' f now T
  obtain ⟨r, w, d⟩ := r
  dsimp only at hbr e2 e3
  have e5 := eqShelf_is k (r, ()) (r, ()) (by omega) ⟨hbr, trivial⟩
  have e6 := eqShelf_is k (a, ()) (a, ()) (by omega) hb
  have la := hb'.1
  have lr := hbr.1
  obtain ⟨a1, n1, f1, f2, f3, f4, f5⟩ := MH_HeldS k a 1 (by omega) _ rfl (by omega) hk hb'
  obtain ⟨a2, n2, g1, g2, g3, g4, g5⟩ := MH_HeldS k r 1 (by omega) _ rfl (by omega) hk hbr
  have p1 : ¬ n1 < 0 := by omega
  have p2 : ¬ n2 < 0 := by omega
  unfold w_markShelf w_heldShelf
  simp only [hm, e1, e2, e3, e5, e6, f4, g4, g5, p1, p2, dq_self, decide_false, Bool.false_eq_true, if_false, Bool.not_true, if_true, decide_true, Option.bind_some]
theorem pure_FnExactAddPart (x : argsDen pars_FnExactAddPart) (hx : argsWf pars_FnExactAddPart x) : ∃ k o, w_FnExactAddPart k (argsX pars_FnExactAddPart x) = some (true, o) := by
  obtain ⟨a, f, t, n, u⟩ := x
  refine ⟨4611686018427387905, ((), ((), ((), ((), ())))), ?_⟩
  show w_FnExactAddPart 4611686018427387905 ((a, ()), (f, (t, (n, ())))) = _
  have hu := hx.1
  exact addPart_law 4611686018427387905 (by decide) a f n t ⟨⟨hu.1, fun r hr => ⟨(hu.2 r hr).2.2.2.1, (hu.2 r hr).2.2.2.2.1.1, trivial⟩⟩, trivial⟩
open Go.ChangeShapes Go.WideShapes Go.ChangeAt Go.RowKit
theorem own_FnExactAddPart : ownKnob Try.prog.godebug = none := by kernel_rfl
theorem lifted_FnExactAddPart (os : Os) (started : os.Started) (H : Type) (enc : TypeId × Value → H) :
    ReturnsInHanded {} Try.checked os 6 .any (Rows.fnExactAddPartSpec.pre6 enc Try.prog Try.f6 Rows.fnExactAddPartRow.domain false) (Rows.fnExactAddPartSpec.post enc Try.prog Try.f6 false true false false) :=
  law_lifted (C := Try.checked) (l := pars_FnExactAddPart) (rb := 4) own_FnExactAddPart started (by kernel_rfl) Try.func6
    (ChangeSpec.witness6 (enc := enc) (C := Try.checked) false ⟨#[], #[.agg #[.slice none 0 0], .int .i64 0, .string ByteArray.empty, .int .i64 0], []⟩ 8 (by kernel_rfl) (by kernel_rfl) (by kernel_rfl) (by kernel_rfl))
    e_w_FnExactAddPart rfl (by decide) pure_FnExactAddPart (by kernel_rfl) rfl Try.underlying4 (by kernel_rfl) (by kernel_rfl) rfl (fun _ => ⟨fun _ h => h.elim, trivial⟩)
    (fun ds h => match ds, h with | [_, _, _, _], _ => rfl)
theorem inPlace_FnExactAddPart : Try.prog.inPlace 6 = Rows.fnExactAddPartRow.inPlace := by kernel_rfl
theorem unfollowed_FnExactAddPart : Try.prog.unfollowed 6 = Rows.fnExactAddPartRow.unfollowed := by kernel_rfl
theorem recurses_FnExactAddPart : Try.prog.recurses 6 = Rows.fnExactAddPartRow.recurses := by kernel_rfl
theorem named_FnExactAddPart : Try.prog.varsNamed 6 = Rows.fnExactAddPartRow.named := by kernel_rfl
theorem facts_FnExactAddPart : joinedFacts Try.prog 6 Try.f6 Rows.fnExactAddPartSpec Rows.fnExactAddPartRow = true := by
  unfold joinedFacts
  rw [seat_laid, seat_maps, seat_heard, seat_enter, inPlace_FnExactAddPart, unfollowed_FnExactAddPart, recurses_FnExactAddPart, named_FnExactAddPart]
  kernel_rfl
theorem fnExactAddPart_holds : Rows.FnExactAddPartSaid :=
  OpenClaim.holds_of_wide 6 Try.f6 rfl rfl rfl rfl rfl rfl rfl ⟨rfl, rfl, rfl, rfl, rfl⟩ rfl rfl rfl rfl rfl (by kernel_rfl) Try.func6 facts_FnExactAddPart (of_decide_eq_true (by kernel_rfl))
    (by unfold Func.isWrapper; first | (rw [if_pos (by decide +kernel)]; kernel_rfl) | (rw [if_neg (by decide +kernel)]; exact ⟨rfl, rfl⟩)) (fun os started H enc _ => lifted_FnExactAddPart os started H enc)
#print axioms fnExactAddPart_holds
end Go.Proofs.Ytaamcelinnnncaa
