import Derived.Test.YtaamcelinnnncaaRows
import Derived.Test.YtaamcelinnnncaaFun1
import Derived.Test.YtaamcelinnnncaaBase
import Derived.Test.YtaamcelinnnncaaFacts
import Derived.WalkKit
import Derived.ProofKit
import Derived.OpenShut
import Derived.ShutString
import Derived.ChangeOld
import Derived.Below
import Derived.SizedLaws
/- FnExactTidyShelf answers true for every input, and its arguments read behind the call as they did ahead of it. Conditions: none. -/
set_option linter.unusedVariables false
namespace Go.Proofs.Ytaamcelinnnncaa
open Go Go.Eng Go.Proofs
abbrev pars_FnExactTidyShelf : List Par := [(true, (.list (.pair (.int .i64) (.pair (.int .i64) (.pair (.int .i64) (.pair (.list .str) (.pair (.list .bool) (.int .i64)))))))), (false, (.int .i64))]
abbrev RT_Held : Ty := (.pair (.int .i64) (.pair (.int .i64) (.pair (.int .i64) (.pair (.list .str) (.pair (.list .bool) (.int .i64))))))
def ag_Held (r : RT_Held.den) : Int × Int × Int × List (ByteArray) × List (Bool) × Int × Unit := (r.1, (r.2.1, (r.2.2.1, (r.2.2.2.1, (r.2.2.2.2.1, (r.2.2.2.2.2, ()))))))
theorem ag_Held_inj (r r' : RT_Held.den) : (ag_Held r = ag_Held r') ↔ r = r' := by
  constructor
  · intro h
    obtain ⟨x0, ⟨x1, ⟨x2, ⟨x3, ⟨x4, x5⟩⟩⟩⟩⟩ := r
    obtain ⟨y0, ⟨y1, ⟨y2, ⟨y3, ⟨y4, y5⟩⟩⟩⟩⟩ := r'
    simp only [ag_Held, Prod.mk.injEq, and_true] at h
    simp only [Prod.mk.injEq]
    simp_all
  · intro h
    rw [h]
def Wf_StringS (a : List (ByteArray)) : Prop := a.length ≤ 9223372036854775807 ∧ ∀ r ∈ a, ByteArray.size r ≤ 9223372036854775807
def Bd_StringS (a : List (ByteArray)) : Prop := a.length ≤ 1048576
def Wf_BoolS (a : List (Bool)) : Prop := a.length ≤ 9223372036854775807
def Bd_BoolS (a : List (Bool)) : Prop := a.length ≤ 1048576
def Wf_Held (x : Int × Int × Int × List (ByteArray) × List (Bool) × Int × Unit) : Prop := Wf_StringS x.2.2.2.1 ∧ Wf_BoolS x.2.2.2.2.1 ∧ True
def Bd_Held (x : Int × Int × Int × List (ByteArray) × List (Bool) × Int × Unit) : Prop := Bd_StringS x.2.2.2.1 ∧ Bd_BoolS x.2.2.2.2.1 ∧ True
def Wf_HeldS (a : List (Int × Int × Int × List (ByteArray) × List (Bool) × Int)) : Prop := a.length ≤ 9223372036854775807 ∧ ∀ r ∈ a, Wf_Held (ag_Held r)
def Bd_HeldS (a : List (Int × Int × Int × List (ByteArray) × List (Bool) × Int)) : Prop := a.length ≤ 1048576 ∧ ∀ r ∈ a, Bd_Held (ag_Held r)
def Wf_Shelf (x : (List (Int × Int × Int × List (ByteArray) × List (Bool) × Int)) × Unit) : Prop := Wf_HeldS x.1 ∧ True
def Bd_Shelf (x : (List (Int × Int × Int × List (ByteArray) × List (Bool) × Int)) × Unit) : Prop := Bd_HeldS x.1 ∧ True
theorem szStringS_le (k : Nat) (a : List (ByteArray)) (n : Int) (h : 0 ≤ n ∧ n ≤ 1048576) (hk : 1048576 < k) (hw : Wf_StringS a) : ∃ m : Int, w_szStringS k (a, (n, ())) = some (m, ((), ((), ()))) ∧ (0 ≤ m → m ≤ n ∧ Bd_StringS a) := by
  unfold w_szStringS
  have hl : a.length ≤ 9223372036854775807 := hw.1
  have e : wi64 (n - (List.length a : Int)) = n - (List.length a : Int) := w64_id _ (by omega)
  simp only [e]
  by_cases hc : n - (List.length a : Int) < 0
  · simp only [hc, decide_true, if_true]
    exact ⟨_, rfl, fun h => by omega⟩
  · simp only [hc, decide_false, Bool.false_eq_true, if_false]
    refine (loop_sz (t := .str) a (fun m => (m, ((), ((), ())))) (fun _ => True) ?_ ?_ (n - a.length) (by omega) (by omega) k (by omega)).imp fun m hm => ⟨hm.1, fun h0 => ⟨by have := (hm.2 h0).1; omega, by show a.length ≤ 1048576; omega⟩⟩
    · intro again n' i hn0 hn1 hi hl'
      have w : wi64 (i + 1) = i + 1 := w64_id _ (by omega)
      have hr := rd_get (t := .str) a i (by omega)
      have hs : ByteArray.size (Ty.rd (t := .str) a i) ≤ 9223372036854775807 := by rw [hr]; exact hw.2 _ (List.getElem_mem _)
      have w2 : wi64 (n' - (ByteArray.size (Ty.rd (t := .str) a i) : Int)) = n' - (ByteArray.size (Ty.rd (t := .str) a i) : Int) := w64_id _ (by omega)
      refine ⟨n' - (ByteArray.size (Ty.rd (t := .str) a i) : Int), fun hm => ⟨by omega, trivial⟩, ?_⟩
      simp only [hl', hi, w2, w, decide_true, and_self, if_true, decide_eq_true_eq]
    · intro again n' i hi
      have : ¬ i < (a.length : Int) := by omega
      simp [this]
theorem szBoolS_le (k : Nat) (a : List (Bool)) (n : Int) (h : 0 ≤ n ∧ n ≤ 1048576) (hk : 1048576 < k) (hw : Wf_BoolS a) : ∃ m : Int, w_szBoolS k (a, (n, ())) = some (m, ((), ((), ()))) ∧ (0 ≤ m → m ≤ n ∧ Bd_BoolS a) := by
  unfold w_szBoolS
  have hl : a.length ≤ 9223372036854775807 := hw
  have e : wi64 (n - (List.length a : Int)) = n - (List.length a : Int) := w64_id _ (by omega)
  simp only [e]
  by_cases hc : n - (List.length a : Int) < 0
  · simp only [hc, decide_true, if_true]
    exact ⟨_, rfl, fun h => by omega⟩
  · simp only [hc, decide_false, Bool.false_eq_true, if_false]
    exact ⟨_, rfl, fun _ => ⟨by omega, by show a.length ≤ 1048576; omega⟩⟩
theorem szHeld_le (k : Nat) (x : Int × Int × Int × List (ByteArray) × List (Bool) × Int × Unit) (n : Int) (h : 0 ≤ n ∧ n ≤ 1048576) (hk : 1048576 < k) (hw : Wf_Held x) : ∃ m : Int, w_szHeld k (x, (n, ())) = some (m, ((), ((), ()))) ∧ (0 ≤ m → m ≤ n ∧ Bd_Held x) := by
  obtain ⟨a0, a1, a2, a3, a4, a5, u⟩ := x
  unfold w_szHeld
  unfold Wf_Held at hw
  unfold Bd_Held
  simp only [] at hw ⊢
  obtain ⟨w3, w4, _⟩ := hw
  obtain ⟨m0, e0, b0⟩ := szStringS_le k a3 n ⟨by omega, by omega⟩ hk w3
  simp only [e0, Option.bind_some]
  by_cases c0 : m0 < 0
  · simp only [c0, decide_true, if_true]
    exact ⟨_, rfl, fun h => by omega⟩
  have d0 := b0 (by omega)
  simp only [c0, decide_false, Bool.false_eq_true, if_false]
  obtain ⟨m1, e1, b1⟩ := szBoolS_le k a4 m0 ⟨by omega, by omega⟩ hk w4
  simp only [e1, Option.bind_some]
  by_cases c1 : m1 < 0
  · simp only [c1, decide_true, if_true]
    exact ⟨_, rfl, fun h => by omega⟩
  have d1 := b1 (by omega)
  simp only [c1, decide_false, Bool.false_eq_true, if_false]
  exact ⟨_, rfl, fun _ => ⟨by omega, ⟨d0.2, d1.2, trivial⟩⟩⟩
theorem szHeldS_le (k : Nat) (a : List (Int × Int × Int × List (ByteArray) × List (Bool) × Int)) (n : Int) (h : 0 ≤ n ∧ n ≤ 1048576) (hk : 1048576 < k) (hw : Wf_HeldS a) : ∃ m : Int, w_szHeldS k (a, (n, ())) = some (m, ((), ((), ()))) ∧ (0 ≤ m → m ≤ n ∧ Bd_HeldS a) := by
  unfold w_szHeldS
  have hl : a.length ≤ 9223372036854775807 := hw.1
  have e : wi64 (n - (List.length a : Int)) = n - (List.length a : Int) := w64_id _ (by omega)
  simp only [e]
  by_cases hc : n - (List.length a : Int) < 0
  · simp only [hc, decide_true, if_true]
    exact ⟨_, rfl, fun h => by omega⟩
  · simp only [hc, decide_false, Bool.false_eq_true, if_false]
    refine (loop_sz (t := (.pair (.int .i64) (.pair (.int .i64) (.pair (.int .i64) (.pair (.list .str) (.pair (.list .bool) (.int .i64))))))) a (fun m => (m, ((), ((), ())))) (fun r => Bd_Held (ag_Held r)) ?_ ?_ (n - a.length) (by omega) (by omega) k (by omega)).imp fun m hm => ⟨hm.1, fun h0 => ⟨by have := (hm.2 h0).1; omega, ⟨by omega, (hm.2 h0).2⟩⟩⟩
    · intro again n' i hn0 hn1 hi hl'
      have w : wi64 (i + 1) = i + 1 := w64_id _ (by omega)
      have hr := rd_get (t := (.pair (.int .i64) (.pair (.int .i64) (.pair (.int .i64) (.pair (.list .str) (.pair (.list .bool) (.int .i64))))))) a i (by omega)
      obtain ⟨m, e1, e2⟩ := szHeld_le k (ag_Held (Ty.rd (t := (.pair (.int .i64) (.pair (.int .i64) (.pair (.int .i64) (.pair (.list .str) (.pair (.list .bool) (.int .i64))))))) a i)) n' ⟨hn0, hn1⟩ hk (by rw [hr]; exact hw.2 _ (List.getElem_mem _))
      simp only [ag_Held] at e1
      refine ⟨m, fun hm => e2 hm, ?_⟩
      simp only [hl', hi, e1, w, decide_true, and_self, if_true, Option.bind_some, decide_eq_true_eq]
    · intro again n' i hi
      have : ¬ i < (a.length : Int) := by omega
      simp [this]
theorem szShelf_le (k : Nat) (x : (List (Int × Int × Int × List (ByteArray) × List (Bool) × Int)) × Unit) (n : Int) (h : 0 ≤ n ∧ n ≤ 1048576) (hk : 1048576 < k) (hw : Wf_Shelf x) : ∃ m : Int, w_szShelf k (x, (n, ())) = some (m, ((), ((), ()))) ∧ (0 ≤ m → m ≤ n ∧ Bd_Shelf x) := by
  obtain ⟨a0, u⟩ := x
  unfold w_szShelf
  unfold Wf_Shelf at hw
  unfold Bd_Shelf
  simp only [] at hw ⊢
  obtain ⟨w0, _⟩ := hw
  obtain ⟨m0, e0, b0⟩ := szHeldS_le k a0 n ⟨by omega, by omega⟩ hk w0
  simp only [e0, Option.bind_some]
  by_cases c0 : m0 < 0
  · simp only [c0, decide_true, if_true]
    exact ⟨_, rfl, fun h => by omega⟩
  have d0 := b0 (by omega)
  simp only [c0, decide_false, Bool.false_eq_true, if_false]
  exact ⟨_, rfl, fun _ => ⟨by omega, ⟨d0.2, trivial⟩⟩⟩
theorem toStringS_is (k : Nat) (a : List (ByteArray)) (hk : 1048576 < k) (hb : Bd_StringS a) : w_toStringS k (a, ()) = some (a, ((), ())) := by
  unfold w_toStringS
  have hl : a.length ≤ 1048576 := hb
  have hcap : (capMax : Int) = 274877906944 := rfl
  simp only [if_true]
  rw [if_pos (by omega)]
  refine loop_to (t := .str) a (fun out => (out, ((), ()))) ?_ ?_ _ (by simp) k (by omega)
  · intro again out i hi hl' ho
    have w : wi64 (i + 1) = i + 1 := w64_id _ (by omega)
    simp only [hl', hi, ho, w, decide_true, and_self, if_true]
  · intro again out i hi
    have : ¬ i < (a.length : Int) := by omega
    simp [this]
theorem toBoolS_is (k : Nat) (a : List (Bool)) (hk : 1048576 < k) (hb : Bd_BoolS a) : w_toBoolS k (a, ()) = some (a, ((), ())) := by
  unfold w_toBoolS
  have hl : a.length ≤ 1048576 := hb
  have hcap : (capMax : Int) = 274877906944 := rfl
  simp only [if_true]
  rw [if_pos (by omega)]
  refine loop_to (t := .bool) a (fun out => (out, ((), ()))) ?_ ?_ _ (by simp) k (by omega)
  · intro again out i hi hl' ho
    have w : wi64 (i + 1) = i + 1 := w64_id _ (by omega)
    simp only [hl', hi, ho, w, decide_true, and_self, if_true]
  · intro again out i hi
    have : ¬ i < (a.length : Int) := by omega
    simp [this]
theorem toHeld_is (k : Nat) (x : Int × Int × Int × List (ByteArray) × List (Bool) × Int × Unit) (hk : 1048576 < k) (hb : Bd_Held x) : w_toHeld k (x, ()) = some (x, ((), ())) := by
  obtain ⟨a0, a1, a2, a3, a4, a5, u⟩ := x
  unfold w_toHeld
  unfold Bd_Held at hb
  obtain ⟨b3, b4, b⟩ := hb
  simp only [] at b3 b4
  simp only [toStringS_is k a3 hk b3, toBoolS_is k a4 hk b4, Option.bind_some]
theorem toHeldS_is (k : Nat) (a : List (Int × Int × Int × List (ByteArray) × List (Bool) × Int)) (hk : 1048576 < k) (hb : Bd_HeldS a) : w_toHeldS k (a, ()) = some (a, ((), ())) := by
  unfold w_toHeldS
  have hl : a.length ≤ 1048576 := hb.1
  have hcap : (capMax : Int) = 274877906944 := rfl
  simp only [if_true]
  rw [if_pos (by omega)]
  refine loop_to (t := (.pair (.int .i64) (.pair (.int .i64) (.pair (.int .i64) (.pair (.list .str) (.pair (.list .bool) (.int .i64))))))) a (fun out => (out, ((), ()))) ?_ ?_ _ (by simp) k (by omega)
  · intro again out i hi hl' ho
    have w : wi64 (i + 1) = i + 1 := w64_id _ (by omega)
    have hr := rd_get (t := (.pair (.int .i64) (.pair (.int .i64) (.pair (.int .i64) (.pair (.list .str) (.pair (.list .bool) (.int .i64))))))) a i (by omega)
    have e := toHeld_is k (ag_Held (Ty.rd (t := (.pair (.int .i64) (.pair (.int .i64) (.pair (.int .i64) (.pair (.list .str) (.pair (.list .bool) (.int .i64))))))) a i)) hk (by rw [hr]; exact hb.2 _ (List.getElem_mem _))
    simp only [ag_Held] at e
    simp only [hl', hi, ho, e, w, decide_true, and_self, if_true, Option.bind_some]
  · intro again out i hi
    have : ¬ i < (a.length : Int) := by omega
    simp [this]
theorem toShelf_is (k : Nat) (x : (List (Int × Int × Int × List (ByteArray) × List (Bool) × Int)) × Unit) (hk : 1048576 < k) (hb : Bd_Shelf x) : w_toShelf k (x, ()) = some (x, ((), ())) := by
  obtain ⟨a0, u⟩ := x
  unfold w_toShelf
  unfold Bd_Shelf at hb
  obtain ⟨b0, b⟩ := hb
  simp only [] at b0
  simp only [toHeldS_is k a0 hk b0, Option.bind_some]
theorem eqStringS_is (k : Nat) (a b : List (.str : Ty).den) (hk : 1048576 < k) (hb : Bd_StringS a) : w_eqStringS k (a, (b, ())) = some (dq a b, ((), ((), ()))) := by
  unfold w_eqStringS
  have hl : a.length ≤ 1048576 := hb
  by_cases hab : a.length = b.length
  · simp only [hab, decide_true, Bool.not_true]
    refine (loop_dq (t := .str) (R := Bool × Unit × Unit × Unit) a b hab (false, ((), ((), ()))) (true, ((), ((), ()))) ?_ ?_ k (by omega)).trans ?_
    · intro again i hi hl'
      have w : wi64 (i + 1) = i + 1 := w64_id _ (by omega)
      have hlb : i < (b.length : Int) := by omega
      simp only [hl', hi, hlb, w, decide_true, and_self, if_true]
      by_cases e : Ty.rd (t := .str) a i = Ty.rd (t := .str) b i <;> simp [e, dq_self, dq_false]
    · intro again i hi
      have : ¬ i < (a.length : Int) := by omega
      simp only [this, decide_false]
      rfl
    · cases dq a b <;> simp
  · have : ¬ ((a.length : Int) = (b.length : Int)) := by omega
    have h2 : a ≠ b := fun h => hab (by rw [h])
    simp [this, dq_false h2]
theorem eqBoolS_is (k : Nat) (a b : List (.bool : Ty).den) (hk : 1048576 < k) (hb : Bd_BoolS a) : w_eqBoolS k (a, (b, ())) = some (dq a b, ((), ((), ()))) := by
  unfold w_eqBoolS
  have hl : a.length ≤ 1048576 := hb
  by_cases hab : a.length = b.length
  · simp only [hab, decide_true, Bool.not_true]
    refine (loop_dq (t := .bool) (R := Bool × Unit × Unit × Unit) a b hab (false, ((), ((), ()))) (true, ((), ((), ()))) ?_ ?_ k (by omega)).trans ?_
    · intro again i hi hl'
      have w : wi64 (i + 1) = i + 1 := w64_id _ (by omega)
      have hlb : i < (b.length : Int) := by omega
      simp only [hl', hi, hlb, w, decide_true, and_self, if_true]
      by_cases e : Ty.rd (t := .bool) a i = Ty.rd (t := .bool) b i <;> simp [e, dq_self, dq_false]
    · intro again i hi
      have : ¬ i < (a.length : Int) := by omega
      simp only [this, decide_false]
      rfl
    · cases dq a b <;> simp
  · have : ¬ ((a.length : Int) = (b.length : Int)) := by omega
    have h2 : a ≠ b := fun h => hab (by rw [h])
    simp [this, dq_false h2]
theorem eqHeld_is (k : Nat) (x y : Int × Int × Int × List (ByteArray) × List (Bool) × Int × Unit) (hk : 1048576 < k) (hb : Bd_Held x) : w_eqHeld k (x, (y, ())) = some (dq x y, ((), ((), ()))) := by
  obtain ⟨a0, a1, a2, a3, a4, a5, u⟩ := x
  obtain ⟨b0, b1, b2, b3, b4, b5, u'⟩ := y
  unfold w_eqHeld
  unfold Bd_Held at hb
  obtain ⟨w3, w4, _⟩ := hb
  simp only [] at w3 w4
  simp only [eqStringS_is k a3 b3 hk w3, eqBoolS_is k a4 b4 hk w4, Option.bind_some]
  by_cases h0 : a0 = b0
  rotate_left
  · have hn : (a0, (a1, (a2, (a3, (a4, (a5, ())))))) ≠ (b0, (b1, (b2, (b3, (b4, (b5, ())))))) := fun h => h0 (by simp only [Prod.mk.injEq] at h; simp_all)
    rw [dq_false hn]
    simp [h0]
  subst h0
  by_cases h1 : a1 = b1
  rotate_left
  · have hn : (a0, (a1, (a2, (a3, (a4, (a5, ())))))) ≠ (a0, (b1, (b2, (b3, (b4, (b5, ())))))) := fun h => h1 (by simp only [Prod.mk.injEq] at h; simp_all)
    rw [dq_false hn]
    simp [h1]
  subst h1
  by_cases h2 : a2 = b2
  rotate_left
  · have hn : (a0, (a1, (a2, (a3, (a4, (a5, ())))))) ≠ (a0, (a1, (b2, (b3, (b4, (b5, ())))))) := fun h => h2 (by simp only [Prod.mk.injEq] at h; simp_all)
    rw [dq_false hn]
    simp [h2]
  subst h2
  by_cases h3 : a3 = b3
  rotate_left
  · have hn : (a0, (a1, (a2, (a3, (a4, (a5, ())))))) ≠ (a0, (a1, (a2, (b3, (b4, (b5, ())))))) := fun h => h3 (by simp only [Prod.mk.injEq] at h; simp_all)
    rw [dq_false hn]
    simp [h3, dq_false]
  subst h3
  by_cases h4 : a4 = b4
  rotate_left
  · have hn : (a0, (a1, (a2, (a3, (a4, (a5, ())))))) ≠ (a0, (a1, (a2, (a3, (b4, (b5, ())))))) := fun h => h4 (by simp only [Prod.mk.injEq] at h; simp_all)
    rw [dq_false hn]
    simp [h4, dq_false]
  subst h4
  by_cases h5 : a5 = b5
  rotate_left
  · have hn : (a0, (a1, (a2, (a3, (a4, (a5, ())))))) ≠ (a0, (a1, (a2, (a3, (a4, (b5, ())))))) := fun h => h5 (by simp only [Prod.mk.injEq] at h; simp_all)
    rw [dq_false hn]
    simp [h5]
  subst h5
  simp [dq_self]
theorem eqHeldS_is (k : Nat) (a b : List RT_Held.den) (hk : 1048576 < k) (hb : Bd_HeldS a) : w_eqHeldS k (a, (b, ())) = some (dq a b, ((), ((), ()))) := by
  unfold w_eqHeldS
  have hl : a.length ≤ 1048576 := hb.1
  by_cases hab : a.length = b.length
  · simp only [hab, decide_true, Bool.not_true]
    refine (loop_dq (t := RT_Held) (R := Bool × Unit × Unit × Unit) a b hab (false, ((), ((), ()))) (true, ((), ((), ()))) ?_ ?_ k (by omega)).trans ?_
    · intro again i hi hl'
      have w : wi64 (i + 1) = i + 1 := w64_id _ (by omega)
      have hlb : i < (b.length : Int) := by omega
      have hr := rd_get (t := RT_Held) a i (by omega)
      have e := eqHeld_is k (ag_Held (Ty.rd (t := RT_Held) a i)) (ag_Held (Ty.rd (t := RT_Held) b i)) hk (by rw [hr]; exact hb.2 _ (List.getElem_mem _))
      rw [show (dq (ag_Held (Ty.rd (t := RT_Held) a i)) (ag_Held (Ty.rd (t := RT_Held) b i))) = dq (Ty.rd (t := RT_Held) a i) (Ty.rd (t := RT_Held) b i) from dq_of (ag_Held_inj _ _)] at e
      simp only [ag_Held] at e
      simp only [hl', hi, hlb, e, w, decide_true, and_self, if_true, Option.bind_some]
      cases dq (Ty.rd (t := RT_Held) a i) (Ty.rd (t := RT_Held) b i) <;> simp
    · intro again i hi
      have : ¬ i < (a.length : Int) := by omega
      simp only [this, decide_false]
      rfl
    · cases dq a b <;> simp
  · have : ¬ ((a.length : Int) = (b.length : Int)) := by omega
    have h2 : a ≠ b := fun h => hab (by rw [h])
    simp [this, dq_false h2]
theorem eqShelf_is (k : Nat) (x y : (List (Int × Int × Int × List (ByteArray) × List (Bool) × Int)) × Unit) (hk : 1048576 < k) (hb : Bd_Shelf x) : w_eqShelf k (x, (y, ())) = some (dq x y, ((), ((), ()))) := by
  obtain ⟨a0, u⟩ := x
  obtain ⟨b0, u'⟩ := y
  unfold w_eqShelf
  unfold Bd_Shelf at hb
  obtain ⟨w0, _⟩ := hb
  simp only [] at w0
  simp only [eqHeldS_is k a0 b0 hk w0, Option.bind_some]
  by_cases h0 : a0 = b0
  rotate_left
  · have hn : (a0, ()) ≠ (b0, ()) := fun h => h0 (by simp only [Prod.mk.injEq] at h; simp_all)
    rw [dq_false hn]
    simp [h0, dq_false]
  subst h0
  simp [dq_self]
theorem getD_some' {A : Type} {l : List A} {n : Nat} {r d : A} (h : l[n]? = some r) : l.getD n d = r := by simp [List.getD, h]
theorem getD_set' {A : Type} {l : List A} {n : Nat} {x d : A} (h : n < l.length) : (l.set n x).getD n d = x := by simp [List.getD, h]
theorem set_set' {A : Type} (l : List A) (n : Nat) (x y : A) : (l.set n x).set n y = l.set n y := by simp
/-- Marks are laid row by row, and found again. -/
theorem loop_MH {A R R' : Type} {step : (List A × Int × Int × Unit → Option R) → List A × Int × Int × Unit → Option R} {hstep : (List A × Int × Int × Unit → Option R') → List A × Int × Int × Unit → Option R'} (fin : List A → Int → R) (hfin : Int → R') (c N : Int) (hc : 0 ≤ c) (P : A → Prop)
    (hs : ∀ (r : A), P r → ∀ n : Int, 0 ≤ n → n + c ≤ N → ∃ (r' : A) (n' : Int), n ≤ n' ∧ n' ≤ n + c ∧ (∀ again (out : List A) (i : Int), 0 ≤ i → i < out.length → i ≤ 1048576 → out[i.toNat]? = some r → step again (out, (n, (i, ()))) = again (out.set i.toNat r', (n', (i + 1, ())))) ∧
      (∀ again (out : List A) (i : Int), 0 ≤ i → i < out.length → i ≤ 1048576 → out[i.toNat]? = some r' → hstep again (out, (n, (i, ()))) = again (out, (n', (i + 1, ())))))
    (he : ∀ again (out : List A) (n i : Int), (out.length : Int) ≤ i → step again (out, (n, (i, ()))) = some (fin out n))
    (hhe : ∀ again (out : List A) (n i : Int), (out.length : Int) ≤ i → hstep again (out, (n, (i, ()))) = some (hfin n))
    (a : List A) (ha : ∀ r ∈ a, P r) (hal : a.length ≤ 1048576) (n : Int) (hn : 0 ≤ n) (C : Int) (hC : C = c * (a.length : Nat)) (hN : n + C ≤ N) (k : Nat) (hk : 1048576 < k) :
    ∃ (a' : List A) (n' : Int), a'.length = a.length ∧ n ≤ n' ∧ n' ≤ n + C ∧ whileK step k (a, (n, (0, ()))) = some (fin a' n') ∧ whileK hstep k (a', (n, (0, ()))) = some (hfin n') := by
  subst hC
  have key : ∀ (s p : List A) (n : Int) (k : Nat), (∀ r ∈ s, P r) → p.length + s.length ≤ 1048576 → 0 ≤ n → n + c * (s.length : Nat) ≤ N → s.length < k →
      ∃ (s' : List A) (n' : Int), s'.length = s.length ∧ n ≤ n' ∧ n' ≤ n + c * (s.length : Nat) ∧ whileK step k (p ++ s, (n, ((p.length : Int), ()))) = some (fin (p ++ s') n') ∧ whileK hstep k (p ++ s', (n, ((p.length : Int), ()))) = some (hfin n') := by
    intro s
    induction s with
    | nil =>
      intro p n k _ _ _ _ hk
      obtain ⟨k, rfl⟩ : ∃ k', k = k' + 1 := ⟨k - 1, by omega⟩
      exact ⟨[], n, rfl, by omega, by simp, he _ _ _ _ (by simp), hhe _ _ _ _ (by simp)⟩
    | cons r s ih =>
      intro p n k hP hl hn hN hk
      obtain ⟨k, rfl⟩ : ∃ k', k = k' + 1 := ⟨k - 1, by omega⟩
      simp only [List.length_cons] at hl hN hk
      have e : c * ((s.length + 1 : Nat) : Int) = c * (s.length : Nat) + c := by rw [Int.natCast_add, Int.mul_add]; simp
      have hpos : 0 ≤ c * ((s.length : Nat) : Int) := Int.mul_nonneg hc (by omega)
      rw [e] at hN
      obtain ⟨r', n1, h1, h2, h3, h4⟩ := hs r (hP r (by simp)) n hn (by omega)
      obtain ⟨s', n', g1, g2, g3, g4, g5⟩ := ih (p ++ [r']) n1 k (fun x hx => hP x (List.mem_cons_of_mem _ hx)) (by simp; omega) (by omega) (by omega) (by omega)
      have ep : ((p ++ [r']).length : Int) = (p.length : Int) + 1 := by simp
      rw [ep, List.append_assoc, List.append_assoc] at g4
      rw [ep, List.append_assoc] at g5
      refine ⟨r' :: s', n', by simp [g1], by omega, by simp only [List.length_cons]; rw [e]; omega, ?_, ?_⟩
      · show step (whileK step k) _ = _
        rw [h3 _ _ _ (by omega) (by simp; omega) (by omega) (by simp)]
        have : (p ++ r :: s).set ((p.length : Int)).toNat r' = p ++ ([r'] ++ s) := by simp
        rw [this]
        exact g4
      · show hstep (whileK hstep k) _ = _
        rw [h4 _ _ _ (by omega) (by simp; omega) (by omega) (by simp)]
        exact g5
  have := key a [] n k ha (by simpa using hal) hn hN (by omega)
  simpa using this
theorem MH_BoolS (k : Nat) (a : List Bool) (n : Int) (hn : 0 ≤ n) (hN : n + a.length ≤ 4611686018427387904) (hk : 1048576 < k) (hl : a.length ≤ 1048576) :
    ∃ (a' : List Bool) (n' : Int), a'.length = a.length ∧ n ≤ n' ∧ n' ≤ n + a.length ∧ w_markBoolS k (a, (n, ())) = some (n', (a', ((), ()))) ∧ w_heldBoolS k (a', (n, ())) = some (n', ((), ((), ()))) := by
  unfold w_markBoolS w_heldBoolS
  refine loop_MH (A := Bool) (fun out n => (n, (out, ((), ())))) (fun n => (n, ((), ((), ())))) 1 4611686018427387904 (by decide) (fun _ => True) ?_ ?_ ?_ a (fun _ _ => trivial) hl n hn (a.length : Int) (by omega) (by omega) k hk
  · intro r _ n hn hN
    refine ⟨decide (Int.tmod n 3 = 0), n + 1, by omega, by omega, fun again out i h0 h1 h2 hr => ?_, fun again out i h0 h1 h2 hr => ?_⟩
    · have w : wi64 (n + 1) = n + 1 := w64_id _ (by omega)
      have w' : wi64 (i + 1) = i + 1 := w64_id _ (by omega)
      simp only [h0, h1, w, w', decide_true, and_self, if_true]
    · have w : wi64 (n + 1) = n + 1 := w64_id _ (by omega)
      have w' : wi64 (i + 1) = i + 1 := w64_id _ (by omega)
      simp only [Ty.rd, getD_some' hr, h0, h1, w, w', decide_true, and_self, if_true, Bool.not_true, Bool.false_eq_true, if_false]
  · intro again out n i hi
    have : ¬ i < (out.length : Int) := by omega
    simp [this]
  · intro again out n i hi
    have : ¬ i < (out.length : Int) := by omega
    simp [this]
theorem markText_ends (k : Nat) (n : Int) (hn : n < 4611686018427387904) (hk : n < k) : ∃ r, w_markText k (n, ()) = some (r, ((), ())) := by
  unfold w_markText
  by_cases h0 : n ≤ 0
  · simp only [h0, decide_true, if_true]
    exact ⟨_, rfl⟩
  · simp only [h0, decide_false]
    have hm : maxStr = 9223372036854775807 := rfl
    have h1 : (⟨#[109]⟩ : ByteArray).size = 1 := rfl
    refine (whileK_some (g := fun t : ByteArray => (t, ((), ()))) (fun y : Int × ByteArray × Unit => y.1.toNat) (fun y : Int × ByteArray × Unit => 0 ≤ y.1 ∧ y.1 + (y.2.1.size : Int) < 4611686018427387905) (fun _ _ => True) ?_ k (n, ((⟨#[]⟩ : ByteArray), ())) ⟨by simp only; omega, by simp only; have : (⟨#[]⟩ : ByteArray).size = 0 := rfl; omega⟩ (by simp only; omega)).imp fun t h => h.1
    · rintro ⟨a, s, u⟩ ⟨g1, g2⟩ again hg
      simp only at g1 g2
      have hsz : ∀ c : Int, (strOf [c]).size = 1 := fun c => by simp [strOf, ByteArray.size]
      by_cases ha : 0 < a
      · have hq : Int.tdiv a 10 = a / 10 := Int.tdiv_eq_ediv_of_nonneg g1
        have hw : wi64 (a / 10) = a / 10 := w64_id _ (by omega)
        simp only [ha, decide_true, if_true, hsz, hq, hw]
        rw [if_pos (by omega)]
        exact hg _ ⟨by simp only; omega, by simp only [ByteArray.size_append, hsz]; omega⟩ (by simp only; omega)
      · simp only [ha, decide_false]
        have : ((⟨#[109]⟩ : ByteArray).size + s.size ≤ maxStr) := by omega
        simp only [this, if_true]
        exact ⟨_, rfl, trivial⟩
theorem MH_StringS (k : Nat) (a : List ByteArray) (n : Int) (hn : 0 ≤ n) (hN : n + a.length < 4611686018427387904) (hk : 4611686018427387904 < k) (hl : a.length ≤ 1048576) :
    ∃ (a' : List ByteArray) (n' : Int), a'.length = a.length ∧ n ≤ n' ∧ n' ≤ n + a.length ∧ w_markStringS k (a, (n, ())) = some (n', (a', ((), ()))) ∧ w_heldStringS k (a', (n, ())) = some (n', ((), ((), ()))) := by
  unfold w_markStringS w_heldStringS
  refine loop_MH (A := ByteArray) (fun out n => (n, (out, ((), ())))) (fun n => (n, ((), ((), ())))) 1 4611686018427387904 (by decide) (fun _ => True) ?_ ?_ ?_ a (fun _ _ => trivial) hl n hn (a.length : Int) (by omega) (by omega) k (by omega)
  · intro r _ n hn hN
    obtain ⟨tx, ht⟩ := markText_ends k n (by omega) (by omega)
    refine ⟨tx, n + 1, by omega, by omega, fun again out i h0 h1 h2 hr => ?_, fun again out i h0 h1 h2 hr => ?_⟩
    · have w : wi64 (n + 1) = n + 1 := w64_id _ (by omega)
      have w' : wi64 (i + 1) = i + 1 := w64_id _ (by omega)
      simp only [ht, Option.bind_some, h0, h1, w, w', decide_true, and_self, if_true]
    · have w : wi64 (n + 1) = n + 1 := w64_id _ (by omega)
      have w' : wi64 (i + 1) = i + 1 := w64_id _ (by omega)
      simp only [ht, Option.bind_some, Ty.rd, getD_some' hr, h0, h1, w, w', decide_true, and_self, if_true, Bool.not_true, Bool.false_eq_true, if_false]
  · intro again out n i hi
    have : ¬ i < (out.length : Int) := by omega
    simp [this]
  · intro again out n i hi
    have : ¬ i < (out.length : Int) := by omega
    simp [this]
theorem MH_HeldS (k : Nat) (a : List (Int × Int × Int × List (ByteArray) × List (Bool) × Int)) (n : Int) (hn : 0 ≤ n) (C : Int) (hC : C = 2097160 * (a.length : Nat)) (hN : n + C < 4611686018427387904) (hk : 4611686018427387904 < k) (hb : Bd_HeldS a) :
    ∃ (a' : List (Int × Int × Int × List (ByteArray) × List (Bool) × Int)) (n' : Int), a'.length = a.length ∧ n ≤ n' ∧ n' ≤ n + C ∧ w_markHeldS k (a, (n, ())) = some (n', (a', ((), ()))) ∧ w_heldHeldS k (a', (n, ())) = some (n', ((), ((), ()))) := by
  unfold w_markHeldS w_heldHeldS
  refine loop_MH (A := Int × Int × Int × List (ByteArray) × List (Bool) × Int) (fun out n => (n, (out, ((), ())))) (fun n => (n, ((), ((), ())))) 2097160 4611686018427387903 (by decide) (fun r => r.2.2.2.1.length ≤ 1048576 ∧ r.2.2.2.2.1.length ≤ 1048576) ?_ ?_ ?_ a (fun r hr => ⟨(hb.2 r hr).1, (hb.2 r hr).2.1⟩) hb.1 n hn C hC (by omega) k (by omega)
  · rintro ⟨r1, r2, r3, ps, hv, r6⟩ ⟨p1, p2⟩ n hn hN
    simp only at p1 p2
    have w1 : wi64 (n + 1) = n + 1 := w64_id _ (by omega)
    have w2 : wi64 (n + 1 + 1) = n + 1 + 1 := w64_id _ (by omega)
    have w3 : wi64 (n + 1 + 1 + 1) = n + 1 + 1 + 1 := w64_id _ (by omega)
    obtain ⟨ps', n1, a1, a2, a3, a4, a5⟩ := MH_StringS k ps (n + 1 + 1 + 1) (by omega) (by omega) hk p1
    obtain ⟨hv', n2, b1, b2, b3, b4, b5⟩ := MH_BoolS k hv n1 (by omega) (by omega) (by omega) p2
    have w4 : wi64 (n2 + 1) = n2 + 1 := w64_id _ (by omega)
    have c1 : ¬ n1 < 0 := by omega
    have c2 : ¬ n2 < 0 := by omega
    refine ⟨(n, n + 1, n + 1 + 1, ps', hv', n2), n2 + 1, by omega, by omega, fun again out i h0 h1 h2 hr => ?_, fun again out i h0 h1 h2 hr => ?_⟩
    · have w' : wi64 (i + 1) = i + 1 := w64_id _ (by omega)
      have hlt : i.toNat < out.length := by omega
      simp only [jn, Ty.rd, getD_some' hr, getD_set' (show i.toNat < _ by simpa using hlt), List.length_set, set_set', h0, h1, hlt, w1, w2, w3, w4, w', a4, b4, Option.bind_some, decide_true, and_self, if_true, getD_set']
    · have w' : wi64 (i + 1) = i + 1 := w64_id _ (by omega)
      simp only [Ty.rd, getD_some' hr, h0, h1, w1, w2, w3, w4, w', a5, b5, c1, c2, Option.bind_some, decide_true, decide_false, and_self, if_true, Bool.not_true, Bool.false_eq_true, if_false]
  · intro again out n i hi
    have : ¬ i < (out.length : Int) := by omega
    simp [this]
  · intro again out n i hi
    have : ¬ i < (out.length : Int) := by omega
    simp [this]
theorem loop_app {X R A : Type} {step : (X → Option R) → X → Option R} (a : List A) (st : Nat → List A → X) (r : R)
    (hs : ∀ again i out x, out.length = i → i < a.length → a[i]? = some x → step again (st i out) = again (st (i + 1) (out ++ [x])))
    (he : ∀ again, step again (st a.length a) = some r) : ∀ k, a.length < k → whileK step k (st 0 []) = some r := by
  have key : ∀ (s p : List A) k, p ++ s = a → s.length < k → whileK step k (st p.length p) = some r := by
    intro s
    induction s with
    | nil =>
      intro p k h hk
      obtain ⟨k, rfl⟩ : ∃ k', k = k' + 1 := ⟨k - 1, by omega⟩
      have : p = a := by simpa using h
      subst this
      exact he _
    | cons x s ih =>
      intro p k h hk
      obtain ⟨k, rfl⟩ : ∃ k', k = k' + 1 := ⟨k - 1, by omega⟩
      show step _ _ = _
      subst h
      rw [hs _ _ _ x rfl (by simp) (by simp)]
      have := ih (p ++ [x]) k (by simp) (by simpa using hk)
      simpa using this
  intro k hk
  exact key a [] k (by simp) hk
theorem held_lens {a : List (Int × Int × Int × List (ByteArray) × List (Bool) × Int)} (hb : Bd_HeldS a) {i : Nat} {x : Int × Int × Int × List (ByteArray) × List (Bool) × Int} (h : a[i]? = some x) : x.2.2.2.1.length ≤ 1048576 ∧ x.2.2.2.2.1.length ≤ 1048576 := by
  have := hb.2 x (List.mem_of_getElem? h)
  exact ⟨this.1, this.2.1⟩
theorem s_l20Copy_is (k : Nat) (a : List (Int × Int × Int × List (ByteArray) × List (Bool) × Int)) (hk : 1048576 < k) (hb : Bd_HeldS a) : s_l20Copy k ((a, ()), ()) = some ((a, ()), ((), ())) := by
  unfold s_l20Copy
  have hl : a.length ≤ 1048576 := hb.1
  have hcap : capMax = 274877906944 := rfl
  refine loop_app (A := Int × Int × Int × List (ByteArray) × List (Bool) × Int) a (fun i out => ((a, ()), (([], ()), ((out, ()), ((i : Int), ()))))) ((a, ()), ((), ())) ?_ ?_ k (by omega)
  · intro again i out x ho hi hx
    obtain ⟨h1, h2⟩ := held_lens hb hx
    have w : wi64 ((i : Int) + 1) = ((i + 1 : Nat) : Int) := by rw [show wi64 ((i : Int) + 1) = (i : Int) + 1 from w64_id _ (by omega)]; omega
    have p1 : (i : Int) < (a.length : Int) := by omega
    have p2 : 0 ≤ (i : Int) := by omega
    have c1 : 0 + x.2.2.2.1.length ≤ capMax := by omega
    have c2 : 0 + x.2.2.2.2.1.length ≤ capMax := by omega
    have c3 : out.length + 1 ≤ capMax := by omega
    obtain ⟨x1, x2, x3, x4, x5, x6⟩ := x
    simp only at c1 c2
    simp only [Ty.rd, Int.toNat_natCast, getD_some' hx, p1, p2, w, c1, c2, c3, List.length_nil, List.length_cons, decide_true, and_self, if_true, List.nil_append, Nat.zero_add]
    rw [if_pos (by omega), if_pos (by omega)]
  · intro again
    have : ¬ (a.length : Int) < (a.length : Int) := by omega
    simp [this]
theorem i_copyShelf_is (k : Nat) (a : List (Int × Int × Int × List (ByteArray) × List (Bool) × Int)) (hk : 1048576 < k) (hb : Bd_HeldS a) : i_copyShelf k ((a, ()), ()) = some ((a, ()), ((), ())) := by
  unfold i_copyShelf
  have hl : a.length ≤ 1048576 := hb.1
  have hcap : capMax = 274877906944 := rfl
  refine loop_app (A := Int × Int × Int × List (ByteArray) × List (Bool) × Int) a (fun i out => (([], ()), ((out, ()), (a, ((a.length : Int), ((i : Int), ())))))) ((a, ()), ((), ())) ?_ ?_ k (by omega)
  · intro again i out x ho hi hx
    obtain ⟨h1, h2⟩ := held_lens hb hx
    have w : wi64 ((i : Int) + 1) = ((i + 1 : Nat) : Int) := by rw [show wi64 ((i : Int) + 1) = (i : Int) + 1 from w64_id _ (by omega)]; omega
    have p1 : (i : Int) < (a.length : Int) := by omega
    have p2 : 0 ≤ (i : Int) := by omega
    have c3 : out.length + 1 ≤ capMax := by omega
    obtain ⟨x1, x2, x3, x4, x5, x6⟩ := x
    simp only at h1 h2
    have e : i_copyTexts k (x4, ()) = some (x4, ((), ())) := by
      unfold i_copyTexts
      rw [if_pos (by simp; omega)]
      simp
    simp only [Ty.rd, Int.toNat_natCast, getD_some' hx, p1, p2, w, c3, e, Option.bind_some, List.length_nil, List.length_cons, decide_true, and_self, if_true, List.nil_append, Nat.zero_add]
    rw [if_pos (by omega)]
  · intro again
    have : ¬ (a.length : Int) < (a.length : Int) := by omega
    simp [this]
theorem del_run {A R C : Type} {step : (List A × C × Int × Int × Unit → Option R) → List A × C × Int × Int × Unit → Option R} (D : A → Bool) (c : C) (fin : List A → R)
    (hs : ∀ again (p gs r : List A) (g v : A), p.length + gs.length + r.length ≤ 1048576 → step again (p ++ g :: (gs ++ v :: r), (c, ((p.length : Int), (((p.length + gs.length + 1 : Nat) : Int), ())))) =
      if D v = true then again (p ++ g :: (gs ++ v :: r), (c, ((p.length : Int), (((p.length + gs.length + 2 : Nat) : Int), ())))) else again (p ++ v :: (gs ++ v :: r), (c, (((p.length + 1 : Nat) : Int), (((p.length + gs.length + 2 : Nat) : Int), ())))))
    (he : ∀ again (q t : List A), step again (q ++ t, (c, ((q.length : Int), ((((q ++ t).length : Nat) : Int), ())))) = some (fin q)) :
    ∀ (r p gs : List A) (g : A) (k : Nat), p.length + gs.length + r.length ≤ 1048576 → r.length < k → whileK step k (p ++ g :: (gs ++ r), (c, ((p.length : Int), (((p.length + gs.length + 1 : Nat) : Int), ())))) = some (fin (p ++ r.filter (fun v => !D v))) := by
  intro r
  induction r with
  | nil =>
    intro p gs g k hb hk
    obtain ⟨k, rfl⟩ : ∃ k', k = k' + 1 := ⟨k - 1, by omega⟩
    have e1 : ((p.length + gs.length + 1 : Nat) : Int) = (((p ++ (g :: (gs ++ []))).length : Nat) : Int) := by simp; omega
    have := he (whileK step k) p (g :: (gs ++ []))
    show step _ _ = _
    rw [e1]
    simpa using this
  | cons v r ih =>
    intro p gs g k hb hk
    obtain ⟨k, rfl⟩ : ∃ k', k = k' + 1 := ⟨k - 1, by omega⟩
    simp only [List.length_cons] at hb hk
    by_cases d : D v = true
    · have ht := ih p (gs ++ [v]) g k (by simp; omega) (by omega)
      show step _ _ = _
      rw [hs _ p gs r g v (by omega), if_pos d, List.filter_cons_of_neg (by simp [d]), ← ht]
      simp
      rfl
    · have ht : whileK step k (p ++ v :: (gs ++ v :: r), (c, (((p.length + 1 : Nat) : Int), (((p.length + gs.length + 2 : Nat) : Int), ())))) = some (fin (p ++ (v :: r).filter (fun v => !D v))) := by
        cases gs with
        | nil =>
          have ht := ih (p ++ [v]) [] v k (by simp; omega) (by omega)
          rw [List.filter_cons_of_pos (by simp [d])]
          have e1 : ((p ++ [v]).length : Int) = ((p.length + 1 : Nat) : Int) := by simp
          have e2 : (((p ++ [v]).length + ([] : List A).length + 1 : Nat) : Int) = ((p.length + ([] : List A).length + 2 : Nat) : Int) := by simp; omega
          rw [e1, e2] at ht
          simpa using ht
        | cons g' gs' =>
          have ht := ih (p ++ [v]) (gs' ++ [v]) g' k (by simp at hb ⊢; omega) (by omega)
          rw [List.filter_cons_of_pos (by simp [d])]
          have e1 : ((p ++ [v]).length : Int) = ((p.length + 1 : Nat) : Int) := by simp
          have e2 : (((p ++ [v]).length + (gs' ++ [v]).length + 1 : Nat) : Int) = ((p.length + (g' :: gs').length + 2 : Nat) : Int) := by simp; omega
          rw [e1, e2] at ht
          simpa using ht
      show step _ _ = _
      rw [hs _ p gs r g v (by omega), if_neg d]
      exact ht
/-- What is found first, and the rest that stays. -/
theorem first_split {A : Type} (d : A) (D : A → Bool) (L : List A) : (match (List.range L.length).find? (fun i => D (L.getD i d)) with
    | none => L.filter (fun x => !D x) = L
    | some i => ∃ p g r, L = p ++ g :: r ∧ p.length = i ∧ L.filter (fun x => !D x) = p ++ r.filter (fun x => !D x)) := by
  cases hq : (List.range L.length).find? (fun i => D (L.getD i d)) with
  | none =>
    rw [List.find?_eq_none] at hq
    rw [List.filter_eq_self]
    intro x hx
    obtain ⟨i, hi, rfl⟩ := List.mem_iff_getElem.1 hx
    have := hq i (by simpa using hi)
    simp only [List.getD, List.getElem?_eq_getElem hi, Option.getD_some] at this
    simpa using this
  | some i =>
    have hi : i < L.length := by
      have := List.mem_of_find?_eq_some hq
      simpa using this
    have h1 := List.find?_some hq
    have h2 := (find_at hi h1).1 hq
    simp only [List.getD, List.getElem?_eq_getElem hi, Option.getD_some] at h1
    refine ⟨L.take i, L[i], L.drop (i + 1), ?_, by simp; omega, ?_⟩
    · rw [← List.drop_eq_getElem_cons hi, List.take_append_drop]
    · have hsplit : L = L.take i ++ L[i] :: L.drop (i + 1) := by rw [← List.drop_eq_getElem_cons hi, List.take_append_drop]
      conv => lhs; rw [hsplit]
      rw [List.filter_append, List.filter_cons_of_neg (by simp [h1])]
      congr 1
      rw [List.filter_eq_self]
      intro x hx
      obtain ⟨j, hj, rfl⟩ := List.mem_iff_getElem.1 hx
      have hj' : j < i := by simp at hj; omega
      have := h2 j hj'
      simp only [List.getD, List.getElem?_eq_getElem (show j < L.length by omega), Option.getD_some] at this
      rw [List.getElem_take]
      simp [this]
theorem getO_lt : ∀ {t : Ty} {x : t.den} {off : Nat} {o : OL}, t.getO x off = some o → off < t.w
  | .ols _ _, _, 0, _, _ => Nat.zero_lt_one
  | .ols _ _, _, _ + 1, _, h => by simp [Ty.getO] at h
  | .pair a b, x, off, o, h => by
    simp only [Ty.getO] at h
    show off < a.w + b.w
    split at h
    · omega
    · have := getO_lt h
      omega
  | .int _, _, _, _, h => by simp [Ty.getO] at h
  | .bool, _, _, _, h => by simp [Ty.getO] at h
  | .str, _, _, _, h => by simp [Ty.getO] at h
  | .list _, _, _, _, h => by simp [Ty.getO] at h
  | .unit, _, _, _, h => by simp [Ty.getO] at h
  | .nm, _, _, _, h => by simp [Ty.getO] at h
theorem dec_enc {lk : Nat → Option OL} : ∀ {t : Ty} {x : t.den} {n : Nat}, 0 < n → (∀ off o, t.getO x off = some o → lk (n + off) = some o) → t.dec lk (t.enc x n) = some x
  | .ols e u, x, n, hn, h => by
    obtain ⟨m, rfl⟩ : ∃ m, n = m + 1 := ⟨n - 1, by omega⟩
    have := h 0 ⟨e, u, x⟩ rfl
    show decN lk e u (m + 1) = some x
    rw [Nat.add_zero] at this
    simp [decN, this]
  | .pair a b, x, n, hn, h => by
    have h1 := dec_enc (t := a) (x := x.1) (n := n) hn fun off o ho => h off o (by simp only [Ty.getO]; rw [if_pos (getO_lt ho)]; exact ho)
    have h2 := dec_enc (t := b) (x := x.2) (n := n + a.w) (by omega) fun off o ho => by
      rw [Nat.add_assoc]
      exact h (a.w + off) o (by simp only [Ty.getO]; rw [if_neg (by omega), Nat.add_sub_cancel_left]; exact ho)
    show (match a.dec lk (a.enc x.1 n), b.dec lk (b.enc x.2 (n + a.w)) with | some y, some z => some (y, z) | _, _ => none) = _
    rw [h1, h2]
  | .int _, _, _, _, _ => rfl
  | .bool, _, _, _, _ => rfl
  | .str, _, _, _, _ => rfl
  | .list _, _, _, _, _ => rfl
  | .unit, _, _, _, _ => rfl
  | .nm, _, _, _, _ => rfl
theorem nms_enc : ∀ {t : Ty} {x : t.den} {n : Nat}, 0 < n → (t.nms (t.enc x n)).Pairwise (· < ·) ∧ ∀ m ∈ t.nms (t.enc x n), n ≤ m ∧ m < n + t.w
  | .ols e u, x, n, hn => by
    obtain ⟨m, rfl⟩ : ∃ m, n = m + 1 := ⟨n - 1, by omega⟩
    show (nmsN (m + 1)).Pairwise _ ∧ ∀ q ∈ nmsN (m + 1), _
    have : (Ty.ols e u).w = 1 := rfl
    simp [nmsN, this]
  | .pair a b, x, n, hn => by
    obtain ⟨h1, h2⟩ := nms_enc (t := a) (x := x.1) (n := n) hn
    obtain ⟨h3, h4⟩ := nms_enc (t := b) (x := x.2) (n := n + a.w) (by omega)
    have hw : (Ty.pair a b).w = a.w + b.w := rfl
    show (a.nms (a.enc x.1 n) ++ b.nms (b.enc x.2 (n + a.w))).Pairwise _ ∧ ∀ m ∈ a.nms (a.enc x.1 n) ++ b.nms (b.enc x.2 (n + a.w)), _
    refine ⟨List.pairwise_append.2 ⟨h1, h3, fun p hp q hq => ?_⟩, fun m hm => ?_⟩
    · have := h2 p hp
      have := h4 q hq
      omega
    · rcases List.mem_append.1 hm with hm | hm
      · have := h2 m hm; omega
      · have := h4 m hm; omega
  | .int _, _, _, _ => ⟨List.Pairwise.nil, by simp [Ty.nms]⟩
  | .bool, _, _, _ => ⟨List.Pairwise.nil, by simp [Ty.nms]⟩
  | .str, _, _, _ => ⟨List.Pairwise.nil, by simp [Ty.nms]⟩
  | .list _, _, _, _ => ⟨List.Pairwise.nil, by simp [Ty.nms]⟩
  | .unit, _, _, _ => ⟨List.Pairwise.nil, by simp [Ty.nms]⟩
  | .nm, _, _, _ => ⟨List.Pairwise.nil, by simp [Ty.nms]⟩
def encP (t : Ty) (xs : List t.den) : List (t.nmd.den × t.den) := xs.mapIdx fun i x => (t.enc x (i * t.w + 1), x)
theorem encP_fst (t : Ty) (xs : List t.den) : (encP t xs).map Prod.fst = t.encs xs := by
  apply List.ext_getElem?
  intro i
  simp only [encP, Ty.encs, List.getElem?_map, List.getElem?_mapIdx]
  cases xs[i]? <;> rfl
theorem encP_snd (t : Ty) (xs : List t.den) : (encP t xs).map Prod.snd = xs := by
  apply List.ext_getElem?
  intro i
  simp only [encP, List.getElem?_map, List.getElem?_mapIdx]
  cases xs[i]? <;> rfl
theorem encP_dec {t : Ty} {xs : List t.den} {y : t.nmd.den × t.den} (h : y ∈ encP t xs) : t.dec (t.lookN xs) y.1 = some y.2 ∧ ∃ n, y.1 = t.enc y.2 n := by
  obtain ⟨i, hi⟩ := List.getElem?_of_mem h
  unfold encP at hi
  rw [List.getElem?_mapIdx] at hi
  cases hx : xs[i]? with
  | none => rw [hx] at hi; cases hi
  | some x =>
    rw [hx] at hi
    injection hi with hi
    subst hi
    refine ⟨dec_enc (by omega) fun off o ho => ?_, _, rfl⟩
    have hlt := getO_lt ho
    rw [show i * t.w + 1 + off = (i * t.w + off) + 1 by omega]
    have e1 : (i * t.w + off) / t.w = i := by rw [Nat.mul_comm, Nat.mul_add_div (by omega), Nat.div_eq_of_lt hlt, Nat.add_zero]
    have e2 : (i * t.w + off) % t.w = off := by rw [Nat.mul_comm, Nat.mul_add_mod, Nat.mod_eq_of_lt hlt]
    simp only [Ty.lookN, e1, e2, hx, ho]
theorem decs_map {lk : Nat → Option OL} {t : Ty} : ∀ {Y : List (t.nmd.den × t.den)}, (∀ y ∈ Y, t.dec lk y.1 = some y.2) → t.decs lk (Y.map Prod.fst) = some (Y.map Prod.snd)
  | [], _ => rfl
  | y :: Y, h => by
    have h1 := h y (by simp)
    have h2 := decs_map (Y := Y) fun z hz => h z (List.mem_cons_of_mem _ hz)
    show (match t.dec lk y.1, t.decs lk (Y.map Prod.fst) with | some x, some xs => some (x :: xs) | _, _ => none) = _
    rw [h1, h2]
    rfl
theorem flatMap_sub {A B : Type} {f : A → List B} {l l' : List A} (h : l.Sublist l') : (l.flatMap f).Sublist (l'.flatMap f) := by
  induction h with
  | slnil => exact List.Sublist.refl _
  | cons a _ ih => rw [List.flatMap_cons]; exact ih.trans (List.sublist_append_right _ _)
  | cons_cons a _ ih => rw [List.flatMap_cons, List.flatMap_cons]; exact List.Sublist.append_left ih _
theorem encs_nms (t : Ty) (xs : List t.den) : ((t.encs xs).flatMap t.nms).Nodup := by
  have key : ∀ (xs : List t.den) (s : Nat), ((xs.mapIdx fun i x => t.enc x ((s + i) * t.w + 1)).flatMap t.nms).Pairwise (· < ·) ∧ ∀ m ∈ (xs.mapIdx fun i x => t.enc x ((s + i) * t.w + 1)).flatMap t.nms, s * t.w + 1 ≤ m := by
    intro xs
    induction xs with
    | nil => intro s; simp
    | cons x xs ih =>
      intro s
      rw [List.mapIdx_cons, List.flatMap_cons]
      have e : (xs.mapIdx fun i x => t.enc x ((s + (i + 1)) * t.w + 1)) = xs.mapIdx fun i x => t.enc x ((s + 1 + i) * t.w + 1) := by
        congr 1
        funext i x
        rw [show s + (i + 1) = s + 1 + i by omega]
      rw [e]
      obtain ⟨h1, h2⟩ := ih (s + 1)
      obtain ⟨h3, h4⟩ := nms_enc (t := t) (x := x) (n := (s + 0) * t.w + 1) (by omega)
      have hw : (s + 1) * t.w = s * t.w + t.w := by rw [Nat.add_mul, Nat.one_mul]
      rw [hw] at h2
      simp only [Nat.add_zero] at h3 h4 ⊢
      refine ⟨List.pairwise_append.2 ⟨h3, h1, fun p hp q hq => ?_⟩, fun m hm => ?_⟩
      · have := h4 p hp
        have := h2 q hq
        omega
      · rcases List.mem_append.1 hm with hm | hm
        · exact (h4 m hm).1
        · have := h2 m hm; omega
  have := (key xs 0).1
  have e : (xs.mapIdx fun i x => t.enc x ((0 + i) * t.w + 1)) = t.encs xs := by
    unfold Ty.encs
    congr 1
    funext i x
    rw [Nat.zero_add]
  rw [e] at this
  exact this.imp fun h => Nat.ne_of_lt h
/-- Rows that are picked under names are those rows. -/
theorem treeF_pick {t : Ty} {Y O : Type} {G : List t.nmd.den × Y → Option (List t.nmd.den × O)} {xs : List t.den} {y : Y} {o : O} {Z : List (t.nmd.den × t.den)} (hZ : Z.Sublist (encP t xs)) (hG : G (t.encs xs, y) = some (Z.map Prod.fst, o)) :
    treeF t G (xs, y) = some (Z.map Prod.snd, o) := by
  unfold treeF
  simp only [hG]
  rw [decs_map fun z hz => (encP_dec (hZ.subset hz)).1]
  have : ((Z.map Prod.fst).flatMap t.nms).Nodup := by
    refine (encs_nms t xs).sublist ?_
    rw [← encP_fst]
    exact flatMap_sub (hZ.map _)
  simp only [this, if_true]
theorem treeF_filter {t : Ty} {Y O : Type} {G : List t.nmd.den × Y → Option (List t.nmd.den × O)} {xs : List t.den} {y : Y} {o : O} (p : t.nmd.den → Bool) (q : t.den → Bool) (hpq : ∀ x n, p (t.enc x n) = q x) (hG : G (t.encs xs, y) = some ((t.encs xs).filter p, o)) :
    treeF t G (xs, y) = some (xs.filter q, o) := by
  have e1 : ((encP t xs).filter (fun z => p z.1)).map Prod.fst = (t.encs xs).filter p := by
    rw [← encP_fst, List.filter_map]
    rfl
  have e2 : ((encP t xs).filter (fun z => p z.1)).map Prod.snd = xs.filter q := by
    have : (encP t xs).filter (fun z => p z.1) = (encP t xs).filter (q ∘ Prod.snd) := by
      refine List.filter_congr fun z hz => ?_
      obtain ⟨_, n, hn⟩ := encP_dec hz
      rw [hn, hpq]
      rfl
    rw [this, ← List.filter_map, encP_snd]
  have := treeF_pick (Y := Y) (O := O) (G := G) (y := y) (o := o) (List.filter_sublist (p := fun z => p z.1) (l := encP t xs)) (by rw [e1]; exact hG)
  rw [e2] at this
  exact this
abbrev HeldN := Int × Int × Int × Nat × Nat × Int
abbrev HeldR := Int × Int × Int × List (ByteArray) × List (Bool) × Int
abbrev HeldNT : Ty := (.pair (.int .i64) (.pair (.int .i64) (.pair (.int .i64) (.pair .nm (.pair .nm (.int .i64))))))
theorem idxHeld_is (k : Nat) (a : List HeldN) (f : Int) (hk : 1048576 < k) (hl : a.length ≤ 1048576) : x_slices_IndexFunc_impl_Held_impl_Held_of_i_TidyShelf_1 k (a, (((f, ()), ()), ())) =
    some (match (List.range a.length).find? (fun i => decide ((a.getD i HeldNT.dflt).2.2.2.2.2 ≤ f)) with | some i => (((i : Nat) : Int), ((), (((f, ()), ()), ()))) | none => (-1, ((), (((f, ()), ()), ())))) := by
  unfold x_slices_IndexFunc_impl_Held_impl_Held_of_i_TidyShelf_1
  refine loop_find (fun i => (a, (((f, ()), ()), ((a.length : Int), (((i : Nat) : Int), ()))))) a.length (fun i => decide ((a.getD i HeldNT.dflt).2.2.2.2.2 ≤ f)) (fun i => (((i : Nat) : Int), ((), (((f, ()), ()), ())))) (-1, ((), (((f, ()), ()), ()))) ?_ ?_ k (by omega)
  · intro again i hi
    have g1 : (0 : Int) ≤ (i : Int) ∧ (i : Int) < (a.length : Int) := by omega
    have w2 : wi64 ((i : Int) + 1) = ((i + 1 : Nat) : Int) := (w64_id _ (by omega)).trans (by omega)
    simp only [g1, w2, i_TidyShelf_1, Ty.rd, Int.toNat_natCast, and_self, decide_true, if_true, Option.bind_some]
    rfl
  · intro again
    simp
theorem delHeldN_is (k : Nat) (L : List HeldN) (f : Int) (hk : 1048576 < k) (hl : L.length ≤ 1048576) : x_slices_DeleteFunc_impl_Held_impl_Held_of_i_TidyShelf_1_n k (L, (((f, ()), ()), ())) =
    some (L.filter (fun x => !decide (x.2.2.2.2.2 ≤ f)), ((), (((f, ()), ()), ()))) := by
  have e := idxHeld_is k L f hk hl
  have hsp := first_split HeldNT.dflt (fun x : HeldN => decide (x.2.2.2.2.2 ≤ f)) L
  unfold x_slices_DeleteFunc_impl_Held_impl_Held_of_i_TidyShelf_1_n
  simp only [e, Option.bind_some]
  cases hq : (List.range L.length).find? (fun i => decide ((L.getD i HeldNT.dflt).2.2.2.2.2 ≤ f)) with
  | none =>
    rw [hq] at hsp
    rw [hsp]
    simp
  | some i =>
    rw [hq] at hsp
    obtain ⟨p, g, r, rfl, rfl, hfil⟩ := hsp
    have hne : ¬ ((p.length : Nat) : Int) = -1 := by omega
    have hl' : p.length + r.length + 1 ≤ 1048576 := by simpa [Nat.add_assoc] using hl
    have w2 : wi64 ((p.length : Int) + 1) = ((p.length + ([] : List HeldN).length + 1 : Nat) : Int) := (w64_id _ (by omega)).trans (by simp)
    rw [hfil]
    simp only [hne, w2, decide_false, Bool.false_eq_true, if_false]
    refine (del_run (fun x : HeldN => decide (x.2.2.2.2.2 ≤ f)) ((f, ()), ()) (fun q => (q, ((), (((f, ()), ()), ())))) ?_ ?_ r p [] g k (by simp; omega) (by omega))
    · intro again p gs r g v hb
      have hlen : (p ++ g :: (gs ++ v :: r)).length = p.length + gs.length + r.length + 2 := by simp; omega
      have g1 : ((p.length + gs.length + 1 : Nat) : Int) < ((p ++ g :: (gs ++ v :: r)).length : Int) := by rw [hlen]; omega
      have g2 : (0 : Int) ≤ ((p.length + gs.length + 1 : Nat) : Int) ∧ ((p.length + gs.length + 1 : Nat) : Int) < ((p ++ g :: (gs ++ v :: r)).length : Int) := by rw [hlen]; omega
      have g3 : (0 : Int) ≤ (p.length : Int) ∧ (p.length : Int) < ((p ++ g :: (gs ++ v :: r)).length : Int) := by rw [hlen]; omega
      have r1 : (p ++ g :: (gs ++ v :: r)).getD (p.length + gs.length + 1) HeldNT.dflt = v := by
        rw [show p ++ g :: (gs ++ v :: r) = (p ++ g :: gs) ++ v :: r by simp, show p.length + gs.length + 1 = (p ++ g :: gs).length by simp; omega]
        simp [List.getD]
      have s1 : List.set (p ++ g :: (gs ++ v :: r)) p.length v = p ++ v :: (gs ++ v :: r) := by simp
      have w1 : wi64 ((p.length : Int) + 1) = ((p.length + 1 : Nat) : Int) := (w64_id _ (by omega)).trans (by omega)
      have w2 : wi64 (((p.length + gs.length + 1 : Nat) : Int) + 1) = ((p.length + gs.length + 2 : Nat) : Int) := (w64_id _ (by omega)).trans (by omega)
      obtain ⟨v1, v2, v3, v4, v5, v6⟩ := v
      simp only [jn, Ty.rd, Int.toNat_natCast, r1, g1, g2, g3, s1, w1, w2, i_TidyShelf_1, decide_true, and_self, if_true, Option.bind_some]
      by_cases q : v6 ≤ f <;> simp [q]
    · intro again q t
      have hd : ¬ (((q ++ t).length : Nat) : Int) < ((q ++ t).length : Int) := by omega
      have g1 : (0 : Int) ≤ (q.length : Int) ∧ (q.length : Int) ≤ ((q ++ t).length : Int) := by simp only [List.length_append]; omega
      simp only [hd, g1, decide_false, Bool.false_eq_true, if_false, and_self, if_true]
      simp
      omega
theorem tidyHeld_is (k : Nat) (L : List HeldR) (f : Int) (hk : 1048576 < k) (hl : L.length ≤ 1048576) : x_slices_DeleteFunc_impl_Held_impl_Held_of_i_TidyShelf_1 k (L, (((f, ()), ()), ())) =
    some (L.filter (fun x => !decide (x.2.2.2.2.2 ≤ f)), ((), (((f, ()), ()), ()))) := by
  unfold x_slices_DeleteFunc_impl_Held_impl_Held_of_i_TidyShelf_1
  refine treeF_filter (t := (.pair (.int .i64) (.pair (.int .i64) (.pair (.int .i64) (.pair (.ols 9 .str) (.pair (.ols 4 .bool) (.int .i64))))))) (fun x : HeldN => !decide (x.2.2.2.2.2 ≤ f)) (fun x : HeldR => !decide (x.2.2.2.2.2 ≤ f)) (fun x n => rfl) ?_
  exact delHeldN_is k _ f hk (Nat.le_trans (Nat.le_of_eq (encs_len _ _)) hl)
theorem i_TidyShelf_is (k : Nat) (a : List HeldR) (f : Int) (hk : 1048576 < k) (hb : Bd_HeldS a) : i_TidyShelf k ((a, ()), (f, ())) = some ((a.filter (fun x => !decide (x.2.2.2.2.2 ≤ f)), ()), ((), ((), ()))) := by
  unfold i_TidyShelf
  simp only [i_copyShelf_is k a hk hb, tidyHeld_is k a f hk hb.1, Option.bind_some]
theorem bd_filter {a : List HeldR} (p : HeldR → Bool) (hb : Bd_HeldS a) : Bd_HeldS (a.filter p) :=
  ⟨Nat.le_trans (List.length_filter_le _ _) hb.1, fun r hr => hb.2 r (List.mem_filter.1 hr).1⟩
theorem loop_pick {X R A : Type} {step : (X → Option R) → X → Option R} (a : List A) (D : A → Bool) (st : Nat → List A → X) (R0 : List A → Option R)
    (hs : ∀ again i out x, out.length ≤ i → i < a.length → a[i]? = some x → step again (st i out) = again (st (i + 1) (if D x = true then out ++ [x] else out)))
    (he : ∀ again out, step again (st a.length out) = R0 out) : ∀ k, a.length < k → whileK step k (st 0 []) = R0 (a.filter D) := by
  have key : ∀ (s p : List A) k, p ++ s = a → s.length < k → whileK step k (st p.length (p.filter D)) = R0 (a.filter D) := by
    intro s
    induction s with
    | nil =>
      intro p k h hk
      obtain ⟨k, rfl⟩ : ∃ k', k = k' + 1 := ⟨k - 1, by omega⟩
      have : p = a := by simpa using h
      subst this
      exact he _ _
    | cons x s ih =>
      intro p k h hk
      obtain ⟨k, rfl⟩ : ∃ k', k = k' + 1 := ⟨k - 1, by omega⟩
      show step _ _ = _
      subst h
      rw [hs _ _ _ x (List.length_filter_le _ _) (by simp) (by simp)]
      have := ih (p ++ [x]) k (by simp) (by simpa using hk)
      rw [List.filter_append] at this
      have e : p.filter D ++ [x].filter D = if D x = true then p.filter D ++ [x] else p.filter D := by
        by_cases d : D x = true
        · simp [d]
        · simp [d]
      rw [e] at this
      simpa using this
  intro k hk
  exact key a [] k (by simp) hk
theorem s_TidyShelf_is (k : Nat) (a : List HeldR) (f : Int) (hk : 1048576 < k) (hb : Bd_HeldS a) : s_TidyShelf k ((a, ()), (f, ())) = some ((a.filter (fun x => decide (f < x.2.2.2.2.2)), ()), ((), ((), ()))) := by
  unfold s_TidyShelf
  have hl : a.length ≤ 1048576 := hb.1
  have hcap : capMax = 274877906944 := rfl
  refine Eq.trans (loop_pick (A := HeldR) a (fun x => decide (f < x.2.2.2.2.2)) (fun i out => (f, ((a, ()), (([], ()), ((out, ()), ((i : Int), ())))))) (fun out => (s_l20Copy k ((out, ()), ())).bind fun p => some ((p.1.1, ()), ((), ((), ())))) ?_ ?_ k (by omega)) ?_
  · intro again i out x ho hi hx
    have w : wi64 ((i : Int) + 1) = ((i + 1 : Nat) : Int) := (w64_id _ (by omega)).trans (by omega)
    have p1 : (i : Int) < (a.length : Int) := by omega
    have p2 : 0 ≤ (i : Int) := by omega
    have c3 : out.length + 1 ≤ capMax := by omega
    obtain ⟨x1, x2, x3, x4, x5, x6⟩ := x
    by_cases q : f < x6
    · simp only [Ty.rd, Int.toNat_natCast, getD_some' hx, p1, p2, w, c3, q, List.length_nil, List.length_cons, decide_true, and_self, if_true, Nat.zero_add]
    · simp only [Ty.rd, Int.toNat_natCast, getD_some' hx, p1, p2, w, c3, q, decide_false, Bool.false_eq_true, if_false, decide_true, and_self, if_true]
  · intro again out
    have : ¬ (a.length : Int) < (a.length : Int) := by omega
    simp only [this, decide_false, Bool.false_eq_true, if_false]
  · simp only [s_l20Copy_is k _ hk (bd_filter _ hb), Option.bind_some]
theorem tidyShelf_law (k : Nat) (hk : 4611686018427387904 < k) (a : List HeldR) (f : Int) (hw : Wf_Shelf (a, ())) : w_FnExactTidyShelf k ((a, ()), (f, ())) = some (true, ((), ((), ()))) := by
  unfold w_FnExactTidyShelf
  obtain ⟨m, h1, h2⟩ := szShelf_le k (a, ()) 1048576 (by omega) (by omega) hw
  simp only [h1, Option.bind_some]
  by_cases hm : m < 0
  · simp [hm]
  obtain ⟨_, hb⟩ := h2 (by omega)
  have hb' : Bd_HeldS a := hb.1
  have e1 := toShelf_is k (a, ()) (by omega) hb
  have e2 := i_TidyShelf_is k a f (by omega) hb'
  have e3 := s_TidyShelf_is k a f (by omega) hb'
  have e4 : (a.filter (fun x => !decide (x.2.2.2.2.2 ≤ f))) = a.filter (fun x => decide (f < x.2.2.2.2.2)) := by
    refine List.filter_congr fun x _ => ?_
    by_cases q : f < x.2.2.2.2.2
    · have : ¬ x.2.2.2.2.2 ≤ f := by omega
      simp [q, this]
    · have : x.2.2.2.2.2 ≤ f := by omega
      simp [q, this]
  rw [e4] at e2
  have hbr : Bd_HeldS (a.filter (fun x => decide (f < x.2.2.2.2.2))) := bd_filter _ hb'
  generalize a.filter (fun x => decide (f < x.2.2.2.2.2)) = r at e2 e3 hbr
  have e5 := eqShelf_is k (r, ()) (r, ()) (by omega) ⟨hbr, trivial⟩
  have e6 := eqShelf_is k (a, ()) (a, ()) (by omega) hb
  have la := hb'.1
  have lr := hbr.1
  obtain ⟨a1, n1, f1, f2, f3, f4, f5⟩ := MH_HeldS k a 1 (by omega) _ rfl (by omega) hk hb'
  obtain ⟨a2, n2, g1, g2, g3, g4, g5⟩ := MH_HeldS k r 1 (by omega) _ rfl (by omega) hk hbr
  have p1 : ¬ n1 < 0 := by omega
  have p2 : ¬ n2 < 0 := by omega
  unfold w_markShelf w_heldShelf
  simp only [hm, e1, e2, e3, e5, e6, f4, g4, g5, p1, p2, dq_self, decide_false, Bool.false_eq_true, if_false, Bool.not_true, if_true, decide_true, Option.bind_some]
theorem pure_FnExactTidyShelf (x : argsDen pars_FnExactTidyShelf) (hx : argsWf pars_FnExactTidyShelf x) : ∃ k o, w_FnExactTidyShelf k (argsX pars_FnExactTidyShelf x) = some (true, o) := by
  obtain ⟨a, f, u⟩ := x
  refine ⟨4611686018427387905, ((), ((), ())), ?_⟩
  show w_FnExactTidyShelf 4611686018427387905 ((a, ()), (f, ())) = _
  have hu := hx.1
  exact tidyShelf_law 4611686018427387905 (by decide) a f ⟨⟨hu.1, fun r hr => ⟨(hu.2 r hr).2.2.2.1, (hu.2 r hr).2.2.2.2.1.1, trivial⟩⟩, trivial⟩
open Go.ChangeShapes Go.WideShapes Go.ChangeAt Go.RowKit
theorem own_FnExactTidyShelf : ownKnob Try.prog.godebug = none := by kernel_rfl
theorem lifted_FnExactTidyShelf (os : Os) (started : os.Started) (H : Type) (enc : TypeId × Value → H) :
    ReturnsInHanded {} Try.checked os 4 .any (Rows.fnExactTidyShelfSpec.pre6 enc Try.prog Try.f4 Rows.fnExactTidyShelfRow.domain false) (Rows.fnExactTidyShelfSpec.post enc Try.prog Try.f4 false true false false) :=
  law_lifted (C := Try.checked) (l := pars_FnExactTidyShelf) (rb := 4) own_FnExactTidyShelf started (by kernel_rfl) Try.func4
    (ChangeSpec.witness6 (enc := enc) (C := Try.checked) false ⟨#[], #[.agg #[.slice none 0 0], .int .i64 0], []⟩ 8 (by kernel_rfl) (by kernel_rfl) (by kernel_rfl) (by kernel_rfl))
    e_w_FnExactTidyShelf rfl (by decide) pure_FnExactTidyShelf (by kernel_rfl) rfl Try.underlying4 (by kernel_rfl) (by kernel_rfl) rfl
    (fun ds h => match ds, h with | [_, _], _ => rfl)
theorem inPlace_FnExactTidyShelf : Try.prog.inPlace 4 = Rows.fnExactTidyShelfRow.inPlace := by kernel_rfl
theorem unfollowed_FnExactTidyShelf : Try.prog.unfollowed 4 = Rows.fnExactTidyShelfRow.unfollowed := by kernel_rfl
theorem recurses_FnExactTidyShelf : Try.prog.recurses 4 = Rows.fnExactTidyShelfRow.recurses := by kernel_rfl
theorem named_FnExactTidyShelf : Try.prog.varsNamed 4 = Rows.fnExactTidyShelfRow.named := by kernel_rfl
theorem facts_FnExactTidyShelf : joinedFacts Try.prog 4 Try.f4 Rows.fnExactTidyShelfSpec Rows.fnExactTidyShelfRow = true := by
  unfold joinedFacts
  rw [seat_laid, seat_maps, seat_heard, seat_enter, inPlace_FnExactTidyShelf, unfollowed_FnExactTidyShelf, recurses_FnExactTidyShelf, named_FnExactTidyShelf]
  kernel_rfl
theorem fnExactTidyShelf_holds : Rows.FnExactTidyShelfSaid :=
  OpenClaim.holds_of_wide 4 Try.f4 rfl rfl rfl rfl rfl rfl rfl ⟨rfl, rfl, rfl, rfl, rfl⟩ rfl rfl rfl rfl rfl (by kernel_rfl) Try.func4 facts_FnExactTidyShelf (of_decide_eq_true (by kernel_rfl))
    (by unfold Func.isWrapper; first | (rw [if_pos (by decide +kernel)]; kernel_rfl) | (rw [if_neg (by decide +kernel)]; exact ⟨rfl, rfl⟩)) (fun os started H enc _ => lifted_FnExactTidyShelf os started H enc)
#print axioms fnExactTidyShelf_holds
end Go.Proofs.Ytaamcelinnnncaa
