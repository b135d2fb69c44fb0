import Derived.Test.YtodnoiblplnpcaaRows
import Derived.Test.YtodnoiblplnpcaaFun1
import Derived.Test.YtodnoiblplnpcaaBase
import Derived.WalkKit
import Derived.ProofKit
import Derived.OpenShut
import Derived.ShutString
import Derived.ChangeOld
import Derived.Below
import Derived.SizedLaws
/- FnExactReadInner answers true for every input, and its arguments read behind the call as they did ahead of it. Conditions: none. -/
set_option linter.unusedVariables false
namespace Go.Proofs.Ytodnoiblplnpcaa
open Go Go.Eng Go.Proofs Go.ChangeShapes Go.WideShapes Go.ChangeAt Go.RowKit
abbrev pars_FnExactReadInner : List Par := [(false, .str)]
theorem l01In_is (k : Nat) (a b c : Int) : s_l01In k (a, (b, (c, ()))) = some (decide (b ≤ a ∧ a ≤ c), ((), ((), ((), ())))) := by
  unfold s_l01In
  by_cases h : b ≤ a <;> simp [h]
theorem within_is (k : Nat) (a b c : Int) : i_within k (a, (b, (c, ()))) = some (decide (b ≤ a ∧ a ≤ c), ((), ((), ((), ())))) := l01In_is k a b c
theorem s_AddrOk_is (k : Nat) (a : Int) : s_AddrOk k (a, ()) = some (decide (0 ≤ a ∧ a ≤ 4294967295), ((), ())) := by
  unfold s_AddrOk
  rw [l01In_is]
  rfl
theorem i_AddrOk_is (k : Nat) (a : Int) : i_AddrOk k (a, ()) = some (decide (0 ≤ a ∧ a ≤ 4294967295), ((), ())) := s_AddrOk_is k a
theorem szInner_is (k : Nat) (a b : Int) (c : ByteArray) (n : Int) : ∃ m : Int, w_szInner k ((a, (b, (c, ()))), (n, ())) = some (m, ((), ((), ()))) ∧ (0 ≤ m → m = IntKind.i64.wrap (n - c.size)) := by
  unfold w_szInner
  simp only []
  split
  · exact ⟨_, rfl, fun h => absurd h (by omega)⟩
  · exact ⟨_, rfl, fun _ => rfl⟩
theorem toInner_is (k : Nat) (a b : Int) (c : ByteArray) : w_toInner k ((a, (b, (c, ()))), ()) = some ((a, (b, (c, ()))), ((), ())) := rfl
theorem s_ReadNumber_is (k : Nat) (s : ByteArray) : s_ReadNumber k (s, ()) = some ((if s.size = 4 then (bt s 0 * 16777216 + bt s 1 * 65536 + bt s 2 * 256 + bt s 3, (true, ())) else (0, (false, ()))), ((), ())) := by
  unfold s_ReadNumber
  by_cases h : s.size = 4
  · have h' : (s.size : Int) = 4 := by omega
    have a0 := bt_ge s 0; have a1 := bt_ge s 1; have a2 := bt_ge s 2; have a3 := bt_ge s 3
    have b0 := bt_le s 0; have b1 := bt_le s 1; have b2 := bt_le s 2; have b3 := bt_le s 3
    simp only [h]
    have e : wi64 (wi64 (wi64 (wi64 (wi64 (bt s 0) * 16777216) + wi64 (wi64 (bt s 1) * 65536)) + wi64 (wi64 (bt s 2) * 256)) + wi64 (bt s 3)) = bt s 0 * 16777216 + bt s 1 * 65536 + bt s 2 * 256 + bt s 3 := by
      simp only [wi64, IntKind.wrap_i64]
      omega
    simp [e]
  · have h' : ¬ (s.size : Int) = 4 := by omega
    simp [h, h']
theorem i_ReadNumber_is (k : Nat) (s : ByteArray) : i_ReadNumber k (s, ()) = some ((if s.size = 4 then (bt s 0 * 16777216 + bt s 1 * 65536 + bt s 2 * 256 + bt s 3, (true, ())) else (0, (false, ()))), ((), ())) := by
  unfold i_ReadNumber
  by_cases h : s.size = 4
  · have h' : (s.size : Int) = 4 := by omega
    have a0 := bt_ge s 0; have a1 := bt_ge s 1; have a2 := bt_ge s 2; have a3 := bt_ge s 3
    have b0 := bt_le s 0; have b1 := bt_le s 1; have b2 := bt_le s 2; have b3 := bt_le s 3
    simp only [h]
    have p24 : (2 : Int) ^ (min (Int.toNat (24 : Int)) (IntKind.bits .i64)) = 16777216 := by decide
    have p16 : (2 : Int) ^ (min (Int.toNat (16 : Int)) (IntKind.bits .i64)) = 65536 := by decide
    have p8 : (2 : Int) ^ (min (Int.toNat (8 : Int)) (IntKind.bits .i64)) = 256 := by decide
    have e0 : wi64 (wi64 (bt s 0) * 2 ^ (min (Int.toNat (24 : Int)) (IntKind.bits .i64))) = bt s 0 * 16777216 := by rw [p24]; simp only [wi64, IntKind.wrap_i64]; omega
    have e1 : wi64 (wi64 (bt s 1) * 2 ^ (min (Int.toNat (16 : Int)) (IntKind.bits .i64))) = bt s 1 * 65536 := by rw [p16]; simp only [wi64, IntKind.wrap_i64]; omega
    have e2 : wi64 (wi64 (bt s 2) * 2 ^ (min (Int.toNat (8 : Int)) (IntKind.bits .i64))) = bt s 2 * 256 := by rw [p8]; simp only [wi64, IntKind.wrap_i64]; omega
    have e3 : wi64 (bt s 3) = bt s 3 := by simp only [wi64, IntKind.wrap_i64]; omega
    have e : bitsI .or .i64 (bitsI .or .i64 (bitsI .or .i64 (bt s 0 * 16777216) (bt s 1 * 65536)) (bt s 2 * 256)) (bt s 3) = bt s 0 * 16777216 + bt s 1 * 65536 + bt s 2 * 256 + bt s 3 := by
      rw [or_join 24 (bt s 0 * 16777216) (bt s 1 * 65536), or_join 16 _ (bt s 2 * 256), or_join 8 _ (bt s 3)] <;> omega
    rw [e0, e1, e2, e3, e]
    simp
  · have h' : ¬ (s.size : Int) = 4 := by omega
    simp [h, h']
theorem eqInner_is (k : Nat) (a a' b b' : Int) (c c' : ByteArray) : w_eqInner k ((a, (b, (c, ()))), ((a', (b', (c', ()))), ())) = some (decide (a = a' ∧ b = b' ∧ c = c'), ((), ((), ()))) := by
  unfold w_eqInner
  by_cases h : a = a' <;> by_cases h1 : b = b' <;> by_cases h2 : c = c' <;> simp [h, h1, h2]
theorem i_ReadInner_is (k : Nat) (s : ByteArray) : i_ReadInner k (s, ()) = s_ReadInner k (s, ()) := by
  unfold i_ReadInner s_ReadInner
  simp only [l01In_is, within_is, s_ReadNumber_is, i_ReadNumber_is]
theorem s_ReadInner_ends (k : Nat) (s : ByteArray) : ∃ r, s_ReadInner k (s, ()) = some r := by
  unfold s_ReadInner
  simp only [l01In_is, s_ReadNumber_is, Option.bind_some]
  split
  · exact ⟨_, rfl⟩
  · rename_i h
    simp at h
    have h1 : (0 : Int) ≤ 8 ∧ (8 : Int) ≤ (s.size : Int) := by omega
    have h2 : (0 : Int) ≤ 4 ∧ (4 : Int) ≤ (s.size : Int) := by omega
    rw [if_pos h1, if_pos h2]
    simp [h1.2]
theorem pure_FnExactReadInner (x : argsDen pars_FnExactReadInner) (_hx : argsWf pars_FnExactReadInner x) : ∃ k o, w_FnExactReadInner k (argsX pars_FnExactReadInner x) = some (true, o) := by
  obtain ⟨s, u⟩ := x
  refine ⟨0, ((), ()), ?_⟩
  show w_FnExactReadInner 0 (s, ()) = _
  unfold w_FnExactReadInner
  split
  · rfl
  · obtain ⟨r, hr⟩ := s_ReadInner_ends 0 s
    simp only [i_ReadInner_is, hr, eqInner_is, Option.bind_some]
    simp
theorem own_FnExactReadInner : ownKnob Try.prog.godebug = none := by kernel_rfl
theorem lifted_FnExactReadInner (os : Os) (started : os.Started) (H : Type) (enc : TypeId × Value → H) :
    ReturnsInHanded {} Try.checked os 5 .any (Rows.fnExactReadInnerSpec.pre6 enc Try.prog Try.f5 Rows.fnExactReadInnerRow.domain false) (Rows.fnExactReadInnerSpec.post enc Try.prog Try.f5 false true false false) :=
  law_lifted (C := Try.checked) (l := pars_FnExactReadInner) (rb := 4) own_FnExactReadInner started (by kernel_rfl) Try.func5
    (ChangeSpec.witness6 (enc := enc) (C := Try.checked) false ⟨#[], #[.string ByteArray.empty], []⟩ 8 (by kernel_rfl) (by kernel_rfl) (by kernel_rfl) (by kernel_rfl))
    e_w_FnExactReadInner rfl (by decide) pure_FnExactReadInner (by kernel_rfl) rfl Try.underlying4 (by kernel_rfl) (by kernel_rfl) rfl
    (fun ds h => match ds, h with | [_], _ => rfl)
theorem fnExactReadInner_holds : Rows.FnExactReadInnerSaid :=
  OpenClaim.holds_of_wide 5 Try.f5 rfl rfl rfl rfl rfl rfl rfl ⟨rfl, rfl, rfl, rfl, rfl⟩ rfl rfl rfl rfl rfl (by kernel_rfl) Try.func5 (by kernel_rfl) (of_decide_eq_true (by kernel_rfl))
    (by unfold Func.isWrapper; first | (rw [if_pos (by decide +kernel)]; kernel_rfl) | (rw [if_neg (by decide +kernel)]; exact ⟨rfl, rfl⟩)) (fun os started H enc _ => lifted_FnExactReadInner os started H enc)
#print axioms fnExactReadInner_holds
end Go.Proofs.Ytodnoiblplnpcaa
