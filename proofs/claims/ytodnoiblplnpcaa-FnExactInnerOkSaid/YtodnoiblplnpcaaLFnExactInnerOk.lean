import Derived.Test.YtodnoiblplnpcaaRows
import Derived.Test.YtodnoiblplnpcaaFun1
import Derived.Test.YtodnoiblplnpcaaBase
import Derived.WalkKit
import Derived.ProofKit
import Derived.OpenShut
import Derived.ShutString
import Derived.ChangeOld
import Derived.Below
import Derived.SizedLaws
/- FnExactInnerOk answers true for every input, and its arguments read behind the call as they did ahead of it. Conditions: none. -/
set_option linter.unusedVariables false
namespace Go.Proofs.Ytodnoiblplnpcaa
open Go Go.Eng Go.Proofs Go.ChangeShapes Go.WideShapes Go.ChangeAt Go.RowKit
abbrev pars_FnExactInnerOk : List Par := [(true, (.pair (.int .i64) (.pair (.int .i64) .str)))]
theorem l01In_is (k : Nat) (a b c : Int) : s_l01In k (a, (b, (c, ()))) = some (decide (b ≤ a ∧ a ≤ c), ((), ((), ((), ())))) := by
  unfold s_l01In
  by_cases h : b ≤ a <;> simp [h]
theorem within_is (k : Nat) (a b c : Int) : i_within k (a, (b, (c, ()))) = some (decide (b ≤ a ∧ a ≤ c), ((), ((), ((), ())))) := l01In_is k a b c
theorem s_AddrOk_is (k : Nat) (a : Int) : s_AddrOk k (a, ()) = some (decide (0 ≤ a ∧ a ≤ 4294967295), ((), ())) := by
  unfold s_AddrOk
  rw [l01In_is]
  rfl
theorem i_AddrOk_is (k : Nat) (a : Int) : i_AddrOk k (a, ()) = some (decide (0 ≤ a ∧ a ≤ 4294967295), ((), ())) := s_AddrOk_is k a
theorem szInner_is (k : Nat) (a b : Int) (c : ByteArray) (n : Int) : ∃ m : Int, w_szInner k ((a, (b, (c, ()))), (n, ())) = some (m, ((), ((), ()))) ∧ (0 ≤ m → m = IntKind.i64.wrap (n - c.size)) := by
  unfold w_szInner
  simp only []
  split
  · exact ⟨_, rfl, fun h => absurd h (by omega)⟩
  · exact ⟨_, rfl, fun _ => rfl⟩
theorem toInner_is (k : Nat) (a b : Int) (c : ByteArray) : w_toInner k ((a, (b, (c, ()))), ()) = some ((a, (b, (c, ()))), ((), ())) := rfl
theorem s_InnerOk_is (k : Nat) (a b : Int) (c : ByteArray) : s_InnerOk k ((a, (b, (c, ()))), ()) = some (decide ((0 ≤ a ∧ a ≤ 4294967295) ∧ (0 ≤ b ∧ b ≤ 4294967295) ∧ c.size ≤ 100), ((), ())) := by
  unfold s_InnerOk
  simp only [s_AddrOk_is, Option.bind_some]
  by_cases h : 0 ≤ a ∧ a ≤ 4294967295 <;> by_cases h' : 0 ≤ b ∧ b ≤ 4294967295 <;> simp [h, h']
  all_goals first | (rw [decide_eq_decide]; omega) | omega
theorem i_InnerOk_is (k : Nat) (a b : Int) (c : ByteArray) : i_InnerOk k ((a, (b, (c, ()))), ()) = some (decide ((0 ≤ a ∧ a ≤ 4294967295) ∧ (0 ≤ b ∧ b ≤ 4294967295) ∧ c.size ≤ 100), ((), ())) := s_InnerOk_is k a b c
theorem pure_FnExactInnerOk (x : argsDen pars_FnExactInnerOk) (_hx : argsWf pars_FnExactInnerOk x) : ∃ k o, w_FnExactInnerOk k (argsX pars_FnExactInnerOk x) = some (true, o) := by
  obtain ⟨⟨a, b, c⟩, u⟩ := x
  refine ⟨0, ((), ()), ?_⟩
  show w_FnExactInnerOk 0 ((a, (b, (c, ()))), ()) = _
  unfold w_FnExactInnerOk
  obtain ⟨m, hm, _⟩ := szInner_is 0 a b c 1048576
  simp only [hm, toInner_is, s_InnerOk_is, i_InnerOk_is, Option.bind_some]
  split <;> simp
theorem own_FnExactInnerOk : ownKnob Try.prog.godebug = none := by kernel_rfl
theorem lifted_FnExactInnerOk (os : Os) (started : os.Started) (H : Type) (enc : TypeId × Value → H) :
    ReturnsInHanded {} Try.checked os 4 .any (Rows.fnExactInnerOkSpec.pre6 enc Try.prog Try.f4 Rows.fnExactInnerOkRow.domain false) (Rows.fnExactInnerOkSpec.post enc Try.prog Try.f4 false true false false) :=
  law_lifted (C := Try.checked) (l := pars_FnExactInnerOk) (rb := 4) own_FnExactInnerOk started (by kernel_rfl) Try.func4
    (ChangeSpec.witness6 (enc := enc) (C := Try.checked) false ⟨#[], #[.agg #[.int .i64 0, .int .i64 0, .string ByteArray.empty]], []⟩ 8 (by kernel_rfl) (by kernel_rfl) (by kernel_rfl) (by kernel_rfl))
    e_w_FnExactInnerOk rfl (by decide) pure_FnExactInnerOk (by kernel_rfl) rfl Try.underlying4 (by kernel_rfl) (by kernel_rfl) rfl
    (fun ds h => match ds, h with | [_], _ => rfl)
theorem fnExactInnerOk_holds : Rows.FnExactInnerOkSaid :=
  OpenClaim.holds_of_wide 4 Try.f4 rfl rfl rfl rfl rfl rfl rfl ⟨rfl, rfl, rfl, rfl, rfl⟩ rfl rfl rfl rfl rfl (by kernel_rfl) Try.func4 (by kernel_rfl) (of_decide_eq_true (by kernel_rfl))
    (by unfold Func.isWrapper; first | (rw [if_pos (by decide +kernel)]; kernel_rfl) | (rw [if_neg (by decide +kernel)]; exact ⟨rfl, rfl⟩)) (fun os started H enc _ => lifted_FnExactInnerOk os started H enc)
#print axioms fnExactInnerOk_holds
end Go.Proofs.Ytodnoiblplnpcaa
