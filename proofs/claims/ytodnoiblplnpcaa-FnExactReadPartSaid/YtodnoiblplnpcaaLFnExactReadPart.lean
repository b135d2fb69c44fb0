import Derived.Test.YtodnoiblplnpcaaRows
import Derived.Test.YtodnoiblplnpcaaFun1
import Derived.WalkKit
import Derived.ProofKit
import Derived.OpenShut
import Derived.ShutString
import Derived.ChangeOld
import Derived.Below
import Derived.SizedLaws
/- FnExactReadPart answers true for every input, and its arguments read behind the call as they did ahead of it. Conditions: none. -/
set_option linter.unusedVariables false
namespace Go.Proofs.Ytodnoiblplnpcaa
open Go Go.Eng Go.Proofs Go.ChangeShapes Go.WideShapes Go.ChangeAt Go.RowKit
abbrev pars_FnExactReadPart : List Par := [(false, .str)]
theorem total_s_ReadPart (k : Nat) (x) : (s_ReadPart k x).isSome = true := by
  unfold s_ReadPart s_l01In
  repeat' (first | rfl | split)
  all_goals (simp_all; try omega)
  all_goals (try (split <;> simp))
theorem pure_FnExactReadPart (x : argsDen pars_FnExactReadPart) (_hx : argsWf pars_FnExactReadPart x) : ∃ k o, w_FnExactReadPart k (argsX pars_FnExactReadPart x) = some (true, o) := by
  obtain ⟨s, u⟩ := x
  refine ⟨0, ((), ()), ?_⟩
  show w_FnExactReadPart 0 (s, ()) = _
  unfold w_FnExactReadPart
  split
  · rfl
  · obtain ⟨r, hr⟩ := Option.isSome_iff_exists.1 (total_s_ReadPart 0 (s, ()))
    have h : i_ReadPart 0 (s, ()) = some r := hr
    rw [hr, h]
    simp
theorem own_FnExactReadPart : ownKnob Try.prog.godebug = none := by kernel_rfl
theorem lifted_FnExactReadPart (os : Os) (started : os.Started) (H : Type) (enc : TypeId × Value → H) :
    ReturnsInHanded {} Try.checked os 3 .any (Rows.fnExactReadPartSpec.pre6 enc Try.prog Try.f3 Rows.fnExactReadPartRow.domain false) (Rows.fnExactReadPartSpec.post enc Try.prog Try.f3 false true false false) :=
  law_lifted (C := Try.checked) (l := pars_FnExactReadPart) (rb := 4) own_FnExactReadPart started (by kernel_rfl) Try.func3
    (ChangeSpec.witness6 (enc := enc) (C := Try.checked) false ⟨#[], #[.string ByteArray.empty], []⟩ 8 (by kernel_rfl) (by kernel_rfl) (by kernel_rfl) (by kernel_rfl))
    e_w_FnExactReadPart rfl (by decide) pure_FnExactReadPart (by kernel_rfl) rfl Try.underlying4 (by kernel_rfl) (by kernel_rfl) rfl
    (fun ds h => match ds, h with | [_], _ => rfl)
theorem fnExactReadPart_holds : Rows.FnExactReadPartSaid :=
  OpenClaim.holds_of_wide 3 Try.f3 rfl rfl rfl rfl rfl rfl rfl ⟨rfl, rfl, rfl, rfl, rfl⟩ rfl rfl rfl rfl rfl (by kernel_rfl) Try.func3 (by kernel_rfl) (of_decide_eq_true (by kernel_rfl))
    (by unfold Func.isWrapper; first | (rw [if_pos (by decide +kernel)]; kernel_rfl) | (rw [if_neg (by decide +kernel)]; exact ⟨rfl, rfl⟩)) (fun os started H enc _ => lifted_FnExactReadPart os started H enc)
#print axioms fnExactReadPart_holds
end Go.Proofs.Ytodnoiblplnpcaa
