import Derived.Test.YtodnoiblplnpcaaRows
import Derived.Test.YtodnoiblplnpcaaFun1
import Derived.Test.YtodnoiblplnpcaaBase
import Derived.WalkKit
import Derived.ProofKit
import Derived.OpenShut
import Derived.ShutString
import Derived.ChangeOld
import Derived.Below
import Derived.SizedLaws
/- FnExactInnerText answers true for every input, and its arguments read behind the call as they did ahead of it. Conditions: none. -/
set_option linter.unusedVariables false
namespace Go.Proofs.Ytodnoiblplnpcaa
open Go Go.Eng Go.Proofs
abbrev pars_FnExactInnerText : List Par := [(true, (.pair (.int .i64) (.pair (.int .i64) .str)))]
theorem l01In_is (k : Nat) (a b c : Int) : s_l01In k (a, (b, (c, ()))) = some (decide (b ≤ a ∧ a ≤ c), ((), ((), ((), ())))) := by
  unfold s_l01In
  by_cases h : b ≤ a <;> simp [h]
theorem within_is (k : Nat) (a b c : Int) : i_within k (a, (b, (c, ()))) = some (decide (b ≤ a ∧ a ≤ c), ((), ((), ((), ())))) := l01In_is k a b c
theorem s_AddrOk_is (k : Nat) (a : Int) : s_AddrOk k (a, ()) = some (decide (0 ≤ a ∧ a ≤ 4294967295), ((), ())) := by
  unfold s_AddrOk
  rw [l01In_is]
  rfl
theorem i_AddrOk_is (k : Nat) (a : Int) : i_AddrOk k (a, ()) = some (decide (0 ≤ a ∧ a ≤ 4294967295), ((), ())) := s_AddrOk_is k a
theorem szInner_is (k : Nat) (a b : Int) (c : ByteArray) (n : Int) : ∃ m : Int, w_szInner k ((a, (b, (c, ()))), (n, ())) = some (m, ((), ((), ()))) ∧ (0 ≤ m → m = IntKind.i64.wrap (n - c.size)) := by
  unfold w_szInner
  simp only []
  split
  · exact ⟨_, rfl, fun h => absurd h (by omega)⟩
  · exact ⟨_, rfl, fun _ => rfl⟩
theorem toInner_is (k : Nat) (a b : Int) (c : ByteArray) : w_toInner k ((a, (b, (c, ()))), ()) = some ((a, (b, (c, ()))), ((), ())) := rfl
theorem s_InnerOk_is (k : Nat) (a b : Int) (c : ByteArray) : s_InnerOk k ((a, (b, (c, ()))), ()) = some (decide ((0 ≤ a ∧ a ≤ 4294967295) ∧ (0 ≤ b ∧ b ≤ 4294967295) ∧ c.size ≤ 100), ((), ())) := by
  unfold s_InnerOk
  simp only [s_AddrOk_is, Option.bind_some]
  by_cases h : 0 ≤ a ∧ a ≤ 4294967295 <;> by_cases h' : 0 ≤ b ∧ b ≤ 4294967295 <;> simp [h, h']
  all_goals first | (rw [decide_eq_decide]; omega) | omega
theorem i_InnerOk_is (k : Nat) (a b : Int) (c : ByteArray) : i_InnerOk k ((a, (b, (c, ()))), ()) = some (decide ((0 ≤ a ∧ a ≤ 4294967295) ∧ (0 ≤ b ∧ b ≤ 4294967295) ∧ c.size ≤ 100), ((), ())) := s_InnerOk_is k a b c
theorem i_NumberText_is (k : Nat) (n : Int) : i_NumberText k (n, ()) = s_NumberText k (n, ()) := by
  unfold i_NumberText s_NumberText
  simp only [l01In_is, within_is, Option.bind_some]
  split
  · rfl
  · rename_i h
    simp at h
    have p24 : (2 : Int) ^ (min (Int.toNat (24 : Int)) (IntKind.bits .i64)) = 16777216 := by decide
    have p16 : (2 : Int) ^ (min (Int.toNat (16 : Int)) (IntKind.bits .i64)) = 65536 := by decide
    have p8 : (2 : Int) ^ (min (Int.toNat (8 : Int)) (IntKind.bits .i64)) = 256 := by decide
    have m : ∀ y : Int, 0 ≤ y → y < 2 ^ 63 → bitsI .and .i64 y 255 = y % 256 := fun y h0 h1 => and_mask 8 (by decide) y h0 h1
    have q : ∀ d : Int, 0 < d → d ≤ 16777216 → wi64 (Int.tdiv n d) = n / d := by
      intro d hd _
      rw [Int.tdiv_eq_ediv_of_nonneg h.1]
      have g0 : 0 ≤ n / d := Int.ediv_nonneg h.1 (by omega)
      have g1 : n / d ≤ n := Int.ediv_le_self d h.1
      simp only [wi64, IntKind.wrap_i64]
      omega
    have g24 : 0 ≤ n / 16777216 ∧ n / 16777216 < 256 := by omega
    have g16 : 0 ≤ n / 65536 ∧ n / 65536 < 65536 := by omega
    have g8 : 0 ≤ n / 256 ∧ n / 256 < 16777216 := by omega
    rw [p24, p16, p8, Int.fdiv_eq_ediv_of_nonneg _ (by omega), Int.fdiv_eq_ediv_of_nonneg _ (by omega), Int.fdiv_eq_ediv_of_nonneg _ (by omega), m _ g24.1 (by omega), m _ g16.1 (by omega), m _ g8.1 (by omega), m n h.1 (by omega), q _ (by omega) (by omega), q _ (by omega) (by omega), q _ (by omega) (by omega),
      Int.tmod_eq_emod_of_nonneg g16.1, Int.tmod_eq_emod_of_nonneg g8.1, Int.tmod_eq_emod_of_nonneg h.1, Int.emod_eq_of_lt g24.1 g24.2]
theorem i_InnerText_is (k : Nat) (a b : Int) (c : ByteArray) : i_InnerText k ((a, (b, (c, ()))), ()) = s_InnerText k ((a, (b, (c, ()))), ()) := by
  unfold i_InnerText s_InnerText
  simp only [i_InnerOk_is, s_InnerOk_is, i_NumberText_is]
theorem NumberText_size (k : Nat) (n : Int) : ∃ t : ByteArray, s_NumberText k (n, ()) = some (t, ((), ())) ∧ t.size ≤ 4 := by
  unfold s_NumberText
  simp only [l01In_is, Option.bind_some]
  split
  · exact ⟨_, rfl, by decide⟩
  · exact ⟨_, rfl, by simp [strOf, ByteArray.size]⟩
theorem s_InnerText_ends (k : Nat) (a b : Int) (c : ByteArray) : ∃ r, s_InnerText k ((a, (b, (c, ()))), ()) = some r := by
  unfold s_InnerText
  simp only [s_InnerOk_is, Option.bind_some]
  split
  · exact ⟨_, rfl⟩
  · rename_i h
    simp at h
    obtain ⟨t, ht, h1⟩ := NumberText_size k a
    obtain ⟨t', ht', h2⟩ := NumberText_size k b
    have hm : maxStr = 9223372036854775807 := rfl
    simp only [ht, ht', Option.bind_some]
    rw [if_pos (by omega), if_pos (by rw [ByteArray.size_append]; omega)]
    exact ⟨_, rfl⟩
theorem pure_FnExactInnerText (x : argsDen pars_FnExactInnerText) (_hx : argsWf pars_FnExactInnerText x) : ∃ k o, w_FnExactInnerText k (argsX pars_FnExactInnerText x) = some (true, o) := by
  obtain ⟨⟨a, b, c⟩, u⟩ := x
  refine ⟨0, ((), ()), ?_⟩
  show w_FnExactInnerText 0 ((a, (b, (c, ()))), ()) = _
  unfold w_FnExactInnerText
  obtain ⟨m, hm, _⟩ := szInner_is 0 a b c 1048576
  obtain ⟨r, hr⟩ := s_InnerText_ends 0 a b c
  simp only [hm, toInner_is, i_InnerText_is, hr, Option.bind_some]
  split <;> simp
open Go.ChangeShapes Go.WideShapes Go.ChangeAt Go.RowKit
theorem own_FnExactInnerText : ownKnob Try.prog.godebug = none := by kernel_rfl
theorem lifted_FnExactInnerText (os : Os) (started : os.Started) (H : Type) (enc : TypeId × Value → H) :
    ReturnsInHanded {} Try.checked os 6 .any (Rows.fnExactInnerTextSpec.pre6 enc Try.prog Try.f6 Rows.fnExactInnerTextRow.domain false) (Rows.fnExactInnerTextSpec.post enc Try.prog Try.f6 false true false false) :=
  law_lifted (C := Try.checked) (l := pars_FnExactInnerText) (rb := 4) own_FnExactInnerText started (by kernel_rfl) Try.func6
    (ChangeSpec.witness6 (enc := enc) (C := Try.checked) false ⟨#[], #[.agg #[.int .i64 0, .int .i64 0, .string ByteArray.empty]], []⟩ 8 (by kernel_rfl) (by kernel_rfl) (by kernel_rfl) (by kernel_rfl))
    e_w_FnExactInnerText rfl (by decide) pure_FnExactInnerText (by kernel_rfl) rfl Try.underlying4 (by kernel_rfl) (by kernel_rfl) rfl
    (fun ds h => match ds, h with | [_], _ => rfl)
theorem fnExactInnerText_holds : Rows.FnExactInnerTextSaid :=
  OpenClaim.holds_of_wide 6 Try.f6 rfl rfl rfl rfl rfl rfl rfl ⟨rfl, rfl, rfl, rfl, rfl⟩ rfl rfl rfl rfl rfl (by kernel_rfl) Try.func6 (by kernel_rfl) (of_decide_eq_true (by kernel_rfl))
    (by unfold Func.isWrapper; first | (rw [if_pos (by decide +kernel)]; kernel_rfl) | (rw [if_neg (by decide +kernel)]; exact ⟨rfl, rfl⟩)) (fun os started H enc _ => lifted_FnExactInnerText os started H enc)
#print axioms fnExactInnerText_holds
end Go.Proofs.Ytodnoiblplnpcaa
