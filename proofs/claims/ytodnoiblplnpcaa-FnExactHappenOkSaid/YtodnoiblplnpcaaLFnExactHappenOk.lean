import Derived.Test.YtodnoiblplnpcaaRows
import Derived.Test.YtodnoiblplnpcaaFun1
import Derived.Test.YtodnoiblplnpcaaBase
import Derived.WalkKit
import Derived.ProofKit
import Derived.OpenShut
import Derived.ShutString
import Derived.ChangeOld
import Derived.Below
import Derived.SizedLaws
/- FnExactHappenOk answers true for every input, and its arguments read behind the call as they did ahead of it. Conditions: none. -/
set_option linter.unusedVariables false
namespace Go.Proofs.Ytodnoiblplnpcaa
open Go Go.Eng Go.Proofs
abbrev pars_FnExactHappenOk : List Par := [(true, (.pair (.int .i64) (.pair (.int .i64) (.pair (.int .i64) (.pair (.int .i64) (.pair .str (.pair (.int .i64) (.int .i64))))))))]
theorem l01In_is (k : Nat) (a b c : Int) : s_l01In k (a, (b, (c, ()))) = some (decide (b ≤ a ∧ a ≤ c), ((), ((), ((), ())))) := by
  unfold s_l01In
  by_cases h : b ≤ a <;> simp [h]
theorem within_is (k : Nat) (a b c : Int) : i_within k (a, (b, (c, ()))) = some (decide (b ≤ a ∧ a ≤ c), ((), ((), ((), ())))) := l01In_is k a b c
theorem s_AddrOk_is (k : Nat) (a : Int) : s_AddrOk k (a, ()) = some (decide (0 ≤ a ∧ a ≤ 4294967295), ((), ())) := by
  unfold s_AddrOk
  rw [l01In_is]
  rfl
theorem i_AddrOk_is (k : Nat) (a : Int) : i_AddrOk k (a, ()) = some (decide (0 ≤ a ∧ a ≤ 4294967295), ((), ())) := s_AddrOk_is k a
theorem szInner_is (k : Nat) (a b : Int) (c : ByteArray) (n : Int) : ∃ m : Int, w_szInner k ((a, (b, (c, ()))), (n, ())) = some (m, ((), ((), ()))) ∧ (0 ≤ m → m = IntKind.i64.wrap (n - c.size)) := by
  unfold w_szInner
  simp only []
  split
  · exact ⟨_, rfl, fun h => absurd h (by omega)⟩
  · exact ⟨_, rfl, fun _ => rfl⟩
theorem toInner_is (k : Nat) (a b : Int) (c : ByteArray) : w_toInner k ((a, (b, (c, ()))), ()) = some ((a, (b, (c, ()))), ((), ())) := rfl
theorem pow_cast (n : Nat) : ((2 ^ n : Nat) : Int) = (2 : Int) ^ n := by simp
theorem l08Size_is (k : Nat) (n : Int) (h : 0 ≤ n ∧ n ≤ 32) (hk : 40 < k) : s_l08Size k (n, ()) = some ((2 : Int) ^ (32 - n.toNat), ((), ())) := by
  unfold s_l08Size
  rw [whileK_run (fun y => 32 - y.2.1.toNat) (fun y => 0 ≤ y.2.1 ∧ y.2.1 ≤ 32 ∧ 0 ≤ y.1 ∧ y.1 * 2 ^ (32 - y.2.1.toNat) ≤ 4294967296) (fun y => (y.1 * 2 ^ (32 - y.2.1.toNat), ((), ()))) ?_ k]
  · simp
  · refine ⟨h.1, h.2, by simp, ?_⟩
    show (1 : Int) * 2 ^ (32 - n.toNat) ≤ 4294967296
    have : (2 : Nat) ^ (32 - n.toNat) ≤ 2 ^ 32 := Nat.pow_le_pow_right (by decide) (by omega)
    have : ((2 ^ (32 - n.toNat) : Nat) : Int) ≤ ((2 ^ 32 : Nat) : Int) := Int.ofNat_le.2 this
    rw [Int.one_mul, ← pow_cast]
    exact this
  · show 32 - n.toNat < k
    omega
  · rintro ⟨a, i, u⟩ ⟨h1, h2, h3, h4⟩ again hg
    simp only at h1 h2 h3 h4
    by_cases hi : i < 32
    · have e : 32 - i.toNat = (32 - (i + 1).toNat) + 1 := by omega
      rw [e, Int.pow_succ] at h4
      have hp : (1 : Int) ≤ 2 ^ (32 - (i + 1).toNat) := by
        have : 0 < (2 : Nat) ^ (32 - (i + 1).toNat) := Nat.two_pow_pos _
        rw [← pow_cast]
        omega
      have ha : a ≤ a * 2 ^ (32 - (i + 1).toNat) := by
        have := Int.mul_le_mul_of_nonneg_left hp h3
        omega
      have h4' : a * 2 ^ (32 - (i + 1).toNat) * 2 ≤ 4294967296 := by rw [Int.mul_assoc]; exact h4
      have w1 : wi64 (2 * a) = 2 * a := w64_id _ (by omega)
      have w2 : wi64 (i + 1) = i + 1 := w64_id _ (by omega)
      have := hg (2 * a, (i + 1, ())) ⟨by simp only; omega, by simp only; omega, by simp only; omega, by
        show 2 * a * 2 ^ (32 - (i + 1).toNat) ≤ _
        rw [Int.mul_assoc, Int.mul_comm]
        exact h4'⟩ (by simp only; omega)
      simp only [hi, decide_true, if_true, w1, w2, this]
      rw [e, Int.pow_succ]
      congr 2
      rw [Int.mul_comm 2 a, Int.mul_assoc, Int.mul_comm 2]
    · have : i = 32 := by omega
      subst this
      simp
theorem lastBits_is (k : Nat) (n : Int) (h : 0 ≤ n ∧ n ≤ 32) : i_lastBits k (n, ()) = some ((2 : Int) ^ (32 - n.toNat) - 1, ((), ())) := by
  unfold i_lastBits
  have w : wi64 (32 - n) = 32 - n := w64_id _ (by omega)
  have hp : (2 : Nat) ^ (32 - n.toNat) ≤ 2 ^ 32 := Nat.pow_le_pow_right (by decide) (by omega)
  have hp : ((2 ^ (32 - n.toNat) : Nat) : Int) ≤ ((2 ^ 32 : Nat) : Int) := Int.ofNat_le.2 hp
  have h32 : ((2 ^ 32 : Nat) : Int) = 4294967296 := rfl
  have h0 : 0 < (2 : Nat) ^ (32 - n.toNat) := Nat.two_pow_pos _
  have h0 : (1 : Int) ≤ ((2 ^ (32 - n.toNat) : Nat) : Int) := by omega
  have e : (min (Int.toNat (32 - n)) (IntKind.bits .i64)) = 32 - n.toNat := by show min (Int.toNat (32 - n)) 64 = _; omega
  rw [pow_cast] at hp h0
  simp only [w, e]
  rw [if_neg (by omega), Int.one_mul]
  have w2 : wi64 ((2 : Int) ^ (32 - n.toNat)) = (2 : Int) ^ (32 - n.toNat) := w64_id _ (by omega)
  rw [w2]
  have w3 : wi64 ((2 : Int) ^ (32 - n.toNat) - 1) = (2 : Int) ^ (32 - n.toNat) - 1 := w64_id _ (by omega)
  rw [w3]
theorem s_PrefixOk_is (k : Nat) (a n : Int) (hk : 40 < k) : s_PrefixOk k ((a, (n, ())), ()) = some (decide ((0 ≤ a ∧ a ≤ 4294967295) ∧ (0 ≤ n ∧ n ≤ 32) ∧ a % 2 ^ (32 - n.toNat) = 0), ((), ())) := by
  unfold s_PrefixOk
  simp only [s_AddrOk_is, l01In_is, Option.bind_some]
  by_cases h : 0 ≤ a ∧ a ≤ 4294967295
  · by_cases h' : 0 ≤ n ∧ n ≤ 32
    · simp only [l08Size_is k n h' hk, Option.bind_some]
      have h0 : ¬ (2 : Int) ^ (32 - n.toNat) = 0 := by
        have h0 : 0 < (2 : Nat) ^ (32 - n.toNat) := Nat.two_pow_pos _
        rw [← pow_cast]
        omega
      rw [if_neg h0, Int.tmod_eq_emod_of_nonneg h.1]
      simp [h, h']
    · simp [h, h']
  · simp [h]
theorem i_PrefixOk_is (k : Nat) (a n : Int) : i_PrefixOk k ((a, (n, ())), ()) = some (decide ((0 ≤ a ∧ a ≤ 4294967295) ∧ (0 ≤ n ∧ n ≤ 32) ∧ a % 2 ^ (32 - n.toNat) = 0), ((), ())) := by
  unfold i_PrefixOk
  simp only [i_AddrOk_is, within_is, Option.bind_some]
  by_cases h : 0 ≤ a ∧ a ≤ 4294967295
  · by_cases h' : 0 ≤ n ∧ n ≤ 32
    · simp only [lastBits_is k n h', Option.bind_some]
      rw [and_mask _ (by omega) a h.1 (by omega)]
      simp [h, h']
    · simp [h, h']
  · simp [h]
theorem szHappen_is (k : Nat) (x) : ∃ m : Int, w_szHappen k x = some (m, ((), ((), ()))) := by
  unfold w_szHappen
  split
  · exact ⟨_, rfl⟩
  · exact ⟨_, rfl⟩
theorem toHappen_is (k : Nat) (kd id at' dst : Int) (t : ByteArray) (a n : Int) : w_toHappen k ((kd, (id, (at', (dst, (t, (a, (n, ()))))))), ()) = some ((kd, (id, (at', (dst, (t, (a, (n, ()))))))), ((), ())) := rfl
theorem HappenOk_both (k : Nat) (hk : 40 < k) (kd id at' dst : Int) (t : ByteArray) (a n : Int) : ∃ r : Bool, s_HappenOk k ((kd, (id, (at', (dst, (t, (a, (n, ()))))))), ()) = some (r, ((), ())) ∧ i_HappenOk k ((kd, (id, (at', (dst, (t, (a, (n, ()))))))), ()) = some (r, ((), ())) := by
  unfold s_HappenOk i_HappenOk
  simp only [l01In_is, within_is, s_AddrOk_is, i_AddrOk_is, s_PrefixOk_is k a n hk, i_PrefixOk_is, Option.bind_some]
  generalize decide ((0 ≤ a ∧ a ≤ 4294967295) ∧ (0 ≤ n ∧ n ≤ 32) ∧ a % 2 ^ (32 - n.toNat) = 0) = P
  generalize decide ((t.size : Int) ≤ 100) = L
  generalize decide (t = (⟨#[]⟩ : ByteArray)) = E
  by_cases h1 : 1 ≤ kd ∧ kd ≤ 9
  · by_cases h2 : 1 ≤ id ∧ id ≤ 98
    · by_cases h3 : at' < 0
      · simp [h1, h2, h3]
      · by_cases h4 : kd = 3
        · subst h4
          by_cases h5 : dst = 0
          · subst h5
            cases L <;> simp [h2, h3]
          · by_cases h6 : 0 ≤ dst ∧ dst ≤ 4294967295 <;> cases L <;> simp [h2, h3, h5, h6]
        · by_cases h5 : kd = 9
          · subst h5
            by_cases h6 : dst = 0 <;> cases P <;> cases E <;> simp [h2, h3, h6]
          · by_cases h6 : dst = 0 <;> cases E <;> simp [h1, h2, h3, h4, h5, h6]
    · simp [h1, h2]
  · simp [h1]
theorem pure_FnExactHappenOk (x : argsDen pars_FnExactHappenOk) (_hx : argsWf pars_FnExactHappenOk x) : ∃ k o, w_FnExactHappenOk k (argsX pars_FnExactHappenOk x) = some (true, o) := by
  obtain ⟨⟨kd, id, at', dst, t, a, n⟩, u⟩ := x
  refine ⟨41, ((), ()), ?_⟩
  show w_FnExactHappenOk 41 ((kd, (id, (at', (dst, (t, (a, (n, ()))))))), ()) = _
  unfold w_FnExactHappenOk
  obtain ⟨m, hm⟩ := szHappen_is 41 ((kd, (id, (at', (dst, (t, (a, (n, ()))))))), (1048576, ()))
  obtain ⟨r, h1, h2⟩ := HappenOk_both 41 (by decide) kd id at' dst t a n
  simp only [hm, toHappen_is, h1, h2, Option.bind_some]
  split <;> simp
open Go.ChangeShapes Go.WideShapes Go.ChangeAt Go.RowKit
theorem own_FnExactHappenOk : ownKnob Try.prog.godebug = none := by kernel_rfl
theorem lifted_FnExactHappenOk (os : Os) (started : os.Started) (H : Type) (enc : TypeId × Value → H) :
    ReturnsInHanded {} Try.checked os 7 .any (Rows.fnExactHappenOkSpec.pre6 enc Try.prog Try.f7 Rows.fnExactHappenOkRow.domain false) (Rows.fnExactHappenOkSpec.post enc Try.prog Try.f7 false true false false) :=
  law_lifted (C := Try.checked) (l := pars_FnExactHappenOk) (rb := 4) own_FnExactHappenOk started (by kernel_rfl) Try.func7
    (ChangeSpec.witness6 (enc := enc) (C := Try.checked) false ⟨#[], #[.agg #[.int .i64 0, .int .i64 0, .int .i64 0, .int .i64 0, .string ByteArray.empty, .int .i64 0, .int .i64 0]], []⟩ 8 (by kernel_rfl) (by kernel_rfl) (by kernel_rfl) (by kernel_rfl))
    e_w_FnExactHappenOk rfl (by decide) pure_FnExactHappenOk (by kernel_rfl) rfl Try.underlying4 (by kernel_rfl) (by kernel_rfl) rfl
    (fun ds h => match ds, h with | [_], _ => rfl)
theorem fnExactHappenOk_holds : Rows.FnExactHappenOkSaid :=
  OpenClaim.holds_of_wide 7 Try.f7 rfl rfl rfl rfl rfl rfl rfl ⟨rfl, rfl, rfl, rfl, rfl⟩ rfl rfl rfl rfl rfl (by kernel_rfl) Try.func7 (by kernel_rfl) (of_decide_eq_true (by kernel_rfl))
    (by unfold Func.isWrapper; first | (rw [if_pos (by decide +kernel)]; kernel_rfl) | (rw [if_neg (by decide +kernel)]; exact ⟨rfl, rfl⟩)) (fun os started H enc _ => lifted_FnExactHappenOk os started H enc)
#print axioms fnExactHappenOk_holds
end Go.Proofs.Ytodnoiblplnpcaa
