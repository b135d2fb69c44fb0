import Derived.Test.YtbplkcabblnhdaaGreatRows
import Derived.Test.YtbplkcabblnhdaaGreatFun5
import Derived.Test.YtbplkcabblnhdaaGreatBase
import Derived.Test.YtbplkcabblnhdaaGreatFacts
import Derived.WalkKit
import Derived.ProofKit
import Derived.OpenShut
import Derived.ShutString
import Derived.ChangeOld
import Derived.Below
import Derived.SizedLaws
/- FnExactSoundLife answers true for every input, and its arguments read behind the call as they did ahead of it. Conditions: none. -/
set_option linter.unusedVariables false
namespace Go.Proofs.YtbplkcabblnhdaaGreat
open Go Go.Eng Go.Proofs
abbrev pars_FnExactSoundLife : List Par := [(true, (.pair (.pair (.pair (.pair (.int .i64) (.int .i64)) (.pair (.list (.pair (.int .i64) (.pair (.int .i64) (.int .i64)))) (.list (.pair (.int .i64) (.int .i64))))) (.pair (.list (.pair (.pair (.int .i64) (.int .i64)) (.int .i64))) (.list (.pair (.int .i64) (.pair (.int .i64) (.pair (.pair (.pair (.int .i64) (.pair .str (.pair .str (.pair (.int .i64) (.pair (.list (.int .i64)) (.int .i64)))))) (.pair (.int .i64) (.pair .str (.pair .str (.pair (.int .i64) (.pair (.list (.int .i64)) (.int .i64))))))) (.pair (.list (.pair (.int .i64) (.pair (.int .i64) (.pair (.int .i64) (.pair (.list .str) (.pair (.list .bool) (.int .i64))))))) (.int .i64)))))))) (.pair (.list (.pair (.int .i64) (.pair (.int .i64) (.pair (.pair (.pair (.int .i64) (.pair .str (.pair .str (.pair (.int .i64) (.pair (.list (.int .i64)) (.int .i64)))))) (.pair (.int .i64) (.pair .str (.pair .str (.pair (.int .i64) (.pair (.list (.int .i64)) (.int .i64))))))) (.pair (.list (.pair (.int .i64) (.pair (.int .i64) (.pair (.int .i64) (.pair (.list .str) (.pair (.list .bool) (.int .i64))))))) (.int .i64)))))) (.pair (.list (.int .i64)) (.pair (.int .i64) (.pair (.list (.pair (.int .i64) (.pair (.int .i64) (.pair .bool (.pair (.int .i64) (.pair (.int .i64) (.pair (.int .i64) (.pair (.int .i64) (.pair (.int .i64) (.pair (.list (.int .i64)) .str)))))))))) (.pair (.int .i64) (.pair (.list (.pair (.int .i64) (.pair (.int .i64) (.pair (.int .i64) .str)))) (.pair (.list (.pair (.int .i64) (.pair (.int .i64) (.pair (.int .i64) .str)))) (.pair (.int .i64) (.list (.pair (.int .i64) (.pair .bool (.pair (.int .i64) (.int .i64)))))))))))))))]
theorem l01In_is (k : Nat) (a b c : Int) : s_l01In k (a, (b, (c, ()))) = some (decide (b ≤ a ∧ a ≤ c), ((), ((), ((), ())))) := by
  unfold s_l01In
  by_cases h : b ≤ a <;> simp [h]
theorem within_is (k : Nat) (a b c : Int) : i_within k (a, (b, (c, ()))) = some (decide (b ≤ a ∧ a ≤ c), ((), ((), ((), ())))) := l01In_is k a b c
theorem s_AddrOk_is (k : Nat) (a : Int) : s_AddrOk k (a, ()) = some (decide (0 ≤ a ∧ a ≤ 4294967295), ((), ())) := by
  unfold s_AddrOk
  rw [l01In_is]
  rfl
theorem i_AddrOk_is (k : Nat) (a : Int) : i_AddrOk k (a, ()) = some (decide (0 ≤ a ∧ a ≤ 4294967295), ((), ())) := s_AddrOk_is k a
theorem pow_cast (n : Nat) : ((2 ^ n : Nat) : Int) = (2 : Int) ^ n := by simp
theorem l08Size_is (k : Nat) (n : Int) (h : 0 ≤ n ∧ n ≤ 32) (hk : 40 < k) : s_l08Size k (n, ()) = some ((2 : Int) ^ (32 - n.toNat), ((), ())) := by
  unfold s_l08Size
  rw [whileK_run (fun y => 32 - y.2.1.toNat) (fun y => 0 ≤ y.2.1 ∧ y.2.1 ≤ 32 ∧ 0 ≤ y.1 ∧ y.1 * 2 ^ (32 - y.2.1.toNat) ≤ 4294967296) (fun y => (y.1 * 2 ^ (32 - y.2.1.toNat), ((), ()))) ?_ k]
  · simp
  · refine ⟨h.1, h.2, by simp, ?_⟩
    show (1 : Int) * 2 ^ (32 - n.toNat) ≤ 4294967296
    have : (2 : Nat) ^ (32 - n.toNat) ≤ 2 ^ 32 := Nat.pow_le_pow_right (by decide) (by omega)
    have : ((2 ^ (32 - n.toNat) : Nat) : Int) ≤ ((2 ^ 32 : Nat) : Int) := Int.ofNat_le.2 this
    rw [Int.one_mul, ← pow_cast]
    exact this
  · show 32 - n.toNat < k
    omega
  · rintro ⟨a, i, u⟩ ⟨h1, h2, h3, h4⟩ again hg
    simp only at h1 h2 h3 h4
    by_cases hi : i < 32
    · have e : 32 - i.toNat = (32 - (i + 1).toNat) + 1 := by omega
      rw [e, Int.pow_succ] at h4
      have hp : (1 : Int) ≤ 2 ^ (32 - (i + 1).toNat) := by
        have : 0 < (2 : Nat) ^ (32 - (i + 1).toNat) := Nat.two_pow_pos _
        rw [← pow_cast]
        omega
      have ha : a ≤ a * 2 ^ (32 - (i + 1).toNat) := by
        have := Int.mul_le_mul_of_nonneg_left hp h3
        omega
      have h4' : a * 2 ^ (32 - (i + 1).toNat) * 2 ≤ 4294967296 := by rw [Int.mul_assoc]; exact h4
      have w1 : wi64 (2 * a) = 2 * a := w64_id _ (by omega)
      have w2 : wi64 (i + 1) = i + 1 := w64_id _ (by omega)
      have := hg (2 * a, (i + 1, ())) ⟨by simp only; omega, by simp only; omega, by simp only; omega, by
        show 2 * a * 2 ^ (32 - (i + 1).toNat) ≤ _
        rw [Int.mul_assoc, Int.mul_comm]
        exact h4'⟩ (by simp only; omega)
      simp only [hi, decide_true, if_true, w1, w2, this]
      rw [e, Int.pow_succ]
      congr 2
      rw [Int.mul_comm 2 a, Int.mul_assoc, Int.mul_comm 2]
    · have : i = 32 := by omega
      subst this
      simp
theorem lastBits_is (k : Nat) (n : Int) (h : 0 ≤ n ∧ n ≤ 32) : i_lastBits k (n, ()) = some ((2 : Int) ^ (32 - n.toNat) - 1, ((), ())) := by
  unfold i_lastBits
  have w : wi64 (32 - n) = 32 - n := w64_id _ (by omega)
  have hp : (2 : Nat) ^ (32 - n.toNat) ≤ 2 ^ 32 := Nat.pow_le_pow_right (by decide) (by omega)
  have hp : ((2 ^ (32 - n.toNat) : Nat) : Int) ≤ ((2 ^ 32 : Nat) : Int) := Int.ofNat_le.2 hp
  have h32 : ((2 ^ 32 : Nat) : Int) = 4294967296 := rfl
  have h0 : 0 < (2 : Nat) ^ (32 - n.toNat) := Nat.two_pow_pos _
  have h0 : (1 : Int) ≤ ((2 ^ (32 - n.toNat) : Nat) : Int) := by omega
  have e : (min (Int.toNat (32 - n)) (IntKind.bits .i64)) = 32 - n.toNat := by show min (Int.toNat (32 - n)) 64 = _; omega
  rw [pow_cast] at hp h0
  simp only [w, e]
  rw [if_neg (by omega), Int.one_mul]
  have w2 : wi64 ((2 : Int) ^ (32 - n.toNat)) = (2 : Int) ^ (32 - n.toNat) := w64_id _ (by omega)
  rw [w2]
  have w3 : wi64 ((2 : Int) ^ (32 - n.toNat) - 1) = (2 : Int) ^ (32 - n.toNat) - 1 := w64_id _ (by omega)
  rw [w3]
theorem s_PrefixOk_is (k : Nat) (a n : Int) (hk : 40 < k) : s_PrefixOk k ((a, (n, ())), ()) = some (decide ((0 ≤ a ∧ a ≤ 4294967295) ∧ (0 ≤ n ∧ n ≤ 32) ∧ a % 2 ^ (32 - n.toNat) = 0), ((), ())) := by
  unfold s_PrefixOk
  simp only [s_AddrOk_is, l01In_is, Option.bind_some]
  by_cases h : 0 ≤ a ∧ a ≤ 4294967295
  · by_cases h' : 0 ≤ n ∧ n ≤ 32
    · simp only [l08Size_is k n h' hk, Option.bind_some]
      have h0 : ¬ (2 : Int) ^ (32 - n.toNat) = 0 := by
        have h0 : 0 < (2 : Nat) ^ (32 - n.toNat) := Nat.two_pow_pos _
        rw [← pow_cast]
        omega
      rw [if_neg h0, Int.tmod_eq_emod_of_nonneg h.1]
      simp [h, h']
    · simp [h, h']
  · simp [h]
theorem i_PrefixOk_is (k : Nat) (a n : Int) : i_PrefixOk k ((a, (n, ())), ()) = some (decide ((0 ≤ a ∧ a ≤ 4294967295) ∧ (0 ≤ n ∧ n ≤ 32) ∧ a % 2 ^ (32 - n.toNat) = 0), ((), ())) := by
  unfold i_PrefixOk
  simp only [i_AddrOk_is, within_is, Option.bind_some]
  by_cases h : 0 ≤ a ∧ a ≤ 4294967295
  · by_cases h' : 0 ≤ n ∧ n ≤ 32
    · simp only [lastBits_is k n h', Option.bind_some]
      rw [and_mask _ (by omega) a h.1 (by omega)]
      simp [h, h']
    · simp [h, h']
  · simp [h]
abbrev RT_Lease : Ty := (.pair (.int .i64) (.pair (.int .i64) (.int .i64)))
def ag_Lease (r : RT_Lease.den) : Int × Int × Int × Unit := (r.1, (r.2.1, (r.2.2, ())))
theorem ag_Lease_inj (r r' : RT_Lease.den) : (ag_Lease r = ag_Lease r') ↔ r = r' := by
  constructor
  · intro h
    obtain ⟨x0, ⟨x1, x2⟩⟩ := r
    obtain ⟨y0, ⟨y1, y2⟩⟩ := r'
    simp only [ag_Lease, Prod.mk.injEq, and_true] at h
    simp only [Prod.mk.injEq]
    simp_all
  · intro h
    rw [h]
def Wf_Lease (x : Int × Int × Int × Unit) : Prop := True
def Bd_Lease (x : Int × Int × Int × Unit) : Prop := True
def Wf_LeaseS (a : List (Int × Int × Int)) : Prop := a.length ≤ 9223372036854775807 ∧ ∀ r ∈ a, Wf_Lease (ag_Lease r)
def Bd_LeaseS (a : List (Int × Int × Int)) : Prop := a.length ≤ 1048576 ∧ ∀ r ∈ a, Bd_Lease (ag_Lease r)
abbrev RT_Fixed : Ty := (.pair (.int .i64) (.int .i64))
def ag_Fixed (r : RT_Fixed.den) : Int × Int × Unit := (r.1, (r.2, ()))
theorem ag_Fixed_inj (r r' : RT_Fixed.den) : (ag_Fixed r = ag_Fixed r') ↔ r = r' := by
  constructor
  · intro h
    obtain ⟨x0, x1⟩ := r
    obtain ⟨y0, y1⟩ := r'
    simp only [ag_Fixed, Prod.mk.injEq, and_true] at h
    simp only [Prod.mk.injEq]
    simp_all
  · intro h
    rw [h]
def Wf_Fixed (x : Int × Int × Unit) : Prop := True
def Bd_Fixed (x : Int × Int × Unit) : Prop := True
def Wf_FixedS (a : List (Int × Int)) : Prop := a.length ≤ 9223372036854775807 ∧ ∀ r ∈ a, Wf_Fixed (ag_Fixed r)
def Bd_FixedS (a : List (Int × Int)) : Prop := a.length ≤ 1048576 ∧ ∀ r ∈ a, Bd_Fixed (ag_Fixed r)
abbrev RT_Route : Ty := (.pair (.pair (.int .i64) (.int .i64)) (.int .i64))
def ag_Route (r : RT_Route.den) : Int × Int × Int × Unit := (r.1.1, (r.1.2, (r.2, ())))
theorem ag_Route_inj (r r' : RT_Route.den) : (ag_Route r = ag_Route r') ↔ r = r' := by
  constructor
  · intro h
    obtain ⟨⟨x0, x1⟩, x2⟩ := r
    obtain ⟨⟨y0, y1⟩, y2⟩ := r'
    simp only [ag_Route, Prod.mk.injEq, and_true] at h
    simp only [Prod.mk.injEq]
    simp_all
  · intro h
    rw [h]
def Wf_Route (x : Int × Int × Int × Unit) : Prop := True
def Bd_Route (x : Int × Int × Int × Unit) : Prop := True
def Wf_RouteS (a : List ((Int × Int) × Int)) : Prop := a.length ≤ 9223372036854775807 ∧ ∀ r ∈ a, Wf_Route (ag_Route r)
def Bd_RouteS (a : List ((Int × Int) × Int)) : Prop := a.length ≤ 1048576 ∧ ∀ r ∈ a, Bd_Route (ag_Route r)
abbrev RT_User : Ty := (.pair (.int .i64) (.pair (.int .i64) (.pair (.pair (.pair (.int .i64) (.pair .str (.pair .str (.pair (.int .i64) (.pair (.list (.int .i64)) (.int .i64)))))) (.pair (.int .i64) (.pair .str (.pair .str (.pair (.int .i64) (.pair (.list (.int .i64)) (.int .i64))))))) (.pair (.list (.pair (.int .i64) (.pair (.int .i64) (.pair (.int .i64) (.pair (.list .str) (.pair (.list .bool) (.int .i64))))))) (.int .i64)))))
def ag_User (r : RT_User.den) : Int × Int × Int × ByteArray × ByteArray × Int × List (Int) × Int × Int × ByteArray × ByteArray × Int × List (Int) × Int × (List (Int × Int × Int × List (ByteArray) × List (Bool) × Int)) × Int × Unit := (r.1, (r.2.1, (r.2.2.1.1.1, (r.2.2.1.1.2.1, (r.2.2.1.1.2.2.1, (r.2.2.1.1.2.2.2.1, (r.2.2.1.1.2.2.2.2.1, (r.2.2.1.1.2.2.2.2.2, (r.2.2.1.2.1, (r.2.2.1.2.2.1, (r.2.2.1.2.2.2.1, (r.2.2.1.2.2.2.2.1, (r.2.2.1.2.2.2.2.2.1, (r.2.2.1.2.2.2.2.2.2, (r.2.2.2.1, (r.2.2.2.2, ()))))))))))))))))
theorem ag_User_inj (r r' : RT_User.den) : (ag_User r = ag_User r') ↔ r = r' := by
  constructor
  · intro h
    obtain ⟨x0, ⟨x1, ⟨⟨⟨x2, ⟨x3, ⟨x4, ⟨x5, ⟨x6, x7⟩⟩⟩⟩⟩, ⟨x8, ⟨x9, ⟨x10, ⟨x11, ⟨x12, x13⟩⟩⟩⟩⟩⟩, ⟨x14, x15⟩⟩⟩⟩ := r
    obtain ⟨y0, ⟨y1, ⟨⟨⟨y2, ⟨y3, ⟨y4, ⟨y5, ⟨y6, y7⟩⟩⟩⟩⟩, ⟨y8, ⟨y9, ⟨y10, ⟨y11, ⟨y12, y13⟩⟩⟩⟩⟩⟩, ⟨y14, y15⟩⟩⟩⟩ := r'
    simp only [ag_User, Prod.mk.injEq, and_true] at h
    simp only [Prod.mk.injEq]
    simp_all
  · intro h
    rw [h]
def Wf_IntS (a : List (Int)) : Prop := a.length ≤ 9223372036854775807
def Bd_IntS (a : List (Int)) : Prop := a.length ≤ 1048576
abbrev RT_Held : Ty := (.pair (.int .i64) (.pair (.int .i64) (.pair (.int .i64) (.pair (.list .str) (.pair (.list .bool) (.int .i64))))))
def ag_Held (r : RT_Held.den) : Int × Int × Int × List (ByteArray) × List (Bool) × Int × Unit := (r.1, (r.2.1, (r.2.2.1, (r.2.2.2.1, (r.2.2.2.2.1, (r.2.2.2.2.2, ()))))))
theorem ag_Held_inj (r r' : RT_Held.den) : (ag_Held r = ag_Held r') ↔ r = r' := by
  constructor
  · intro h
    obtain ⟨x0, ⟨x1, ⟨x2, ⟨x3, ⟨x4, x5⟩⟩⟩⟩⟩ := r
    obtain ⟨y0, ⟨y1, ⟨y2, ⟨y3, ⟨y4, y5⟩⟩⟩⟩⟩ := r'
    simp only [ag_Held, Prod.mk.injEq, and_true] at h
    simp only [Prod.mk.injEq]
    simp_all
  · intro h
    rw [h]
def Wf_StringS (a : List (ByteArray)) : Prop := a.length ≤ 9223372036854775807 ∧ ∀ r ∈ a, ByteArray.size r ≤ 9223372036854775807
def Bd_StringS (a : List (ByteArray)) : Prop := a.length ≤ 1048576
def Wf_BoolS (a : List (Bool)) : Prop := a.length ≤ 9223372036854775807
def Bd_BoolS (a : List (Bool)) : Prop := a.length ≤ 1048576
def Wf_Held (x : Int × Int × Int × List (ByteArray) × List (Bool) × Int × Unit) : Prop := Wf_StringS x.2.2.2.1 ∧ Wf_BoolS x.2.2.2.2.1 ∧ True
def Bd_Held (x : Int × Int × Int × List (ByteArray) × List (Bool) × Int × Unit) : Prop := Bd_StringS x.2.2.2.1 ∧ Bd_BoolS x.2.2.2.2.1 ∧ True
def Wf_HeldS (a : List (Int × Int × Int × List (ByteArray) × List (Bool) × Int)) : Prop := a.length ≤ 9223372036854775807 ∧ ∀ r ∈ a, Wf_Held (ag_Held r)
def Bd_HeldS (a : List (Int × Int × Int × List (ByteArray) × List (Bool) × Int)) : Prop := a.length ≤ 1048576 ∧ ∀ r ∈ a, Bd_Held (ag_Held r)
def Wf_User (x : Int × Int × Int × ByteArray × ByteArray × Int × List (Int) × Int × Int × ByteArray × ByteArray × Int × List (Int) × Int × (List (Int × Int × Int × List (ByteArray) × List (Bool) × Int)) × Int × Unit) : Prop := ByteArray.size x.2.2.2.1 ≤ 9223372036854775807 ∧ ByteArray.size x.2.2.2.2.1 ≤ 9223372036854775807 ∧ Wf_IntS x.2.2.2.2.2.2.1 ∧ ByteArray.size x.2.2.2.2.2.2.2.2.2.1 ≤ 9223372036854775807 ∧ ByteArray.size x.2.2.2.2.2.2.2.2.2.2.1 ≤ 9223372036854775807 ∧ Wf_IntS x.2.2.2.2.2.2.2.2.2.2.2.2.1 ∧ Wf_HeldS x.2.2.2.2.2.2.2.2.2.2.2.2.2.2.1 ∧ True
def Bd_User (x : Int × Int × Int × ByteArray × ByteArray × Int × List (Int) × Int × Int × ByteArray × ByteArray × Int × List (Int) × Int × (List (Int × Int × Int × List (ByteArray) × List (Bool) × Int)) × Int × Unit) : Prop := ByteArray.size x.2.2.2.1 ≤ 1048576 ∧ ByteArray.size x.2.2.2.2.1 ≤ 1048576 ∧ Bd_IntS x.2.2.2.2.2.2.1 ∧ ByteArray.size x.2.2.2.2.2.2.2.2.2.1 ≤ 1048576 ∧ ByteArray.size x.2.2.2.2.2.2.2.2.2.2.1 ≤ 1048576 ∧ Bd_IntS x.2.2.2.2.2.2.2.2.2.2.2.2.1 ∧ Bd_HeldS x.2.2.2.2.2.2.2.2.2.2.2.2.2.2.1 ∧ True
def Wf_UserS (a : List (Int × Int × ((Int × ByteArray × ByteArray × Int × List (Int) × Int) × Int × ByteArray × ByteArray × Int × List (Int) × Int) × List (Int × Int × Int × List (ByteArray) × List (Bool) × Int) × Int)) : Prop := a.length ≤ 9223372036854775807 ∧ ∀ r ∈ a, Wf_User (ag_User r)
def Bd_UserS (a : List (Int × Int × ((Int × ByteArray × ByteArray × Int × List (Int) × Int) × Int × ByteArray × ByteArray × Int × List (Int) × Int) × List (Int × Int × Int × List (ByteArray) × List (Bool) × Int) × Int)) : Prop := a.length ≤ 1048576 ∧ ∀ r ∈ a, Bd_User (ag_User r)
abbrev RT_Flight : Ty := (.pair (.int .i64) (.pair (.int .i64) (.pair .bool (.pair (.int .i64) (.pair (.int .i64) (.pair (.int .i64) (.pair (.int .i64) (.pair (.int .i64) (.pair (.list (.int .i64)) .str)))))))))
def ag_Flight (r : RT_Flight.den) : Int × Int × Bool × Int × Int × Int × Int × Int × List (Int) × ByteArray × Unit := (r.1, (r.2.1, (r.2.2.1, (r.2.2.2.1, (r.2.2.2.2.1, (r.2.2.2.2.2.1, (r.2.2.2.2.2.2.1, (r.2.2.2.2.2.2.2.1, (r.2.2.2.2.2.2.2.2.1, (r.2.2.2.2.2.2.2.2.2, ()))))))))))
theorem ag_Flight_inj (r r' : RT_Flight.den) : (ag_Flight r = ag_Flight r') ↔ r = r' := by
  constructor
  · intro h
    obtain ⟨x0, ⟨x1, ⟨x2, ⟨x3, ⟨x4, ⟨x5, ⟨x6, ⟨x7, ⟨x8, x9⟩⟩⟩⟩⟩⟩⟩⟩⟩ := r
    obtain ⟨y0, ⟨y1, ⟨y2, ⟨y3, ⟨y4, ⟨y5, ⟨y6, ⟨y7, ⟨y8, y9⟩⟩⟩⟩⟩⟩⟩⟩⟩ := r'
    simp only [ag_Flight, Prod.mk.injEq, and_true] at h
    simp only [Prod.mk.injEq]
    simp_all
  · intro h
    rw [h]
def Wf_Flight (x : Int × Int × Bool × Int × Int × Int × Int × Int × List (Int) × ByteArray × Unit) : Prop := Wf_IntS x.2.2.2.2.2.2.2.2.1 ∧ ByteArray.size x.2.2.2.2.2.2.2.2.2.1 ≤ 9223372036854775807 ∧ True
def Bd_Flight (x : Int × Int × Bool × Int × Int × Int × Int × Int × List (Int) × ByteArray × Unit) : Prop := Bd_IntS x.2.2.2.2.2.2.2.2.1 ∧ ByteArray.size x.2.2.2.2.2.2.2.2.2.1 ≤ 1048576 ∧ True
def Wf_FlightS (a : List (Int × Int × Bool × Int × Int × Int × Int × Int × List (Int) × ByteArray)) : Prop := a.length ≤ 9223372036854775807 ∧ ∀ r ∈ a, Wf_Flight (ag_Flight r)
def Bd_FlightS (a : List (Int × Int × Bool × Int × Int × Int × Int × Int × List (Int) × ByteArray)) : Prop := a.length ≤ 1048576 ∧ ∀ r ∈ a, Bd_Flight (ag_Flight r)
abbrev RT_Carried : Ty := (.pair (.int .i64) (.pair (.int .i64) (.pair (.int .i64) .str)))
def ag_Carried (r : RT_Carried.den) : Int × Int × Int × ByteArray × Unit := (r.1, (r.2.1, (r.2.2.1, (r.2.2.2, ()))))
theorem ag_Carried_inj (r r' : RT_Carried.den) : (ag_Carried r = ag_Carried r') ↔ r = r' := by
  constructor
  · intro h
    obtain ⟨x0, ⟨x1, ⟨x2, x3⟩⟩⟩ := r
    obtain ⟨y0, ⟨y1, ⟨y2, y3⟩⟩⟩ := r'
    simp only [ag_Carried, Prod.mk.injEq, and_true] at h
    simp only [Prod.mk.injEq]
    simp_all
  · intro h
    rw [h]
def Wf_Carried (x : Int × Int × Int × ByteArray × Unit) : Prop := ByteArray.size x.2.2.2.1 ≤ 9223372036854775807 ∧ True
def Bd_Carried (x : Int × Int × Int × ByteArray × Unit) : Prop := ByteArray.size x.2.2.2.1 ≤ 1048576 ∧ True
def Wf_CarriedS (a : List (Int × Int × Int × ByteArray)) : Prop := a.length ≤ 9223372036854775807 ∧ ∀ r ∈ a, Wf_Carried (ag_Carried r)
def Bd_CarriedS (a : List (Int × Int × Int × ByteArray)) : Prop := a.length ≤ 1048576 ∧ ∀ r ∈ a, Bd_Carried (ag_Carried r)
abbrev RT_Sealing : Ty := (.pair (.int .i64) (.pair .bool (.pair (.int .i64) (.int .i64))))
def ag_Sealing (r : RT_Sealing.den) : Int × Bool × Int × Int × Unit := (r.1, (r.2.1, (r.2.2.1, (r.2.2.2, ()))))
theorem ag_Sealing_inj (r r' : RT_Sealing.den) : (ag_Sealing r = ag_Sealing r') ↔ r = r' := by
  constructor
  · intro h
    obtain ⟨x0, ⟨x1, ⟨x2, x3⟩⟩⟩ := r
    obtain ⟨y0, ⟨y1, ⟨y2, y3⟩⟩⟩ := r'
    simp only [ag_Sealing, Prod.mk.injEq, and_true] at h
    simp only [Prod.mk.injEq]
    simp_all
  · intro h
    rw [h]
def Wf_Sealing (x : Int × Bool × Int × Int × Unit) : Prop := True
def Bd_Sealing (x : Int × Bool × Int × Int × Unit) : Prop := True
def Wf_SealingS (a : List (Int × Bool × Int × Int)) : Prop := a.length ≤ 9223372036854775807 ∧ ∀ r ∈ a, Wf_Sealing (ag_Sealing r)
def Bd_SealingS (a : List (Int × Bool × Int × Int)) : Prop := a.length ≤ 1048576 ∧ ∀ r ∈ a, Bd_Sealing (ag_Sealing r)
def Wf_Life (x : Int × Int × (List (Int × Int × Int)) × (List (Int × Int)) × (List ((Int × Int) × Int)) × (List (Int × Int × ((Int × ByteArray × ByteArray × Int × List (Int) × Int) × Int × ByteArray × ByteArray × Int × List (Int) × Int) × List (Int × Int × Int × List (ByteArray) × List (Bool) × Int) × Int)) × (List (Int × Int × ((Int × ByteArray × ByteArray × Int × List (Int) × Int) × Int × ByteArray × ByteArray × Int × List (Int) × Int) × List (Int × Int × Int × List (ByteArray) × List (Bool) × Int) × Int)) × List (Int) × Int × (List (Int × Int × Bool × Int × Int × Int × Int × Int × List (Int) × ByteArray)) × Int × (List (Int × Int × Int × ByteArray)) × (List (Int × Int × Int × ByteArray)) × Int × (List (Int × Bool × Int × Int)) × Unit) : Prop := Wf_LeaseS x.2.2.1 ∧ Wf_FixedS x.2.2.2.1 ∧ Wf_RouteS x.2.2.2.2.1 ∧ Wf_UserS x.2.2.2.2.2.1 ∧ Wf_UserS x.2.2.2.2.2.2.1 ∧ Wf_IntS x.2.2.2.2.2.2.2.1 ∧ Wf_FlightS x.2.2.2.2.2.2.2.2.2.1 ∧ Wf_CarriedS x.2.2.2.2.2.2.2.2.2.2.2.1 ∧ Wf_CarriedS x.2.2.2.2.2.2.2.2.2.2.2.2.1 ∧ Wf_SealingS x.2.2.2.2.2.2.2.2.2.2.2.2.2.2.1 ∧ True
def Bd_Life (x : Int × Int × (List (Int × Int × Int)) × (List (Int × Int)) × (List ((Int × Int) × Int)) × (List (Int × Int × ((Int × ByteArray × ByteArray × Int × List (Int) × Int) × Int × ByteArray × ByteArray × Int × List (Int) × Int) × List (Int × Int × Int × List (ByteArray) × List (Bool) × Int) × Int)) × (List (Int × Int × ((Int × ByteArray × ByteArray × Int × List (Int) × Int) × Int × ByteArray × ByteArray × Int × List (Int) × Int) × List (Int × Int × Int × List (ByteArray) × List (Bool) × Int) × Int)) × List (Int) × Int × (List (Int × Int × Bool × Int × Int × Int × Int × Int × List (Int) × ByteArray)) × Int × (List (Int × Int × Int × ByteArray)) × (List (Int × Int × Int × ByteArray)) × Int × (List (Int × Bool × Int × Int)) × Unit) : Prop := Bd_LeaseS x.2.2.1 ∧ Bd_FixedS x.2.2.2.1 ∧ Bd_RouteS x.2.2.2.2.1 ∧ Bd_UserS x.2.2.2.2.2.1 ∧ Bd_UserS x.2.2.2.2.2.2.1 ∧ Bd_IntS x.2.2.2.2.2.2.2.1 ∧ Bd_FlightS x.2.2.2.2.2.2.2.2.2.1 ∧ Bd_CarriedS x.2.2.2.2.2.2.2.2.2.2.2.1 ∧ Bd_CarriedS x.2.2.2.2.2.2.2.2.2.2.2.2.1 ∧ Bd_SealingS x.2.2.2.2.2.2.2.2.2.2.2.2.2.2.1 ∧ True
def Wf_Hub (x : Int × Int × (List (Int × Int × Int)) × (List (Int × Int)) × (List ((Int × Int) × Int)) × (List (Int × Int × ((Int × ByteArray × ByteArray × Int × List (Int) × Int) × Int × ByteArray × ByteArray × Int × List (Int) × Int) × List (Int × Int × Int × List (ByteArray) × List (Bool) × Int) × Int)) × Unit) : Prop := Wf_LeaseS x.2.2.1 ∧ Wf_FixedS x.2.2.2.1 ∧ Wf_RouteS x.2.2.2.2.1 ∧ Wf_UserS x.2.2.2.2.2.1 ∧ True
def Bd_Hub (x : Int × Int × (List (Int × Int × Int)) × (List (Int × Int)) × (List ((Int × Int) × Int)) × (List (Int × Int × ((Int × ByteArray × ByteArray × Int × List (Int) × Int) × Int × ByteArray × ByteArray × Int × List (Int) × Int) × List (Int × Int × Int × List (ByteArray) × List (Bool) × Int) × Int)) × Unit) : Prop := Bd_LeaseS x.2.2.1 ∧ Bd_FixedS x.2.2.2.1 ∧ Bd_RouteS x.2.2.2.2.1 ∧ Bd_UserS x.2.2.2.2.2.1 ∧ True
def Wf_Pool (x : Int × Int × (List (Int × Int × Int)) × (List (Int × Int)) × Unit) : Prop := Wf_LeaseS x.2.2.1 ∧ Wf_FixedS x.2.2.2.1 ∧ True
def Bd_Pool (x : Int × Int × (List (Int × Int × Int)) × (List (Int × Int)) × Unit) : Prop := Bd_LeaseS x.2.2.1 ∧ Bd_FixedS x.2.2.2.1 ∧ True
theorem szLeaseS_le (k : Nat) (a : List (Int × Int × Int)) (n : Int) (h : 0 ≤ n ∧ n ≤ 1048576) (hk : 1048576 < k) (hw : Wf_LeaseS a) : ∃ m : Int, w_szLeaseS k (a, (n, ())) = some (m, ((), ((), ()))) ∧ (0 ≤ m → m ≤ n ∧ Bd_LeaseS a) := by
  unfold w_szLeaseS
  have hl : a.length ≤ 9223372036854775807 := hw.1
  have e : wi64 (n - (List.length a : Int)) = n - (List.length a : Int) := w64_id _ (by omega)
  simp only [e]
  by_cases hc : n - (List.length a : Int) < 0
  · simp only [hc, decide_true, if_true]
    exact ⟨_, rfl, fun h => by omega⟩
  · simp only [hc, decide_false, Bool.false_eq_true, if_false]
    exact ⟨_, rfl, fun _ => ⟨by omega, ⟨by omega, fun r _ => by unfold Bd_Lease; simp⟩⟩⟩
theorem szFixedS_le (k : Nat) (a : List (Int × Int)) (n : Int) (h : 0 ≤ n ∧ n ≤ 1048576) (hk : 1048576 < k) (hw : Wf_FixedS a) : ∃ m : Int, w_szFixedS k (a, (n, ())) = some (m, ((), ((), ()))) ∧ (0 ≤ m → m ≤ n ∧ Bd_FixedS a) := by
  unfold w_szFixedS
  have hl : a.length ≤ 9223372036854775807 := hw.1
  have e : wi64 (n - (List.length a : Int)) = n - (List.length a : Int) := w64_id _ (by omega)
  simp only [e]
  by_cases hc : n - (List.length a : Int) < 0
  · simp only [hc, decide_true, if_true]
    exact ⟨_, rfl, fun h => by omega⟩
  · simp only [hc, decide_false, Bool.false_eq_true, if_false]
    exact ⟨_, rfl, fun _ => ⟨by omega, ⟨by omega, fun r _ => by unfold Bd_Fixed; simp⟩⟩⟩
theorem szPool_le (k : Nat) (x : Int × Int × (List (Int × Int × Int)) × (List (Int × Int)) × Unit) (n : Int) (h : 0 ≤ n ∧ n ≤ 1048576) (hk : 1048576 < k) (hw : Wf_Pool x) : ∃ m : Int, w_szPool k (x, (n, ())) = some (m, ((), ((), ()))) ∧ (0 ≤ m → m ≤ n ∧ Bd_Pool x) := by
  obtain ⟨a0, a1, a2, a3, u⟩ := x
  unfold w_szPool
  unfold Wf_Pool at hw
  unfold Bd_Pool
  simp only [] at hw ⊢
  obtain ⟨w2, w3, _⟩ := hw
  obtain ⟨m0, e0, b0⟩ := szLeaseS_le k a2 n ⟨by omega, by omega⟩ hk w2
  simp only [e0, Option.bind_some]
  by_cases c0 : m0 < 0
  · simp only [c0, decide_true, if_true]
    exact ⟨_, rfl, fun h => by omega⟩
  have d0 := b0 (by omega)
  simp only [c0, decide_false, Bool.false_eq_true, if_false]
  obtain ⟨m1, e1, b1⟩ := szFixedS_le k a3 m0 ⟨by omega, by omega⟩ hk w3
  simp only [e1, Option.bind_some]
  by_cases c1 : m1 < 0
  · simp only [c1, decide_true, if_true]
    exact ⟨_, rfl, fun h => by omega⟩
  have d1 := b1 (by omega)
  simp only [c1, decide_false, Bool.false_eq_true, if_false]
  exact ⟨_, rfl, fun _ => ⟨by omega, ⟨d0.2, d1.2, trivial⟩⟩⟩
theorem szRouteS_le (k : Nat) (a : List ((Int × Int) × Int)) (n : Int) (h : 0 ≤ n ∧ n ≤ 1048576) (hk : 1048576 < k) (hw : Wf_RouteS a) : ∃ m : Int, w_szRouteS k (a, (n, ())) = some (m, ((), ((), ()))) ∧ (0 ≤ m → m ≤ n ∧ Bd_RouteS a) := by
  unfold w_szRouteS
  have hl : a.length ≤ 9223372036854775807 := hw.1
  have e : wi64 (n - (List.length a : Int)) = n - (List.length a : Int) := w64_id _ (by omega)
  simp only [e]
  by_cases hc : n - (List.length a : Int) < 0
  · simp only [hc, decide_true, if_true]
    exact ⟨_, rfl, fun h => by omega⟩
  · simp only [hc, decide_false, Bool.false_eq_true, if_false]
    exact ⟨_, rfl, fun _ => ⟨by omega, ⟨by omega, fun r _ => by unfold Bd_Route; simp⟩⟩⟩
def Wf_Slots (x : Int × ByteArray × ByteArray × Int × List (Int) × Int × Int × ByteArray × ByteArray × Int × List (Int) × Int × Unit) : Prop := ByteArray.size x.2.1 ≤ 9223372036854775807 ∧ ByteArray.size x.2.2.1 ≤ 9223372036854775807 ∧ Wf_IntS x.2.2.2.2.1 ∧ ByteArray.size x.2.2.2.2.2.2.2.1 ≤ 9223372036854775807 ∧ ByteArray.size x.2.2.2.2.2.2.2.2.1 ≤ 9223372036854775807 ∧ Wf_IntS x.2.2.2.2.2.2.2.2.2.2.1 ∧ True
def Bd_Slots (x : Int × ByteArray × ByteArray × Int × List (Int) × Int × Int × ByteArray × ByteArray × Int × List (Int) × Int × Unit) : Prop := ByteArray.size x.2.1 ≤ 1048576 ∧ ByteArray.size x.2.2.1 ≤ 1048576 ∧ Bd_IntS x.2.2.2.2.1 ∧ ByteArray.size x.2.2.2.2.2.2.2.1 ≤ 1048576 ∧ ByteArray.size x.2.2.2.2.2.2.2.2.1 ≤ 1048576 ∧ Bd_IntS x.2.2.2.2.2.2.2.2.2.2.1 ∧ True
def Wf_Slot (x : Int × ByteArray × ByteArray × Int × List (Int) × Int × Unit) : Prop := ByteArray.size x.2.1 ≤ 9223372036854775807 ∧ ByteArray.size x.2.2.1 ≤ 9223372036854775807 ∧ Wf_IntS x.2.2.2.2.1 ∧ True
def Bd_Slot (x : Int × ByteArray × ByteArray × Int × List (Int) × Int × Unit) : Prop := ByteArray.size x.2.1 ≤ 1048576 ∧ ByteArray.size x.2.2.1 ≤ 1048576 ∧ Bd_IntS x.2.2.2.2.1 ∧ True
theorem szIntS_le (k : Nat) (a : List (Int)) (n : Int) (h : 0 ≤ n ∧ n ≤ 1048576) (hk : 1048576 < k) (hw : Wf_IntS a) : ∃ m : Int, w_szIntS k (a, (n, ())) = some (m, ((), ((), ()))) ∧ (0 ≤ m → m ≤ n ∧ Bd_IntS a) := by
  unfold w_szIntS
  have hl : a.length ≤ 9223372036854775807 := hw
  have e : wi64 (n - (List.length a : Int)) = n - (List.length a : Int) := w64_id _ (by omega)
  simp only [e]
  by_cases hc : n - (List.length a : Int) < 0
  · simp only [hc, decide_true, if_true]
    exact ⟨_, rfl, fun h => by omega⟩
  · simp only [hc, decide_false, Bool.false_eq_true, if_false]
    exact ⟨_, rfl, fun _ => ⟨by omega, by show a.length ≤ 1048576; omega⟩⟩
theorem szSlot_le (k : Nat) (x : Int × ByteArray × ByteArray × Int × List (Int) × Int × Unit) (n : Int) (h : 0 ≤ n ∧ n ≤ 1048576) (hk : 1048576 < k) (hw : Wf_Slot x) : ∃ m : Int, w_szSlot k (x, (n, ())) = some (m, ((), ((), ()))) ∧ (0 ≤ m → m ≤ n ∧ Bd_Slot x) := by
  obtain ⟨a0, a1, a2, a3, a4, a5, u⟩ := x
  unfold w_szSlot
  unfold Wf_Slot at hw
  unfold Bd_Slot
  simp only [] at hw ⊢
  obtain ⟨w1, w2, w4, _⟩ := hw
  have e0 : wi64 (n - (ByteArray.size a1 : Int)) = n - (ByteArray.size a1 : Int) := w64_id _ (by omega)
  simp only [e0]
  by_cases c0 : (n - (ByteArray.size a1 : Int)) < 0
  · simp only [c0, decide_true, if_true]
    exact ⟨_, rfl, fun h => by omega⟩
  simp only [c0, decide_false, Bool.false_eq_true, if_false]
  have e1 : wi64 ((n - (ByteArray.size a1 : Int)) - (ByteArray.size a2 : Int)) = (n - (ByteArray.size a1 : Int)) - (ByteArray.size a2 : Int) := w64_id _ (by omega)
  simp only [e1]
  by_cases c1 : ((n - (ByteArray.size a1 : Int)) - (ByteArray.size a2 : Int)) < 0
  · simp only [c1, decide_true, if_true]
    exact ⟨_, rfl, fun h => by omega⟩
  simp only [c1, decide_false, Bool.false_eq_true, if_false]
  obtain ⟨m2, e2, b2⟩ := szIntS_le k a4 ((n - (ByteArray.size a1 : Int)) - (ByteArray.size a2 : Int)) ⟨by omega, by omega⟩ hk w4
  simp only [e2, Option.bind_some]
  by_cases c2 : m2 < 0
  · simp only [c2, decide_true, if_true]
    exact ⟨_, rfl, fun h => by omega⟩
  have d2 := b2 (by omega)
  simp only [c2, decide_false, Bool.false_eq_true, if_false]
  exact ⟨_, rfl, fun _ => ⟨by omega, ⟨by omega, by omega, d2.2, trivial⟩⟩⟩
theorem szSlots_le (k : Nat) (x : Int × ByteArray × ByteArray × Int × List (Int) × Int × Int × ByteArray × ByteArray × Int × List (Int) × Int × Unit) (n : Int) (h : 0 ≤ n ∧ n ≤ 1048576) (hk : 1048576 < k) (hw : Wf_Slots x) : ∃ m : Int, w_szSlots k (x, (n, ())) = some (m, ((), ((), ()))) ∧ (0 ≤ m → m ≤ n ∧ Bd_Slots x) := by
  obtain ⟨a0, a1, a2, a3, a4, a5, a6, a7, a8, a9, a10, a11, u⟩ := x
  unfold w_szSlots
  unfold Wf_Slots at hw
  unfold Bd_Slots
  simp only [] at hw ⊢
  obtain ⟨w1, w2, w4, w7, w8, w10, _⟩ := hw
  obtain ⟨m0, e0, b0⟩ := szSlot_le k (a0, (a1, (a2, (a3, (a4, (a5, ())))))) n ⟨by omega, by omega⟩ hk ⟨w1, w2, w4, trivial⟩
  simp only [e0, Option.bind_some]
  by_cases c0 : m0 < 0
  · simp only [c0, decide_true, if_true]
    exact ⟨_, rfl, fun h => by omega⟩
  have d0 := b0 (by omega)
  simp only [c0, decide_false, Bool.false_eq_true, if_false]
  obtain ⟨m1, e1, b1⟩ := szSlot_le k (a6, (a7, (a8, (a9, (a10, (a11, ())))))) m0 ⟨by omega, by omega⟩ hk ⟨w7, w8, w10, trivial⟩
  simp only [e1, Option.bind_some]
  by_cases c1 : m1 < 0
  · simp only [c1, decide_true, if_true]
    exact ⟨_, rfl, fun h => by omega⟩
  have d1 := b1 (by omega)
  simp only [c1, decide_false, Bool.false_eq_true, if_false]
  exact ⟨_, rfl, fun _ => ⟨by omega, ⟨d0.2.1, d0.2.2.1, d0.2.2.2.1, d1.2.1, d1.2.2.1, d1.2.2.2.1, trivial⟩⟩⟩
def Wf_Shelf (x : (List (Int × Int × Int × List (ByteArray) × List (Bool) × Int)) × Unit) : Prop := Wf_HeldS x.1 ∧ True
def Bd_Shelf (x : (List (Int × Int × Int × List (ByteArray) × List (Bool) × Int)) × Unit) : Prop := Bd_HeldS x.1 ∧ True
theorem szStringS_le (k : Nat) (a : List (ByteArray)) (n : Int) (h : 0 ≤ n ∧ n ≤ 1048576) (hk : 1048576 < k) (hw : Wf_StringS a) : ∃ m : Int, w_szStringS k (a, (n, ())) = some (m, ((), ((), ()))) ∧ (0 ≤ m → m ≤ n ∧ Bd_StringS a) := by
  unfold w_szStringS
  have hl : a.length ≤ 9223372036854775807 := hw.1
  have e : wi64 (n - (List.length a : Int)) = n - (List.length a : Int) := w64_id _ (by omega)
  simp only [e]
  by_cases hc : n - (List.length a : Int) < 0
  · simp only [hc, decide_true, if_true]
    exact ⟨_, rfl, fun h => by omega⟩
  · simp only [hc, decide_false, Bool.false_eq_true, if_false]
    refine (loop_sz (t := .str) a (fun m => (m, ((), ((), ())))) (fun _ => True) ?_ ?_ (n - a.length) (by omega) (by omega) k (by omega)).imp fun m hm => ⟨hm.1, fun h0 => ⟨by have := (hm.2 h0).1; omega, by show a.length ≤ 1048576; omega⟩⟩
    · intro again n' i hn0 hn1 hi hl'
      have w : wi64 (i + 1) = i + 1 := w64_id _ (by omega)
      have hr := rd_get (t := .str) a i (by omega)
      have hs : ByteArray.size (Ty.rd (t := .str) a i) ≤ 9223372036854775807 := by rw [hr]; exact hw.2 _ (List.getElem_mem _)
      have w2 : wi64 (n' - (ByteArray.size (Ty.rd (t := .str) a i) : Int)) = n' - (ByteArray.size (Ty.rd (t := .str) a i) : Int) := w64_id _ (by omega)
      refine ⟨n' - (ByteArray.size (Ty.rd (t := .str) a i) : Int), fun hm => ⟨by omega, trivial⟩, ?_⟩
      simp only [hl', hi, w2, w, decide_true, and_self, if_true, decide_eq_true_eq]
    · intro again n' i hi
      have : ¬ i < (a.length : Int) := by omega
      simp [this]
theorem szBoolS_le (k : Nat) (a : List (Bool)) (n : Int) (h : 0 ≤ n ∧ n ≤ 1048576) (hk : 1048576 < k) (hw : Wf_BoolS a) : ∃ m : Int, w_szBoolS k (a, (n, ())) = some (m, ((), ((), ()))) ∧ (0 ≤ m → m ≤ n ∧ Bd_BoolS a) := by
  unfold w_szBoolS
  have hl : a.length ≤ 9223372036854775807 := hw
  have e : wi64 (n - (List.length a : Int)) = n - (List.length a : Int) := w64_id _ (by omega)
  simp only [e]
  by_cases hc : n - (List.length a : Int) < 0
  · simp only [hc, decide_true, if_true]
    exact ⟨_, rfl, fun h => by omega⟩
  · simp only [hc, decide_false, Bool.false_eq_true, if_false]
    exact ⟨_, rfl, fun _ => ⟨by omega, by show a.length ≤ 1048576; omega⟩⟩
theorem szHeld_le (k : Nat) (x : Int × Int × Int × List (ByteArray) × List (Bool) × Int × Unit) (n : Int) (h : 0 ≤ n ∧ n ≤ 1048576) (hk : 1048576 < k) (hw : Wf_Held x) : ∃ m : Int, w_szHeld k (x, (n, ())) = some (m, ((), ((), ()))) ∧ (0 ≤ m → m ≤ n ∧ Bd_Held x) := by
  obtain ⟨a0, a1, a2, a3, a4, a5, u⟩ := x
  unfold w_szHeld
  unfold Wf_Held at hw
  unfold Bd_Held
  simp only [] at hw ⊢
  obtain ⟨w3, w4, _⟩ := hw
  obtain ⟨m0, e0, b0⟩ := szStringS_le k a3 n ⟨by omega, by omega⟩ hk w3
  simp only [e0, Option.bind_some]
  by_cases c0 : m0 < 0
  · simp only [c0, decide_true, if_true]
    exact ⟨_, rfl, fun h => by omega⟩
  have d0 := b0 (by omega)
  simp only [c0, decide_false, Bool.false_eq_true, if_false]
  obtain ⟨m1, e1, b1⟩ := szBoolS_le k a4 m0 ⟨by omega, by omega⟩ hk w4
  simp only [e1, Option.bind_some]
  by_cases c1 : m1 < 0
  · simp only [c1, decide_true, if_true]
    exact ⟨_, rfl, fun h => by omega⟩
  have d1 := b1 (by omega)
  simp only [c1, decide_false, Bool.false_eq_true, if_false]
  exact ⟨_, rfl, fun _ => ⟨by omega, ⟨d0.2, d1.2, trivial⟩⟩⟩
theorem szHeldS_le (k : Nat) (a : List (Int × Int × Int × List (ByteArray) × List (Bool) × Int)) (n : Int) (h : 0 ≤ n ∧ n ≤ 1048576) (hk : 1048576 < k) (hw : Wf_HeldS a) : ∃ m : Int, w_szHeldS k (a, (n, ())) = some (m, ((), ((), ()))) ∧ (0 ≤ m → m ≤ n ∧ Bd_HeldS a) := by
  unfold w_szHeldS
  have hl : a.length ≤ 9223372036854775807 := hw.1
  have e : wi64 (n - (List.length a : Int)) = n - (List.length a : Int) := w64_id _ (by omega)
  simp only [e]
  by_cases hc : n - (List.length a : Int) < 0
  · simp only [hc, decide_true, if_true]
    exact ⟨_, rfl, fun h => by omega⟩
  · simp only [hc, decide_false, Bool.false_eq_true, if_false]
    refine (loop_sz (t := (.pair (.int .i64) (.pair (.int .i64) (.pair (.int .i64) (.pair (.list .str) (.pair (.list .bool) (.int .i64))))))) a (fun m => (m, ((), ((), ())))) (fun r => Bd_Held (ag_Held r)) ?_ ?_ (n - a.length) (by omega) (by omega) k (by omega)).imp fun m hm => ⟨hm.1, fun h0 => ⟨by have := (hm.2 h0).1; omega, ⟨by omega, (hm.2 h0).2⟩⟩⟩
    · intro again n' i hn0 hn1 hi hl'
      have w : wi64 (i + 1) = i + 1 := w64_id _ (by omega)
      have hr := rd_get (t := (.pair (.int .i64) (.pair (.int .i64) (.pair (.int .i64) (.pair (.list .str) (.pair (.list .bool) (.int .i64))))))) a i (by omega)
      obtain ⟨m, e1, e2⟩ := szHeld_le k (ag_Held (Ty.rd (t := (.pair (.int .i64) (.pair (.int .i64) (.pair (.int .i64) (.pair (.list .str) (.pair (.list .bool) (.int .i64))))))) a i)) n' ⟨hn0, hn1⟩ hk (by rw [hr]; exact hw.2 _ (List.getElem_mem _))
      simp only [ag_Held] at e1
      refine ⟨m, fun hm => e2 hm, ?_⟩
      simp only [hl', hi, e1, w, decide_true, and_self, if_true, Option.bind_some, decide_eq_true_eq]
    · intro again n' i hi
      have : ¬ i < (a.length : Int) := by omega
      simp [this]
theorem szShelf_le (k : Nat) (x : (List (Int × Int × Int × List (ByteArray) × List (Bool) × Int)) × Unit) (n : Int) (h : 0 ≤ n ∧ n ≤ 1048576) (hk : 1048576 < k) (hw : Wf_Shelf x) : ∃ m : Int, w_szShelf k (x, (n, ())) = some (m, ((), ((), ()))) ∧ (0 ≤ m → m ≤ n ∧ Bd_Shelf x) := by
  obtain ⟨a0, u⟩ := x
  unfold w_szShelf
  unfold Wf_Shelf at hw
  unfold Bd_Shelf
  simp only [] at hw ⊢
  obtain ⟨w0, _⟩ := hw
  obtain ⟨m0, e0, b0⟩ := szHeldS_le k a0 n ⟨by omega, by omega⟩ hk w0
  simp only [e0, Option.bind_some]
  by_cases c0 : m0 < 0
  · simp only [c0, decide_true, if_true]
    exact ⟨_, rfl, fun h => by omega⟩
  have d0 := b0 (by omega)
  simp only [c0, decide_false, Bool.false_eq_true, if_false]
  exact ⟨_, rfl, fun _ => ⟨by omega, ⟨d0.2, trivial⟩⟩⟩
theorem szUser_le (k : Nat) (x : Int × Int × Int × ByteArray × ByteArray × Int × List (Int) × Int × Int × ByteArray × ByteArray × Int × List (Int) × Int × (List (Int × Int × Int × List (ByteArray) × List (Bool) × Int)) × Int × Unit) (n : Int) (h : 0 ≤ n ∧ n ≤ 1048576) (hk : 1048576 < k) (hw : Wf_User x) : ∃ m : Int, w_szUser k (x, (n, ())) = some (m, ((), ((), ()))) ∧ (0 ≤ m → m ≤ n ∧ Bd_User x) := by
  obtain ⟨a0, a1, a2, a3, a4, a5, a6, a7, a8, a9, a10, a11, a12, a13, a14, a15, u⟩ := x
  unfold w_szUser
  unfold Wf_User at hw
  unfold Bd_User
  simp only [] at hw ⊢
  obtain ⟨w3, w4, w6, w9, w10, w12, w14, _⟩ := hw
  obtain ⟨m0, e0, b0⟩ := szSlots_le k (a2, (a3, (a4, (a5, (a6, (a7, (a8, (a9, (a10, (a11, (a12, (a13, ())))))))))))) n ⟨by omega, by omega⟩ hk ⟨w3, w4, w6, w9, w10, w12, trivial⟩
  simp only [e0, Option.bind_some]
  by_cases c0 : m0 < 0
  · simp only [c0, decide_true, if_true]
    exact ⟨_, rfl, fun h => by omega⟩
  have d0 := b0 (by omega)
  simp only [c0, decide_false, Bool.false_eq_true, if_false]
  obtain ⟨m1, e1, b1⟩ := szShelf_le k (a14, ()) m0 ⟨by omega, by omega⟩ hk ⟨w14, trivial⟩
  simp only [e1, Option.bind_some]
  by_cases c1 : m1 < 0
  · simp only [c1, decide_true, if_true]
    exact ⟨_, rfl, fun h => by omega⟩
  have d1 := b1 (by omega)
  simp only [c1, decide_false, Bool.false_eq_true, if_false]
  exact ⟨_, rfl, fun _ => ⟨by omega, ⟨d0.2.1, d0.2.2.1, d0.2.2.2.1, d0.2.2.2.2.1, d0.2.2.2.2.2.1, d0.2.2.2.2.2.2.1, d1.2.1, trivial⟩⟩⟩
theorem szUserS_le (k : Nat) (a : List (Int × Int × ((Int × ByteArray × ByteArray × Int × List (Int) × Int) × Int × ByteArray × ByteArray × Int × List (Int) × Int) × List (Int × Int × Int × List (ByteArray) × List (Bool) × Int) × Int)) (n : Int) (h : 0 ≤ n ∧ n ≤ 1048576) (hk : 1048576 < k) (hw : Wf_UserS a) : ∃ m : Int, w_szUserS k (a, (n, ())) = some (m, ((), ((), ()))) ∧ (0 ≤ m → m ≤ n ∧ Bd_UserS a) := by
  unfold w_szUserS
  have hl : a.length ≤ 9223372036854775807 := hw.1
  have e : wi64 (n - (List.length a : Int)) = n - (List.length a : Int) := w64_id _ (by omega)
  simp only [e]
  by_cases hc : n - (List.length a : Int) < 0
  · simp only [hc, decide_true, if_true]
    exact ⟨_, rfl, fun h => by omega⟩
  · simp only [hc, decide_false, Bool.false_eq_true, if_false]
    refine (loop_sz (t := (.pair (.int .i64) (.pair (.int .i64) (.pair (.pair (.pair (.int .i64) (.pair .str (.pair .str (.pair (.int .i64) (.pair (.list (.int .i64)) (.int .i64)))))) (.pair (.int .i64) (.pair .str (.pair .str (.pair (.int .i64) (.pair (.list (.int .i64)) (.int .i64))))))) (.pair (.list (.pair (.int .i64) (.pair (.int .i64) (.pair (.int .i64) (.pair (.list .str) (.pair (.list .bool) (.int .i64))))))) (.int .i64)))))) a (fun m => (m, ((), ((), ())))) (fun r => Bd_User (ag_User r)) ?_ ?_ (n - a.length) (by omega) (by omega) k (by omega)).imp fun m hm => ⟨hm.1, fun h0 => ⟨by have := (hm.2 h0).1; omega, ⟨by omega, (hm.2 h0).2⟩⟩⟩
    · intro again n' i hn0 hn1 hi hl'
      have w : wi64 (i + 1) = i + 1 := w64_id _ (by omega)
      have hr := rd_get (t := (.pair (.int .i64) (.pair (.int .i64) (.pair (.pair (.pair (.int .i64) (.pair .str (.pair .str (.pair (.int .i64) (.pair (.list (.int .i64)) (.int .i64)))))) (.pair (.int .i64) (.pair .str (.pair .str (.pair (.int .i64) (.pair (.list (.int .i64)) (.int .i64))))))) (.pair (.list (.pair (.int .i64) (.pair (.int .i64) (.pair (.int .i64) (.pair (.list .str) (.pair (.list .bool) (.int .i64))))))) (.int .i64)))))) a i (by omega)
      obtain ⟨m, e1, e2⟩ := szUser_le k (ag_User (Ty.rd (t := (.pair (.int .i64) (.pair (.int .i64) (.pair (.pair (.pair (.int .i64) (.pair .str (.pair .str (.pair (.int .i64) (.pair (.list (.int .i64)) (.int .i64)))))) (.pair (.int .i64) (.pair .str (.pair .str (.pair (.int .i64) (.pair (.list (.int .i64)) (.int .i64))))))) (.pair (.list (.pair (.int .i64) (.pair (.int .i64) (.pair (.int .i64) (.pair (.list .str) (.pair (.list .bool) (.int .i64))))))) (.int .i64)))))) a i)) n' ⟨hn0, hn1⟩ hk (by rw [hr]; exact hw.2 _ (List.getElem_mem _))
      simp only [ag_User] at e1
      refine ⟨m, fun hm => e2 hm, ?_⟩
      simp only [hl', hi, e1, w, decide_true, and_self, if_true, Option.bind_some, decide_eq_true_eq]
    · intro again n' i hi
      have : ¬ i < (a.length : Int) := by omega
      simp [this]
theorem szHub_le (k : Nat) (x : Int × Int × (List (Int × Int × Int)) × (List (Int × Int)) × (List ((Int × Int) × Int)) × (List (Int × Int × ((Int × ByteArray × ByteArray × Int × List (Int) × Int) × Int × ByteArray × ByteArray × Int × List (Int) × Int) × List (Int × Int × Int × List (ByteArray) × List (Bool) × Int) × Int)) × Unit) (n : Int) (h : 0 ≤ n ∧ n ≤ 1048576) (hk : 1048576 < k) (hw : Wf_Hub x) : ∃ m : Int, w_szHub k (x, (n, ())) = some (m, ((), ((), ()))) ∧ (0 ≤ m → m ≤ n ∧ Bd_Hub x) := by
  obtain ⟨a0, a1, a2, a3, a4, a5, u⟩ := x
  unfold w_szHub
  unfold Wf_Hub at hw
  unfold Bd_Hub
  simp only [] at hw ⊢
  obtain ⟨w2, w3, w4, w5, _⟩ := hw
  obtain ⟨m0, e0, b0⟩ := szPool_le k (a0, (a1, (a2, (a3, ())))) n ⟨by omega, by omega⟩ hk ⟨w2, w3, trivial⟩
  simp only [e0, Option.bind_some]
  by_cases c0 : m0 < 0
  · simp only [c0, decide_true, if_true]
    exact ⟨_, rfl, fun h => by omega⟩
  have d0 := b0 (by omega)
  simp only [c0, decide_false, Bool.false_eq_true, if_false]
  obtain ⟨m1, e1, b1⟩ := szRouteS_le k a4 m0 ⟨by omega, by omega⟩ hk w4
  simp only [e1, Option.bind_some]
  by_cases c1 : m1 < 0
  · simp only [c1, decide_true, if_true]
    exact ⟨_, rfl, fun h => by omega⟩
  have d1 := b1 (by omega)
  simp only [c1, decide_false, Bool.false_eq_true, if_false]
  obtain ⟨m2, e2, b2⟩ := szUserS_le k a5 m1 ⟨by omega, by omega⟩ hk w5
  simp only [e2, Option.bind_some]
  by_cases c2 : m2 < 0
  · simp only [c2, decide_true, if_true]
    exact ⟨_, rfl, fun h => by omega⟩
  have d2 := b2 (by omega)
  simp only [c2, decide_false, Bool.false_eq_true, if_false]
  exact ⟨_, rfl, fun _ => ⟨by omega, ⟨d0.2.1, d0.2.2.1, d1.2, d2.2, trivial⟩⟩⟩
def Wf_Packet (x : Int × Int × Int × Int × Int × List (Int) × ByteArray × Unit) : Prop := Wf_IntS x.2.2.2.2.2.1 ∧ ByteArray.size x.2.2.2.2.2.2.1 ≤ 9223372036854775807 ∧ True
def Bd_Packet (x : Int × Int × Int × Int × Int × List (Int) × ByteArray × Unit) : Prop := Bd_IntS x.2.2.2.2.2.1 ∧ ByteArray.size x.2.2.2.2.2.2.1 ≤ 1048576 ∧ True
theorem szPacket_le (k : Nat) (x : Int × Int × Int × Int × Int × List (Int) × ByteArray × Unit) (n : Int) (h : 0 ≤ n ∧ n ≤ 1048576) (hk : 1048576 < k) (hw : Wf_Packet x) : ∃ m : Int, w_szPacket k (x, (n, ())) = some (m, ((), ((), ()))) ∧ (0 ≤ m → m ≤ n ∧ Bd_Packet x) := by
  obtain ⟨a0, a1, a2, a3, a4, a5, a6, u⟩ := x
  unfold w_szPacket
  unfold Wf_Packet at hw
  unfold Bd_Packet
  simp only [] at hw ⊢
  obtain ⟨w5, w6, _⟩ := hw
  obtain ⟨m0, e0, b0⟩ := szIntS_le k a5 n ⟨by omega, by omega⟩ hk w5
  simp only [e0, Option.bind_some]
  by_cases c0 : m0 < 0
  · simp only [c0, decide_true, if_true]
    exact ⟨_, rfl, fun h => by omega⟩
  have d0 := b0 (by omega)
  simp only [c0, decide_false, Bool.false_eq_true, if_false]
  have e1 : wi64 (m0 - (ByteArray.size a6 : Int)) = m0 - (ByteArray.size a6 : Int) := w64_id _ (by omega)
  simp only [e1]
  by_cases c1 : (m0 - (ByteArray.size a6 : Int)) < 0
  · simp only [c1, decide_true, if_true]
    exact ⟨_, rfl, fun h => by omega⟩
  simp only [c1, decide_false, Bool.false_eq_true, if_false]
  exact ⟨_, rfl, fun _ => ⟨by omega, ⟨d0.2, by omega, trivial⟩⟩⟩
theorem szFlight_le (k : Nat) (x : Int × Int × Bool × Int × Int × Int × Int × Int × List (Int) × ByteArray × Unit) (n : Int) (h : 0 ≤ n ∧ n ≤ 1048576) (hk : 1048576 < k) (hw : Wf_Flight x) : ∃ m : Int, w_szFlight k (x, (n, ())) = some (m, ((), ((), ()))) ∧ (0 ≤ m → m ≤ n ∧ Bd_Flight x) := by
  obtain ⟨a0, a1, a2, a3, a4, a5, a6, a7, a8, a9, u⟩ := x
  unfold w_szFlight
  unfold Wf_Flight at hw
  unfold Bd_Flight
  simp only [] at hw ⊢
  obtain ⟨w8, w9, _⟩ := hw
  obtain ⟨m0, e0, b0⟩ := szPacket_le k (a3, (a4, (a5, (a6, (a7, (a8, (a9, ()))))))) n ⟨by omega, by omega⟩ hk ⟨w8, w9, trivial⟩
  simp only [e0, Option.bind_some]
  by_cases c0 : m0 < 0
  · simp only [c0, decide_true, if_true]
    exact ⟨_, rfl, fun h => by omega⟩
  have d0 := b0 (by omega)
  simp only [c0, decide_false, Bool.false_eq_true, if_false]
  exact ⟨_, rfl, fun _ => ⟨by omega, ⟨d0.2.1, d0.2.2.1, trivial⟩⟩⟩
theorem szFlightS_le (k : Nat) (a : List (Int × Int × Bool × Int × Int × Int × Int × Int × List (Int) × ByteArray)) (n : Int) (h : 0 ≤ n ∧ n ≤ 1048576) (hk : 1048576 < k) (hw : Wf_FlightS a) : ∃ m : Int, w_szFlightS k (a, (n, ())) = some (m, ((), ((), ()))) ∧ (0 ≤ m → m ≤ n ∧ Bd_FlightS a) := by
  unfold w_szFlightS
  have hl : a.length ≤ 9223372036854775807 := hw.1
  have e : wi64 (n - (List.length a : Int)) = n - (List.length a : Int) := w64_id _ (by omega)
  simp only [e]
  by_cases hc : n - (List.length a : Int) < 0
  · simp only [hc, decide_true, if_true]
    exact ⟨_, rfl, fun h => by omega⟩
  · simp only [hc, decide_false, Bool.false_eq_true, if_false]
    refine (loop_sz (t := (.pair (.int .i64) (.pair (.int .i64) (.pair .bool (.pair (.int .i64) (.pair (.int .i64) (.pair (.int .i64) (.pair (.int .i64) (.pair (.int .i64) (.pair (.list (.int .i64)) .str)))))))))) a (fun m => (m, ((), ((), ())))) (fun r => Bd_Flight (ag_Flight r)) ?_ ?_ (n - a.length) (by omega) (by omega) k (by omega)).imp fun m hm => ⟨hm.1, fun h0 => ⟨by have := (hm.2 h0).1; omega, ⟨by omega, (hm.2 h0).2⟩⟩⟩
    · intro again n' i hn0 hn1 hi hl'
      have w : wi64 (i + 1) = i + 1 := w64_id _ (by omega)
      have hr := rd_get (t := (.pair (.int .i64) (.pair (.int .i64) (.pair .bool (.pair (.int .i64) (.pair (.int .i64) (.pair (.int .i64) (.pair (.int .i64) (.pair (.int .i64) (.pair (.list (.int .i64)) .str)))))))))) a i (by omega)
      obtain ⟨m, e1, e2⟩ := szFlight_le k (ag_Flight (Ty.rd (t := (.pair (.int .i64) (.pair (.int .i64) (.pair .bool (.pair (.int .i64) (.pair (.int .i64) (.pair (.int .i64) (.pair (.int .i64) (.pair (.int .i64) (.pair (.list (.int .i64)) .str)))))))))) a i)) n' ⟨hn0, hn1⟩ hk (by rw [hr]; exact hw.2 _ (List.getElem_mem _))
      simp only [ag_Flight] at e1
      refine ⟨m, fun hm => e2 hm, ?_⟩
      simp only [hl', hi, e1, w, decide_true, and_self, if_true, Option.bind_some, decide_eq_true_eq]
    · intro again n' i hi
      have : ¬ i < (a.length : Int) := by omega
      simp [this]
def Wf_Inner (x : Int × Int × ByteArray × Unit) : Prop := ByteArray.size x.2.2.1 ≤ 9223372036854775807 ∧ True
def Bd_Inner (x : Int × Int × ByteArray × Unit) : Prop := ByteArray.size x.2.2.1 ≤ 1048576 ∧ True
theorem szInner_le (k : Nat) (x : Int × Int × ByteArray × Unit) (n : Int) (h : 0 ≤ n ∧ n ≤ 1048576) (hk : 1048576 < k) (hw : Wf_Inner x) : ∃ m : Int, w_szInner k (x, (n, ())) = some (m, ((), ((), ()))) ∧ (0 ≤ m → m ≤ n ∧ Bd_Inner x) := by
  obtain ⟨a0, a1, a2, u⟩ := x
  unfold w_szInner
  unfold Wf_Inner at hw
  unfold Bd_Inner
  simp only [] at hw ⊢
  obtain ⟨w2, _⟩ := hw
  have e0 : wi64 (n - (ByteArray.size a2 : Int)) = n - (ByteArray.size a2 : Int) := w64_id _ (by omega)
  simp only [e0]
  by_cases c0 : (n - (ByteArray.size a2 : Int)) < 0
  · simp only [c0, decide_true, if_true]
    exact ⟨_, rfl, fun h => by omega⟩
  simp only [c0, decide_false, Bool.false_eq_true, if_false]
  exact ⟨_, rfl, fun _ => ⟨by omega, ⟨by omega, trivial⟩⟩⟩
theorem szCarried_le (k : Nat) (x : Int × Int × Int × ByteArray × Unit) (n : Int) (h : 0 ≤ n ∧ n ≤ 1048576) (hk : 1048576 < k) (hw : Wf_Carried x) : ∃ m : Int, w_szCarried k (x, (n, ())) = some (m, ((), ((), ()))) ∧ (0 ≤ m → m ≤ n ∧ Bd_Carried x) := by
  obtain ⟨a0, a1, a2, a3, u⟩ := x
  unfold w_szCarried
  unfold Wf_Carried at hw
  unfold Bd_Carried
  simp only [] at hw ⊢
  obtain ⟨w3, _⟩ := hw
  obtain ⟨m0, e0, b0⟩ := szInner_le k (a1, (a2, (a3, ()))) n ⟨by omega, by omega⟩ hk ⟨w3, trivial⟩
  simp only [e0, Option.bind_some]
  by_cases c0 : m0 < 0
  · simp only [c0, decide_true, if_true]
    exact ⟨_, rfl, fun h => by omega⟩
  have d0 := b0 (by omega)
  simp only [c0, decide_false, Bool.false_eq_true, if_false]
  exact ⟨_, rfl, fun _ => ⟨by omega, ⟨d0.2.1, trivial⟩⟩⟩
theorem szCarriedS_le (k : Nat) (a : List (Int × Int × Int × ByteArray)) (n : Int) (h : 0 ≤ n ∧ n ≤ 1048576) (hk : 1048576 < k) (hw : Wf_CarriedS a) : ∃ m : Int, w_szCarriedS k (a, (n, ())) = some (m, ((), ((), ()))) ∧ (0 ≤ m → m ≤ n ∧ Bd_CarriedS a) := by
  unfold w_szCarriedS
  have hl : a.length ≤ 9223372036854775807 := hw.1
  have e : wi64 (n - (List.length a : Int)) = n - (List.length a : Int) := w64_id _ (by omega)
  simp only [e]
  by_cases hc : n - (List.length a : Int) < 0
  · simp only [hc, decide_true, if_true]
    exact ⟨_, rfl, fun h => by omega⟩
  · simp only [hc, decide_false, Bool.false_eq_true, if_false]
    refine (loop_sz (t := (.pair (.int .i64) (.pair (.int .i64) (.pair (.int .i64) .str)))) a (fun m => (m, ((), ((), ())))) (fun r => Bd_Carried (ag_Carried r)) ?_ ?_ (n - a.length) (by omega) (by omega) k (by omega)).imp fun m hm => ⟨hm.1, fun h0 => ⟨by have := (hm.2 h0).1; omega, ⟨by omega, (hm.2 h0).2⟩⟩⟩
    · intro again n' i hn0 hn1 hi hl'
      have w : wi64 (i + 1) = i + 1 := w64_id _ (by omega)
      have hr := rd_get (t := (.pair (.int .i64) (.pair (.int .i64) (.pair (.int .i64) .str)))) a i (by omega)
      obtain ⟨m, e1, e2⟩ := szCarried_le k (ag_Carried (Ty.rd (t := (.pair (.int .i64) (.pair (.int .i64) (.pair (.int .i64) .str)))) a i)) n' ⟨hn0, hn1⟩ hk (by rw [hr]; exact hw.2 _ (List.getElem_mem _))
      simp only [ag_Carried] at e1
      refine ⟨m, fun hm => e2 hm, ?_⟩
      simp only [hl', hi, e1, w, decide_true, and_self, if_true, Option.bind_some, decide_eq_true_eq]
    · intro again n' i hi
      have : ¬ i < (a.length : Int) := by omega
      simp [this]
theorem szSealingS_le (k : Nat) (a : List (Int × Bool × Int × Int)) (n : Int) (h : 0 ≤ n ∧ n ≤ 1048576) (hk : 1048576 < k) (hw : Wf_SealingS a) : ∃ m : Int, w_szSealingS k (a, (n, ())) = some (m, ((), ((), ()))) ∧ (0 ≤ m → m ≤ n ∧ Bd_SealingS a) := by
  unfold w_szSealingS
  have hl : a.length ≤ 9223372036854775807 := hw.1
  have e : wi64 (n - (List.length a : Int)) = n - (List.length a : Int) := w64_id _ (by omega)
  simp only [e]
  by_cases hc : n - (List.length a : Int) < 0
  · simp only [hc, decide_true, if_true]
    exact ⟨_, rfl, fun h => by omega⟩
  · simp only [hc, decide_false, Bool.false_eq_true, if_false]
    exact ⟨_, rfl, fun _ => ⟨by omega, ⟨by omega, fun r _ => by unfold Bd_Sealing; simp⟩⟩⟩
theorem szLife_le (k : Nat) (x : Int × Int × (List (Int × Int × Int)) × (List (Int × Int)) × (List ((Int × Int) × Int)) × (List (Int × Int × ((Int × ByteArray × ByteArray × Int × List (Int) × Int) × Int × ByteArray × ByteArray × Int × List (Int) × Int) × List (Int × Int × Int × List (ByteArray) × List (Bool) × Int) × Int)) × (List (Int × Int × ((Int × ByteArray × ByteArray × Int × List (Int) × Int) × Int × ByteArray × ByteArray × Int × List (Int) × Int) × List (Int × Int × Int × List (ByteArray) × List (Bool) × Int) × Int)) × List (Int) × Int × (List (Int × Int × Bool × Int × Int × Int × Int × Int × List (Int) × ByteArray)) × Int × (List (Int × Int × Int × ByteArray)) × (List (Int × Int × Int × ByteArray)) × Int × (List (Int × Bool × Int × Int)) × Unit) (n : Int) (h : 0 ≤ n ∧ n ≤ 1048576) (hk : 1048576 < k) (hw : Wf_Life x) : ∃ m : Int, w_szLife k (x, (n, ())) = some (m, ((), ((), ()))) ∧ (0 ≤ m → m ≤ n ∧ Bd_Life x) := by
  obtain ⟨a0, a1, a2, a3, a4, a5, a6, a7, a8, a9, a10, a11, a12, a13, a14, u⟩ := x
  unfold w_szLife
  unfold Wf_Life at hw
  unfold Bd_Life
  simp only [] at hw ⊢
  obtain ⟨w2, w3, w4, w5, w6, w7, w9, w11, w12, w14, _⟩ := hw
  obtain ⟨m0, e0, b0⟩ := szHub_le k (a0, (a1, (a2, (a3, (a4, (a5, ())))))) n ⟨by omega, by omega⟩ hk ⟨w2, w3, w4, w5, trivial⟩
  simp only [e0, Option.bind_some]
  by_cases c0 : m0 < 0
  · simp only [c0, decide_true, if_true]
    exact ⟨_, rfl, fun h => by omega⟩
  have d0 := b0 (by omega)
  simp only [c0, decide_false, Bool.false_eq_true, if_false]
  obtain ⟨m1, e1, b1⟩ := szUserS_le k a6 m0 ⟨by omega, by omega⟩ hk w6
  simp only [e1, Option.bind_some]
  by_cases c1 : m1 < 0
  · simp only [c1, decide_true, if_true]
    exact ⟨_, rfl, fun h => by omega⟩
  have d1 := b1 (by omega)
  simp only [c1, decide_false, Bool.false_eq_true, if_false]
  obtain ⟨m2, e2, b2⟩ := szIntS_le k a7 m1 ⟨by omega, by omega⟩ hk w7
  simp only [e2, Option.bind_some]
  by_cases c2 : m2 < 0
  · simp only [c2, decide_true, if_true]
    exact ⟨_, rfl, fun h => by omega⟩
  have d2 := b2 (by omega)
  simp only [c2, decide_false, Bool.false_eq_true, if_false]
  obtain ⟨m3, e3, b3⟩ := szFlightS_le k a9 m2 ⟨by omega, by omega⟩ hk w9
  simp only [e3, Option.bind_some]
  by_cases c3 : m3 < 0
  · simp only [c3, decide_true, if_true]
    exact ⟨_, rfl, fun h => by omega⟩
  have d3 := b3 (by omega)
  simp only [c3, decide_false, Bool.false_eq_true, if_false]
  obtain ⟨m4, e4, b4⟩ := szCarriedS_le k a11 m3 ⟨by omega, by omega⟩ hk w11
  simp only [e4, Option.bind_some]
  by_cases c4 : m4 < 0
  · simp only [c4, decide_true, if_true]
    exact ⟨_, rfl, fun h => by omega⟩
  have d4 := b4 (by omega)
  simp only [c4, decide_false, Bool.false_eq_true, if_false]
  obtain ⟨m5, e5, b5⟩ := szCarriedS_le k a12 m4 ⟨by omega, by omega⟩ hk w12
  simp only [e5, Option.bind_some]
  by_cases c5 : m5 < 0
  · simp only [c5, decide_true, if_true]
    exact ⟨_, rfl, fun h => by omega⟩
  have d5 := b5 (by omega)
  simp only [c5, decide_false, Bool.false_eq_true, if_false]
  obtain ⟨m6, e6, b6⟩ := szSealingS_le k a14 m5 ⟨by omega, by omega⟩ hk w14
  simp only [e6, Option.bind_some]
  by_cases c6 : m6 < 0
  · simp only [c6, decide_true, if_true]
    exact ⟨_, rfl, fun h => by omega⟩
  have d6 := b6 (by omega)
  simp only [c6, decide_false, Bool.false_eq_true, if_false]
  exact ⟨_, rfl, fun _ => ⟨by omega, ⟨d0.2.1, d0.2.2.1, d0.2.2.2.1, d0.2.2.2.2.1, d1.2, d2.2, d3.2, d4.2, d5.2, d6.2, trivial⟩⟩⟩
def Wf_Prefix (x : Int × Int × Unit) : Prop := True
def Bd_Prefix (x : Int × Int × Unit) : Prop := True
theorem toPrefix_is (k : Nat) (x : Int × Int × Unit) (hk : 1048576 < k) (hb : Bd_Prefix x) : w_toPrefix k (x, ()) = some (x, ((), ())) := by
  obtain ⟨a0, a1, u⟩ := x
  unfold w_toPrefix
  rfl
theorem toLease_is (k : Nat) (x : Int × Int × Int × Unit) (hk : 1048576 < k) (hb : Bd_Lease x) : w_toLease k (x, ()) = some (x, ((), ())) := by
  obtain ⟨a0, a1, a2, u⟩ := x
  unfold w_toLease
  rfl
theorem toLeaseS_is (k : Nat) (a : List (Int × Int × Int)) (hk : 1048576 < k) (hb : Bd_LeaseS a) : w_toLeaseS k (a, ()) = some (a, ((), ())) := by
  unfold w_toLeaseS
  have hl : a.length ≤ 1048576 := hb.1
  have hcap : (capMax : Int) = 274877906944 := rfl
  simp only [if_true]
  rw [if_pos (by omega)]
  refine loop_to (t := (.pair (.int .i64) (.pair (.int .i64) (.int .i64)))) a (fun out => (out, ((), ()))) ?_ ?_ _ (by simp) k (by omega)
  · intro again out i hi hl' ho
    have w : wi64 (i + 1) = i + 1 := w64_id _ (by omega)
    have hr := rd_get (t := (.pair (.int .i64) (.pair (.int .i64) (.int .i64)))) a i (by omega)
    have e := toLease_is k (ag_Lease (Ty.rd (t := (.pair (.int .i64) (.pair (.int .i64) (.int .i64)))) a i)) hk (by rw [hr]; exact hb.2 _ (List.getElem_mem _))
    simp only [ag_Lease] at e
    simp only [hl', hi, ho, e, w, decide_true, and_self, if_true, Option.bind_some]
  · intro again out i hi
    have : ¬ i < (a.length : Int) := by omega
    simp [this]
theorem toFixed_is (k : Nat) (x : Int × Int × Unit) (hk : 1048576 < k) (hb : Bd_Fixed x) : w_toFixed k (x, ()) = some (x, ((), ())) := by
  obtain ⟨a0, a1, u⟩ := x
  unfold w_toFixed
  rfl
theorem toFixedS_is (k : Nat) (a : List (Int × Int)) (hk : 1048576 < k) (hb : Bd_FixedS a) : w_toFixedS k (a, ()) = some (a, ((), ())) := by
  unfold w_toFixedS
  have hl : a.length ≤ 1048576 := hb.1
  have hcap : (capMax : Int) = 274877906944 := rfl
  simp only [if_true]
  rw [if_pos (by omega)]
  refine loop_to (t := (.pair (.int .i64) (.int .i64))) a (fun out => (out, ((), ()))) ?_ ?_ _ (by simp) k (by omega)
  · intro again out i hi hl' ho
    have w : wi64 (i + 1) = i + 1 := w64_id _ (by omega)
    have hr := rd_get (t := (.pair (.int .i64) (.int .i64))) a i (by omega)
    have e := toFixed_is k (ag_Fixed (Ty.rd (t := (.pair (.int .i64) (.int .i64))) a i)) hk (by rw [hr]; exact hb.2 _ (List.getElem_mem _))
    simp only [ag_Fixed] at e
    simp only [hl', hi, ho, e, w, decide_true, and_self, if_true, Option.bind_some]
  · intro again out i hi
    have : ¬ i < (a.length : Int) := by omega
    simp [this]
theorem toPool_is (k : Nat) (x : Int × Int × (List (Int × Int × Int)) × (List (Int × Int)) × Unit) (hk : 1048576 < k) (hb : Bd_Pool x) : w_toPool k (x, ()) = some (x, ((), ())) := by
  obtain ⟨a0, a1, a2, a3, u⟩ := x
  unfold w_toPool
  unfold Bd_Pool at hb
  obtain ⟨b2, b3, b⟩ := hb
  simp only [] at b2 b3
  simp only [toPrefix_is k (a0, (a1, ())) hk trivial, toLeaseS_is k a2 hk b2, toFixedS_is k a3 hk b3, Option.bind_some]
theorem toRoute_is (k : Nat) (x : Int × Int × Int × Unit) (hk : 1048576 < k) (hb : Bd_Route x) : w_toRoute k (x, ()) = some (x, ((), ())) := by
  obtain ⟨a0, a1, a2, u⟩ := x
  unfold w_toRoute
  simp only [toPrefix_is k (a0, (a1, ())) hk trivial, Option.bind_some]
theorem toRouteS_is (k : Nat) (a : List ((Int × Int) × Int)) (hk : 1048576 < k) (hb : Bd_RouteS a) : w_toRouteS k (a, ()) = some (a, ((), ())) := by
  unfold w_toRouteS
  have hl : a.length ≤ 1048576 := hb.1
  have hcap : (capMax : Int) = 274877906944 := rfl
  simp only [if_true]
  rw [if_pos (by omega)]
  refine loop_to (t := (.pair (.pair (.int .i64) (.int .i64)) (.int .i64))) a (fun out => (out, ((), ()))) ?_ ?_ _ (by simp) k (by omega)
  · intro again out i hi hl' ho
    have w : wi64 (i + 1) = i + 1 := w64_id _ (by omega)
    have hr := rd_get (t := (.pair (.pair (.int .i64) (.int .i64)) (.int .i64))) a i (by omega)
    have e := toRoute_is k (ag_Route (Ty.rd (t := (.pair (.pair (.int .i64) (.int .i64)) (.int .i64))) a i)) hk (by rw [hr]; exact hb.2 _ (List.getElem_mem _))
    simp only [ag_Route] at e
    simp only [hl', hi, ho, e, w, decide_true, and_self, if_true, Option.bind_some]
  · intro again out i hi
    have : ¬ i < (a.length : Int) := by omega
    simp [this]
theorem toIntS_is (k : Nat) (a : List (Int)) (hk : 1048576 < k) (hb : Bd_IntS a) : w_toIntS k (a, ()) = some (a, ((), ())) := by
  unfold w_toIntS
  have hl : a.length ≤ 1048576 := hb
  have hcap : (capMax : Int) = 274877906944 := rfl
  simp only [if_true]
  rw [if_pos (by omega)]
  refine loop_to (t := (.int .i64)) a (fun out => (out, ((), ()))) ?_ ?_ _ (by simp) k (by omega)
  · intro again out i hi hl' ho
    have w : wi64 (i + 1) = i + 1 := w64_id _ (by omega)
    simp only [hl', hi, ho, w, decide_true, and_self, if_true]
  · intro again out i hi
    have : ¬ i < (a.length : Int) := by omega
    simp [this]
theorem toSlot_is (k : Nat) (x : Int × ByteArray × ByteArray × Int × List (Int) × Int × Unit) (hk : 1048576 < k) (hb : Bd_Slot x) : w_toSlot k (x, ()) = some (x, ((), ())) := by
  obtain ⟨a0, a1, a2, a3, a4, a5, u⟩ := x
  unfold w_toSlot
  unfold Bd_Slot at hb
  obtain ⟨b1, b2, b4, b⟩ := hb
  simp only [] at b1 b2 b4
  simp only [toIntS_is k a4 hk b4, Option.bind_some]
theorem toSlots_is (k : Nat) (x : Int × ByteArray × ByteArray × Int × List (Int) × Int × Int × ByteArray × ByteArray × Int × List (Int) × Int × Unit) (hk : 1048576 < k) (hb : Bd_Slots x) : w_toSlots k (x, ()) = some (x, ((), ())) := by
  obtain ⟨a0, a1, a2, a3, a4, a5, a6, a7, a8, a9, a10, a11, u⟩ := x
  unfold w_toSlots
  unfold Bd_Slots at hb
  obtain ⟨b1, b2, b4, b7, b8, b10, b⟩ := hb
  simp only [] at b1 b2 b4 b7 b8 b10
  simp only [toSlot_is k (a0, (a1, (a2, (a3, (a4, (a5, ())))))) hk ⟨b1, b2, b4, trivial⟩, toSlot_is k (a6, (a7, (a8, (a9, (a10, (a11, ())))))) hk ⟨b7, b8, b10, trivial⟩, Option.bind_some]
theorem toStringS_is (k : Nat) (a : List (ByteArray)) (hk : 1048576 < k) (hb : Bd_StringS a) : w_toStringS k (a, ()) = some (a, ((), ())) := by
  unfold w_toStringS
  have hl : a.length ≤ 1048576 := hb
  have hcap : (capMax : Int) = 274877906944 := rfl
  simp only [if_true]
  rw [if_pos (by omega)]
  refine loop_to (t := .str) a (fun out => (out, ((), ()))) ?_ ?_ _ (by simp) k (by omega)
  · intro again out i hi hl' ho
    have w : wi64 (i + 1) = i + 1 := w64_id _ (by omega)
    simp only [hl', hi, ho, w, decide_true, and_self, if_true]
  · intro again out i hi
    have : ¬ i < (a.length : Int) := by omega
    simp [this]
theorem toBoolS_is (k : Nat) (a : List (Bool)) (hk : 1048576 < k) (hb : Bd_BoolS a) : w_toBoolS k (a, ()) = some (a, ((), ())) := by
  unfold w_toBoolS
  have hl : a.length ≤ 1048576 := hb
  have hcap : (capMax : Int) = 274877906944 := rfl
  simp only [if_true]
  rw [if_pos (by omega)]
  refine loop_to (t := .bool) a (fun out => (out, ((), ()))) ?_ ?_ _ (by simp) k (by omega)
  · intro again out i hi hl' ho
    have w : wi64 (i + 1) = i + 1 := w64_id _ (by omega)
    simp only [hl', hi, ho, w, decide_true, and_self, if_true]
  · intro again out i hi
    have : ¬ i < (a.length : Int) := by omega
    simp [this]
theorem toHeld_is (k : Nat) (x : Int × Int × Int × List (ByteArray) × List (Bool) × Int × Unit) (hk : 1048576 < k) (hb : Bd_Held x) : w_toHeld k (x, ()) = some (x, ((), ())) := by
  obtain ⟨a0, a1, a2, a3, a4, a5, u⟩ := x
  unfold w_toHeld
  unfold Bd_Held at hb
  obtain ⟨b3, b4, b⟩ := hb
  simp only [] at b3 b4
  simp only [toStringS_is k a3 hk b3, toBoolS_is k a4 hk b4, Option.bind_some]
theorem toHeldS_is (k : Nat) (a : List (Int × Int × Int × List (ByteArray) × List (Bool) × Int)) (hk : 1048576 < k) (hb : Bd_HeldS a) : w_toHeldS k (a, ()) = some (a, ((), ())) := by
  unfold w_toHeldS
  have hl : a.length ≤ 1048576 := hb.1
  have hcap : (capMax : Int) = 274877906944 := rfl
  simp only [if_true]
  rw [if_pos (by omega)]
  refine loop_to (t := (.pair (.int .i64) (.pair (.int .i64) (.pair (.int .i64) (.pair (.list .str) (.pair (.list .bool) (.int .i64))))))) a (fun out => (out, ((), ()))) ?_ ?_ _ (by simp) k (by omega)
  · intro again out i hi hl' ho
    have w : wi64 (i + 1) = i + 1 := w64_id _ (by omega)
    have hr := rd_get (t := (.pair (.int .i64) (.pair (.int .i64) (.pair (.int .i64) (.pair (.list .str) (.pair (.list .bool) (.int .i64))))))) a i (by omega)
    have e := toHeld_is k (ag_Held (Ty.rd (t := (.pair (.int .i64) (.pair (.int .i64) (.pair (.int .i64) (.pair (.list .str) (.pair (.list .bool) (.int .i64))))))) a i)) hk (by rw [hr]; exact hb.2 _ (List.getElem_mem _))
    simp only [ag_Held] at e
    simp only [hl', hi, ho, e, w, decide_true, and_self, if_true, Option.bind_some]
  · intro again out i hi
    have : ¬ i < (a.length : Int) := by omega
    simp [this]
theorem toShelf_is (k : Nat) (x : (List (Int × Int × Int × List (ByteArray) × List (Bool) × Int)) × Unit) (hk : 1048576 < k) (hb : Bd_Shelf x) : w_toShelf k (x, ()) = some (x, ((), ())) := by
  obtain ⟨a0, u⟩ := x
  unfold w_toShelf
  unfold Bd_Shelf at hb
  obtain ⟨b0, b⟩ := hb
  simp only [] at b0
  simp only [toHeldS_is k a0 hk b0, Option.bind_some]
theorem toUser_is (k : Nat) (x : Int × Int × Int × ByteArray × ByteArray × Int × List (Int) × Int × Int × ByteArray × ByteArray × Int × List (Int) × Int × (List (Int × Int × Int × List (ByteArray) × List (Bool) × Int)) × Int × Unit) (hk : 1048576 < k) (hb : Bd_User x) : w_toUser k (x, ()) = some (x, ((), ())) := by
  obtain ⟨a0, a1, a2, a3, a4, a5, a6, a7, a8, a9, a10, a11, a12, a13, a14, a15, u⟩ := x
  unfold w_toUser
  unfold Bd_User at hb
  obtain ⟨b3, b4, b6, b9, b10, b12, b14, b⟩ := hb
  simp only [] at b3 b4 b6 b9 b10 b12 b14
  simp only [toSlots_is k (a2, (a3, (a4, (a5, (a6, (a7, (a8, (a9, (a10, (a11, (a12, (a13, ())))))))))))) hk ⟨b3, b4, b6, b9, b10, b12, trivial⟩, toShelf_is k (a14, ()) hk ⟨b14, trivial⟩, Option.bind_some]
theorem toUserS_is (k : Nat) (a : List (Int × Int × ((Int × ByteArray × ByteArray × Int × List (Int) × Int) × Int × ByteArray × ByteArray × Int × List (Int) × Int) × List (Int × Int × Int × List (ByteArray) × List (Bool) × Int) × Int)) (hk : 1048576 < k) (hb : Bd_UserS a) : w_toUserS k (a, ()) = some (a, ((), ())) := by
  unfold w_toUserS
  have hl : a.length ≤ 1048576 := hb.1
  have hcap : (capMax : Int) = 274877906944 := rfl
  simp only [if_true]
  rw [if_pos (by omega)]
  refine loop_to (t := (.pair (.int .i64) (.pair (.int .i64) (.pair (.pair (.pair (.int .i64) (.pair .str (.pair .str (.pair (.int .i64) (.pair (.list (.int .i64)) (.int .i64)))))) (.pair (.int .i64) (.pair .str (.pair .str (.pair (.int .i64) (.pair (.list (.int .i64)) (.int .i64))))))) (.pair (.list (.pair (.int .i64) (.pair (.int .i64) (.pair (.int .i64) (.pair (.list .str) (.pair (.list .bool) (.int .i64))))))) (.int .i64)))))) a (fun out => (out, ((), ()))) ?_ ?_ _ (by simp) k (by omega)
  · intro again out i hi hl' ho
    have w : wi64 (i + 1) = i + 1 := w64_id _ (by omega)
    have hr := rd_get (t := (.pair (.int .i64) (.pair (.int .i64) (.pair (.pair (.pair (.int .i64) (.pair .str (.pair .str (.pair (.int .i64) (.pair (.list (.int .i64)) (.int .i64)))))) (.pair (.int .i64) (.pair .str (.pair .str (.pair (.int .i64) (.pair (.list (.int .i64)) (.int .i64))))))) (.pair (.list (.pair (.int .i64) (.pair (.int .i64) (.pair (.int .i64) (.pair (.list .str) (.pair (.list .bool) (.int .i64))))))) (.int .i64)))))) a i (by omega)
    have e := toUser_is k (ag_User (Ty.rd (t := (.pair (.int .i64) (.pair (.int .i64) (.pair (.pair (.pair (.int .i64) (.pair .str (.pair .str (.pair (.int .i64) (.pair (.list (.int .i64)) (.int .i64)))))) (.pair (.int .i64) (.pair .str (.pair .str (.pair (.int .i64) (.pair (.list (.int .i64)) (.int .i64))))))) (.pair (.list (.pair (.int .i64) (.pair (.int .i64) (.pair (.int .i64) (.pair (.list .str) (.pair (.list .bool) (.int .i64))))))) (.int .i64)))))) a i)) hk (by rw [hr]; exact hb.2 _ (List.getElem_mem _))
    simp only [ag_User] at e
    simp only [hl', hi, ho, e, w, decide_true, and_self, if_true, Option.bind_some]
  · intro again out i hi
    have : ¬ i < (a.length : Int) := by omega
    simp [this]
theorem toHub_is (k : Nat) (x : Int × Int × (List (Int × Int × Int)) × (List (Int × Int)) × (List ((Int × Int) × Int)) × (List (Int × Int × ((Int × ByteArray × ByteArray × Int × List (Int) × Int) × Int × ByteArray × ByteArray × Int × List (Int) × Int) × List (Int × Int × Int × List (ByteArray) × List (Bool) × Int) × Int)) × Unit) (hk : 1048576 < k) (hb : Bd_Hub x) : w_toHub k (x, ()) = some (x, ((), ())) := by
  obtain ⟨a0, a1, a2, a3, a4, a5, u⟩ := x
  unfold w_toHub
  unfold Bd_Hub at hb
  obtain ⟨b2, b3, b4, b5, b⟩ := hb
  simp only [] at b2 b3 b4 b5
  simp only [toPool_is k (a0, (a1, (a2, (a3, ())))) hk ⟨b2, b3, trivial⟩, toRouteS_is k a4 hk b4, toUserS_is k a5 hk b5, Option.bind_some]
theorem toPacket_is (k : Nat) (x : Int × Int × Int × Int × Int × List (Int) × ByteArray × Unit) (hk : 1048576 < k) (hb : Bd_Packet x) : w_toPacket k (x, ()) = some (x, ((), ())) := by
  obtain ⟨a0, a1, a2, a3, a4, a5, a6, u⟩ := x
  unfold w_toPacket
  unfold Bd_Packet at hb
  obtain ⟨b5, b6, b⟩ := hb
  simp only [] at b5 b6
  simp only [toIntS_is k a5 hk b5, Option.bind_some]
theorem toFlight_is (k : Nat) (x : Int × Int × Bool × Int × Int × Int × Int × Int × List (Int) × ByteArray × Unit) (hk : 1048576 < k) (hb : Bd_Flight x) : w_toFlight k (x, ()) = some (x, ((), ())) := by
  obtain ⟨a0, a1, a2, a3, a4, a5, a6, a7, a8, a9, u⟩ := x
  unfold w_toFlight
  unfold Bd_Flight at hb
  obtain ⟨b8, b9, b⟩ := hb
  simp only [] at b8 b9
  simp only [toPacket_is k (a3, (a4, (a5, (a6, (a7, (a8, (a9, ()))))))) hk ⟨b8, b9, trivial⟩, Option.bind_some]
theorem toFlightS_is (k : Nat) (a : List (Int × Int × Bool × Int × Int × Int × Int × Int × List (Int) × ByteArray)) (hk : 1048576 < k) (hb : Bd_FlightS a) : w_toFlightS k (a, ()) = some (a, ((), ())) := by
  unfold w_toFlightS
  have hl : a.length ≤ 1048576 := hb.1
  have hcap : (capMax : Int) = 274877906944 := rfl
  simp only [if_true]
  rw [if_pos (by omega)]
  refine loop_to (t := (.pair (.int .i64) (.pair (.int .i64) (.pair .bool (.pair (.int .i64) (.pair (.int .i64) (.pair (.int .i64) (.pair (.int .i64) (.pair (.int .i64) (.pair (.list (.int .i64)) .str)))))))))) a (fun out => (out, ((), ()))) ?_ ?_ _ (by simp) k (by omega)
  · intro again out i hi hl' ho
    have w : wi64 (i + 1) = i + 1 := w64_id _ (by omega)
    have hr := rd_get (t := (.pair (.int .i64) (.pair (.int .i64) (.pair .bool (.pair (.int .i64) (.pair (.int .i64) (.pair (.int .i64) (.pair (.int .i64) (.pair (.int .i64) (.pair (.list (.int .i64)) .str)))))))))) a i (by omega)
    have e := toFlight_is k (ag_Flight (Ty.rd (t := (.pair (.int .i64) (.pair (.int .i64) (.pair .bool (.pair (.int .i64) (.pair (.int .i64) (.pair (.int .i64) (.pair (.int .i64) (.pair (.int .i64) (.pair (.list (.int .i64)) .str)))))))))) a i)) hk (by rw [hr]; exact hb.2 _ (List.getElem_mem _))
    simp only [ag_Flight] at e
    simp only [hl', hi, ho, e, w, decide_true, and_self, if_true, Option.bind_some]
  · intro again out i hi
    have : ¬ i < (a.length : Int) := by omega
    simp [this]
theorem toInner_is (k : Nat) (x : Int × Int × ByteArray × Unit) (hk : 1048576 < k) (hb : Bd_Inner x) : w_toInner k (x, ()) = some (x, ((), ())) := by
  obtain ⟨a0, a1, a2, u⟩ := x
  unfold w_toInner
  rfl
theorem toCarried_is (k : Nat) (x : Int × Int × Int × ByteArray × Unit) (hk : 1048576 < k) (hb : Bd_Carried x) : w_toCarried k (x, ()) = some (x, ((), ())) := by
  obtain ⟨a0, a1, a2, a3, u⟩ := x
  unfold w_toCarried
  unfold Bd_Carried at hb
  obtain ⟨b3, b⟩ := hb
  simp only [] at b3
  simp only [toInner_is k (a1, (a2, (a3, ()))) hk ⟨b3, trivial⟩, Option.bind_some]
theorem toCarriedS_is (k : Nat) (a : List (Int × Int × Int × ByteArray)) (hk : 1048576 < k) (hb : Bd_CarriedS a) : w_toCarriedS k (a, ()) = some (a, ((), ())) := by
  unfold w_toCarriedS
  have hl : a.length ≤ 1048576 := hb.1
  have hcap : (capMax : Int) = 274877906944 := rfl
  simp only [if_true]
  rw [if_pos (by omega)]
  refine loop_to (t := (.pair (.int .i64) (.pair (.int .i64) (.pair (.int .i64) .str)))) a (fun out => (out, ((), ()))) ?_ ?_ _ (by simp) k (by omega)
  · intro again out i hi hl' ho
    have w : wi64 (i + 1) = i + 1 := w64_id _ (by omega)
    have hr := rd_get (t := (.pair (.int .i64) (.pair (.int .i64) (.pair (.int .i64) .str)))) a i (by omega)
    have e := toCarried_is k (ag_Carried (Ty.rd (t := (.pair (.int .i64) (.pair (.int .i64) (.pair (.int .i64) .str)))) a i)) hk (by rw [hr]; exact hb.2 _ (List.getElem_mem _))
    simp only [ag_Carried] at e
    simp only [hl', hi, ho, e, w, decide_true, and_self, if_true, Option.bind_some]
  · intro again out i hi
    have : ¬ i < (a.length : Int) := by omega
    simp [this]
theorem toSealing_is (k : Nat) (x : Int × Bool × Int × Int × Unit) (hk : 1048576 < k) (hb : Bd_Sealing x) : w_toSealing k (x, ()) = some (x, ((), ())) := by
  obtain ⟨a0, a1, a2, a3, u⟩ := x
  unfold w_toSealing
  rfl
theorem toSealingS_is (k : Nat) (a : List (Int × Bool × Int × Int)) (hk : 1048576 < k) (hb : Bd_SealingS a) : w_toSealingS k (a, ()) = some (a, ((), ())) := by
  unfold w_toSealingS
  have hl : a.length ≤ 1048576 := hb.1
  have hcap : (capMax : Int) = 274877906944 := rfl
  simp only [if_true]
  rw [if_pos (by omega)]
  refine loop_to (t := (.pair (.int .i64) (.pair .bool (.pair (.int .i64) (.int .i64))))) a (fun out => (out, ((), ()))) ?_ ?_ _ (by simp) k (by omega)
  · intro again out i hi hl' ho
    have w : wi64 (i + 1) = i + 1 := w64_id _ (by omega)
    have hr := rd_get (t := (.pair (.int .i64) (.pair .bool (.pair (.int .i64) (.int .i64))))) a i (by omega)
    have e := toSealing_is k (ag_Sealing (Ty.rd (t := (.pair (.int .i64) (.pair .bool (.pair (.int .i64) (.int .i64))))) a i)) hk (by rw [hr]; exact hb.2 _ (List.getElem_mem _))
    simp only [ag_Sealing] at e
    simp only [hl', hi, ho, e, w, decide_true, and_self, if_true, Option.bind_some]
  · intro again out i hi
    have : ¬ i < (a.length : Int) := by omega
    simp [this]
theorem toLife_is (k : Nat) (x : Int × Int × (List (Int × Int × Int)) × (List (Int × Int)) × (List ((Int × Int) × Int)) × (List (Int × Int × ((Int × ByteArray × ByteArray × Int × List (Int) × Int) × Int × ByteArray × ByteArray × Int × List (Int) × Int) × List (Int × Int × Int × List (ByteArray) × List (Bool) × Int) × Int)) × (List (Int × Int × ((Int × ByteArray × ByteArray × Int × List (Int) × Int) × Int × ByteArray × ByteArray × Int × List (Int) × Int) × List (Int × Int × Int × List (ByteArray) × List (Bool) × Int) × Int)) × List (Int) × Int × (List (Int × Int × Bool × Int × Int × Int × Int × Int × List (Int) × ByteArray)) × Int × (List (Int × Int × Int × ByteArray)) × (List (Int × Int × Int × ByteArray)) × Int × (List (Int × Bool × Int × Int)) × Unit) (hk : 1048576 < k) (hb : Bd_Life x) : w_toLife k (x, ()) = some (x, ((), ())) := by
  obtain ⟨a0, a1, a2, a3, a4, a5, a6, a7, a8, a9, a10, a11, a12, a13, a14, u⟩ := x
  unfold w_toLife
  unfold Bd_Life at hb
  obtain ⟨b2, b3, b4, b5, b6, b7, b9, b11, b12, b14, b⟩ := hb
  simp only [] at b2 b3 b4 b5 b6 b7 b9 b11 b12 b14
  simp only [toHub_is k (a0, (a1, (a2, (a3, (a4, (a5, ())))))) hk ⟨b2, b3, b4, b5, trivial⟩, toUserS_is k a6 hk b6, toIntS_is k a7 hk b7, toFlightS_is k a9 hk b9, toCarriedS_is k a11 hk b11, toCarriedS_is k a12 hk b12, toSealingS_is k a14 hk b14, Option.bind_some]
theorem eqPrefix_is (k : Nat) (x y : Int × Int × Unit) (hk : 1048576 < k) (hb : Bd_Prefix x) : w_eqPrefix k (x, (y, ())) = some (dq x y, ((), ((), ()))) := by
  obtain ⟨a0, a1, u⟩ := x
  obtain ⟨b0, b1, u'⟩ := y
  unfold w_eqPrefix
  by_cases h0 : a0 = b0
  rotate_left
  · have hn : (a0, (a1, ())) ≠ (b0, (b1, ())) := fun h => h0 (by simp only [Prod.mk.injEq] at h; simp_all)
    rw [dq_false hn]
    simp [h0]
  subst h0
  by_cases h1 : a1 = b1
  rotate_left
  · have hn : (a0, (a1, ())) ≠ (a0, (b1, ())) := fun h => h1 (by simp only [Prod.mk.injEq] at h; simp_all)
    rw [dq_false hn]
    simp [h1]
  subst h1
  simp [dq_self]
theorem eqLease_is (k : Nat) (x y : Int × Int × Int × Unit) (hk : 1048576 < k) (hb : Bd_Lease x) : w_eqLease k (x, (y, ())) = some (dq x y, ((), ((), ()))) := by
  obtain ⟨a0, a1, a2, u⟩ := x
  obtain ⟨b0, b1, b2, u'⟩ := y
  unfold w_eqLease
  by_cases h0 : a0 = b0
  rotate_left
  · have hn : (a0, (a1, (a2, ()))) ≠ (b0, (b1, (b2, ()))) := fun h => h0 (by simp only [Prod.mk.injEq] at h; simp_all)
    rw [dq_false hn]
    simp [h0]
  subst h0
  by_cases h1 : a1 = b1
  rotate_left
  · have hn : (a0, (a1, (a2, ()))) ≠ (a0, (b1, (b2, ()))) := fun h => h1 (by simp only [Prod.mk.injEq] at h; simp_all)
    rw [dq_false hn]
    simp [h1]
  subst h1
  by_cases h2 : a2 = b2
  rotate_left
  · have hn : (a0, (a1, (a2, ()))) ≠ (a0, (a1, (b2, ()))) := fun h => h2 (by simp only [Prod.mk.injEq] at h; simp_all)
    rw [dq_false hn]
    simp [h2]
  subst h2
  simp [dq_self]
theorem eqLeaseS_is (k : Nat) (a b : List RT_Lease.den) (hk : 1048576 < k) (hb : Bd_LeaseS a) : w_eqLeaseS k (a, (b, ())) = some (dq a b, ((), ((), ()))) := by
  unfold w_eqLeaseS
  have hl : a.length ≤ 1048576 := hb.1
  by_cases hab : a.length = b.length
  · simp only [hab, decide_true, Bool.not_true]
    refine (loop_dq (t := RT_Lease) (R := Bool × Unit × Unit × Unit) a b hab (false, ((), ((), ()))) (true, ((), ((), ()))) ?_ ?_ k (by omega)).trans ?_
    · intro again i hi hl'
      have w : wi64 (i + 1) = i + 1 := w64_id _ (by omega)
      have hlb : i < (b.length : Int) := by omega
      have hr := rd_get (t := RT_Lease) a i (by omega)
      have e := eqLease_is k (ag_Lease (Ty.rd (t := RT_Lease) a i)) (ag_Lease (Ty.rd (t := RT_Lease) b i)) hk (by rw [hr]; exact hb.2 _ (List.getElem_mem _))
      rw [show (dq (ag_Lease (Ty.rd (t := RT_Lease) a i)) (ag_Lease (Ty.rd (t := RT_Lease) b i))) = dq (Ty.rd (t := RT_Lease) a i) (Ty.rd (t := RT_Lease) b i) from dq_of (ag_Lease_inj _ _)] at e
      simp only [ag_Lease] at e
      simp only [hl', hi, hlb, e, w, decide_true, and_self, if_true, Option.bind_some]
      cases dq (Ty.rd (t := RT_Lease) a i) (Ty.rd (t := RT_Lease) b i) <;> simp
    · intro again i hi
      have : ¬ i < (a.length : Int) := by omega
      simp only [this, decide_false]
      rfl
    · cases dq a b <;> simp
  · have : ¬ ((a.length : Int) = (b.length : Int)) := by omega
    have h2 : a ≠ b := fun h => hab (by rw [h])
    simp [this, dq_false h2]
theorem eqFixed_is (k : Nat) (x y : Int × Int × Unit) (hk : 1048576 < k) (hb : Bd_Fixed x) : w_eqFixed k (x, (y, ())) = some (dq x y, ((), ((), ()))) := by
  obtain ⟨a0, a1, u⟩ := x
  obtain ⟨b0, b1, u'⟩ := y
  unfold w_eqFixed
  by_cases h0 : a0 = b0
  rotate_left
  · have hn : (a0, (a1, ())) ≠ (b0, (b1, ())) := fun h => h0 (by simp only [Prod.mk.injEq] at h; simp_all)
    rw [dq_false hn]
    simp [h0]
  subst h0
  by_cases h1 : a1 = b1
  rotate_left
  · have hn : (a0, (a1, ())) ≠ (a0, (b1, ())) := fun h => h1 (by simp only [Prod.mk.injEq] at h; simp_all)
    rw [dq_false hn]
    simp [h1]
  subst h1
  simp [dq_self]
theorem eqFixedS_is (k : Nat) (a b : List RT_Fixed.den) (hk : 1048576 < k) (hb : Bd_FixedS a) : w_eqFixedS k (a, (b, ())) = some (dq a b, ((), ((), ()))) := by
  unfold w_eqFixedS
  have hl : a.length ≤ 1048576 := hb.1
  by_cases hab : a.length = b.length
  · simp only [hab, decide_true, Bool.not_true]
    refine (loop_dq (t := RT_Fixed) (R := Bool × Unit × Unit × Unit) a b hab (false, ((), ((), ()))) (true, ((), ((), ()))) ?_ ?_ k (by omega)).trans ?_
    · intro again i hi hl'
      have w : wi64 (i + 1) = i + 1 := w64_id _ (by omega)
      have hlb : i < (b.length : Int) := by omega
      have hr := rd_get (t := RT_Fixed) a i (by omega)
      have e := eqFixed_is k (ag_Fixed (Ty.rd (t := RT_Fixed) a i)) (ag_Fixed (Ty.rd (t := RT_Fixed) b i)) hk (by rw [hr]; exact hb.2 _ (List.getElem_mem _))
      rw [show (dq (ag_Fixed (Ty.rd (t := RT_Fixed) a i)) (ag_Fixed (Ty.rd (t := RT_Fixed) b i))) = dq (Ty.rd (t := RT_Fixed) a i) (Ty.rd (t := RT_Fixed) b i) from dq_of (ag_Fixed_inj _ _)] at e
      simp only [ag_Fixed] at e
      simp only [hl', hi, hlb, e, w, decide_true, and_self, if_true, Option.bind_some]
      cases dq (Ty.rd (t := RT_Fixed) a i) (Ty.rd (t := RT_Fixed) b i) <;> simp
    · intro again i hi
      have : ¬ i < (a.length : Int) := by omega
      simp only [this, decide_false]
      rfl
    · cases dq a b <;> simp
  · have : ¬ ((a.length : Int) = (b.length : Int)) := by omega
    have h2 : a ≠ b := fun h => hab (by rw [h])
    simp [this, dq_false h2]
theorem eqPool_is (k : Nat) (x y : Int × Int × (List (Int × Int × Int)) × (List (Int × Int)) × Unit) (hk : 1048576 < k) (hb : Bd_Pool x) : w_eqPool k (x, (y, ())) = some (dq x y, ((), ((), ()))) := by
  obtain ⟨a0, a1, a2, a3, u⟩ := x
  obtain ⟨b0, b1, b2, b3, u'⟩ := y
  unfold w_eqPool
  unfold Bd_Pool at hb
  obtain ⟨w2, w3, _⟩ := hb
  simp only [] at w2 w3
  simp only [eqPrefix_is k (a0, (a1, ())) (b0, (b1, ())) hk trivial, eqLeaseS_is k a2 b2 hk w2, eqFixedS_is k a3 b3 hk w3, Option.bind_some]
  by_cases h0 : (a0, (a1, ())) = (b0, (b1, ()))
  rotate_left
  · have hn : (a0, (a1, (a2, (a3, ())))) ≠ (b0, (b1, (b2, (b3, ())))) := fun h => h0 (by simp only [Prod.mk.injEq] at h; simp_all)
    rw [dq_false hn]
    simp [h0, dq_false]
  simp only [Prod.mk.injEq, and_true] at h0
  obtain ⟨rfl, rfl⟩ := h0
  by_cases h1 : a2 = b2
  rotate_left
  · have hn : (a0, (a1, (a2, (a3, ())))) ≠ (a0, (a1, (b2, (b3, ())))) := fun h => h1 (by simp only [Prod.mk.injEq] at h; simp_all)
    rw [dq_false hn]
    simp [h1, dq_false]
  subst h1
  by_cases h2 : a3 = b3
  rotate_left
  · have hn : (a0, (a1, (a2, (a3, ())))) ≠ (a0, (a1, (a2, (b3, ())))) := fun h => h2 (by simp only [Prod.mk.injEq] at h; simp_all)
    rw [dq_false hn]
    simp [h2, dq_false]
  subst h2
  simp [dq_self]
theorem eqRoute_is (k : Nat) (x y : Int × Int × Int × Unit) (hk : 1048576 < k) (hb : Bd_Route x) : w_eqRoute k (x, (y, ())) = some (dq x y, ((), ((), ()))) := by
  obtain ⟨a0, a1, a2, u⟩ := x
  obtain ⟨b0, b1, b2, u'⟩ := y
  unfold w_eqRoute
  simp only [eqPrefix_is k (a0, (a1, ())) (b0, (b1, ())) hk trivial, Option.bind_some]
  by_cases h0 : (a0, (a1, ())) = (b0, (b1, ()))
  rotate_left
  · have hn : (a0, (a1, (a2, ()))) ≠ (b0, (b1, (b2, ()))) := fun h => h0 (by simp only [Prod.mk.injEq] at h; simp_all)
    rw [dq_false hn]
    simp [h0, dq_false]
  simp only [Prod.mk.injEq, and_true] at h0
  obtain ⟨rfl, rfl⟩ := h0
  by_cases h1 : a2 = b2
  rotate_left
  · have hn : (a0, (a1, (a2, ()))) ≠ (a0, (a1, (b2, ()))) := fun h => h1 (by simp only [Prod.mk.injEq] at h; simp_all)
    rw [dq_false hn]
    simp [h1]
  subst h1
  simp [dq_self]
theorem eqRouteS_is (k : Nat) (a b : List RT_Route.den) (hk : 1048576 < k) (hb : Bd_RouteS a) : w_eqRouteS k (a, (b, ())) = some (dq a b, ((), ((), ()))) := by
  unfold w_eqRouteS
  have hl : a.length ≤ 1048576 := hb.1
  by_cases hab : a.length = b.length
  · simp only [hab, decide_true, Bool.not_true]
    refine (loop_dq (t := RT_Route) (R := Bool × Unit × Unit × Unit) a b hab (false, ((), ((), ()))) (true, ((), ((), ()))) ?_ ?_ k (by omega)).trans ?_
    · intro again i hi hl'
      have w : wi64 (i + 1) = i + 1 := w64_id _ (by omega)
      have hlb : i < (b.length : Int) := by omega
      have hr := rd_get (t := RT_Route) a i (by omega)
      have e := eqRoute_is k (ag_Route (Ty.rd (t := RT_Route) a i)) (ag_Route (Ty.rd (t := RT_Route) b i)) hk (by rw [hr]; exact hb.2 _ (List.getElem_mem _))
      rw [show (dq (ag_Route (Ty.rd (t := RT_Route) a i)) (ag_Route (Ty.rd (t := RT_Route) b i))) = dq (Ty.rd (t := RT_Route) a i) (Ty.rd (t := RT_Route) b i) from dq_of (ag_Route_inj _ _)] at e
      simp only [ag_Route] at e
      simp only [hl', hi, hlb, e, w, decide_true, and_self, if_true, Option.bind_some]
      cases dq (Ty.rd (t := RT_Route) a i) (Ty.rd (t := RT_Route) b i) <;> simp
    · intro again i hi
      have : ¬ i < (a.length : Int) := by omega
      simp only [this, decide_false]
      rfl
    · cases dq a b <;> simp
  · have : ¬ ((a.length : Int) = (b.length : Int)) := by omega
    have h2 : a ≠ b := fun h => hab (by rw [h])
    simp [this, dq_false h2]
theorem eqIntS_is (k : Nat) (a b : List ((.int .i64) : Ty).den) (hk : 1048576 < k) (hb : Bd_IntS a) : w_eqIntS k (a, (b, ())) = some (dq a b, ((), ((), ()))) := by
  unfold w_eqIntS
  have hl : a.length ≤ 1048576 := hb
  by_cases hab : a.length = b.length
  · simp only [hab, decide_true, Bool.not_true]
    refine (loop_dq (t := (.int .i64)) (R := Bool × Unit × Unit × Unit) a b hab (false, ((), ((), ()))) (true, ((), ((), ()))) ?_ ?_ k (by omega)).trans ?_
    · intro again i hi hl'
      have w : wi64 (i + 1) = i + 1 := w64_id _ (by omega)
      have hlb : i < (b.length : Int) := by omega
      simp only [hl', hi, hlb, w, decide_true, and_self, if_true]
      by_cases e : Ty.rd (t := (.int .i64)) a i = Ty.rd (t := (.int .i64)) b i <;> simp [e, dq_self, dq_false]
    · intro again i hi
      have : ¬ i < (a.length : Int) := by omega
      simp only [this, decide_false]
      rfl
    · cases dq a b <;> simp
  · have : ¬ ((a.length : Int) = (b.length : Int)) := by omega
    have h2 : a ≠ b := fun h => hab (by rw [h])
    simp [this, dq_false h2]
theorem eqSlot_is (k : Nat) (x y : Int × ByteArray × ByteArray × Int × List (Int) × Int × Unit) (hk : 1048576 < k) (hb : Bd_Slot x) : w_eqSlot k (x, (y, ())) = some (dq x y, ((), ((), ()))) := by
  obtain ⟨a0, a1, a2, a3, a4, a5, u⟩ := x
  obtain ⟨b0, b1, b2, b3, b4, b5, u'⟩ := y
  unfold w_eqSlot
  unfold Bd_Slot at hb
  obtain ⟨w1, w2, w4, _⟩ := hb
  simp only [] at w1 w2 w4
  simp only [eqIntS_is k a4 b4 hk w4, Option.bind_some]
  by_cases h0 : a0 = b0
  rotate_left
  · have hn : (a0, (a1, (a2, (a3, (a4, (a5, ())))))) ≠ (b0, (b1, (b2, (b3, (b4, (b5, ())))))) := fun h => h0 (by simp only [Prod.mk.injEq] at h; simp_all)
    rw [dq_false hn]
    simp [h0]
  subst h0
  by_cases h1 : a1 = b1
  rotate_left
  · have hn : (a0, (a1, (a2, (a3, (a4, (a5, ())))))) ≠ (a0, (b1, (b2, (b3, (b4, (b5, ())))))) := fun h => h1 (by simp only [Prod.mk.injEq] at h; simp_all)
    rw [dq_false hn]
    simp [h1]
  subst h1
  by_cases h2 : a2 = b2
  rotate_left
  · have hn : (a0, (a1, (a2, (a3, (a4, (a5, ())))))) ≠ (a0, (a1, (b2, (b3, (b4, (b5, ())))))) := fun h => h2 (by simp only [Prod.mk.injEq] at h; simp_all)
    rw [dq_false hn]
    simp [h2]
  subst h2
  by_cases h3 : a3 = b3
  rotate_left
  · have hn : (a0, (a1, (a2, (a3, (a4, (a5, ())))))) ≠ (a0, (a1, (a2, (b3, (b4, (b5, ())))))) := fun h => h3 (by simp only [Prod.mk.injEq] at h; simp_all)
    rw [dq_false hn]
    simp [h3]
  subst h3
  by_cases h4 : a4 = b4
  rotate_left
  · have hn : (a0, (a1, (a2, (a3, (a4, (a5, ())))))) ≠ (a0, (a1, (a2, (a3, (b4, (b5, ())))))) := fun h => h4 (by simp only [Prod.mk.injEq] at h; simp_all)
    rw [dq_false hn]
    simp [h4, dq_false]
  subst h4
  by_cases h5 : a5 = b5
  rotate_left
  · have hn : (a0, (a1, (a2, (a3, (a4, (a5, ())))))) ≠ (a0, (a1, (a2, (a3, (a4, (b5, ())))))) := fun h => h5 (by simp only [Prod.mk.injEq] at h; simp_all)
    rw [dq_false hn]
    simp [h5]
  subst h5
  simp [dq_self]
theorem eqSlots_is (k : Nat) (x y : Int × ByteArray × ByteArray × Int × List (Int) × Int × Int × ByteArray × ByteArray × Int × List (Int) × Int × Unit) (hk : 1048576 < k) (hb : Bd_Slots x) : w_eqSlots k (x, (y, ())) = some (dq x y, ((), ((), ()))) := by
  obtain ⟨a0, a1, a2, a3, a4, a5, a6, a7, a8, a9, a10, a11, u⟩ := x
  obtain ⟨b0, b1, b2, b3, b4, b5, b6, b7, b8, b9, b10, b11, u'⟩ := y
  unfold w_eqSlots
  unfold Bd_Slots at hb
  obtain ⟨w1, w2, w4, w7, w8, w10, _⟩ := hb
  simp only [] at w1 w2 w4 w7 w8 w10
  simp only [eqSlot_is k (a0, (a1, (a2, (a3, (a4, (a5, ())))))) (b0, (b1, (b2, (b3, (b4, (b5, ())))))) hk ⟨w1, w2, w4, trivial⟩, eqSlot_is k (a6, (a7, (a8, (a9, (a10, (a11, ())))))) (b6, (b7, (b8, (b9, (b10, (b11, ())))))) hk ⟨w7, w8, w10, trivial⟩, Option.bind_some]
  by_cases h0 : (a0, (a1, (a2, (a3, (a4, (a5, ())))))) = (b0, (b1, (b2, (b3, (b4, (b5, ()))))))
  rotate_left
  · have hn : (a0, (a1, (a2, (a3, (a4, (a5, (a6, (a7, (a8, (a9, (a10, (a11, ())))))))))))) ≠ (b0, (b1, (b2, (b3, (b4, (b5, (b6, (b7, (b8, (b9, (b10, (b11, ())))))))))))) := fun h => h0 (by simp only [Prod.mk.injEq] at h; simp_all)
    rw [dq_false hn]
    simp [h0, dq_false]
  simp only [Prod.mk.injEq, and_true] at h0
  obtain ⟨rfl, rfl, rfl, rfl, rfl, rfl⟩ := h0
  by_cases h1 : (a6, (a7, (a8, (a9, (a10, (a11, ())))))) = (b6, (b7, (b8, (b9, (b10, (b11, ()))))))
  rotate_left
  · have hn : (a0, (a1, (a2, (a3, (a4, (a5, (a6, (a7, (a8, (a9, (a10, (a11, ())))))))))))) ≠ (a0, (a1, (a2, (a3, (a4, (a5, (b6, (b7, (b8, (b9, (b10, (b11, ())))))))))))) := fun h => h1 (by simp only [Prod.mk.injEq] at h; simp_all)
    rw [dq_false hn]
    simp [h1, dq_false]
  simp only [Prod.mk.injEq, and_true] at h1
  obtain ⟨rfl, rfl, rfl, rfl, rfl, rfl⟩ := h1
  simp [dq_self]
theorem eqStringS_is (k : Nat) (a b : List (.str : Ty).den) (hk : 1048576 < k) (hb : Bd_StringS a) : w_eqStringS k (a, (b, ())) = some (dq a b, ((), ((), ()))) := by
  unfold w_eqStringS
  have hl : a.length ≤ 1048576 := hb
  by_cases hab : a.length = b.length
  · simp only [hab, decide_true, Bool.not_true]
    refine (loop_dq (t := .str) (R := Bool × Unit × Unit × Unit) a b hab (false, ((), ((), ()))) (true, ((), ((), ()))) ?_ ?_ k (by omega)).trans ?_
    · intro again i hi hl'
      have w : wi64 (i + 1) = i + 1 := w64_id _ (by omega)
      have hlb : i < (b.length : Int) := by omega
      simp only [hl', hi, hlb, w, decide_true, and_self, if_true]
      by_cases e : Ty.rd (t := .str) a i = Ty.rd (t := .str) b i <;> simp [e, dq_self, dq_false]
    · intro again i hi
      have : ¬ i < (a.length : Int) := by omega
      simp only [this, decide_false]
      rfl
    · cases dq a b <;> simp
  · have : ¬ ((a.length : Int) = (b.length : Int)) := by omega
    have h2 : a ≠ b := fun h => hab (by rw [h])
    simp [this, dq_false h2]
theorem eqBoolS_is (k : Nat) (a b : List (.bool : Ty).den) (hk : 1048576 < k) (hb : Bd_BoolS a) : w_eqBoolS k (a, (b, ())) = some (dq a b, ((), ((), ()))) := by
  unfold w_eqBoolS
  have hl : a.length ≤ 1048576 := hb
  by_cases hab : a.length = b.length
  · simp only [hab, decide_true, Bool.not_true]
    refine (loop_dq (t := .bool) (R := Bool × Unit × Unit × Unit) a b hab (false, ((), ((), ()))) (true, ((), ((), ()))) ?_ ?_ k (by omega)).trans ?_
    · intro again i hi hl'
      have w : wi64 (i + 1) = i + 1 := w64_id _ (by omega)
      have hlb : i < (b.length : Int) := by omega
      simp only [hl', hi, hlb, w, decide_true, and_self, if_true]
      by_cases e : Ty.rd (t := .bool) a i = Ty.rd (t := .bool) b i <;> simp [e, dq_self, dq_false]
    · intro again i hi
      have : ¬ i < (a.length : Int) := by omega
      simp only [this, decide_false]
      rfl
    · cases dq a b <;> simp
  · have : ¬ ((a.length : Int) = (b.length : Int)) := by omega
    have h2 : a ≠ b := fun h => hab (by rw [h])
    simp [this, dq_false h2]
theorem eqHeld_is (k : Nat) (x y : Int × Int × Int × List (ByteArray) × List (Bool) × Int × Unit) (hk : 1048576 < k) (hb : Bd_Held x) : w_eqHeld k (x, (y, ())) = some (dq x y, ((), ((), ()))) := by
  obtain ⟨a0, a1, a2, a3, a4, a5, u⟩ := x
  obtain ⟨b0, b1, b2, b3, b4, b5, u'⟩ := y
  unfold w_eqHeld
  unfold Bd_Held at hb
  obtain ⟨w3, w4, _⟩ := hb
  simp only [] at w3 w4
  simp only [eqStringS_is k a3 b3 hk w3, eqBoolS_is k a4 b4 hk w4, Option.bind_some]
  by_cases h0 : a0 = b0
  rotate_left
  · have hn : (a0, (a1, (a2, (a3, (a4, (a5, ())))))) ≠ (b0, (b1, (b2, (b3, (b4, (b5, ())))))) := fun h => h0 (by simp only [Prod.mk.injEq] at h; simp_all)
    rw [dq_false hn]
    simp [h0]
  subst h0
  by_cases h1 : a1 = b1
  rotate_left
  · have hn : (a0, (a1, (a2, (a3, (a4, (a5, ())))))) ≠ (a0, (b1, (b2, (b3, (b4, (b5, ())))))) := fun h => h1 (by simp only [Prod.mk.injEq] at h; simp_all)
    rw [dq_false hn]
    simp [h1]
  subst h1
  by_cases h2 : a2 = b2
  rotate_left
  · have hn : (a0, (a1, (a2, (a3, (a4, (a5, ())))))) ≠ (a0, (a1, (b2, (b3, (b4, (b5, ())))))) := fun h => h2 (by simp only [Prod.mk.injEq] at h; simp_all)
    rw [dq_false hn]
    simp [h2]
  subst h2
  by_cases h3 : a3 = b3
  rotate_left
  · have hn : (a0, (a1, (a2, (a3, (a4, (a5, ())))))) ≠ (a0, (a1, (a2, (b3, (b4, (b5, ())))))) := fun h => h3 (by simp only [Prod.mk.injEq] at h; simp_all)
    rw [dq_false hn]
    simp [h3, dq_false]
  subst h3
  by_cases h4 : a4 = b4
  rotate_left
  · have hn : (a0, (a1, (a2, (a3, (a4, (a5, ())))))) ≠ (a0, (a1, (a2, (a3, (b4, (b5, ())))))) := fun h => h4 (by simp only [Prod.mk.injEq] at h; simp_all)
    rw [dq_false hn]
    simp [h4, dq_false]
  subst h4
  by_cases h5 : a5 = b5
  rotate_left
  · have hn : (a0, (a1, (a2, (a3, (a4, (a5, ())))))) ≠ (a0, (a1, (a2, (a3, (a4, (b5, ())))))) := fun h => h5 (by simp only [Prod.mk.injEq] at h; simp_all)
    rw [dq_false hn]
    simp [h5]
  subst h5
  simp [dq_self]
theorem eqHeldS_is (k : Nat) (a b : List RT_Held.den) (hk : 1048576 < k) (hb : Bd_HeldS a) : w_eqHeldS k (a, (b, ())) = some (dq a b, ((), ((), ()))) := by
  unfold w_eqHeldS
  have hl : a.length ≤ 1048576 := hb.1
  by_cases hab : a.length = b.length
  · simp only [hab, decide_true, Bool.not_true]
    refine (loop_dq (t := RT_Held) (R := Bool × Unit × Unit × Unit) a b hab (false, ((), ((), ()))) (true, ((), ((), ()))) ?_ ?_ k (by omega)).trans ?_
    · intro again i hi hl'
      have w : wi64 (i + 1) = i + 1 := w64_id _ (by omega)
      have hlb : i < (b.length : Int) := by omega
      have hr := rd_get (t := RT_Held) a i (by omega)
      have e := eqHeld_is k (ag_Held (Ty.rd (t := RT_Held) a i)) (ag_Held (Ty.rd (t := RT_Held) b i)) hk (by rw [hr]; exact hb.2 _ (List.getElem_mem _))
      rw [show (dq (ag_Held (Ty.rd (t := RT_Held) a i)) (ag_Held (Ty.rd (t := RT_Held) b i))) = dq (Ty.rd (t := RT_Held) a i) (Ty.rd (t := RT_Held) b i) from dq_of (ag_Held_inj _ _)] at e
      simp only [ag_Held] at e
      simp only [hl', hi, hlb, e, w, decide_true, and_self, if_true, Option.bind_some]
      cases dq (Ty.rd (t := RT_Held) a i) (Ty.rd (t := RT_Held) b i) <;> simp
    · intro again i hi
      have : ¬ i < (a.length : Int) := by omega
      simp only [this, decide_false]
      rfl
    · cases dq a b <;> simp
  · have : ¬ ((a.length : Int) = (b.length : Int)) := by omega
    have h2 : a ≠ b := fun h => hab (by rw [h])
    simp [this, dq_false h2]
theorem eqShelf_is (k : Nat) (x y : (List (Int × Int × Int × List (ByteArray) × List (Bool) × Int)) × Unit) (hk : 1048576 < k) (hb : Bd_Shelf x) : w_eqShelf k (x, (y, ())) = some (dq x y, ((), ((), ()))) := by
  obtain ⟨a0, u⟩ := x
  obtain ⟨b0, u'⟩ := y
  unfold w_eqShelf
  unfold Bd_Shelf at hb
  obtain ⟨w0, _⟩ := hb
  simp only [] at w0
  simp only [eqHeldS_is k a0 b0 hk w0, Option.bind_some]
  by_cases h0 : a0 = b0
  rotate_left
  · have hn : (a0, ()) ≠ (b0, ()) := fun h => h0 (by simp only [Prod.mk.injEq] at h; simp_all)
    rw [dq_false hn]
    simp [h0, dq_false]
  subst h0
  simp [dq_self]
theorem eqUser_is (k : Nat) (x y : Int × Int × Int × ByteArray × ByteArray × Int × List (Int) × Int × Int × ByteArray × ByteArray × Int × List (Int) × Int × (List (Int × Int × Int × List (ByteArray) × List (Bool) × Int)) × Int × Unit) (hk : 1048576 < k) (hb : Bd_User x) : w_eqUser k (x, (y, ())) = some (dq x y, ((), ((), ()))) := by
  obtain ⟨a0, a1, a2, a3, a4, a5, a6, a7, a8, a9, a10, a11, a12, a13, a14, a15, u⟩ := x
  obtain ⟨b0, b1, b2, b3, b4, b5, b6, b7, b8, b9, b10, b11, b12, b13, b14, b15, u'⟩ := y
  unfold w_eqUser
  unfold Bd_User at hb
  obtain ⟨w3, w4, w6, w9, w10, w12, w14, _⟩ := hb
  simp only [] at w3 w4 w6 w9 w10 w12 w14
  simp only [eqSlots_is k (a2, (a3, (a4, (a5, (a6, (a7, (a8, (a9, (a10, (a11, (a12, (a13, ())))))))))))) (b2, (b3, (b4, (b5, (b6, (b7, (b8, (b9, (b10, (b11, (b12, (b13, ())))))))))))) hk ⟨w3, w4, w6, w9, w10, w12, trivial⟩, eqShelf_is k (a14, ()) (b14, ()) hk ⟨w14, trivial⟩, Option.bind_some]
  by_cases h0 : a0 = b0
  rotate_left
  · have hn : (a0, (a1, (a2, (a3, (a4, (a5, (a6, (a7, (a8, (a9, (a10, (a11, (a12, (a13, (a14, (a15, ())))))))))))))))) ≠ (b0, (b1, (b2, (b3, (b4, (b5, (b6, (b7, (b8, (b9, (b10, (b11, (b12, (b13, (b14, (b15, ())))))))))))))))) := fun h => h0 (by simp only [Prod.mk.injEq] at h; simp_all)
    rw [dq_false hn]
    simp [h0]
  subst h0
  by_cases h1 : a1 = b1
  rotate_left
  · have hn : (a0, (a1, (a2, (a3, (a4, (a5, (a6, (a7, (a8, (a9, (a10, (a11, (a12, (a13, (a14, (a15, ())))))))))))))))) ≠ (a0, (b1, (b2, (b3, (b4, (b5, (b6, (b7, (b8, (b9, (b10, (b11, (b12, (b13, (b14, (b15, ())))))))))))))))) := fun h => h1 (by simp only [Prod.mk.injEq] at h; simp_all)
    rw [dq_false hn]
    simp [h1]
  subst h1
  by_cases h2 : (a2, (a3, (a4, (a5, (a6, (a7, (a8, (a9, (a10, (a11, (a12, (a13, ())))))))))))) = (b2, (b3, (b4, (b5, (b6, (b7, (b8, (b9, (b10, (b11, (b12, (b13, ()))))))))))))
  rotate_left
  · have hn : (a0, (a1, (a2, (a3, (a4, (a5, (a6, (a7, (a8, (a9, (a10, (a11, (a12, (a13, (a14, (a15, ())))))))))))))))) ≠ (a0, (a1, (b2, (b3, (b4, (b5, (b6, (b7, (b8, (b9, (b10, (b11, (b12, (b13, (b14, (b15, ())))))))))))))))) := fun h => h2 (by simp only [Prod.mk.injEq] at h; simp_all)
    rw [dq_false hn]
    simp [h2, dq_false]
  simp only [Prod.mk.injEq, and_true] at h2
  obtain ⟨rfl, rfl, rfl, rfl, rfl, rfl, rfl, rfl, rfl, rfl, rfl, rfl⟩ := h2
  by_cases h3 : (a14, ()) = (b14, ())
  rotate_left
  · have hn : (a0, (a1, (a2, (a3, (a4, (a5, (a6, (a7, (a8, (a9, (a10, (a11, (a12, (a13, (a14, (a15, ())))))))))))))))) ≠ (a0, (a1, (a2, (a3, (a4, (a5, (a6, (a7, (a8, (a9, (a10, (a11, (a12, (a13, (b14, (b15, ())))))))))))))))) := fun h => h3 (by simp only [Prod.mk.injEq] at h; simp_all)
    rw [dq_false hn]
    simp [h3, dq_false]
  simp only [Prod.mk.injEq, and_true] at h3
  obtain ⟨rfl⟩ := h3
  by_cases h4 : a15 = b15
  rotate_left
  · have hn : (a0, (a1, (a2, (a3, (a4, (a5, (a6, (a7, (a8, (a9, (a10, (a11, (a12, (a13, (a14, (a15, ())))))))))))))))) ≠ (a0, (a1, (a2, (a3, (a4, (a5, (a6, (a7, (a8, (a9, (a10, (a11, (a12, (a13, (a14, (b15, ())))))))))))))))) := fun h => h4 (by simp only [Prod.mk.injEq] at h; simp_all)
    rw [dq_false hn]
    simp [h4]
  subst h4
  simp [dq_self]
theorem eqUserS_is (k : Nat) (a b : List RT_User.den) (hk : 1048576 < k) (hb : Bd_UserS a) : w_eqUserS k (a, (b, ())) = some (dq a b, ((), ((), ()))) := by
  unfold w_eqUserS
  have hl : a.length ≤ 1048576 := hb.1
  by_cases hab : a.length = b.length
  · simp only [hab, decide_true, Bool.not_true]
    refine (loop_dq (t := RT_User) (R := Bool × Unit × Unit × Unit) a b hab (false, ((), ((), ()))) (true, ((), ((), ()))) ?_ ?_ k (by omega)).trans ?_
    · intro again i hi hl'
      have w : wi64 (i + 1) = i + 1 := w64_id _ (by omega)
      have hlb : i < (b.length : Int) := by omega
      have hr := rd_get (t := RT_User) a i (by omega)
      have e := eqUser_is k (ag_User (Ty.rd (t := RT_User) a i)) (ag_User (Ty.rd (t := RT_User) b i)) hk (by rw [hr]; exact hb.2 _ (List.getElem_mem _))
      rw [show (dq (ag_User (Ty.rd (t := RT_User) a i)) (ag_User (Ty.rd (t := RT_User) b i))) = dq (Ty.rd (t := RT_User) a i) (Ty.rd (t := RT_User) b i) from dq_of (ag_User_inj _ _)] at e
      simp only [ag_User] at e
      simp only [hl', hi, hlb, e, w, decide_true, and_self, if_true, Option.bind_some]
      cases dq (Ty.rd (t := RT_User) a i) (Ty.rd (t := RT_User) b i) <;> simp
    · intro again i hi
      have : ¬ i < (a.length : Int) := by omega
      simp only [this, decide_false]
      rfl
    · cases dq a b <;> simp
  · have : ¬ ((a.length : Int) = (b.length : Int)) := by omega
    have h2 : a ≠ b := fun h => hab (by rw [h])
    simp [this, dq_false h2]
theorem eqHub_is (k : Nat) (x y : Int × Int × (List (Int × Int × Int)) × (List (Int × Int)) × (List ((Int × Int) × Int)) × (List (Int × Int × ((Int × ByteArray × ByteArray × Int × List (Int) × Int) × Int × ByteArray × ByteArray × Int × List (Int) × Int) × List (Int × Int × Int × List (ByteArray) × List (Bool) × Int) × Int)) × Unit) (hk : 1048576 < k) (hb : Bd_Hub x) : w_eqHub k (x, (y, ())) = some (dq x y, ((), ((), ()))) := by
  obtain ⟨a0, a1, a2, a3, a4, a5, u⟩ := x
  obtain ⟨b0, b1, b2, b3, b4, b5, u'⟩ := y
  unfold w_eqHub
  unfold Bd_Hub at hb
  obtain ⟨w2, w3, w4, w5, _⟩ := hb
  simp only [] at w2 w3 w4 w5
  simp only [eqPool_is k (a0, (a1, (a2, (a3, ())))) (b0, (b1, (b2, (b3, ())))) hk ⟨w2, w3, trivial⟩, eqRouteS_is k a4 b4 hk w4, eqUserS_is k a5 b5 hk w5, Option.bind_some]
  by_cases h0 : (a0, (a1, (a2, (a3, ())))) = (b0, (b1, (b2, (b3, ()))))
  rotate_left
  · have hn : (a0, (a1, (a2, (a3, (a4, (a5, ())))))) ≠ (b0, (b1, (b2, (b3, (b4, (b5, ())))))) := fun h => h0 (by simp only [Prod.mk.injEq] at h; simp_all)
    rw [dq_false hn]
    simp [h0, dq_false]
  simp only [Prod.mk.injEq, and_true] at h0
  obtain ⟨rfl, rfl, rfl, rfl⟩ := h0
  by_cases h1 : a4 = b4
  rotate_left
  · have hn : (a0, (a1, (a2, (a3, (a4, (a5, ())))))) ≠ (a0, (a1, (a2, (a3, (b4, (b5, ())))))) := fun h => h1 (by simp only [Prod.mk.injEq] at h; simp_all)
    rw [dq_false hn]
    simp [h1, dq_false]
  subst h1
  by_cases h2 : a5 = b5
  rotate_left
  · have hn : (a0, (a1, (a2, (a3, (a4, (a5, ())))))) ≠ (a0, (a1, (a2, (a3, (a4, (b5, ())))))) := fun h => h2 (by simp only [Prod.mk.injEq] at h; simp_all)
    rw [dq_false hn]
    simp [h2, dq_false]
  subst h2
  simp [dq_self]
theorem eqPacket_is (k : Nat) (x y : Int × Int × Int × Int × Int × List (Int) × ByteArray × Unit) (hk : 1048576 < k) (hb : Bd_Packet x) : w_eqPacket k (x, (y, ())) = some (dq x y, ((), ((), ()))) := by
  obtain ⟨a0, a1, a2, a3, a4, a5, a6, u⟩ := x
  obtain ⟨b0, b1, b2, b3, b4, b5, b6, u'⟩ := y
  unfold w_eqPacket
  unfold Bd_Packet at hb
  obtain ⟨w5, w6, _⟩ := hb
  simp only [] at w5 w6
  simp only [eqIntS_is k a5 b5 hk w5, Option.bind_some]
  by_cases h0 : a0 = b0
  rotate_left
  · have hn : (a0, (a1, (a2, (a3, (a4, (a5, (a6, ()))))))) ≠ (b0, (b1, (b2, (b3, (b4, (b5, (b6, ()))))))) := fun h => h0 (by simp only [Prod.mk.injEq] at h; simp_all)
    rw [dq_false hn]
    simp [h0]
  subst h0
  by_cases h1 : a1 = b1
  rotate_left
  · have hn : (a0, (a1, (a2, (a3, (a4, (a5, (a6, ()))))))) ≠ (a0, (b1, (b2, (b3, (b4, (b5, (b6, ()))))))) := fun h => h1 (by simp only [Prod.mk.injEq] at h; simp_all)
    rw [dq_false hn]
    simp [h1]
  subst h1
  by_cases h2 : a2 = b2
  rotate_left
  · have hn : (a0, (a1, (a2, (a3, (a4, (a5, (a6, ()))))))) ≠ (a0, (a1, (b2, (b3, (b4, (b5, (b6, ()))))))) := fun h => h2 (by simp only [Prod.mk.injEq] at h; simp_all)
    rw [dq_false hn]
    simp [h2]
  subst h2
  by_cases h3 : a3 = b3
  rotate_left
  · have hn : (a0, (a1, (a2, (a3, (a4, (a5, (a6, ()))))))) ≠ (a0, (a1, (a2, (b3, (b4, (b5, (b6, ()))))))) := fun h => h3 (by simp only [Prod.mk.injEq] at h; simp_all)
    rw [dq_false hn]
    simp [h3]
  subst h3
  by_cases h4 : a4 = b4
  rotate_left
  · have hn : (a0, (a1, (a2, (a3, (a4, (a5, (a6, ()))))))) ≠ (a0, (a1, (a2, (a3, (b4, (b5, (b6, ()))))))) := fun h => h4 (by simp only [Prod.mk.injEq] at h; simp_all)
    rw [dq_false hn]
    simp [h4]
  subst h4
  by_cases h5 : a5 = b5
  rotate_left
  · have hn : (a0, (a1, (a2, (a3, (a4, (a5, (a6, ()))))))) ≠ (a0, (a1, (a2, (a3, (a4, (b5, (b6, ()))))))) := fun h => h5 (by simp only [Prod.mk.injEq] at h; simp_all)
    rw [dq_false hn]
    simp [h5, dq_false]
  subst h5
  by_cases h6 : a6 = b6
  rotate_left
  · have hn : (a0, (a1, (a2, (a3, (a4, (a5, (a6, ()))))))) ≠ (a0, (a1, (a2, (a3, (a4, (a5, (b6, ()))))))) := fun h => h6 (by simp only [Prod.mk.injEq] at h; simp_all)
    rw [dq_false hn]
    simp [h6]
  subst h6
  simp [dq_self]
theorem eqFlight_is (k : Nat) (x y : Int × Int × Bool × Int × Int × Int × Int × Int × List (Int) × ByteArray × Unit) (hk : 1048576 < k) (hb : Bd_Flight x) : w_eqFlight k (x, (y, ())) = some (dq x y, ((), ((), ()))) := by
  obtain ⟨a0, a1, a2, a3, a4, a5, a6, a7, a8, a9, u⟩ := x
  obtain ⟨b0, b1, b2, b3, b4, b5, b6, b7, b8, b9, u'⟩ := y
  unfold w_eqFlight
  unfold Bd_Flight at hb
  obtain ⟨w8, w9, _⟩ := hb
  simp only [] at w8 w9
  simp only [eqPacket_is k (a3, (a4, (a5, (a6, (a7, (a8, (a9, ()))))))) (b3, (b4, (b5, (b6, (b7, (b8, (b9, ()))))))) hk ⟨w8, w9, trivial⟩, Option.bind_some]
  by_cases h0 : a0 = b0
  rotate_left
  · have hn : (a0, (a1, (a2, (a3, (a4, (a5, (a6, (a7, (a8, (a9, ())))))))))) ≠ (b0, (b1, (b2, (b3, (b4, (b5, (b6, (b7, (b8, (b9, ())))))))))) := fun h => h0 (by simp only [Prod.mk.injEq] at h; simp_all)
    rw [dq_false hn]
    simp [h0]
  subst h0
  by_cases h1 : a1 = b1
  rotate_left
  · have hn : (a0, (a1, (a2, (a3, (a4, (a5, (a6, (a7, (a8, (a9, ())))))))))) ≠ (a0, (b1, (b2, (b3, (b4, (b5, (b6, (b7, (b8, (b9, ())))))))))) := fun h => h1 (by simp only [Prod.mk.injEq] at h; simp_all)
    rw [dq_false hn]
    simp [h1]
  subst h1
  by_cases h2 : a2 = b2
  rotate_left
  · have hn : (a0, (a1, (a2, (a3, (a4, (a5, (a6, (a7, (a8, (a9, ())))))))))) ≠ (a0, (a1, (b2, (b3, (b4, (b5, (b6, (b7, (b8, (b9, ())))))))))) := fun h => h2 (by simp only [Prod.mk.injEq] at h; simp_all)
    rw [dq_false hn]
    simp [h2]
  subst h2
  by_cases h3 : (a3, (a4, (a5, (a6, (a7, (a8, (a9, ()))))))) = (b3, (b4, (b5, (b6, (b7, (b8, (b9, ())))))))
  rotate_left
  · have hn : (a0, (a1, (a2, (a3, (a4, (a5, (a6, (a7, (a8, (a9, ())))))))))) ≠ (a0, (a1, (a2, (b3, (b4, (b5, (b6, (b7, (b8, (b9, ())))))))))) := fun h => h3 (by simp only [Prod.mk.injEq] at h; simp_all)
    rw [dq_false hn]
    simp [h3, dq_false]
  simp only [Prod.mk.injEq, and_true] at h3
  obtain ⟨rfl, rfl, rfl, rfl, rfl, rfl, rfl⟩ := h3
  simp [dq_self]
theorem eqFlightS_is (k : Nat) (a b : List RT_Flight.den) (hk : 1048576 < k) (hb : Bd_FlightS a) : w_eqFlightS k (a, (b, ())) = some (dq a b, ((), ((), ()))) := by
  unfold w_eqFlightS
  have hl : a.length ≤ 1048576 := hb.1
  by_cases hab : a.length = b.length
  · simp only [hab, decide_true, Bool.not_true]
    refine (loop_dq (t := RT_Flight) (R := Bool × Unit × Unit × Unit) a b hab (false, ((), ((), ()))) (true, ((), ((), ()))) ?_ ?_ k (by omega)).trans ?_
    · intro again i hi hl'
      have w : wi64 (i + 1) = i + 1 := w64_id _ (by omega)
      have hlb : i < (b.length : Int) := by omega
      have hr := rd_get (t := RT_Flight) a i (by omega)
      have e := eqFlight_is k (ag_Flight (Ty.rd (t := RT_Flight) a i)) (ag_Flight (Ty.rd (t := RT_Flight) b i)) hk (by rw [hr]; exact hb.2 _ (List.getElem_mem _))
      rw [show (dq (ag_Flight (Ty.rd (t := RT_Flight) a i)) (ag_Flight (Ty.rd (t := RT_Flight) b i))) = dq (Ty.rd (t := RT_Flight) a i) (Ty.rd (t := RT_Flight) b i) from dq_of (ag_Flight_inj _ _)] at e
      simp only [ag_Flight] at e
      simp only [hl', hi, hlb, e, w, decide_true, and_self, if_true, Option.bind_some]
      cases dq (Ty.rd (t := RT_Flight) a i) (Ty.rd (t := RT_Flight) b i) <;> simp
    · intro again i hi
      have : ¬ i < (a.length : Int) := by omega
      simp only [this, decide_false]
      rfl
    · cases dq a b <;> simp
  · have : ¬ ((a.length : Int) = (b.length : Int)) := by omega
    have h2 : a ≠ b := fun h => hab (by rw [h])
    simp [this, dq_false h2]
theorem eqInner_is (k : Nat) (x y : Int × Int × ByteArray × Unit) (hk : 1048576 < k) (hb : Bd_Inner x) : w_eqInner k (x, (y, ())) = some (dq x y, ((), ((), ()))) := by
  obtain ⟨a0, a1, a2, u⟩ := x
  obtain ⟨b0, b1, b2, u'⟩ := y
  unfold w_eqInner
  by_cases h0 : a0 = b0
  rotate_left
  · have hn : (a0, (a1, (a2, ()))) ≠ (b0, (b1, (b2, ()))) := fun h => h0 (by simp only [Prod.mk.injEq] at h; simp_all)
    rw [dq_false hn]
    simp [h0]
  subst h0
  by_cases h1 : a1 = b1
  rotate_left
  · have hn : (a0, (a1, (a2, ()))) ≠ (a0, (b1, (b2, ()))) := fun h => h1 (by simp only [Prod.mk.injEq] at h; simp_all)
    rw [dq_false hn]
    simp [h1]
  subst h1
  by_cases h2 : a2 = b2
  rotate_left
  · have hn : (a0, (a1, (a2, ()))) ≠ (a0, (a1, (b2, ()))) := fun h => h2 (by simp only [Prod.mk.injEq] at h; simp_all)
    rw [dq_false hn]
    simp [h2]
  subst h2
  simp [dq_self]
theorem eqCarried_is (k : Nat) (x y : Int × Int × Int × ByteArray × Unit) (hk : 1048576 < k) (hb : Bd_Carried x) : w_eqCarried k (x, (y, ())) = some (dq x y, ((), ((), ()))) := by
  obtain ⟨a0, a1, a2, a3, u⟩ := x
  obtain ⟨b0, b1, b2, b3, u'⟩ := y
  unfold w_eqCarried
  unfold Bd_Carried at hb
  obtain ⟨w3, _⟩ := hb
  simp only [] at w3
  simp only [eqInner_is k (a1, (a2, (a3, ()))) (b1, (b2, (b3, ()))) hk ⟨w3, trivial⟩, Option.bind_some]
  by_cases h0 : a0 = b0
  rotate_left
  · have hn : (a0, (a1, (a2, (a3, ())))) ≠ (b0, (b1, (b2, (b3, ())))) := fun h => h0 (by simp only [Prod.mk.injEq] at h; simp_all)
    rw [dq_false hn]
    simp [h0]
  subst h0
  by_cases h1 : (a1, (a2, (a3, ()))) = (b1, (b2, (b3, ())))
  rotate_left
  · have hn : (a0, (a1, (a2, (a3, ())))) ≠ (a0, (b1, (b2, (b3, ())))) := fun h => h1 (by simp only [Prod.mk.injEq] at h; simp_all)
    rw [dq_false hn]
    simp [h1, dq_false]
  simp only [Prod.mk.injEq, and_true] at h1
  obtain ⟨rfl, rfl, rfl⟩ := h1
  simp [dq_self]
theorem eqCarriedS_is (k : Nat) (a b : List RT_Carried.den) (hk : 1048576 < k) (hb : Bd_CarriedS a) : w_eqCarriedS k (a, (b, ())) = some (dq a b, ((), ((), ()))) := by
  unfold w_eqCarriedS
  have hl : a.length ≤ 1048576 := hb.1
  by_cases hab : a.length = b.length
  · simp only [hab, decide_true, Bool.not_true]
    refine (loop_dq (t := RT_Carried) (R := Bool × Unit × Unit × Unit) a b hab (false, ((), ((), ()))) (true, ((), ((), ()))) ?_ ?_ k (by omega)).trans ?_
    · intro again i hi hl'
      have w : wi64 (i + 1) = i + 1 := w64_id _ (by omega)
      have hlb : i < (b.length : Int) := by omega
      have hr := rd_get (t := RT_Carried) a i (by omega)
      have e := eqCarried_is k (ag_Carried (Ty.rd (t := RT_Carried) a i)) (ag_Carried (Ty.rd (t := RT_Carried) b i)) hk (by rw [hr]; exact hb.2 _ (List.getElem_mem _))
      rw [show (dq (ag_Carried (Ty.rd (t := RT_Carried) a i)) (ag_Carried (Ty.rd (t := RT_Carried) b i))) = dq (Ty.rd (t := RT_Carried) a i) (Ty.rd (t := RT_Carried) b i) from dq_of (ag_Carried_inj _ _)] at e
      simp only [ag_Carried] at e
      simp only [hl', hi, hlb, e, w, decide_true, and_self, if_true, Option.bind_some]
      cases dq (Ty.rd (t := RT_Carried) a i) (Ty.rd (t := RT_Carried) b i) <;> simp
    · intro again i hi
      have : ¬ i < (a.length : Int) := by omega
      simp only [this, decide_false]
      rfl
    · cases dq a b <;> simp
  · have : ¬ ((a.length : Int) = (b.length : Int)) := by omega
    have h2 : a ≠ b := fun h => hab (by rw [h])
    simp [this, dq_false h2]
theorem eqSealing_is (k : Nat) (x y : Int × Bool × Int × Int × Unit) (hk : 1048576 < k) (hb : Bd_Sealing x) : w_eqSealing k (x, (y, ())) = some (dq x y, ((), ((), ()))) := by
  obtain ⟨a0, a1, a2, a3, u⟩ := x
  obtain ⟨b0, b1, b2, b3, u'⟩ := y
  unfold w_eqSealing
  by_cases h0 : a0 = b0
  rotate_left
  · have hn : (a0, (a1, (a2, (a3, ())))) ≠ (b0, (b1, (b2, (b3, ())))) := fun h => h0 (by simp only [Prod.mk.injEq] at h; simp_all)
    rw [dq_false hn]
    simp [h0]
  subst h0
  by_cases h1 : a1 = b1
  rotate_left
  · have hn : (a0, (a1, (a2, (a3, ())))) ≠ (a0, (b1, (b2, (b3, ())))) := fun h => h1 (by simp only [Prod.mk.injEq] at h; simp_all)
    rw [dq_false hn]
    simp [h1]
  subst h1
  by_cases h2 : a2 = b2
  rotate_left
  · have hn : (a0, (a1, (a2, (a3, ())))) ≠ (a0, (a1, (b2, (b3, ())))) := fun h => h2 (by simp only [Prod.mk.injEq] at h; simp_all)
    rw [dq_false hn]
    simp [h2]
  subst h2
  by_cases h3 : a3 = b3
  rotate_left
  · have hn : (a0, (a1, (a2, (a3, ())))) ≠ (a0, (a1, (a2, (b3, ())))) := fun h => h3 (by simp only [Prod.mk.injEq] at h; simp_all)
    rw [dq_false hn]
    simp [h3]
  subst h3
  simp [dq_self]
theorem eqSealingS_is (k : Nat) (a b : List RT_Sealing.den) (hk : 1048576 < k) (hb : Bd_SealingS a) : w_eqSealingS k (a, (b, ())) = some (dq a b, ((), ((), ()))) := by
  unfold w_eqSealingS
  have hl : a.length ≤ 1048576 := hb.1
  by_cases hab : a.length = b.length
  · simp only [hab, decide_true, Bool.not_true]
    refine (loop_dq (t := RT_Sealing) (R := Bool × Unit × Unit × Unit) a b hab (false, ((), ((), ()))) (true, ((), ((), ()))) ?_ ?_ k (by omega)).trans ?_
    · intro again i hi hl'
      have w : wi64 (i + 1) = i + 1 := w64_id _ (by omega)
      have hlb : i < (b.length : Int) := by omega
      have hr := rd_get (t := RT_Sealing) a i (by omega)
      have e := eqSealing_is k (ag_Sealing (Ty.rd (t := RT_Sealing) a i)) (ag_Sealing (Ty.rd (t := RT_Sealing) b i)) hk (by rw [hr]; exact hb.2 _ (List.getElem_mem _))
      rw [show (dq (ag_Sealing (Ty.rd (t := RT_Sealing) a i)) (ag_Sealing (Ty.rd (t := RT_Sealing) b i))) = dq (Ty.rd (t := RT_Sealing) a i) (Ty.rd (t := RT_Sealing) b i) from dq_of (ag_Sealing_inj _ _)] at e
      simp only [ag_Sealing] at e
      simp only [hl', hi, hlb, e, w, decide_true, and_self, if_true, Option.bind_some]
      cases dq (Ty.rd (t := RT_Sealing) a i) (Ty.rd (t := RT_Sealing) b i) <;> simp
    · intro again i hi
      have : ¬ i < (a.length : Int) := by omega
      simp only [this, decide_false]
      rfl
    · cases dq a b <;> simp
  · have : ¬ ((a.length : Int) = (b.length : Int)) := by omega
    have h2 : a ≠ b := fun h => hab (by rw [h])
    simp [this, dq_false h2]
theorem eqLife_is (k : Nat) (x y : Int × Int × (List (Int × Int × Int)) × (List (Int × Int)) × (List ((Int × Int) × Int)) × (List (Int × Int × ((Int × ByteArray × ByteArray × Int × List (Int) × Int) × Int × ByteArray × ByteArray × Int × List (Int) × Int) × List (Int × Int × Int × List (ByteArray) × List (Bool) × Int) × Int)) × (List (Int × Int × ((Int × ByteArray × ByteArray × Int × List (Int) × Int) × Int × ByteArray × ByteArray × Int × List (Int) × Int) × List (Int × Int × Int × List (ByteArray) × List (Bool) × Int) × Int)) × List (Int) × Int × (List (Int × Int × Bool × Int × Int × Int × Int × Int × List (Int) × ByteArray)) × Int × (List (Int × Int × Int × ByteArray)) × (List (Int × Int × Int × ByteArray)) × Int × (List (Int × Bool × Int × Int)) × Unit) (hk : 1048576 < k) (hb : Bd_Life x) : w_eqLife k (x, (y, ())) = some (dq x y, ((), ((), ()))) := by
  obtain ⟨a0, a1, a2, a3, a4, a5, a6, a7, a8, a9, a10, a11, a12, a13, a14, u⟩ := x
  obtain ⟨b0, b1, b2, b3, b4, b5, b6, b7, b8, b9, b10, b11, b12, b13, b14, u'⟩ := y
  unfold w_eqLife
  unfold Bd_Life at hb
  obtain ⟨w2, w3, w4, w5, w6, w7, w9, w11, w12, w14, _⟩ := hb
  simp only [] at w2 w3 w4 w5 w6 w7 w9 w11 w12 w14
  simp only [eqHub_is k (a0, (a1, (a2, (a3, (a4, (a5, ())))))) (b0, (b1, (b2, (b3, (b4, (b5, ())))))) hk ⟨w2, w3, w4, w5, trivial⟩, eqUserS_is k a6 b6 hk w6, eqIntS_is k a7 b7 hk w7, eqFlightS_is k a9 b9 hk w9, eqCarriedS_is k a11 b11 hk w11, eqCarriedS_is k a12 b12 hk w12, eqSealingS_is k a14 b14 hk w14, Option.bind_some]
  by_cases h0 : (a0, (a1, (a2, (a3, (a4, (a5, ())))))) = (b0, (b1, (b2, (b3, (b4, (b5, ()))))))
  rotate_left
  · have hn : (a0, (a1, (a2, (a3, (a4, (a5, (a6, (a7, (a8, (a9, (a10, (a11, (a12, (a13, (a14, ()))))))))))))))) ≠ (b0, (b1, (b2, (b3, (b4, (b5, (b6, (b7, (b8, (b9, (b10, (b11, (b12, (b13, (b14, ()))))))))))))))) := fun h => h0 (by simp only [Prod.mk.injEq] at h; simp_all)
    rw [dq_false hn]
    simp [h0, dq_false]
  simp only [Prod.mk.injEq, and_true] at h0
  obtain ⟨rfl, rfl, rfl, rfl, rfl, rfl⟩ := h0
  by_cases h1 : a6 = b6
  rotate_left
  · have hn : (a0, (a1, (a2, (a3, (a4, (a5, (a6, (a7, (a8, (a9, (a10, (a11, (a12, (a13, (a14, ()))))))))))))))) ≠ (a0, (a1, (a2, (a3, (a4, (a5, (b6, (b7, (b8, (b9, (b10, (b11, (b12, (b13, (b14, ()))))))))))))))) := fun h => h1 (by simp only [Prod.mk.injEq] at h; simp_all)
    rw [dq_false hn]
    simp [h1, dq_false]
  subst h1
  by_cases h2 : a7 = b7
  rotate_left
  · have hn : (a0, (a1, (a2, (a3, (a4, (a5, (a6, (a7, (a8, (a9, (a10, (a11, (a12, (a13, (a14, ()))))))))))))))) ≠ (a0, (a1, (a2, (a3, (a4, (a5, (a6, (b7, (b8, (b9, (b10, (b11, (b12, (b13, (b14, ()))))))))))))))) := fun h => h2 (by simp only [Prod.mk.injEq] at h; simp_all)
    rw [dq_false hn]
    simp [h2, dq_false]
  subst h2
  by_cases h3 : a8 = b8
  rotate_left
  · have hn : (a0, (a1, (a2, (a3, (a4, (a5, (a6, (a7, (a8, (a9, (a10, (a11, (a12, (a13, (a14, ()))))))))))))))) ≠ (a0, (a1, (a2, (a3, (a4, (a5, (a6, (a7, (b8, (b9, (b10, (b11, (b12, (b13, (b14, ()))))))))))))))) := fun h => h3 (by simp only [Prod.mk.injEq] at h; simp_all)
    rw [dq_false hn]
    simp [h3]
  subst h3
  by_cases h4 : a9 = b9
  rotate_left
  · have hn : (a0, (a1, (a2, (a3, (a4, (a5, (a6, (a7, (a8, (a9, (a10, (a11, (a12, (a13, (a14, ()))))))))))))))) ≠ (a0, (a1, (a2, (a3, (a4, (a5, (a6, (a7, (a8, (b9, (b10, (b11, (b12, (b13, (b14, ()))))))))))))))) := fun h => h4 (by simp only [Prod.mk.injEq] at h; simp_all)
    rw [dq_false hn]
    simp [h4, dq_false]
  subst h4
  by_cases h5 : a10 = b10
  rotate_left
  · have hn : (a0, (a1, (a2, (a3, (a4, (a5, (a6, (a7, (a8, (a9, (a10, (a11, (a12, (a13, (a14, ()))))))))))))))) ≠ (a0, (a1, (a2, (a3, (a4, (a5, (a6, (a7, (a8, (a9, (b10, (b11, (b12, (b13, (b14, ()))))))))))))))) := fun h => h5 (by simp only [Prod.mk.injEq] at h; simp_all)
    rw [dq_false hn]
    simp [h5]
  subst h5
  by_cases h6 : a11 = b11
  rotate_left
  · have hn : (a0, (a1, (a2, (a3, (a4, (a5, (a6, (a7, (a8, (a9, (a10, (a11, (a12, (a13, (a14, ()))))))))))))))) ≠ (a0, (a1, (a2, (a3, (a4, (a5, (a6, (a7, (a8, (a9, (a10, (b11, (b12, (b13, (b14, ()))))))))))))))) := fun h => h6 (by simp only [Prod.mk.injEq] at h; simp_all)
    rw [dq_false hn]
    simp [h6, dq_false]
  subst h6
  by_cases h7 : a12 = b12
  rotate_left
  · have hn : (a0, (a1, (a2, (a3, (a4, (a5, (a6, (a7, (a8, (a9, (a10, (a11, (a12, (a13, (a14, ()))))))))))))))) ≠ (a0, (a1, (a2, (a3, (a4, (a5, (a6, (a7, (a8, (a9, (a10, (a11, (b12, (b13, (b14, ()))))))))))))))) := fun h => h7 (by simp only [Prod.mk.injEq] at h; simp_all)
    rw [dq_false hn]
    simp [h7, dq_false]
  subst h7
  by_cases h8 : a13 = b13
  rotate_left
  · have hn : (a0, (a1, (a2, (a3, (a4, (a5, (a6, (a7, (a8, (a9, (a10, (a11, (a12, (a13, (a14, ()))))))))))))))) ≠ (a0, (a1, (a2, (a3, (a4, (a5, (a6, (a7, (a8, (a9, (a10, (a11, (a12, (b13, (b14, ()))))))))))))))) := fun h => h8 (by simp only [Prod.mk.injEq] at h; simp_all)
    rw [dq_false hn]
    simp [h8]
  subst h8
  by_cases h9 : a14 = b14
  rotate_left
  · have hn : (a0, (a1, (a2, (a3, (a4, (a5, (a6, (a7, (a8, (a9, (a10, (a11, (a12, (a13, (a14, ()))))))))))))))) ≠ (a0, (a1, (a2, (a3, (a4, (a5, (a6, (a7, (a8, (a9, (a10, (a11, (a12, (a13, (b14, ()))))))))))))))) := fun h => h9 (by simp only [Prod.mk.injEq] at h; simp_all)
    rw [dq_false hn]
    simp [h9, dq_false]
  subst h9
  simp [dq_self]
abbrev RT_Life : Ty := (.pair (.pair (.pair (.pair (.int .i64) (.int .i64)) (.pair (.list (.pair (.int .i64) (.pair (.int .i64) (.int .i64)))) (.list (.pair (.int .i64) (.int .i64))))) (.pair (.list (.pair (.pair (.int .i64) (.int .i64)) (.int .i64))) (.list (.pair (.int .i64) (.pair (.int .i64) (.pair (.pair (.pair (.int .i64) (.pair .str (.pair .str (.pair (.int .i64) (.pair (.list (.int .i64)) (.int .i64)))))) (.pair (.int .i64) (.pair .str (.pair .str (.pair (.int .i64) (.pair (.list (.int .i64)) (.int .i64))))))) (.pair (.list (.pair (.int .i64) (.pair (.int .i64) (.pair (.int .i64) (.pair (.list .str) (.pair (.list .bool) (.int .i64))))))) (.int .i64)))))))) (.pair (.list (.pair (.int .i64) (.pair (.int .i64) (.pair (.pair (.pair (.int .i64) (.pair .str (.pair .str (.pair (.int .i64) (.pair (.list (.int .i64)) (.int .i64)))))) (.pair (.int .i64) (.pair .str (.pair .str (.pair (.int .i64) (.pair (.list (.int .i64)) (.int .i64))))))) (.pair (.list (.pair (.int .i64) (.pair (.int .i64) (.pair (.int .i64) (.pair (.list .str) (.pair (.list .bool) (.int .i64))))))) (.int .i64)))))) (.pair (.list (.int .i64)) (.pair (.int .i64) (.pair (.list (.pair (.int .i64) (.pair (.int .i64) (.pair .bool (.pair (.int .i64) (.pair (.int .i64) (.pair (.int .i64) (.pair (.int .i64) (.pair (.int .i64) (.pair (.list (.int .i64)) .str)))))))))) (.pair (.int .i64) (.pair (.list (.pair (.int .i64) (.pair (.int .i64) (.pair (.int .i64) .str)))) (.pair (.list (.pair (.int .i64) (.pair (.int .i64) (.pair (.int .i64) .str)))) (.pair (.int .i64) (.list (.pair (.int .i64) (.pair .bool (.pair (.int .i64) (.int .i64))))))))))))))
def ag_Life (r : RT_Life.den) : Int × Int × (List (Int × Int × Int)) × (List (Int × Int)) × (List ((Int × Int) × Int)) × (List (Int × Int × ((Int × ByteArray × ByteArray × Int × List (Int) × Int) × Int × ByteArray × ByteArray × Int × List (Int) × Int) × List (Int × Int × Int × List (ByteArray) × List (Bool) × Int) × Int)) × (List (Int × Int × ((Int × ByteArray × ByteArray × Int × List (Int) × Int) × Int × ByteArray × ByteArray × Int × List (Int) × Int) × List (Int × Int × Int × List (ByteArray) × List (Bool) × Int) × Int)) × List (Int) × Int × (List (Int × Int × Bool × Int × Int × Int × Int × Int × List (Int) × ByteArray)) × Int × (List (Int × Int × Int × ByteArray)) × (List (Int × Int × Int × ByteArray)) × Int × (List (Int × Bool × Int × Int)) × Unit := (r.1.1.1.1, (r.1.1.1.2, (r.1.1.2.1, (r.1.1.2.2, (r.1.2.1, (r.1.2.2, (r.2.1, (r.2.2.1, (r.2.2.2.1, (r.2.2.2.2.1, (r.2.2.2.2.2.1, (r.2.2.2.2.2.2.1, (r.2.2.2.2.2.2.2.1, (r.2.2.2.2.2.2.2.2.1, (r.2.2.2.2.2.2.2.2.2, ())))))))))))))))
theorem ag_Life_inj (r r' : RT_Life.den) : (ag_Life r = ag_Life r') ↔ r = r' := by
  constructor
  · intro h
    obtain ⟨⟨⟨⟨x0, x1⟩, ⟨x2, x3⟩⟩, ⟨x4, x5⟩⟩, ⟨x6, ⟨x7, ⟨x8, ⟨x9, ⟨x10, ⟨x11, ⟨x12, ⟨x13, x14⟩⟩⟩⟩⟩⟩⟩⟩⟩ := r
    obtain ⟨⟨⟨⟨y0, y1⟩, ⟨y2, y3⟩⟩, ⟨y4, y5⟩⟩, ⟨y6, ⟨y7, ⟨y8, ⟨y9, ⟨y10, ⟨y11, ⟨y12, ⟨y13, y14⟩⟩⟩⟩⟩⟩⟩⟩⟩ := r'
    simp only [ag_Life, Prod.mk.injEq, and_true] at h
    simp only [Prod.mk.injEq]
    simp_all
  · intro h
    rw [h]
theorem wfr_Lease (r : RT_Lease.den) (h : RT_Lease.wf r) : Wf_Lease (ag_Lease r) := trivial
theorem wfr_Fixed (r : RT_Fixed.den) (h : RT_Fixed.wf r) : Wf_Fixed (ag_Fixed r) := trivial
theorem wfr_Route (r : RT_Route.den) (h : RT_Route.wf r) : Wf_Route (ag_Route r) := trivial
theorem wfr_Held (r : RT_Held.den) (h : RT_Held.wf r) : Wf_Held (ag_Held r) := ⟨h.2.2.2.1, h.2.2.2.2.1.1, trivial⟩
theorem wfr_User (r : RT_User.den) (h : RT_User.wf r) : Wf_User (ag_User r) := ⟨h.2.2.1.1.2.1, h.2.2.1.1.2.2.1, h.2.2.1.1.2.2.2.2.1.1, h.2.2.1.2.2.1, h.2.2.1.2.2.2.1, h.2.2.1.2.2.2.2.2.1.1, ⟨h.2.2.2.1.1, fun r hr => wfr_Held r (h.2.2.2.1.2 r hr)⟩, trivial⟩
theorem wfr_Flight (r : RT_Flight.den) (h : RT_Flight.wf r) : Wf_Flight (ag_Flight r) := ⟨h.2.2.2.2.2.2.2.2.1.1, h.2.2.2.2.2.2.2.2.2, trivial⟩
theorem wfr_Carried (r : RT_Carried.den) (h : RT_Carried.wf r) : Wf_Carried (ag_Carried r) := ⟨h.2.2.2, trivial⟩
theorem wfr_Sealing (r : RT_Sealing.den) (h : RT_Sealing.wf r) : Wf_Sealing (ag_Sealing r) := trivial
theorem wfr_Life (r : RT_Life.den) (h : RT_Life.wf r) : Wf_Life (ag_Life r) := ⟨⟨h.1.1.2.1.1, fun r hr => wfr_Lease r (h.1.1.2.1.2 r hr)⟩, ⟨h.1.1.2.2.1, fun r hr => wfr_Fixed r (h.1.1.2.2.2 r hr)⟩, ⟨h.1.2.1.1, fun r hr => wfr_Route r (h.1.2.1.2 r hr)⟩, ⟨h.1.2.2.1, fun r hr => wfr_User r (h.1.2.2.2 r hr)⟩, ⟨h.2.1.1, fun r hr => wfr_User r (h.2.1.2 r hr)⟩, h.2.2.1.1, ⟨h.2.2.2.2.1.1, fun r hr => wfr_Flight r (h.2.2.2.2.1.2 r hr)⟩, ⟨h.2.2.2.2.2.2.1.1, fun r hr => wfr_Carried r (h.2.2.2.2.2.2.1.2 r hr)⟩, ⟨h.2.2.2.2.2.2.2.1.1, fun r hr => wfr_Carried r (h.2.2.2.2.2.2.2.1.2 r hr)⟩, ⟨h.2.2.2.2.2.2.2.2.2.1, fun r hr => wfr_Sealing r (h.2.2.2.2.2.2.2.2.2.2 r hr)⟩, trivial⟩
abbrev RT_Hub : Ty := (.pair (.pair (.pair (.int .i64) (.int .i64)) (.pair (.list (.pair (.int .i64) (.pair (.int .i64) (.int .i64)))) (.list (.pair (.int .i64) (.int .i64))))) (.pair (.list (.pair (.pair (.int .i64) (.int .i64)) (.int .i64))) (.list (.pair (.int .i64) (.pair (.int .i64) (.pair (.pair (.pair (.int .i64) (.pair .str (.pair .str (.pair (.int .i64) (.pair (.list (.int .i64)) (.int .i64)))))) (.pair (.int .i64) (.pair .str (.pair .str (.pair (.int .i64) (.pair (.list (.int .i64)) (.int .i64))))))) (.pair (.list (.pair (.int .i64) (.pair (.int .i64) (.pair (.int .i64) (.pair (.list .str) (.pair (.list .bool) (.int .i64))))))) (.int .i64))))))))
def ag_Hub (r : RT_Hub.den) : Int × Int × (List (Int × Int × Int)) × (List (Int × Int)) × (List ((Int × Int) × Int)) × (List (Int × Int × ((Int × ByteArray × ByteArray × Int × List (Int) × Int) × Int × ByteArray × ByteArray × Int × List (Int) × Int) × List (Int × Int × Int × List (ByteArray) × List (Bool) × Int) × Int)) × Unit := (r.1.1.1, (r.1.1.2, (r.1.2.1, (r.1.2.2, (r.2.1, (r.2.2, ()))))))
theorem ag_Hub_inj (r r' : RT_Hub.den) : (ag_Hub r = ag_Hub r') ↔ r = r' := by
  constructor
  · intro h
    obtain ⟨⟨⟨x0, x1⟩, ⟨x2, x3⟩⟩, ⟨x4, x5⟩⟩ := r
    obtain ⟨⟨⟨y0, y1⟩, ⟨y2, y3⟩⟩, ⟨y4, y5⟩⟩ := r'
    simp only [ag_Hub, Prod.mk.injEq, and_true] at h
    simp only [Prod.mk.injEq]
    simp_all
  · intro h
    rw [h]
theorem wfr_Hub (r : RT_Hub.den) (h : RT_Hub.wf r) : Wf_Hub (ag_Hub r) := ⟨⟨h.1.2.1.1, fun r hr => wfr_Lease r (h.1.2.1.2 r hr)⟩, ⟨h.1.2.2.1, fun r hr => wfr_Fixed r (h.1.2.2.2 r hr)⟩, ⟨h.2.1.1, fun r hr => wfr_Route r (h.2.1.2 r hr)⟩, ⟨h.2.2.1, fun r hr => wfr_User r (h.2.2.2 r hr)⟩, trivial⟩
theorem andNot_mask (i : Nat) (hi : i ≤ 62) (x : Int) (h0 : 0 ≤ x) (h1 : x < 2 ^ 63) : bitsI .andNot .i64 x ((2 : Int) ^ i - 1) = x - x % (2 : Int) ^ i := by
  obtain ⟨a, rfl⟩ := Int.eq_ofNat_of_zero_le h0
  have ha : a < 2 ^ 63 := by exact_mod_cast h1
  have hpos : 0 < 2 ^ i := Nat.two_pow_pos i
  have hle : 2 ^ i ≤ 2 ^ 62 := Nat.pow_le_pow_right (by decide) hi
  have hc : ((2 : Int) ^ i - 1) = ((2 ^ i - 1 : Nat) : Int) := by
    rw [Int.natCast_sub hpos]; simp
  have hb : (2 ^ i - 1) % 2 ^ 64 = 2 ^ i - 1 := Nat.mod_eq_of_lt (by omega)
  have ha' : a % 2 ^ 64 = a := Nat.mod_eq_of_lt (by omega)
  have key : a &&& (2 ^ 64 - 1 - (2 ^ i - 1)) = a - a % 2 ^ i := by
    have e : a - a % 2 ^ i = 2 ^ i * (a / 2 ^ i) := by
      have := Nat.div_add_mod a (2 ^ i)
      omega
    rw [e]
    apply Nat.eq_of_testBit_eq
    intro j
    have e2 : 2 ^ 64 - 1 - (2 ^ i - 1) = 2 ^ 64 - (2 ^ i - 1 + 1) := by omega
    rw [e2, Nat.testBit_and, Nat.testBit_two_pow_sub_succ (by omega), Nat.testBit_two_pow_sub_one, Nat.testBit_two_pow_mul, Nat.testBit_div_two_pow]
    by_cases hj : i ≤ j
    · have hj' : ¬ j < i := by omega
      have hs : j - i + i = j := by omega
      by_cases h64 : j < 64
      · simp [hj, hj', h64, hs]
      · have : a.testBit j = false := Nat.testBit_lt_two_pow (Nat.lt_of_lt_of_le ha (Nat.pow_le_pow_right (by decide) (by omega)))
        simp [hj, h64, hs, this]
    · have hj' : j < i := by omega
      simp [hj, hj']
  show IntKind.i64.wrap ((BitVec.ofInt 64 (a : Int) &&& ~~~(BitVec.ofInt 64 ((2 : Int) ^ i - 1))).toNat : Int) = _
  rw [hc, BitVec.toNat_and, BitVec.toNat_not, BitVec.ofInt_natCast, BitVec.ofInt_natCast, BitVec.toNat_ofNat, BitVec.toNat_ofNat, hb, ha', key]
  have hm : a % 2 ^ i ≤ a := Nat.mod_le _ _
  rw [Int.natCast_sub hm, w64_id _ (by omega)]
  simp
theorem emod_le_self (a m : Int) (h : 0 ≤ a) (hm : 0 < m) : 0 ≤ a % m ∧ a % m ≤ a := by
  have h1 := Int.emod_nonneg a (by omega : m ≠ 0)
  have h2 := Int.mul_ediv_add_emod a m
  have h3 : 0 ≤ m * (a / m) := Int.mul_nonneg (by omega) (Int.ediv_nonneg h (by omega))
  omega
theorem pow_pos_int (n : Nat) : 0 < (2 : Int) ^ n := by
  have h0 : 0 < (2 : Nat) ^ n := Nat.two_pow_pos _
  rw [← pow_cast]
  omega
def inB (p n a : Int) : Bool := decide ((0 ≤ p ∧ p ≤ 4294967295) ∧ (0 ≤ n ∧ n ≤ 32) ∧ p % 2 ^ (32 - n.toNat) = 0) && (decide (0 ≤ a ∧ a ≤ 4294967295) && decide (a - a % (2 : Int) ^ (32 - n.toNat) = p))
theorem s_InPrefix_is (k : Nat) (p n a : Int) (hk : 40 < k) : s_InPrefix k ((p, (n, ())), (a, ())) = some (inB p n a, ((), ((), ()))) := by
  unfold s_InPrefix inB
  simp only [s_PrefixOk_is k p n hk, s_AddrOk_is, Option.bind_some]
  cases hd : decide ((0 ≤ p ∧ p ≤ 4294967295) ∧ (0 ≤ n ∧ n ≤ 32) ∧ p % 2 ^ (32 - n.toNat) = 0) with
  | false => simp
  | true =>
    have h' := (of_decide_eq_true hd).2.1
    by_cases h : 0 ≤ a ∧ a ≤ 4294967295
    · have hp := pow_pos_int (32 - n.toNat)
      have hm := emod_le_self a _ h.1 hp
      have w : wi64 (a - a % (2 : Int) ^ (32 - n.toNat)) = a - a % (2 : Int) ^ (32 - n.toNat) := w64_id _ (by omega)
      simp only [l08Size_is k n h' hk, Option.bind_some, h, and_self, decide_true, if_true, Bool.true_and]
      rw [if_neg (by omega), Int.tmod_eq_emod_of_nonneg h.1, w]
    · simp [h]
theorem i_InPrefix_is (k : Nat) (p n a : Int) : i_InPrefix k ((p, (n, ())), (a, ())) = some (inB p n a, ((), ((), ()))) := by
  unfold i_InPrefix inB
  simp only [i_PrefixOk_is, i_AddrOk_is, Option.bind_some]
  cases hd : decide ((0 ≤ p ∧ p ≤ 4294967295) ∧ (0 ≤ n ∧ n ≤ 32) ∧ p % 2 ^ (32 - n.toNat) = 0) with
  | false => simp
  | true =>
    have h' := (of_decide_eq_true hd).2.1
    by_cases h : 0 ≤ a ∧ a ≤ 4294967295
    · simp only [lastBits_is k n h', Option.bind_some, h, and_self, decide_true, if_true, Bool.true_and]
      rw [andNot_mask _ (by omega) a h.1 (by omega)]
    · simp [h]
theorem Compare_is (k : Nat) (a b : Int) : x_cmp_Compare_int k (a, (b, ())) = some ((if a < b then -1 else if b < a then 1 else 0), ((), ((), ()))) := by
  unfold x_cmp_Compare_int x_cmp_isNaN_int
  simp only [Option.bind_some, decide_true, Bool.not_true, Bool.false_eq_true, if_false]
  by_cases h : a < b
  · simp [h]
  · by_cases h' : b < a <;> simp [h, h']
theorem Or_is (k : Nat) (a b : Int) (hk : 3 < k) : x_cmp_Or_int k ([a, b], ()) = some ((if a = 0 then b else a), ((), ())) := by
  unfold x_cmp_Or_int
  have r0 : Ty.rd (t := .int .i64) [a, b] 0 = a := rfl
  have r1 : Ty.rd (t := .int .i64) [a, b] 1 = b := rfl
  refine (loop_find (R := Int × Unit × Unit) (fun j => ((0 : Int), ([a, b], ((2 : Int), (((j : Nat) : Int), ()))))) 2 (fun j => !decide (Ty.rd (t := .int .i64) [a, b] (j : Nat) = 0)) (fun j => (Ty.rd (t := .int .i64) [a, b] (j : Nat), ((), ()))) (0, ((), ())) ?_ ?_ k (by omega)).trans ?_
  · intro ag j hj
    have q1 : (0 : Int) ≤ (j : Int) ∧ (j : Int) < (([a, b] : List Int).length : Int) := by simp; omega
    have q2 : (j : Int) < 2 := by omega
    have w3 : wi64 ((j : Int) + 1) = ((j + 1 : Nat) : Int) := (w64_id _ (by omega)).trans (by omega)
    simp only [q1, q2, w3, and_self, decide_true, if_true]
  · intro ag
    simp
  · have e : List.range 2 = [0, 1] := rfl
    rw [e]
    by_cases h : a = 0
    · subst h
      by_cases h1 : b = 0
      · subst h1
        simp [Ty.rd]
      · simp [Ty.rd, h1]
    · simp [Ty.rd, h]
def aheadB (p n q m : Int) : Bool := decide (p < q) || (decide (p = q) && decide (n < m))
theorem Ahead_is (k : Nat) (p n q m : Int) : s_l09Ahead k ((p, (n, ())), ((q, (m, ())), ())) = some (aheadB p n q m, ((), ((), ()))) := by
  unfold s_l09Ahead aheadB
  by_cases h : p < q
  · simp [h]
  · by_cases h' : p = q <;> simp [h, h']
theorem comparePrefixes_is (k : Nat) (p n q m : Int) (hk : 3 < k) : ∃ c : Int, i_comparePrefixes k ((p, (n, ())), ((q, (m, ())), ())) = some (c, ((), ((), ()))) ∧ (0 ≤ c ↔ aheadB p n q m = false) := by
  unfold i_comparePrefixes aheadB
  simp only [Compare_is, Or_is k _ _ hk, Option.bind_some]
  refine ⟨_, rfl, ?_⟩
  by_cases h : p < q
  · simp [h]
  · by_cases h' : q < p
    · have : ¬ p = q := by omega
      simp [h, h', this]
    · have : p = q := by omega
      subst this
      by_cases h3 : n < m
      · simp [h3]
      · by_cases h4 : m < n <;> simp [h3, h4]
def gRoute (a : List RT_Route.den) (i : Nat) (_ : Unit) : (Bool × Unit × Unit) ⊕ Unit :=
  let r := Ty.rd (t := RT_Route) a i
  let p := Ty.rd (t := RT_Route) a (wi64 ((i : Int) - 1))
  if decide ((0 ≤ r.1.1 ∧ r.1.1 ≤ 4294967295) ∧ (0 ≤ r.1.2 ∧ r.1.2 ≤ 32) ∧ r.1.1 % 2 ^ (32 - r.1.2.toNat) = 0) && (decide (1 ≤ r.2 ∧ r.2 ≤ 99) && (!decide (0 < (i : Int)) || aheadB p.1.1 p.1.2 r.1.1 r.1.2)) then .inr () else .inl (false, ((), ()))
def routesB (a : List RT_Route.den) : Bool := (foldE (gRoute a) (fun _ => (decide ((a.length : Int) ≤ 12), ((), ()))) a.length 0 ()).1
theorem s_RoutesOk_is (k : Nat) (a : List RT_Route.den) (hk : 1048576 < k) (hl : a.length ≤ 1048576) : s_RoutesOk k (a, ()) = some (routesB a, ((), ())) := by
  unfold s_RoutesOk
  refine (loop_fold (A := Unit) (fun i _ => (a, (((i : Nat) : Int), ()))) a.length (gRoute a) (fun _ => (decide ((a.length : Int) ≤ 12), ((), ()))) (fun _ _ => True) ?_ (fun _ _ _ _ _ _ => trivial) ?_ k () trivial (by omega)).trans rfl
  · intro again i _ hi _
    have w2 : wi64 ((i : Int) + 1) = ((i + 1 : Nat) : Int) := (w64_id _ (by omega)).trans (by omega)
    have w1 : wi64 ((i : Int) - 1) = (i : Int) - 1 := w64_id _ (by omega)
    have g1 : (0 : Int) ≤ (i : Int) ∧ (i : Int) < (a.length : Int) := by omega
    unfold gRoute
    simp only [g1, s_PrefixOk_is k _ _ (by omega : 40 < k), Ahead_is, l01In_is, w2, and_self, decide_true, if_true, Option.bind_some]
    generalize decide ((0 ≤ (Ty.rd (t := RT_Route) a i).1.1 ∧ (Ty.rd (t := RT_Route) a i).1.1 ≤ 4294967295) ∧ (0 ≤ (Ty.rd (t := RT_Route) a i).1.2 ∧ (Ty.rd (t := RT_Route) a i).1.2 ≤ 32) ∧ (Ty.rd (t := RT_Route) a i).1.1 % 2 ^ (32 - (Ty.rd (t := RT_Route) a i).1.2.toNat) = 0) = b1
    generalize decide (1 ≤ (Ty.rd (t := RT_Route) a i).2 ∧ (Ty.rd (t := RT_Route) a i).2 ≤ 99) = b2
    cases b1 with
    | false => simp
    | true =>
      cases b2 with
      | false => simp
      | true =>
        by_cases h2 : 0 < (i : Int)
        · have g3 : (0 : Int) ≤ wi64 ((i : Int) - 1) ∧ wi64 ((i : Int) - 1) < (a.length : Int) := by rw [w1]; omega
          simp only [h2, g3, and_self, decide_true, Bool.not_true, if_true, Bool.true_and, Bool.false_or]
          generalize aheadB _ _ _ _ = b3
          cases b3 <;> simp
        · have : i = 0 := by omega
          subst this
          simp
  · intro again _ _
    simp
theorem isId_is (k : Nat) (a : Int) : i_isId k (a, ()) = some (decide (1 ≤ a ∧ a ≤ 99), ((), ())) := by
  unfold i_isId
  rw [within_is]
  rfl
theorem i_RoutesOk_is (k : Nat) (a : List RT_Route.den) (hk : 1048576 < k) (hl : a.length ≤ 1048576) : i_RoutesOk k (a, ()) = some (routesB a, ((), ())) := by
  unfold i_RoutesOk
  refine (loop_fold (A := Unit) (fun i _ => (a, (a, ((a.length : Int), (((i : Nat) : Int), ()))))) a.length (gRoute a) (fun _ => (decide ((a.length : Int) ≤ 12), ((), ()))) (fun _ _ => True) ?_ (fun _ _ _ _ _ _ => trivial) ?_ k () trivial (by omega)).trans rfl
  · intro again i _ hi _
    have w2 : wi64 ((i : Int) + 1) = ((i + 1 : Nat) : Int) := (w64_id _ (by omega)).trans (by omega)
    have w1 : wi64 ((i : Int) - 1) = (i : Int) - 1 := w64_id _ (by omega)
    have g1 : (0 : Int) ≤ (i : Int) ∧ (i : Int) < (a.length : Int) := by omega
    unfold gRoute
    obtain ⟨c, hc, hc'⟩ := comparePrefixes_is k (Ty.rd (t := RT_Route) a (wi64 ((i : Int) - 1))).1.1 (Ty.rd (t := RT_Route) a (wi64 ((i : Int) - 1))).1.2 (Ty.rd (t := RT_Route) a i).1.1 (Ty.rd (t := RT_Route) a i).1.2 (by omega)
    simp only [g1, i_PrefixOk_is, hc, isId_is, w2, and_self, decide_true, if_true, Option.bind_some]
    generalize decide ((0 ≤ (Ty.rd (t := RT_Route) a i).1.1 ∧ (Ty.rd (t := RT_Route) a i).1.1 ≤ 4294967295) ∧ (0 ≤ (Ty.rd (t := RT_Route) a i).1.2 ∧ (Ty.rd (t := RT_Route) a i).1.2 ≤ 32) ∧ (Ty.rd (t := RT_Route) a i).1.1 % 2 ^ (32 - (Ty.rd (t := RT_Route) a i).1.2.toNat) = 0) = b1
    generalize decide (1 ≤ (Ty.rd (t := RT_Route) a i).2 ∧ (Ty.rd (t := RT_Route) a i).2 ≤ 99) = b2
    generalize aheadB _ _ _ _ = b3 at hc'
    cases b1 with
    | false => simp
    | true =>
      cases b2 with
      | false => simp
      | true =>
        by_cases h2 : 0 < (i : Int)
        · have g3 : (0 : Int) ≤ wi64 ((i : Int) - 1) ∧ wi64 ((i : Int) - 1) < (a.length : Int) := by rw [w1]; omega
          simp only [h2, g3, and_self, decide_true, Bool.not_true, if_true, Bool.true_and, Bool.false_or]
          cases b3 with
          | false => have := hc'.2 rfl; simp [this]
          | true =>
            have : ¬ 0 ≤ c := fun h => by have := hc'.1 h; simp at this
            simp [this]
        · have : i = 0 := by omega
          subst this
          simp
  · intro again _ _
    simp
abbrev PoolA : Type := Int × Int × List (Int × Int × Int) × List (Int × Int) × Unit
def hostB (p n a : Int) : Bool := inB p n a && (!decide (a = p) && !decide (a = p + ((2 : Int) ^ (32 - n.toNat) - 1)))
theorem inB_in {p n a : Int} (h : inB p n a = true) : (0 ≤ p ∧ p ≤ 4294967295) ∧ (0 ≤ n ∧ n ≤ 32) ∧ p % 2 ^ (32 - n.toNat) = 0 := by
  unfold inB at h
  rw [Bool.and_eq_true] at h
  exact of_decide_eq_true h.1
theorem pow_le_32 (n : Int) : (2 : Int) ^ (32 - n.toNat) ≤ 4294967296 := by
  have h : (2 : Nat) ^ (32 - n.toNat) ≤ 2 ^ 32 := Nat.pow_le_pow_right (by decide) (by omega)
  have h : ((2 ^ (32 - n.toNat) : Nat) : Int) ≤ ((2 ^ 32 : Nat) : Int) := Int.ofNat_le.2 h
  rw [pow_cast] at h
  exact h
theorem isHost_is (k : Nat) (p n a : Int) : i_isHost k ((p, (n, ())), (a, ())) = some (hostB p n a, ((), ((), ()))) := by
  unfold i_isHost hostB
  simp only [i_InPrefix_is, Option.bind_some]
  cases hb : inB p n a with
  | false => simp
  | true =>
    obtain ⟨h1, h2, h3⟩ := inB_in hb
    have hp := pow_pos_int (32 - n.toNat)
    have hq := pow_le_32 n
    simp only [lastBits_is k n h2, Option.bind_some, if_true, Bool.true_and]
    rw [or_join (32 - n.toNat) p _ h1.1 h3 (by omega) (by omega) (by omega) (by omega)]
    by_cases e : a = p <;> simp [e]
theorem Inside_is (k : Nat) (x : PoolA) (a : Int) (hk : 40 < k) : s_l11Inside k (x, (a, ())) = some (hostB x.1 x.2.1 a, ((), ((), ()))) := by
  unfold s_l11Inside hostB
  simp only [s_InPrefix_is k _ _ _ hk, Option.bind_some]
  cases hb : inB x.1 x.2.1 a with
  | false => simp
  | true =>
    obtain ⟨h1, h2, h3⟩ := inB_in hb
    have hp := pow_pos_int (32 - x.2.1.toNat)
    have hq := pow_le_32 x.2.1
    have w1 : wi64 (x.1 + (2 : Int) ^ (32 - x.2.1.toNat)) = x.1 + (2 : Int) ^ (32 - x.2.1.toNat) := w64_id _ (by omega)
    have w2 : wi64 (x.1 + ((2 : Int) ^ (32 - x.2.1.toNat) - 1)) = x.1 + ((2 : Int) ^ (32 - x.2.1.toNat) - 1) := w64_id _ (by omega)
    have e2 : x.1 + (2 : Int) ^ (32 - x.2.1.toNat) - 1 = x.1 + ((2 : Int) ^ (32 - x.2.1.toNat) - 1) := by omega
    simp only [l08Size_is k x.2.1 h2 hk, Option.bind_some, if_true, Bool.true_and, w1, e2, w2]
    by_cases e : a = x.1 <;> simp [e]
def fixedB (q : List RT_Fixed.den) (a : Int) : Int := match (List.range q.length).find? (fun j => decide ((Ty.rd (t := RT_Fixed) q (j : Nat)).2 = a)) with | some j => (Ty.rd (t := RT_Fixed) q (j : Nat)).1 | none => 0
theorem fixedFor_is (k : Nat) (x : PoolA) (a : Int) (hk : 1048576 < k) (hl : x.2.2.2.1.length ≤ 1048576) : i_fixedFor k (x, (a, ())) = some (fixedB x.2.2.2.1 a, ((), ((), ()))) := by
  unfold i_fixedFor fixedB
  refine (loop_find (R := Int × Unit × Unit × Unit) (fun j => (a, (x.2.2.2.1, ((x.2.2.2.1.length : Int), (((j : Nat) : Int), ()))))) x.2.2.2.1.length (fun j => decide ((Ty.rd (t := RT_Fixed) x.2.2.2.1 (j : Nat)).2 = a)) (fun j => ((Ty.rd (t := RT_Fixed) x.2.2.2.1 (j : Nat)).1, ((), ((), ())))) (0, ((), ((), ()))) ?_ ?_ k (by omega)).trans ?_
  · intro ag j hj
    have q1 : (0 : Int) ≤ (j : Int) ∧ (j : Int) < (x.2.2.2.1.length : Int) := by omega
    have w3 : wi64 ((j : Int) + 1) = ((j + 1 : Nat) : Int) := (w64_id _ (by omega)).trans (by omega)
    simp only [q1, w3, and_self, decide_true, if_true]
  · intro ag
    simp only [Int.lt_irrefl, decide_false, Bool.false_eq_true, if_false]
  · cases (List.range x.2.2.2.1.length).find? (fun j => decide ((Ty.rd (t := RT_Fixed) x.2.2.2.1 (j : Nat)).2 = a)) <;> rfl
theorem l11FixedFor_is (k : Nat) (x : PoolA) (a : Int) (hk : 1048576 < k) (hl : x.2.2.2.1.length ≤ 1048576) : s_l11FixedFor k (x, (a, ())) = some (fixedB x.2.2.2.1 a, ((), ((), ()))) := by
  unfold s_l11FixedFor fixedB
  refine (loop_find (R := Int × Unit × Unit × Unit) (fun j => (a, (x, (((j : Nat) : Int), ())))) x.2.2.2.1.length (fun j => decide ((Ty.rd (t := RT_Fixed) x.2.2.2.1 (j : Nat)).2 = a)) (fun j => ((Ty.rd (t := RT_Fixed) x.2.2.2.1 (j : Nat)).1, ((), ((), ())))) (0, ((), ((), ()))) ?_ ?_ k (by omega)).trans ?_
  · intro ag j hj
    have q1 : (0 : Int) ≤ (j : Int) ∧ (j : Int) < (x.2.2.2.1.length : Int) := by omega
    have w3 : wi64 ((j : Int) + 1) = ((j + 1 : Nat) : Int) := (w64_id _ (by omega)).trans (by omega)
    simp only [q1, w3, and_self, decide_true, if_true]
  · intro ag
    simp only [Int.lt_irrefl, decide_false, Bool.false_eq_true, if_false]
  · cases (List.range x.2.2.2.1.length).find? (fun j => decide ((Ty.rd (t := RT_Fixed) x.2.2.2.1 (j : Nat)).2 = a)) <;> rfl
def badF (x : PoolA) (i : Nat) : Bool := !(decide (1 ≤ (Ty.rd (t := RT_Fixed) x.2.2.2.1 i).1 ∧ (Ty.rd (t := RT_Fixed) x.2.2.2.1 i).1 ≤ 99) && (hostB x.1 x.2.1 (Ty.rd (t := RT_Fixed) x.2.2.2.1 i).2 && (!(decide (0 < (i : Int)) && decide ((Ty.rd (t := RT_Fixed) x.2.2.2.1 i).1 ≤ (Ty.rd (t := RT_Fixed) x.2.2.2.1 (wi64 ((i : Int) - 1))).1)) && decide (fixedB x.2.2.2.1 (Ty.rd (t := RT_Fixed) x.2.2.2.1 i).2 = (Ty.rd (t := RT_Fixed) x.2.2.2.1 i).1))))
def leaseB (q : List RT_Lease.den) (w : Int) : Int := match (List.range q.length).find? (fun j => decide ((Ty.rd (t := RT_Lease) q (j : Nat)).2.1 = w)) with | some j => ((j : Nat) : Int) | none => -1
theorem leaseOf_is (k : Nat) (x : PoolA) (w : Int) (hk : 1048576 < k) (hl : x.2.2.1.length ≤ 1048576) : i_leaseOf k (x, (w, ())) = some (leaseB x.2.2.1 w, ((), ((), ()))) := by
  have h : x_slices_IndexFunc_impl_Lease_impl_Lease_of_i_leaseOf_1 k (x.2.2.1, (((w, ()), ()), ())) = some (leaseB x.2.2.1 w, ((), ((((w, ()), ()), ())))) := by
    unfold x_slices_IndexFunc_impl_Lease_impl_Lease_of_i_leaseOf_1 leaseB
    refine (loop_find (R := Int × Unit × ((Int × Unit) × Unit) × Unit) (fun j => (x.2.2.1, ((((w, ()), ())), ((x.2.2.1.length : Int), (((j : Nat) : Int), ()))))) x.2.2.1.length (fun j => decide ((Ty.rd (t := RT_Lease) x.2.2.1 (j : Nat)).2.1 = w)) (fun j => (((j : Nat) : Int), ((), ((((w, ()), ()), ()))))) (-1, ((), ((((w, ()), ()), ())))) ?_ ?_ k (by omega)).trans ?_
    · intro ag j hj
      have q1 : (0 : Int) ≤ (j : Int) ∧ (j : Int) < (x.2.2.1.length : Int) := by omega
      have w3 : wi64 ((j : Int) + 1) = ((j + 1 : Nat) : Int) := (w64_id _ (by omega)).trans (by omega)
      simp only [q1, w3, i_leaseOf_1, and_self, decide_true, if_true, Option.bind_some]
    · intro ag
      simp only [Int.lt_irrefl, decide_false, Bool.false_eq_true, if_false]
    · cases (List.range x.2.2.1.length).find? (fun j => decide ((Ty.rd (t := RT_Lease) x.2.2.1 (j : Nat)).2.1 = w)) <;> rfl
  unfold i_leaseOf
  rw [h]
  rfl
def badL (x : PoolA) (i : Nat) : Bool := !(!(decide (0 < (i : Int)) && decide ((Ty.rd (t := RT_Lease) x.2.2.1 i).1 ≤ (Ty.rd (t := RT_Lease) x.2.2.1 (wi64 ((i : Int) - 1))).1)) && (hostB x.1 x.2.1 (Ty.rd (t := RT_Lease) x.2.2.1 i).1 && (decide (1 ≤ (Ty.rd (t := RT_Lease) x.2.2.1 i).2.1 ∧ (Ty.rd (t := RT_Lease) x.2.2.1 i).2.1 ≤ 99) && (decide (0 ≤ (Ty.rd (t := RT_Lease) x.2.2.1 i).2.2 ∧ (Ty.rd (t := RT_Lease) x.2.2.1 i).2.2 ≤ 1000000000) && ((List.range i).all (fun j => !decide ((Ty.rd (t := RT_Lease) x.2.2.1 (j : Nat)).2.1 = (Ty.rd (t := RT_Lease) x.2.2.1 i).2.1)) && (decide (fixedB x.2.2.2.1 (Ty.rd (t := RT_Lease) x.2.2.1 i).1 = 0) || decide (fixedB x.2.2.2.1 (Ty.rd (t := RT_Lease) x.2.2.1 i).1 = (Ty.rd (t := RT_Lease) x.2.2.1 i).2.1)))))))
def prefB (p n : Int) : Bool := decide ((0 ≤ p ∧ p ≤ 4294967295) ∧ (0 ≤ n ∧ n ≤ 32) ∧ p % 2 ^ (32 - n.toNat) = 0)
def poolB (x : PoolA) : Bool := prefB x.1 x.2.1 && (decide (24 ≤ x.2.1 ∧ x.2.1 ≤ 30) && (decide (x.2.2.1.length ≤ 6) && (decide (x.2.2.2.1.length ≤ 4) && ((List.range x.2.2.2.1.length).all (fun j => !badF x j) && (List.range x.2.2.1.length).all (fun j => !badL x j)))))
theorem fixesOk_is (k : Nat) (x : PoolA) (hk : 1048576 < k) (hl : x.2.2.2.1.length ≤ 1048576) : i_fixesOk k (x, ()) = some (((List.range x.2.2.2.1.length).all (fun j => !badF x j) && decide (x.2.2.2.1.length ≤ 4)), ((), ())) := by
  unfold i_fixesOk
  refine (find_loop_opt (fun i => (x, (x.2.2.2.1, ((x.2.2.2.1.length : Int), (((i : Nat) : Int), ()))))) x.2.2.2.1.length (badF x) (some (false, ((), ()))) (some (decide (x.2.2.2.1.length ≤ 4), ((), ()))) ?_ ?_ k (by omega)).trans ?_
  · intro again i hi
    have w2 : wi64 ((i : Int) + 1) = ((i + 1 : Nat) : Int) := (w64_id _ (by omega)).trans (by omega)
    have w1 : wi64 ((i : Int) - 1) = (i : Int) - 1 := w64_id _ (by omega)
    have g1 : (0 : Int) ≤ (i : Int) ∧ (i : Int) < (x.2.2.2.1.length : Int) := by omega
    rw [show badF x i = (!(decide (1 ≤ (Ty.rd (t := RT_Fixed) x.2.2.2.1 i).1 ∧ (Ty.rd (t := RT_Fixed) x.2.2.2.1 i).1 ≤ 99) && (hostB x.1 x.2.1 (Ty.rd (t := RT_Fixed) x.2.2.2.1 i).2 && (!(decide (0 < (i : Int)) && decide ((Ty.rd (t := RT_Fixed) x.2.2.2.1 i).1 ≤ (Ty.rd (t := RT_Fixed) x.2.2.2.1 (wi64 ((i : Int) - 1))).1)) && decide (fixedB x.2.2.2.1 (Ty.rd (t := RT_Fixed) x.2.2.2.1 i).2 = (Ty.rd (t := RT_Fixed) x.2.2.2.1 i).1))))) from rfl]
    simp only [g1, isId_is, isHost_is, fixedFor_is k x _ hk hl, w2, and_self, decide_true, if_true, Option.bind_some]
    by_cases c1 : 1 ≤ (Ty.rd (t := RT_Fixed) x.2.2.2.1 i).1 ∧ (Ty.rd (t := RT_Fixed) x.2.2.2.1 i).1 ≤ 99
    rotate_left
    · simp only [c1, decide_false, Bool.not_false, Bool.true_eq_false, if_false, Bool.false_and, if_true]
    cases c2 : hostB x.1 x.2.1 (Ty.rd (t := RT_Fixed) x.2.2.2.1 i).2 with
    | false => simp only [c1, and_self, decide_true, Bool.not_true, Bool.not_false, Bool.true_eq_false, if_true, if_false, Bool.false_and, Bool.true_and]
    | true =>
      by_cases h2 : 0 < (i : Int)
      · have g3 : (0 : Int) ≤ wi64 ((i : Int) - 1) ∧ wi64 ((i : Int) - 1) < (x.2.2.2.1.length : Int) := by rw [w1]; omega
        by_cases c3 : (Ty.rd (t := RT_Fixed) x.2.2.2.1 i).1 ≤ (Ty.rd (t := RT_Fixed) x.2.2.2.1 (wi64 ((i : Int) - 1))).1
        · simp only [c1, c3, h2, g3, and_self, decide_true, Bool.not_true, Bool.not_false, Bool.true_eq_false, if_true, if_false, Bool.false_and, Bool.true_and]
        · by_cases c4 : fixedB x.2.2.2.1 (Ty.rd (t := RT_Fixed) x.2.2.2.1 i).2 = (Ty.rd (t := RT_Fixed) x.2.2.2.1 i).1 <;>
            simp only [c1, c3, c4, h2, g3, and_self, decide_true, decide_false, Bool.not_true, Bool.not_false, Bool.false_eq_true, if_true, if_false, Bool.and_false, Bool.true_and]
      · by_cases c4 : fixedB x.2.2.2.1 (Ty.rd (t := RT_Fixed) x.2.2.2.1 i).2 = (Ty.rd (t := RT_Fixed) x.2.2.2.1 i).1 <;>
          simp only [c1, c4, h2, and_self, decide_true, decide_false, Bool.not_true, Bool.not_false, Bool.false_eq_true, if_true, if_false, Bool.false_and, Bool.true_and]
  · intro ag
    have e : decide ((x.2.2.2.1.length : Int) ≤ 4) = decide (x.2.2.2.1.length ≤ 4) := by rw [decide_eq_decide]; omega
    simp only [Int.lt_irrefl, decide_false, Bool.false_eq_true, if_false, e]
  · cases (List.range x.2.2.2.1.length).all (fun j => !badF x j) <;> simp
theorem leaseB_at (q : List RT_Lease.den) (i : Nat) (hi : i < q.length) : (leaseB q (Ty.rd (t := RT_Lease) q i).2.1 = (i : Int)) ↔ (List.range i).all (fun j => !decide ((Ty.rd (t := RT_Lease) q (j : Nat)).2.1 = (Ty.rd (t := RT_Lease) q i).2.1)) = true := by
  have hself : (fun j : Nat => decide ((Ty.rd (t := RT_Lease) q (j : Nat)).2.1 = (Ty.rd (t := RT_Lease) q i).2.1)) i = true := by simp
  have hfa := find_at (p := fun j : Nat => decide ((Ty.rd (t := RT_Lease) q (j : Nat)).2.1 = (Ty.rd (t := RT_Lease) q i).2.1)) hi hself
  have hall : (List.range i).all (fun j => !decide ((Ty.rd (t := RT_Lease) q (j : Nat)).2.1 = (Ty.rd (t := RT_Lease) q i).2.1)) = true ↔ ∀ j, j < i → decide ((Ty.rd (t := RT_Lease) q (j : Nat)).2.1 = (Ty.rd (t := RT_Lease) q i).2.1) = false := by simp
  rw [hall, ← hfa]
  unfold leaseB
  cases hf : (List.range q.length).find? (fun j => decide ((Ty.rd (t := RT_Lease) q (j : Nat)).2.1 = (Ty.rd (t := RT_Lease) q i).2.1)) with
  | none =>
    exfalso
    have := List.find?_eq_none.1 hf i (by simpa using hi)
    exact this hself
  | some j =>
    simp only [Option.some.injEq]
    omega
theorem i_PoolOk_is (k : Nat) (x : PoolA) (hk : 1048576 < k) (hl : x.2.2.1.length ≤ 1048576) (hl' : x.2.2.2.1.length ≤ 1048576) : i_PoolOk k (x, ()) = some (poolB x, ((), ())) := by
  unfold i_PoolOk poolB
  simp only [i_PrefixOk_is, within_is, fixesOk_is k x hk hl', Option.bind_some]
  rw [show decide ((0 ≤ x.1 ∧ x.1 ≤ 4294967295) ∧ (0 ≤ x.2.1 ∧ x.2.1 ≤ 32) ∧ x.1 % 2 ^ (32 - x.2.1.toNat) = 0) = prefB x.1 x.2.1 from rfl]
  cases prefB x.1 x.2.1 with
  | false => simp
  | true =>
    by_cases h1 : 24 ≤ x.2.1 ∧ x.2.1 ≤ 30
    rotate_left
    · simp [h1]
    cases hF : (List.range x.2.2.2.1.length).all (fun j => !badF x j) with
    | false => simp [h1]
    | true =>
      by_cases h4 : x.2.2.2.1.length ≤ 4
      rotate_left
      · simp [h1, h4]
      by_cases h6 : x.2.2.1.length ≤ 6
      rotate_left
      · have h6' : (6 : Int) < (x.2.2.1.length : Int) := by omega
        simp [h1, h4, h6, h6']
      have h6' : ¬ (6 : Int) < (x.2.2.1.length : Int) := by omega
      simp only [h1, h4, h6, h6', and_self, decide_true, decide_false, Bool.not_true, Bool.and_self, Bool.true_and, Bool.false_eq_true, if_true, if_false]
      refine (find_loop_opt (fun i => (x, (x.2.2.1, ((x.2.2.1.length : Int), (((i : Nat) : Int), ()))))) x.2.2.1.length (badL x) (some (false, ((), ()))) (some (true, ((), ()))) ?_ ?_ k (by omega)).trans ?_
      · intro again i hi
        have w2 : wi64 ((i : Int) + 1) = ((i + 1 : Nat) : Int) := (w64_id _ (by omega)).trans (by omega)
        have w1 : wi64 ((i : Int) - 1) = (i : Int) - 1 := w64_id _ (by omega)
        have g1 : (0 : Int) ≤ (i : Int) ∧ (i : Int) < (x.2.2.1.length : Int) := by omega
        have hat := leaseB_at x.2.2.1 i hi
        have hu : decide (leaseB x.2.2.1 (Ty.rd (t := RT_Lease) x.2.2.1 i).2.1 = (i : Int)) = (List.range i).all (fun j => !decide ((Ty.rd (t := RT_Lease) x.2.2.1 (j : Nat)).2.1 = (Ty.rd (t := RT_Lease) x.2.2.1 i).2.1)) := by
          rw [Bool.eq_iff_iff, decide_eq_true_eq, hat]
        rw [show badL x i = (!(!(decide (0 < (i : Int)) && decide ((Ty.rd (t := RT_Lease) x.2.2.1 i).1 ≤ (Ty.rd (t := RT_Lease) x.2.2.1 (wi64 ((i : Int) - 1))).1)) && (hostB x.1 x.2.1 (Ty.rd (t := RT_Lease) x.2.2.1 i).1 && (decide (1 ≤ (Ty.rd (t := RT_Lease) x.2.2.1 i).2.1 ∧ (Ty.rd (t := RT_Lease) x.2.2.1 i).2.1 ≤ 99) && (decide (0 ≤ (Ty.rd (t := RT_Lease) x.2.2.1 i).2.2 ∧ (Ty.rd (t := RT_Lease) x.2.2.1 i).2.2 ≤ 1000000000) && ((List.range i).all (fun j => !decide ((Ty.rd (t := RT_Lease) x.2.2.1 (j : Nat)).2.1 = (Ty.rd (t := RT_Lease) x.2.2.1 i).2.1)) && (decide (fixedB x.2.2.2.1 (Ty.rd (t := RT_Lease) x.2.2.1 i).1 = 0) || decide (fixedB x.2.2.2.1 (Ty.rd (t := RT_Lease) x.2.2.1 i).1 = (Ty.rd (t := RT_Lease) x.2.2.1 i).2.1)))))))) from rfl]
        simp only [g1, isId_is, isHost_is, fixedFor_is k x _ hk hl', leaseOf_is k x _ hk hl, hu, w2, and_self, decide_true, if_true, Option.bind_some]
        have rest : ∀ b1 b2 b3 b4 b5 b6 : Bool, ∀ go : Option (Bool × Unit × Unit), (if (!b1) = false then
            if (!b2) = false then
              if (!b3) = true then some (false, ((), ()))
              else if (!b4) = false then
                if (!b5) = true then
                  if (!b6) = true then some (false, ((), ())) else go
                else go
              else some (false, ((), ()))
            else some (false, ((), ()))
          else some (false, ((), ()))) = if (!(b1 && (b2 && (b3 && (b4 && (b5 || b6)))))) = true then some (false, ((), ())) else go := by
          intro b1 b2 b3 b4 b5 b6 go
          cases b1 <;> cases b2 <;> cases b3 <;> cases b4 <;> cases b5 <;> cases b6 <;> rfl
        by_cases h2 : 0 < (i : Int)
        · have g3 : (0 : Int) ≤ wi64 ((i : Int) - 1) ∧ wi64 ((i : Int) - 1) < (x.2.2.1.length : Int) := by rw [w1]; omega
          by_cases c3 : (Ty.rd (t := RT_Lease) x.2.2.1 i).1 ≤ (Ty.rd (t := RT_Lease) x.2.2.1 (wi64 ((i : Int) - 1))).1
          · simp only [c3, h2, g3, and_self, decide_true, Bool.not_true, Bool.not_false, Bool.true_eq_false, if_true, if_false, Bool.false_and, Bool.and_self]
          · simp only [c3, h2, g3, and_self, decide_true, decide_false, if_true, Bool.and_false, Bool.not_false, Bool.true_and]
            exact rest _ _ _ _ _ _ _
        · simp only [h2, decide_false, Bool.false_eq_true, if_false, Bool.false_and, Bool.not_false, Bool.true_and]
          exact rest _ _ _ _ _ _ _
      · intro ag
        simp only [Int.lt_irrefl, decide_false, Bool.false_eq_true, if_false]
      · cases (List.range x.2.2.1.length).all (fun j => !badL x j) <;> simp
theorem s_PoolOk_is (k : Nat) (x : PoolA) (hk : 1048576 < k) (hl : x.2.2.1.length ≤ 1048576) (hl' : x.2.2.2.1.length ≤ 1048576) : s_PoolOk k (x, ()) = some (poolB x, ((), ())) := by
  unfold s_PoolOk poolB
  simp only [s_PrefixOk_is k _ _ (by omega : 40 < k), l01In_is, Option.bind_some]
  rw [show decide ((0 ≤ x.1 ∧ x.1 ≤ 4294967295) ∧ (0 ≤ x.2.1 ∧ x.2.1 ≤ 32) ∧ x.1 % 2 ^ (32 - x.2.1.toNat) = 0) = prefB x.1 x.2.1 from rfl]
  cases prefB x.1 x.2.1 with
  | false => simp
  | true =>
    by_cases h1 : 24 ≤ x.2.1 ∧ x.2.1 ≤ 30
    rotate_left
    · simp [h1]
    by_cases h6 : x.2.2.1.length ≤ 6
    rotate_left
    · have h6' : (6 : Int) < (x.2.2.1.length : Int) := by omega
      simp [h1, h6, h6']
    by_cases h4 : x.2.2.2.1.length ≤ 4
    rotate_left
    · have h6' : ¬ (6 : Int) < (x.2.2.1.length : Int) := by omega
      have h4' : (4 : Int) < (x.2.2.2.1.length : Int) := by omega
      simp [h1, h4, h6, h6', h4']
    have h6' : ¬ (6 : Int) < (x.2.2.1.length : Int) := by omega
    have h4' : ¬ (4 : Int) < (x.2.2.2.1.length : Int) := by omega
    simp only [h1, h4, h6, h6', h4', and_self, decide_true, decide_false, Bool.not_true, Bool.true_and, Bool.false_eq_true, if_true, if_false]
    refine (find_loop_opt (fun i => (x, (((i : Nat) : Int), ()))) x.2.2.2.1.length (badF x) (some (false, ((), ()))) (some ((List.range x.2.2.1.length).all (fun j => !badL x j), ((), ()))) ?_ ?_ k (by omega)).trans ?_
    · intro again i hi
      have w2 : wi64 ((i : Int) + 1) = ((i + 1 : Nat) : Int) := (w64_id _ (by omega)).trans (by omega)
      have w1 : wi64 ((i : Int) - 1) = (i : Int) - 1 := w64_id _ (by omega)
      have g1 : (0 : Int) ≤ (i : Int) ∧ (i : Int) < (x.2.2.2.1.length : Int) := by omega
      rw [show badF x i = (!(decide (1 ≤ (Ty.rd (t := RT_Fixed) x.2.2.2.1 i).1 ∧ (Ty.rd (t := RT_Fixed) x.2.2.2.1 i).1 ≤ 99) && (hostB x.1 x.2.1 (Ty.rd (t := RT_Fixed) x.2.2.2.1 i).2 && (!(decide (0 < (i : Int)) && decide ((Ty.rd (t := RT_Fixed) x.2.2.2.1 i).1 ≤ (Ty.rd (t := RT_Fixed) x.2.2.2.1 (wi64 ((i : Int) - 1))).1)) && decide (fixedB x.2.2.2.1 (Ty.rd (t := RT_Fixed) x.2.2.2.1 i).2 = (Ty.rd (t := RT_Fixed) x.2.2.2.1 i).1))))) from rfl]
      simp only [g1, Inside_is k x _ (by omega : 40 < k), l11FixedFor_is k x _ hk hl', w2, and_self, decide_true, if_true, Option.bind_some]
      have rest : ∀ b1 b2 b4 : Bool, ∀ go : Option (Bool × Unit × Unit), (if (!b1) = false then
          if (!b2) = false then
            if (!b4) = true then some (false, ((), ())) else go
          else some (false, ((), ()))
        else some (false, ((), ()))) = if (!(b1 && (b2 && b4))) = true then some (false, ((), ())) else go := by
        intro b1 b2 b4 go
        cases b1 <;> cases b2 <;> cases b4 <;> rfl
      by_cases h2 : 0 < (i : Int)
      · have g3 : (0 : Int) ≤ wi64 ((i : Int) - 1) ∧ wi64 ((i : Int) - 1) < (x.2.2.2.1.length : Int) := by rw [w1]; omega
        by_cases c3 : (Ty.rd (t := RT_Fixed) x.2.2.2.1 i).1 ≤ (Ty.rd (t := RT_Fixed) x.2.2.2.1 (wi64 ((i : Int) - 1))).1
        · simp only [c3, h2, g3, and_self, decide_true, Bool.true_eq_false, if_true, if_false]
          have q : ∀ b1 b2 b4 : Bool, ∀ go : Option (Bool × Unit × Unit), (if (!b1) = false then (if (!b2) = false then some (false, ((), ())) else some (false, ((), ()))) else some (false, ((), ()))) = if (!(b1 && (b2 && (!(true && true) && b4)))) = true then some (false, ((), ())) else go := by
            intro b1 b2 b4 go
            cases b1 <;> cases b2 <;> cases b4 <;> rfl
          exact q _ _ _ _
        · simp only [c3, h2, g3, and_self, decide_true, decide_false, if_true, Bool.and_false, Bool.not_false, Bool.true_and]
          exact rest _ _ _ _
      · simp only [h2, decide_false, Bool.false_eq_true, if_false, Bool.false_and, Bool.not_false, Bool.true_and]
        exact rest _ _ _ _
    · intro ag
      simp only [Int.lt_irrefl, decide_false, Bool.false_eq_true, if_false]
      refine (find_loop_opt (fun i => (x, (((i : Nat) : Int), ()))) x.2.2.1.length (badL x) (some (false, ((), ()))) (some (true, ((), ()))) ?_ ?_ k (by omega)).trans ?_
      · intro again i hi
        have w2 : wi64 ((i : Int) + 1) = ((i + 1 : Nat) : Int) := (w64_id _ (by omega)).trans (by omega)
        have w1 : wi64 ((i : Int) - 1) = (i : Int) - 1 := w64_id _ (by omega)
        have g1 : (0 : Int) ≤ (i : Int) ∧ (i : Int) < (x.2.2.1.length : Int) := by omega
        rw [show badL x i = (!(!(decide (0 < (i : Int)) && decide ((Ty.rd (t := RT_Lease) x.2.2.1 i).1 ≤ (Ty.rd (t := RT_Lease) x.2.2.1 (wi64 ((i : Int) - 1))).1)) && (hostB x.1 x.2.1 (Ty.rd (t := RT_Lease) x.2.2.1 i).1 && (decide (1 ≤ (Ty.rd (t := RT_Lease) x.2.2.1 i).2.1 ∧ (Ty.rd (t := RT_Lease) x.2.2.1 i).2.1 ≤ 99) && (decide (0 ≤ (Ty.rd (t := RT_Lease) x.2.2.1 i).2.2 ∧ (Ty.rd (t := RT_Lease) x.2.2.1 i).2.2 ≤ 1000000000) && ((List.range i).all (fun j => !decide ((Ty.rd (t := RT_Lease) x.2.2.1 (j : Nat)).2.1 = (Ty.rd (t := RT_Lease) x.2.2.1 i).2.1)) && (decide (fixedB x.2.2.2.1 (Ty.rd (t := RT_Lease) x.2.2.1 i).1 = 0) || decide (fixedB x.2.2.2.1 (Ty.rd (t := RT_Lease) x.2.2.1 i).1 = (Ty.rd (t := RT_Lease) x.2.2.1 i).2.1)))))))) from rfl]
        simp only [g1, jn, Inside_is k x _ (by omega : 40 < k), l11FixedFor_is k x _ hk hl', and_self, decide_true, if_true, Option.bind_some]
        have rest : ∀ b1 b2 b3 b4 b5 b6 : Bool, ∀ go W : Option (Bool × Unit × Unit), W = (if b4 = true then go else some (false, ((), ()))) → (if (!b1) = false then
            if (!b2) = false then
              if (!b3) = false then
                if (!b5) = true then
                  if (!b6) = true then some (false, ((), ())) else W
                else W
              else some (false, ((), ()))
            else some (false, ((), ()))
          else some (false, ((), ()))) = if (!(b1 && (b2 && (b3 && (b4 && (b5 || b6)))))) = true then some (false, ((), ())) else go := by
          intro b1 b2 b3 b4 b5 b6 go W hW
          subst hW
          cases b1 <;> cases b2 <;> cases b3 <;> cases b4 <;> cases b5 <;> cases b6 <;> rfl
        by_cases h2 : 0 < (i : Int)
        · have g3 : (0 : Int) ≤ wi64 ((i : Int) - 1) ∧ wi64 ((i : Int) - 1) < (x.2.2.1.length : Int) := by rw [w1]; omega
          by_cases c3 : (Ty.rd (t := RT_Lease) x.2.2.1 i).1 ≤ (Ty.rd (t := RT_Lease) x.2.2.1 (wi64 ((i : Int) - 1))).1
          · simp only [c3, h2, g3, and_self, decide_true, if_true]
            have q : ∀ b1 b2 b3 : Bool, (if (!b1) = false then (if (!b2) = false then (if (!b3) = false then some (false, ((), ())) else some (false, ((), ()))) else some (false, ((), ()))) else some (false, ((), ()))) = (some (false, ((), ())) : Option (Bool × Unit × Unit)) := by
              intro b1 b2 b3
              cases b1 <;> cases b2 <;> cases b3 <;> rfl
            exact q _ _ _
          · simp only [c3, h2, g3, and_self, decide_true, decide_false, if_true, Bool.and_false, Bool.not_false, Bool.true_and, Bool.false_eq_true, if_false]
            refine rest _ _ _ _ _ _ _ _ (find_loop_opt (R := Bool × Unit × Unit) (fun j => (x, ((i : Int), (((Ty.rd (t := RT_Lease) x.2.2.1 i).1, ((Ty.rd (t := RT_Lease) x.2.2.1 i).2.1, ((Ty.rd (t := RT_Lease) x.2.2.1 i).2.2, ()))), (((j : Nat) : Int), ()))))) i (fun j => decide ((Ty.rd (t := RT_Lease) x.2.2.1 (j : Nat)).2.1 = (Ty.rd (t := RT_Lease) x.2.2.1 i).2.1)) (some (false, ((), ()))) (again (x, (((i + 1 : Nat) : Int), ()))) ?_ ?_ k (by omega))
            · intro ag2 j hj
              have q1 : (0 : Int) ≤ (j : Int) ∧ (j : Int) < (x.2.2.1.length : Int) := by omega
              have q2 : (j : Int) < (i : Int) := by omega
              have w3 : wi64 ((j : Int) + 1) = ((j + 1 : Nat) : Int) := (w64_id _ (by omega)).trans (by omega)
              simp only [q1, q2, w3, and_self, decide_true, if_true]
            · intro ag2
              simp only [Int.lt_irrefl, decide_false, Bool.false_eq_true, if_false, w2]
        · simp only [h2, decide_false, Bool.false_eq_true, if_false, Bool.false_and, Bool.not_false, Bool.true_and]
          refine rest _ _ _ _ _ _ _ _ (find_loop_opt (R := Bool × Unit × Unit) (fun j => (x, ((i : Int), (((Ty.rd (t := RT_Lease) x.2.2.1 i).1, ((Ty.rd (t := RT_Lease) x.2.2.1 i).2.1, ((Ty.rd (t := RT_Lease) x.2.2.1 i).2.2, ()))), (((j : Nat) : Int), ()))))) i (fun j => decide ((Ty.rd (t := RT_Lease) x.2.2.1 (j : Nat)).2.1 = (Ty.rd (t := RT_Lease) x.2.2.1 i).2.1)) (some (false, ((), ()))) (again (x, (((i + 1 : Nat) : Int), ()))) ?_ ?_ k (by omega))
          · intro ag2 j hj
            have q1 : (0 : Int) ≤ (j : Int) ∧ (j : Int) < (x.2.2.1.length : Int) := by omega
            have q2 : (j : Int) < (i : Int) := by omega
            have w3 : wi64 ((j : Int) + 1) = ((j + 1 : Nat) : Int) := (w64_id _ (by omega)).trans (by omega)
            simp only [q1, q2, w3, and_self, decide_true, if_true]
          · intro ag2
            simp only [Int.lt_irrefl, decide_false, Bool.false_eq_true, if_false, w2]
      · intro ag2
        simp only [Int.lt_irrefl, decide_false, Bool.false_eq_true, if_false]
      · cases (List.range x.2.2.1.length).all (fun j => !badL x j) <;> simp
    · cases (List.range x.2.2.2.1.length).all (fun j => !badF x j) <;> simp
def gSeen (a : List Int) (i : Nat) (_ : Unit) : (Bool × Unit × Unit) ⊕ Unit :=
  if decide (1 ≤ Ty.rd (t := (.int .i64)) a i ∧ Ty.rd (t := (.int .i64)) a i ≤ 1000000000) && !(decide (0 < (i : Int)) && decide (Ty.rd (t := (.int .i64)) a (wi64 ((i : Int) - 1)) ≤ Ty.rd (t := (.int .i64)) a i)) && !decide (Ty.rd (t := (.int .i64)) a i ≤ wi64 (Ty.rd (t := (.int .i64)) a 0 - 6)) then .inr () else .inl (false, ((), ()))
def seenB (a : List Int) : Bool := (foldE (gSeen a) (fun _ => (decide ((a.length : Int) ≤ 6), ((), ()))) a.length 0 ()).1
theorem s_SeenOk_is (k : Nat) (a : List Int) (hk : 1048576 < k) (hl : a.length ≤ 1048576) : s_SeenOk k (a, ()) = some (seenB a, ((), ())) := by
  unfold s_SeenOk
  refine (loop_fold (A := Unit) (fun i _ => (a, (((i : Nat) : Int), ()))) a.length (gSeen a) (fun _ => (decide ((a.length : Int) ≤ 6), ((), ()))) (fun _ _ => True) ?_ (fun _ _ _ _ _ _ => trivial) ?_ k () trivial (by omega)).trans rfl
  · intro again i _ hi _
    have w2 : wi64 ((i : Int) + 1) = ((i + 1 : Nat) : Int) := (w64_id _ (by omega)).trans (by omega)
    have w1 : wi64 ((i : Int) - 1) = (i : Int) - 1 := w64_id _ (by omega)
    have g1 : (0 : Int) ≤ (i : Int) ∧ (i : Int) < (a.length : Int) := by omega
    have g0 : (0 : Int) ≤ 0 ∧ (0 : Int) < (a.length : Int) := by omega
    unfold gSeen
    simp only [g1, g0, l01In_is, w2, and_self, decide_true, if_true, Option.bind_some]
    by_cases h1 : 1 ≤ Ty.rd (t := (.int .i64)) a i ∧ Ty.rd (t := (.int .i64)) a i ≤ 1000000000
    · by_cases h2 : 0 < (i : Int)
      · have g3 : (0 : Int) ≤ wi64 ((i : Int) - 1) ∧ wi64 ((i : Int) - 1) < (a.length : Int) := by rw [w1]; omega
        simp only [h1, h2, g3, and_self, decide_true, Bool.not_true, if_true]
        by_cases h4 : Ty.rd (t := (.int .i64)) a (wi64 ((i : Int) - 1)) ≤ Ty.rd (t := (.int .i64)) a i <;> by_cases h5 : Ty.rd (t := (.int .i64)) a i ≤ wi64 (Ty.rd (t := (.int .i64)) a 0 - 6) <;> simp [h4, h5]
      · simp only [h1, h2, and_self, decide_true, decide_false, Bool.not_true, if_true]
        by_cases h5 : Ty.rd (t := (.int .i64)) a i ≤ wi64 (Ty.rd (t := (.int .i64)) a 0 - 6) <;> simp [h5]
    · simp [h1]
  · intro again _ _
    simp
theorem i_SeenOk_is (k : Nat) (a : List Int) (hk : 1048576 < k) (hl : a.length ≤ 1048576) : i_SeenOk k (a, ()) = some (seenB a, ((), ())) := by
  unfold i_SeenOk
  refine (loop_fold (A := Unit) (fun i _ => (a, (a, ((a.length : Int), (((i : Nat) : Int), ()))))) a.length (gSeen a) (fun _ => (decide ((a.length : Int) ≤ 6), ((), ()))) (fun _ _ => True) ?_ (fun _ _ _ _ _ _ => trivial) ?_ k () trivial (by omega)).trans rfl
  · intro again i _ hi _
    have w2 : wi64 ((i : Int) + 1) = ((i + 1 : Nat) : Int) := (w64_id _ (by omega)).trans (by omega)
    have w1 : wi64 ((i : Int) - 1) = (i : Int) - 1 := w64_id _ (by omega)
    have g1 : (0 : Int) ≤ (i : Int) ∧ (i : Int) < (a.length : Int) := by omega
    have g0 : (0 : Int) ≤ 0 ∧ (0 : Int) < (a.length : Int) := by omega
    unfold gSeen
    simp only [g1, g0, within_is, w2, and_self, decide_true, if_true, Option.bind_some]
    by_cases h1 : 1 ≤ Ty.rd (t := (.int .i64)) a i ∧ Ty.rd (t := (.int .i64)) a i ≤ 1000000000
    · by_cases h2 : 0 < (i : Int)
      · have g3 : (0 : Int) ≤ wi64 ((i : Int) - 1) ∧ wi64 ((i : Int) - 1) < (a.length : Int) := by rw [w1]; omega
        simp only [h1, h2, g3, and_self, decide_true, Bool.not_true, if_true]
        by_cases h4 : Ty.rd (t := (.int .i64)) a (wi64 ((i : Int) - 1)) ≤ Ty.rd (t := (.int .i64)) a i <;> by_cases h5 : Ty.rd (t := (.int .i64)) a i ≤ wi64 (Ty.rd (t := (.int .i64)) a 0 - 6) <;> simp [h4, h5]
      · simp only [h1, h2, and_self, decide_true, decide_false, Bool.not_true, if_true]
        by_cases h5 : Ty.rd (t := (.int .i64)) a i ≤ wi64 (Ty.rd (t := (.int .i64)) a 0 - 6) <;> simp [h5]
    · simp [h1]
  · intro again _ _
    simp
def noneB (x : Int × ByteArray × ByteArray × Int × List Int × Int × Unit) : Bool := decide (x.1 = 0 ∧ x.2.1 = (⟨#[]⟩ : ByteArray) ∧ x.2.2.1 = (⟨#[]⟩ : ByteArray) ∧ x.2.2.2.1 = 0 ∧ (x.2.2.2.2.1.length : Int) = 0 ∧ x.2.2.2.2.2.1 = 0)
theorem l17None_is (k : Nat) (x) : s_l17None k (x, ()) = some (noneB x, ((), ())) := by
  obtain ⟨e, s, o, c, q, u, w⟩ := x
  unfold s_l17None noneB
  simp only []
  by_cases h1 : e = 0
  rotate_left
  · simp [h1]
  by_cases h2 : s = (⟨#[]⟩ : ByteArray)
  rotate_left
  · simp [h2]
  by_cases h3 : o = (⟨#[]⟩ : ByteArray)
  rotate_left
  · simp [h3]
  by_cases h4 : c = 0
  rotate_left
  · simp [h4]
  by_cases h5 : (q.length : Int) = 0
  rotate_left
  · simp only [h1, h2, h3, h4, h5, decide_true, decide_false, if_true, true_and, false_and]
    rfl
  simp only [h1, h2, h3, h4, h5, decide_true, if_true, true_and]
def slotB (x : Int × ByteArray × ByteArray × Int × List Int × Int × Unit) : Bool :=
  noneB x || (decide ((1 ≤ x.1 ∧ x.1 ≤ 1000000000) ∧ (x.2.1.size : Int) = 32 ∧ (x.2.2.1.size : Int) = 32 ∧ (0 ≤ x.2.2.2.1 ∧ x.2.2.2.1 ≤ 12)) && (seenB x.2.2.2.2.1 && decide (0 ≤ x.2.2.2.2.2.1 ∧ x.2.2.2.2.2.1 ≤ 1000000000)))
theorem s_SlotOk_is (k : Nat) (x : Int × ByteArray × ByteArray × Int × List Int × Int × Unit) (hk : 1048576 < k) (hl : x.2.2.2.2.1.length ≤ 1048576) : s_SlotOk k (x, ()) = some (slotB x, ((), ())) := by
  obtain ⟨e, s, o, c, q, u, w⟩ := x
  have hl : q.length ≤ 1048576 := hl
  unfold s_SlotOk slotB
  simp only [l17None_is, l01In_is, s_SeenOk_is k q hk hl, Option.bind_some]
  cases hn : noneB (e, (s, (o, (c, (q, (u, ())))))) with
  | true => simp
  | false =>
    by_cases h1 : 1 ≤ e ∧ e ≤ 1000000000
    rotate_left
    · simp [h1]
    by_cases h2 : (s.size : Int) = 32
    rotate_left
    · simp [h2]
    by_cases h3 : (o.size : Int) = 32
    rotate_left
    · simp [h3]
    by_cases h4 : 0 ≤ c ∧ c ≤ 12
    rotate_left
    · simp [h4]
    simp only [h1, h2, h3, h4, and_self, decide_true, if_true, Bool.false_or, Bool.true_and]
    cases seenB q <;> simp
theorem i_SlotOk_is (k : Nat) (x : Int × ByteArray × ByteArray × Int × List Int × Int × Unit) (hk : 1048576 < k) (hl : x.2.2.2.2.1.length ≤ 1048576) : i_SlotOk k (x, ()) = some (slotB x, ((), ())) := by
  obtain ⟨e, s, o, c, q, u, w⟩ := x
  have hl : q.length ≤ 1048576 := hl
  have hn := l17None_is k (e, (s, (o, (c, (q, (u, ()))))))
  unfold s_l17None at hn
  unfold i_SlotOk slotB
  simp only [within_is, i_SeenOk_is k q hk hl, Option.bind_some] at hn ⊢
  by_cases h0 : e = 0
  · subst h0
    simp only [decide_true, if_true] at hn ⊢
    rw [hn]
    simp
  · have hnf : noneB (e, (s, (o, (c, (q, (u, ())))))) = false := by simp [noneB, h0]
    simp only [hnf, h0, decide_false, Bool.false_or, Bool.false_eq_true, if_false]
    by_cases h2 : (s.size : Int) = 32
    rotate_left
    · simp [h2]
    by_cases h1 : 1 ≤ e ∧ e ≤ 1000000000
    rotate_left
    · simp [h1, h2]
    by_cases h3 : (o.size : Int) = 32
    rotate_left
    · simp [h1, h2, h3]
    by_cases h4 : 0 ≤ c ∧ c ≤ 12
    rotate_left
    · simp [h1, h2, h3, h4]
    simp only [h1, h2, h3, h4, and_self, decide_true, if_true, Bool.true_and]
    cases seenB q <;> simp
abbrev SlotsA : Type := Int × ByteArray × ByteArray × Int × List Int × Int × Int × ByteArray × ByteArray × Int × List Int × Int × Unit
def mainOf (x : SlotsA) : Int × ByteArray × ByteArray × Int × List Int × Int × Unit := (x.1, (x.2.1, (x.2.2.1, (x.2.2.2.1, (x.2.2.2.2.1, (x.2.2.2.2.2.1, ()))))))
def lameOf (x : SlotsA) : Int × ByteArray × ByteArray × Int × List Int × Int × Unit := x.2.2.2.2.2.2
def slotsB (x : SlotsA) : Bool := slotB (mainOf x) && slotB (lameOf x) && (decide (x.2.2.2.2.2.2.1 = 0) || decide (x.2.2.2.2.2.2.1 < x.1))
theorem slot_zero {x : Int × ByteArray × ByteArray × Int × List Int × Int × Unit} (h : slotB x = true) : noneB x = decide (x.1 = 0) := by
  cases hn : noneB x with
  | true =>
    have : x.1 = 0 := by
      unfold noneB at hn
      exact (of_decide_eq_true hn).1
    simp [this]
  | false =>
    unfold slotB at h
    rw [hn, Bool.false_or, Bool.and_eq_true] at h
    have := (of_decide_eq_true h.1).1.1
    have : ¬ x.1 = 0 := by omega
    simp [this]
theorem s_SlotsOk_is (k : Nat) (x : SlotsA) (hk : 1048576 < k) (h1 : x.2.2.2.2.1.length ≤ 1048576) (h2 : x.2.2.2.2.2.2.2.2.2.2.1.length ≤ 1048576) : s_SlotsOk k (x, ()) = some (slotsB x, ((), ())) := by
  have e1 := s_SlotOk_is k (mainOf x) hk h1
  have e2 := s_SlotOk_is k (lameOf x) hk h2
  have e3 := l17None_is k (lameOf x)
  simp only [mainOf, lameOf] at e1 e2 e3
  unfold s_SlotsOk slotsB
  simp only [e1, e2, e3, Option.bind_some, mainOf, lameOf]
  cases a : slotB (x.1, (x.2.1, (x.2.2.1, (x.2.2.2.1, (x.2.2.2.2.1, (x.2.2.2.2.2.1, ())))))) with
  | false => simp
  | true =>
    cases b : slotB x.2.2.2.2.2.2 with
    | false => simp
    | true =>
      rw [slot_zero b]
      by_cases z : x.2.2.2.2.2.2.1 = 0 <;> simp [z]
theorem i_SlotsOk_is (k : Nat) (x : SlotsA) (hk : 1048576 < k) (h1 : x.2.2.2.2.1.length ≤ 1048576) (h2 : x.2.2.2.2.2.2.2.2.2.2.1.length ≤ 1048576) : i_SlotsOk k (x, ()) = some (slotsB x, ((), ())) := by
  have e1 := i_SlotOk_is k (mainOf x) hk h1
  have e2 := i_SlotOk_is k (lameOf x) hk h2
  simp only [mainOf, lameOf] at e1 e2
  unfold i_SlotsOk slotsB
  simp only [e1, e2, Option.bind_some, mainOf, lameOf]
  cases a : slotB (x.1, (x.2.1, (x.2.2.1, (x.2.2.2.1, (x.2.2.2.2.1, (x.2.2.2.2.2.1, ())))))) with
  | false => simp
  | true =>
    cases b : slotB x.2.2.2.2.2.2 with
    | false => simp
    | true => by_cases z : x.2.2.2.2.2.2.1 = 0 <;> simp [z]
def goodP (ps : List ByteArray) (hv : List Bool) (i : Nat) : Bool := decide ((Ty.rd (t := .str) ps i).size ≤ 120) && (Ty.rd (t := .bool) hv i || decide (Ty.rd (t := .str) ps i = (⟨#[]⟩ : ByteArray)))
def gH (ps : List ByteArray) (hv : List Bool) (i : Nat) (n : Int) : (Bool × Unit × Unit) ⊕ Int :=
  if goodP ps hv i then .inr (if Ty.rd (t := .bool) hv i then n + 1 else n) else .inl (false, ((), ()))
def heldB (x : Int × Int × Int × List ByteArray × List Bool × Int × Unit) : Bool :=
  decide ((1 ≤ x.1 ∧ x.1 ≤ 99) ∧ (0 ≤ x.2.1 ∧ x.2.1 ≤ 255) ∧ (2 ≤ x.2.2.1 ∧ x.2.2.1 ≤ 15) ∧ (x.2.2.2.1.length : Int) = x.2.2.1 ∧ (x.2.2.2.2.1.length : Int) = x.2.2.1 ∧ (0 ≤ x.2.2.2.2.2.1 ∧ x.2.2.2.2.2.1 ≤ 1000000000)) &&
    (foldE (gH x.2.2.2.1 x.2.2.2.2.1) (fun n => (decide (1 ≤ n ∧ n < x.2.2.1), ((), ()))) x.2.2.1.toNat 0 0).1
theorem gH_step {ps : List ByteArray} {hv : List Bool} {i : Nat} {n n' : Int} (h : gH ps hv i n = .inr n') (hi : 0 ≤ n ∧ n ≤ i) : 0 ≤ n' ∧ n' ≤ (i + 1 : Nat) := by
  unfold gH at h
  split at h
  · simp only [Sum.inr.injEq] at h
    subst h
    split <;> omega
  · simp at h
theorem foldE_unit {g : Nat → Int → (Bool × Unit × Unit) ⊕ Int} {f : Int → Bool × Unit × Unit} (n m : Nat) (a : Int) : foldE g f n m a = ((foldE g f n m a).1, ((), ())) := rfl
theorem s_l20Held_is (k : Nat) (x : Int × Int × Int × List ByteArray × List Bool × Int × Unit) (hk : 1048576 < k) : s_l20Held k (x, ()) = some (heldB x, ((), ())) := by
  obtain ⟨f, id, c, ps, hv, u, w⟩ := x
  unfold s_l20Held heldB
  simp only [l01In_is, Option.bind_some]
  by_cases h1 : 1 ≤ f ∧ f ≤ 99
  rotate_left
  · simp [h1]
  by_cases h2 : 0 ≤ id ∧ id ≤ 255
  rotate_left
  · simp [h2]
  by_cases h3 : 2 ≤ c ∧ c ≤ 15
  rotate_left
  · simp [h3]
  by_cases h4 : (ps.length : Int) = c
  rotate_left
  · simp [h4]
  by_cases h5 : (hv.length : Int) = c
  rotate_left
  · simp [h5]
  by_cases h6 : 0 ≤ u ∧ u ≤ 1000000000
  rotate_left
  · simp [h6]
  simp only [h1, h2, h3, h4, h5, h6, and_self, decide_true, Bool.not_true, if_true, Bool.true_and, Bool.false_eq_true, if_false]
  refine (loop_fold (A := Int) (fun i n => ((f, (id, (c, (ps, (hv, (u, ())))))), (n, ((i : Nat) : Int), ()))) c.toNat (gH ps hv) (fun n => (decide (1 ≤ n ∧ n < c), ((), ()))) (fun i n => 0 ≤ n ∧ n ≤ i) ?_ (fun i a a' _ h e => gH_step e h) ?_ k 0 ⟨by omega, by simp⟩ (by omega)).trans ?_
  · intro again i n hi hn
    have w1 : wi64 (n + 1) = n + 1 := w64_id _ (by omega)
    have w2 : wi64 ((i : Int) + 1) = ((i + 1 : Nat) : Int) := (w64_id _ (by omega)).trans (by omega)
    have g1 : (0 : Int) ≤ (i : Int) ∧ (i : Int) < (hv.length : Int) := by omega
    have g2 : (0 : Int) ≤ (i : Int) ∧ (i : Int) < (ps.length : Int) := by omega
    have g3 : (i : Int) < c := by omega
    unfold gH goodP jn
    simp only [g1, g2, g3, w1, w2, and_self, decide_true, if_true]
    generalize Ty.rd (t := .str) ps i = p
    cases hb : Ty.rd (t := .bool) hv i with
    | true =>
      by_cases hs : p.size ≤ 120
      · have : ¬ (120 : Int) < (p.size : Int) := by omega
        simp [hs, this]
      · have : (120 : Int) < (p.size : Int) := by omega
        simp [hs, this]
    | false =>
      by_cases he : p = (⟨#[]⟩ : ByteArray)
      · subst he
        have : (⟨#[]⟩ : ByteArray).size = 0 := rfl
        simp [this]
      · simp [he]
  · intro again n hn
    have : ¬ ((c.toNat : Nat) : Int) < c := by omega
    simp only [this, decide_false, Bool.false_eq_true, if_false]
    by_cases a : 1 ≤ n <;> simp [a]
  · rfl
theorem i_heldOk_is (k : Nat) (x : Int × Int × Int × List ByteArray × List Bool × Int × Unit) (hk : 1048576 < k) : i_heldOk k (x, ()) = some (heldB x, ((), ())) := by
  obtain ⟨f, id, c, ps, hv, u, w⟩ := x
  unfold i_heldOk heldB
  simp only [within_is, isId_is, Option.bind_some]
  by_cases h1 : 1 ≤ f ∧ f ≤ 99
  rotate_left
  · simp [h1]
  by_cases h2 : 0 ≤ id ∧ id ≤ 255
  rotate_left
  · simp [h2]
  by_cases h3 : 2 ≤ c ∧ c ≤ 15
  rotate_left
  · simp [h3]
  by_cases h4 : (ps.length : Int) = c
  rotate_left
  · simp [h4]
  by_cases h5 : (hv.length : Int) = c
  rotate_left
  · simp [h5]
  simp only [h1, h2, h3, h4, h5, and_self, decide_true, Bool.not_true, if_true, Bool.false_eq_true, if_false, true_and]
  have wc : wi64 (c - 1) = c - 1 := w64_id _ (by omega)
  refine (loop_fold (A := Int) (fun i n => ((f, (id, (c, (ps, (hv, (u, ())))))), (n, (hv, (c, ((i : Nat) : Int), ()))))) c.toNat (gH ps hv) (fun n => (decide ((1 ≤ n ∧ n < c) ∧ (0 ≤ u ∧ u ≤ 1000000000)), ((), ()))) (fun i n => 0 ≤ n ∧ n ≤ i) ?_ (fun i a a' _ h e => gH_step e h) ?_ k 0 ⟨by omega, by simp⟩ (by omega)).trans ?_
  · intro again i n hi hn
    have w1 : wi64 (n + 1) = n + 1 := w64_id _ (by omega)
    have w2 : wi64 ((i : Int) + 1) = ((i + 1 : Nat) : Int) := (w64_id _ (by omega)).trans (by omega)
    have g1 : (0 : Int) ≤ (i : Int) ∧ (i : Int) < (hv.length : Int) := by omega
    have g2 : (0 : Int) ≤ (i : Int) ∧ (i : Int) < (ps.length : Int) := by omega
    have g3 : (i : Int) < c := by omega
    unfold gH goodP
    simp only [g1, g2, g3, w1, w2, and_self, decide_true, if_true]
    generalize Ty.rd (t := .str) ps i = p
    cases hb : Ty.rd (t := .bool) hv i with
    | true =>
      by_cases hs : p.size ≤ 120
      · have : ¬ (120 : Int) < (p.size : Int) := by omega
        simp [hs, this]
      · have : (120 : Int) < (p.size : Int) := by omega
        simp [hs, this]
    | false =>
      by_cases he : p = (⟨#[]⟩ : ByteArray)
      · subst he
        have : (⟨#[]⟩ : ByteArray).size = 0 := rfl
        simp [this]
      · by_cases hs : p.size ≤ 120
        · have : ¬ (120 : Int) < (p.size : Int) := by omega
          simp [he, this]
        · have : (120 : Int) < (p.size : Int) := by omega
          simp [he, this]
  · intro again n hn
    have : ¬ ((c.toNat : Nat) : Int) < c := by omega
    simp only [this, decide_false, Bool.false_eq_true, if_false, wc]
    have e : (1 ≤ n ∧ n ≤ c - 1) ↔ (1 ≤ n ∧ n < c) := by omega
    by_cases a : 1 ≤ n ∧ n < c
    · have a' := e.2 a
      simp [a, a']
    · have a' : ¬ (1 ≤ n ∧ n ≤ c - 1) := fun h => a (e.1 h)
      simp [a, a']
  · by_cases h6 : 0 ≤ u ∧ u ≤ 1000000000
    · simp only [h6, and_self, and_true, decide_true, Bool.true_and]
    · simp only [h6, and_false, decide_false, Bool.false_and]
      rw [foldE_unit]
      congr 2
      have key : ∀ m i a, (foldE (gH ps hv) (fun _ => (false, ((), ()))) m i a).1 = false := by
        intro m
        induction m with
        | zero => intro i a; rfl
        | succ m ih =>
          intro i a
          unfold foldE
          cases hq : gH ps hv i a with
          | inl r =>
            unfold gH at hq
            split at hq
            · cases hq
            · cases hq; rfl
          | inr a' => exact ih _ _
      exact key _ _ _
def sameH (a : List RT_Held.den) (j i : Nat) : Bool := decide ((Ty.rd (t := RT_Held) a j).1 = (Ty.rd (t := RT_Held) a i).1) && decide ((Ty.rd (t := RT_Held) a j).2.1 = (Ty.rd (t := RT_Held) a i).2.1)
def gS (a : List RT_Held.den) (i : Nat) (_ : Unit) : (Bool × Unit × Unit) ⊕ Unit :=
  if heldB (ag_Held (Ty.rd (t := RT_Held) a i)) && (List.range i).all (fun j => !sameH a j i) then .inr () else .inl (false, ((), ()))
theorem agr (x : RT_Held.den) : (x.1, (x.2.1, (x.2.2.1, (x.2.2.2.1, (x.2.2.2.2.1, (x.2.2.2.2.2, ())))))) = ag_Held x := rfl
theorem all_false_iff (n : Nat) (p : Nat → Bool) : (List.range n).all (fun j => !p j) = true ↔ ∀ j, j < n → p j = false := by simp
theorem find_none_any (n : Nat) (p : Nat → Bool) : (List.range n).find? p = none ↔ (List.range n).all (fun j => !p j) = true := by simp
theorem s_ShelfOk_is (k : Nat) (a : List RT_Held.den) (hk : 1048576 < k) (hl : a.length ≤ 1048576) : s_ShelfOk k ((a, ()), ()) = some (foldE (gS a) (fun _ => (decide ((a.length : Int) ≤ 3), ((), ()))) a.length 0 ()) := by
  unfold s_ShelfOk
  refine loop_fold (A := Unit) (fun i _ => ((a, ()), (((i : Nat) : Int), ()))) a.length (gS a) (fun _ => (decide ((a.length : Int) ≤ 3), ((), ()))) (fun _ _ => True) ?_ (fun _ _ _ _ _ _ => trivial) ?_ k () trivial (by omega)
  · intro again i _ hi _
    have w2 : wi64 ((i : Int) + 1) = ((i + 1 : Nat) : Int) := (w64_id _ (by omega)).trans (by omega)
    have g1 : (0 : Int) ≤ (i : Int) ∧ (i : Int) < (a.length : Int) := by omega
    have eh := s_l20Held_is k (ag_Held (Ty.rd (t := RT_Held) a i)) hk
    simp only [ag_Held] at eh
    simp only [g1, and_self, decide_true, if_true, eh, Option.bind_some]
    unfold gS
    cases hh : heldB (ag_Held (Ty.rd (t := RT_Held) a i)) with
    | false => simp only [ag_Held] at hh; simp [hh]
    | true =>
      simp only [ag_Held] at hh
      simp only [hh, Bool.not_true, Bool.false_eq_true, if_false, Bool.true_and]
      refine (find_loop_opt (X := ((List RT_Held.den) × Unit) × Int × Int × Unit) (fun j => ((a, ()), ((i : Int), (((j : Nat) : Int), ())))) i (fun j => sameH a j i) (some (false, ((), ()))) (again ((a, ()), (((i + 1 : Nat) : Int), ()))) ?_ ?_ k (by omega)).trans ?_
      · intro ag j hj
        have q1 : (0 : Int) ≤ (j : Int) ∧ (j : Int) < (a.length : Int) := by omega
        have q2 : (j : Int) < (i : Int) := by omega
        have w3 : wi64 ((j : Int) + 1) = ((j + 1 : Nat) : Int) := (w64_id _ (by omega)).trans (by omega)
        simp only [q1, q2, g1, w3, and_self, decide_true, if_true]
        unfold sameH
        by_cases e1 : (Ty.rd (t := RT_Held) a j).1 = (Ty.rd (t := RT_Held) a i).1 <;> by_cases e2 : (Ty.rd (t := RT_Held) a j).2.1 = (Ty.rd (t := RT_Held) a i).2.1 <;> simp [e1, e2]
      · intro ag
        simp [w2]
      · cases (List.range i).all (fun j => !sameH a j i) <;> simp
  · intro again _ _
    simp
def sameK (a : List RT_Held.den) (f id : Int) (j : Nat) : Bool := decide ((Ty.rd (t := RT_Held) a j).1 = f) && decide ((Ty.rd (t := RT_Held) a j).2.1 = id)
theorem heldAt_is (k : Nat) (a : List RT_Held.den) (f id : Int) (hk : 1048576 < k) (hl : a.length ≤ 1048576) :
    i_heldAt k ((a, ()), (f, (id, ()))) = some ((match (List.range a.length).find? (sameK a f id) with | some i => ((i : Nat) : Int) | none => -1), ((), ((), ((), ())))) := by
  unfold i_heldAt x_slices_IndexFunc_impl_Held_impl_Held_of_i_heldAt_1
  have h := loop_find (X := List RT_Held.den × ((Int × Unit) × (Int × Unit) × Unit) × Int × Int × Unit) (R := Int × Unit × ((Int × Unit) × (Int × Unit) × Unit) × Unit)
    (step := fun (rec0 : ((List (Int × Int × Int × List (ByteArray) × List (Bool) × Int)) × ((Int × Unit) × (Int × Unit) × Unit) × Int × Int × Unit) → Option _) (y0 : (List (Int × Int × Int × List (ByteArray) × List (Bool) × Int)) × ((Int × Unit) × (Int × Unit) × Unit) × Int × Int × Unit) =>
      (if (decide (y0.2.2.2.1 < y0.2.2.1)) = true then
      (if 0 ≤ y0.2.2.2.1 ∧ y0.2.2.2.1 < (List.length y0.1 : Int) then
      ((i_heldAt_1 k (((Ty.rd (t := RT_Held) y0.1 y0.2.2.2.1).1, ((Ty.rd (t := RT_Held) y0.1 y0.2.2.2.1).2.1, ((Ty.rd (t := RT_Held) y0.1 y0.2.2.2.1).2.2.1, ((Ty.rd (t := RT_Held) y0.1 y0.2.2.2.1).2.2.2.1, ((Ty.rd (t := RT_Held) y0.1 y0.2.2.2.1).2.2.2.2.1, ((Ty.rd (t := RT_Held) y0.1 y0.2.2.2.1).2.2.2.2.2, ())))))), ((y0.2.1.1.1, ()), ((y0.2.1.2.1.1, ()), ())))).bind fun p1 =>
      (if p1.1 = true then
      some (y0.2.2.2.1, ((), (((p1.2.2.1.1, ()), ((p1.2.2.2.1.1, ()), ())), ())))
      else
      (rec0 (y0.1, (((p1.2.2.1.1, ()), ((p1.2.2.2.1.1, ()), ())), (y0.2.2.1, ((wi64 (y0.2.2.2.1 + (1 : Int))), ())))))))
      else none)
      else
      ((fun (z1 : ((Int × Unit) × (Int × Unit) × Unit) × Unit) =>
      some ((-1 : Int), ((), (((z1.1.1.1, ()), ((z1.1.2.1.1, ()), ())), ())))) (((y0.2.1.1.1, ()), ((y0.2.1.2.1.1, ()), ())), ()))))
    (fun j => (a, (((f, ()), ((id, ()), ())), ((a.length : Int), (((j : Nat) : Int), ()))))) a.length (sameK a f id) (fun j => (((j : Nat) : Int), ((), (((f, ()), ((id, ()), ())), ())))) (-1, ((), (((f, ()), ((id, ()), ())), ()))) ?_ ?_ k (by omega)
  · refine (congrArg (fun o => Option.bind o _) h).trans ?_
    cases (List.range a.length).find? (sameK a f id) <;> rfl
  · intro ag j hj
    have q1 : (0 : Int) ≤ (j : Int) ∧ (j : Int) < (a.length : Int) := by omega
    have w3 : wi64 ((j : Int) + 1) = ((j + 1 : Nat) : Int) := (w64_id _ (by omega)).trans (by omega)
    simp only [q1, w3, and_self, decide_true, if_true]
    unfold i_heldAt_1 sameK
    by_cases e1 : (Ty.rd (t := RT_Held) a j).1 = f <;> by_cases e2 : (Ty.rd (t := RT_Held) a j).2.1 = id <;> simp [e1, e2]
  · intro ag
    simp
theorem i_ShelfOk_is (k : Nat) (a : List RT_Held.den) (hk : 1048576 < k) (hl : a.length ≤ 1048576) : i_ShelfOk k ((a, ()), ()) = some (foldE (gS a) (fun _ => (decide ((a.length : Int) ≤ 3), ((), ()))) a.length 0 ()) := by
  unfold i_ShelfOk
  refine loop_fold (A := Unit) (fun i _ => ((a, ()), (a, ((a.length : Int), (((i : Nat) : Int), ()))))) a.length (gS a) (fun _ => (decide ((a.length : Int) ≤ 3), ((), ()))) (fun _ _ => True) ?_ (fun _ _ _ _ _ _ => trivial) ?_ k () trivial (by omega)
  · intro again i _ hi _
    have w2 : wi64 ((i : Int) + 1) = ((i + 1 : Nat) : Int) := (w64_id _ (by omega)).trans (by omega)
    have g1 : (0 : Int) ≤ (i : Int) ∧ (i : Int) < (a.length : Int) := by omega
    have eh := i_heldOk_is k (ag_Held (Ty.rd (t := RT_Held) a i)) hk
    simp only [ag_Held] at eh
    simp only [g1, and_self, decide_true, if_true, eh, Option.bind_some, heldAt_is k a _ _ hk hl]
    unfold gS
    have hsame : (fun j => sameH a j i) = sameK a (Ty.rd (t := RT_Held) a i).1 (Ty.rd (t := RT_Held) a i).2.1 := rfl
    have hself : sameK a (Ty.rd (t := RT_Held) a i).1 (Ty.rd (t := RT_Held) a i).2.1 i = true := by simp [sameK]
    cases hh : heldB (ag_Held (Ty.rd (t := RT_Held) a i)) with
    | false => simp only [ag_Held] at hh; simp [hh]
    | true =>
      simp only [ag_Held] at hh
      simp only [hh, Bool.not_true, if_true, Bool.true_and]
      have hfa := find_at hi hself
      have hall : (List.range i).all (fun j => !sameH a j i) = true ↔ ∀ j, j < i → sameK a (Ty.rd (t := RT_Held) a i).1 (Ty.rd (t := RT_Held) a i).2.1 j = false := all_false_iff i _
      cases hf : (List.range a.length).find? (sameK a (Ty.rd (t := RT_Held) a i).1 (Ty.rd (t := RT_Held) a i).2.1) with
      | none =>
        exfalso
        have := List.find?_eq_none.1 hf i (by simpa using hi)
        exact this hself
      | some j =>
        by_cases hj : j = i
        · subst hj
          have := hall.2 (hfa.1 hf)
          simp [this, w2]
        · have hne : ¬ (List.range i).all (fun j => !sameH a j i) = true := fun hh => by
            have := hfa.2 (hall.1 hh)
            rw [hf] at this
            exact hj (Option.some.inj this)
          have hj' : ¬ ((j : Nat) : Int) = (i : Int) := by omega
          simp only [hne, hj', decide_false, Bool.not_false, if_true]
          simp
  · intro again _ _
    simp
def atB (q : List RT_User.den) (id : Int) : Int := match (List.range q.length).find? (fun j => decide ((Ty.rd (t := RT_User) q (j : Nat)).1 = id)) with | some j => ((j : Nat) : Int) | none => -1
theorem l22At_is (k : Nat) (q : List RT_User.den) (id : Int) (hk : 1048576 < k) (hl : q.length ≤ 1048576) : s_l22At k (q, (id, ())) = some (atB q id, ((), ((), ()))) := by
  unfold s_l22At atB
  refine (loop_find (R := Int × Unit × Unit × Unit) (fun j => (q, (id, (((j : Nat) : Int), ())))) q.length (fun j => decide ((Ty.rd (t := RT_User) q (j : Nat)).1 = id)) (fun j => (((j : Nat) : Int), ((), ((), ())))) (-1, ((), ((), ()))) ?_ ?_ k (by omega)).trans ?_
  · intro ag j hj
    have q1 : (0 : Int) ≤ (j : Int) ∧ (j : Int) < (q.length : Int) := by omega
    have w3 : wi64 ((j : Int) + 1) = ((j + 1 : Nat) : Int) := (w64_id _ (by omega)).trans (by omega)
    simp only [q1, w3, and_self, decide_true, if_true]
  · intro ag
    simp only [Int.lt_irrefl, decide_false, Bool.false_eq_true, if_false]
  · cases (List.range q.length).find? (fun j => decide ((Ty.rd (t := RT_User) q (j : Nat)).1 = id)) <;> rfl
theorem userAt_is (k : Nat) (q : List RT_User.den) (id : Int) (hk : 1048576 < k) (hl : q.length ≤ 1048576) : i_userAt k (q, (id, ())) = some (atB q id, ((), ((), ()))) := by
  unfold i_userAt atB
  have h : x_slices_IndexFunc_impl_User_impl_User_of_i_userAt_1 k (q, (((id, ()), ()), ())) = some ((match (List.range q.length).find? (fun j => decide ((Ty.rd (t := RT_User) q (j : Nat)).1 = id)) with | some j => ((j : Nat) : Int) | none => -1), ((), ((((id, ()), ()), ())))) := by
    unfold x_slices_IndexFunc_impl_User_impl_User_of_i_userAt_1
    refine (loop_find (R := Int × Unit × ((Int × Unit) × Unit) × Unit) (fun j => (q, ((((id, ()), ())), ((q.length : Int), (((j : Nat) : Int), ()))))) q.length (fun j => decide ((Ty.rd (t := RT_User) q (j : Nat)).1 = id)) (fun j => (((j : Nat) : Int), ((), ((((id, ()), ()), ()))))) (-1, ((), ((((id, ()), ()), ())))) ?_ ?_ k (by omega)).trans ?_
    · intro ag j hj
      have q1 : (0 : Int) ≤ (j : Int) ∧ (j : Int) < (q.length : Int) := by omega
      have w3 : wi64 ((j : Int) + 1) = ((j + 1 : Nat) : Int) := (w64_id _ (by omega)).trans (by omega)
      simp only [q1, w3, i_userAt_1, and_self, decide_true, if_true, Option.bind_some]
    · intro ag
      simp only [Int.lt_irrefl, decide_false, Bool.false_eq_true, if_false]
    · cases (List.range q.length).find? (fun j => decide ((Ty.rd (t := RT_User) q (j : Nat)).1 = id)) <;> rfl
  rw [h]
  rfl
theorem atB_lt (q : List RT_User.den) (id : Int) (h : ¬ atB q id < 0) : 0 ≤ atB q id ∧ atB q id < (q.length : Int) := by
  unfold atB at h ⊢
  cases hf : (List.range q.length).find? (fun j => decide ((Ty.rd (t := RT_User) q (j : Nat)).1 = id)) with
  | none => rw [hf] at h; simp at h
  | some j =>
    have := List.mem_of_find?_eq_some hf
    simp at this
    simp only []
    omega
abbrev HubA : Type := Int × Int × (List (Int × Int × Int)) × (List (Int × Int)) × (List ((Int × Int) × Int)) × List RT_User.den × Unit
def holdB (q : List RT_Lease.den) (a : Int) : Int := match (List.range q.length).find? (fun j => decide ((Ty.rd (t := RT_Lease) q (j : Nat)).1 = a)) with | some j => (Ty.rd (t := RT_Lease) q (j : Nat)).2.1 | none => 0
theorem i_HolderOf_is (k : Nat) (x : PoolA) (a : Int) (hk : 1048576 < k) (hl : x.2.2.1.length ≤ 1048576) : i_HolderOf k (x, (a, ())) = some (holdB x.2.2.1 a, ((), ((), ()))) := by
  unfold i_HolderOf holdB
  refine (loop_find (R := Int × Unit × Unit × Unit) (fun j => (a, (x.2.2.1, ((x.2.2.1.length : Int), (((j : Nat) : Int), ()))))) x.2.2.1.length (fun j => decide ((Ty.rd (t := RT_Lease) x.2.2.1 (j : Nat)).1 = a)) (fun j => ((Ty.rd (t := RT_Lease) x.2.2.1 (j : Nat)).2.1, ((), ((), ())))) (0, ((), ((), ()))) ?_ ?_ k (by omega)).trans ?_
  · intro ag j hj
    have q1 : (0 : Int) ≤ (j : Int) ∧ (j : Int) < (x.2.2.1.length : Int) := by omega
    have w3 : wi64 ((j : Int) + 1) = ((j + 1 : Nat) : Int) := (w64_id _ (by omega)).trans (by omega)
    simp only [q1, w3, and_self, decide_true, if_true]
  · intro ag
    simp only [Int.lt_irrefl, decide_false, Bool.false_eq_true, if_false]
  · cases (List.range x.2.2.1.length).find? (fun j => decide ((Ty.rd (t := RT_Lease) x.2.2.1 (j : Nat)).1 = a)) <;> rfl
theorem s_HolderOf_is (k : Nat) (x : PoolA) (a : Int) (hk : 1048576 < k) (hl : x.2.2.1.length ≤ 1048576) : s_HolderOf k (x, (a, ())) = some (holdB x.2.2.1 a, ((), ((), ()))) := by
  unfold s_HolderOf holdB
  refine (loop_find (R := Int × Unit × Unit × Unit) (fun j => (a, (x, (((j : Nat) : Int), ())))) x.2.2.1.length (fun j => decide ((Ty.rd (t := RT_Lease) x.2.2.1 (j : Nat)).1 = a)) (fun j => ((Ty.rd (t := RT_Lease) x.2.2.1 (j : Nat)).2.1, ((), ((), ())))) (0, ((), ((), ()))) ?_ ?_ k (by omega)).trans ?_
  · intro ag j hj
    have q1 : (0 : Int) ≤ (j : Int) ∧ (j : Int) < (x.2.2.1.length : Int) := by omega
    have w3 : wi64 ((j : Int) + 1) = ((j + 1 : Nat) : Int) := (w64_id _ (by omega)).trans (by omega)
    simp only [q1, w3, and_self, decide_true, if_true]
  · intro ag
    simp only [Int.lt_irrefl, decide_false, Bool.false_eq_true, if_false]
  · cases (List.range x.2.2.1.length).find? (fun j => decide ((Ty.rd (t := RT_Lease) x.2.2.1 (j : Nat)).1 = a)) <;> rfl
def slotsU (u : RT_User.den) : SlotsA := (u.2.2.1.1.1, (u.2.2.1.1.2.1, (u.2.2.1.1.2.2.1, (u.2.2.1.1.2.2.2.1, (u.2.2.1.1.2.2.2.2.1, (u.2.2.1.1.2.2.2.2.2, (u.2.2.1.2.1, (u.2.2.1.2.2.1, (u.2.2.1.2.2.2.1, (u.2.2.1.2.2.2.2.1, (u.2.2.1.2.2.2.2.2.1, (u.2.2.1.2.2.2.2.2.2, ()))))))))))))
def shelfB (a : List RT_Held.den) : Bool := (foldE (gS a) (fun _ => (decide ((a.length : Int) ≤ 3), ((), ()))) a.length 0 ()).1
def userB (u : RT_User.den) : Bool := decide (1 ≤ u.1 ∧ u.1 ≤ 98) && (slotsB (slotsU u) && (shelfB u.2.2.2.1 && decide (0 ≤ u.2.2.2.2 ∧ u.2.2.2.2 ≤ 1000000000)))
structure UserShort (u : RT_User.den) : Prop where
  m : u.2.2.1.1.2.2.2.2.1.length ≤ 1048576
  l : u.2.2.1.2.2.2.2.2.1.length ≤ 1048576
  s : u.2.2.2.1.length ≤ 1048576
theorem user_short (u : RT_User.den) (h : Bd_User (ag_User u)) : UserShort u := ⟨h.2.2.1, h.2.2.2.2.2.1, h.2.2.2.2.2.2.1.1⟩
theorem s_l24User_is (k : Nat) (u : RT_User.den) (hk : 1048576 < k) (h : UserShort u) : s_l24User k (ag_User u, ()) = some (userB u, ((), ())) := by
  have e1 := s_SlotsOk_is k (slotsU u) hk h.m h.l
  have e2 : s_ShelfOk k ((u.2.2.2.1, ()), ()) = some (shelfB u.2.2.2.1, ((), ())) := s_ShelfOk_is k u.2.2.2.1 hk h.s
  unfold s_l24User userB
  simp only [slotsU] at e1
  simp only [ag_User, slotsU, e1, e2, l01In_is, Option.bind_some]
  have q : ∀ b1 b2 b3 b4 : Bool, (if b1 = true then (if b2 = true then (if b3 = true then some (b4, ((), ())) else some (false, ((), ()))) else some (false, ((), ()))) else some (false, ((), ()))) = (some ((b1 && (b2 && (b3 && b4))), ((), ())) : Option (Bool × Unit × Unit)) := by
    intro b1 b2 b3 b4
    cases b1 <;> cases b2 <;> cases b3 <;> rfl
  exact q _ _ _ _
abbrev usersOf (h : HubA) : List RT_User.den := h.2.2.2.2.2.1
abbrev routesOf (h : HubA) : List RT_Route.den := h.2.2.2.2.1
def poolOf (h : HubA) : PoolA := (h.1, (h.2.1, (h.2.2.1, (h.2.2.2.1, ()))))
def badU (h : HubA) (i : Nat) : Bool := !(userB (Ty.rd (t := RT_User) (usersOf h) i) && (!(decide (0 < (i : Int)) && decide ((Ty.rd (t := RT_User) (usersOf h) i).1 ≤ (Ty.rd (t := RT_User) (usersOf h) (wi64 ((i : Int) - 1))).1)) && decide (holdB h.2.2.1 (Ty.rd (t := RT_User) (usersOf h) i).2.1 = (Ty.rd (t := RT_User) (usersOf h) i).1)))
def badR (h : HubA) (i : Nat) : Bool := decide (atB (usersOf h) (Ty.rd (t := RT_Route) (routesOf h) i).2 < 0)
def hubB (h : HubA) : Bool := poolB (poolOf h) && (routesB (routesOf h) && (decide ((usersOf h).length ≤ 3) && ((List.range (usersOf h).length).all (fun j => !badU h j) && (List.range (routesOf h).length).all (fun j => !badR h j))))
structure HubShort (h : HubA) : Prop where
  l : h.2.2.1.length ≤ 1048576
  f : h.2.2.2.1.length ≤ 1048576
  r : (routesOf h).length ≤ 1048576
  u : (usersOf h).length ≤ 1048576
  us : ∀ u ∈ usersOf h, UserShort u
theorem s_HubOk_is (k : Nat) (h : HubA) (hk : 1048576 < k) (hs : HubShort h) : s_HubOk k (h, ()) = some (hubB h, ((), ())) := by
  have ep := s_PoolOk_is k (poolOf h) hk hs.l hs.f
  simp only [poolOf] at ep
  unfold s_HubOk hubB
  simp only [ep, s_RoutesOk_is k (routesOf h) hk hs.r, poolOf, Option.bind_some]
  cases poolB (h.1, (h.2.1, (h.2.2.1, (h.2.2.2.1, ())))) with
  | false => simp
  | true =>
    cases routesB (routesOf h) with
    | false => simp
    | true =>
      by_cases h3 : (usersOf h).length ≤ 3
      rotate_left
      · have h3' : (3 : Int) < ((usersOf h).length : Int) := by omega
        simp [h3, h3']
      have h3' : ¬ (3 : Int) < ((usersOf h).length : Int) := by omega
      simp only [h3, h3', decide_true, decide_false, Bool.not_true, Bool.true_and, Bool.false_eq_true, if_true, if_false]
      refine (find_loop_opt (fun i => (h, (((i : Nat) : Int), ()))) (usersOf h).length (badU h) (some (false, ((), ()))) (some ((List.range (routesOf h).length).all (fun j => !badR h j), ((), ()))) ?_ ?_ k (by have := hs.u; omega)).trans ?_
      · intro again i hi
        have hu := hs.u
        have w2 : wi64 ((i : Int) + 1) = ((i + 1 : Nat) : Int) := (w64_id _ (by omega)).trans (by omega)
        have w1 : wi64 ((i : Int) - 1) = (i : Int) - 1 := w64_id _ (by omega)
        have g1 : (0 : Int) ≤ (i : Int) ∧ (i : Int) < ((usersOf h).length : Int) := by omega
        have eu := s_l24User_is k (Ty.rd (t := RT_User) (usersOf h) i) hk (hs.us _ (by rw [rd_get (usersOf h) i (by omega)]; exact List.getElem_mem _))
        simp only [ag_User] at eu
        have eh := s_HolderOf_is k (poolOf h) (Ty.rd (t := RT_User) (usersOf h) i).2.1 hk hs.l
        simp only [poolOf] at eh
        rw [show badU h i = (!(userB (Ty.rd (t := RT_User) (usersOf h) i) && (!(decide (0 < (i : Int)) && decide ((Ty.rd (t := RT_User) (usersOf h) i).1 ≤ (Ty.rd (t := RT_User) (usersOf h) (wi64 ((i : Int) - 1))).1)) && decide (holdB h.2.2.1 (Ty.rd (t := RT_User) (usersOf h) i).2.1 = (Ty.rd (t := RT_User) (usersOf h) i).1)))) from rfl]
        simp only [g1, eu, eh, w2, and_self, decide_true, if_true, Option.bind_some]
        have rest : ∀ b1 b4 : Bool, ∀ go : Option (Bool × Unit × Unit), (if (!b1) = false then (if (!b4) = true then some (false, ((), ())) else go) else some (false, ((), ()))) = if (!(b1 && b4)) = true then some (false, ((), ())) else go := by
          intro b1 b4 go
          cases b1 <;> cases b4 <;> rfl
        by_cases h2 : 0 < (i : Int)
        · have g3 : (0 : Int) ≤ wi64 ((i : Int) - 1) ∧ wi64 ((i : Int) - 1) < ((usersOf h).length : Int) := by rw [w1]; omega
          by_cases c3 : (Ty.rd (t := RT_User) (usersOf h) i).1 ≤ (Ty.rd (t := RT_User) (usersOf h) (wi64 ((i : Int) - 1))).1
          · simp only [c3, h2, g3, and_self, decide_true, Bool.true_eq_false, if_true, if_false]
            have q : ∀ b1 b4 : Bool, ∀ go : Option (Bool × Unit × Unit), (if (!b1) = false then some (false, ((), ())) else some (false, ((), ()))) = if (!(b1 && (!(true && true) && b4))) = true then some (false, ((), ())) else go := by
              intro b1 b4 go
              cases b1 <;> cases b4 <;> rfl
            exact q _ _ _
          · simp only [c3, h2, g3, and_self, decide_true, decide_false, if_true, Bool.and_false, Bool.not_false, Bool.true_and]
            exact rest _ _ _
        · simp only [h2, decide_false, Bool.false_eq_true, if_false, Bool.false_and, Bool.not_false, Bool.true_and]
          exact rest _ _ _
      · intro ag
        simp only [Int.lt_irrefl, decide_false, Bool.false_eq_true, if_false]
        refine (find_loop_opt (fun i => (h, (((i : Nat) : Int), ()))) (routesOf h).length (badR h) (some (false, ((), ()))) (some (true, ((), ()))) ?_ ?_ k (by have := hs.r; omega)).trans ?_
        · intro again i hi
          have hr := hs.r
          have w2 : wi64 ((i : Int) + 1) = ((i + 1 : Nat) : Int) := (w64_id _ (by omega)).trans (by omega)
          have g1 : (0 : Int) ≤ (i : Int) ∧ (i : Int) < ((routesOf h).length : Int) := by omega
          simp only [g1, l22At_is k (usersOf h) _ hk hs.u, w2, and_self, decide_true, if_true, Option.bind_some]
          rfl
        · intro ag2
          simp only [Int.lt_irrefl, decide_false, Bool.false_eq_true, if_false]
        · cases (List.range (routesOf h).length).all (fun j => !badR h j) <;> simp
      · cases (List.range (usersOf h).length).all (fun j => !badU h j) <;> simp
theorem i_HubOk_is (k : Nat) (h : HubA) (hk : 1048576 < k) (hs : HubShort h) : i_HubOk k (h, ()) = some (hubB h, ((), ())) := by
  have ep := i_PoolOk_is k (poolOf h) hk hs.l hs.f
  simp only [poolOf] at ep
  have fin : ∀ b1 b2 b3 b4 b5 : Bool, (if b4 = true then (if b5 = true then (if b1 = true then (if b2 = true then (some (b3, ((), ())) : Option (Bool × Unit × Unit)) else some (false, ((), ()))) else some (false, ((), ()))) else some (false, ((), ()))) else some (false, ((), ()))) = some ((b1 && (b2 && (b3 && (b4 && b5)))), ((), ())) := by
    intro b1 b2 b3 b4 b5
    cases b1 <;> cases b2 <;> cases b3 <;> cases b4 <;> cases b5 <;> rfl
  unfold i_HubOk hubB
  refine (find_loop_opt (fun i => (h, (usersOf h, (((usersOf h).length : Int), (((i : Nat) : Int), ()))))) (usersOf h).length (badU h) (some (false, ((), ()))) (if (List.range (routesOf h).length).all (fun j => !badR h j) = true then (if poolB (poolOf h) = true then (if routesB (routesOf h) = true then some (decide ((usersOf h).length ≤ 3), ((), ())) else some (false, ((), ()))) else some (false, ((), ()))) else some (false, ((), ()))) ?_ ?_ k (by have := hs.u; omega)).trans (fin _ _ _ _ _)
  · intro again i hi
    have hu := hs.u
    have w2 : wi64 ((i : Int) + 1) = ((i + 1 : Nat) : Int) := (w64_id _ (by omega)).trans (by omega)
    have w1 : wi64 ((i : Int) - 1) = (i : Int) - 1 := w64_id _ (by omega)
    have g1 : (0 : Int) ≤ (i : Int) ∧ (i : Int) < ((usersOf h).length : Int) := by omega
    have sh := hs.us (Ty.rd (t := RT_User) (usersOf h) i) (by rw [rd_get (usersOf h) i (by omega)]; exact List.getElem_mem _)
    have e1 := i_SlotsOk_is k (slotsU (Ty.rd (t := RT_User) (usersOf h) i)) hk sh.m sh.l
    have e2 : i_ShelfOk k (((Ty.rd (t := RT_User) (usersOf h) i).2.2.2.1, ()), ()) = some (shelfB (Ty.rd (t := RT_User) (usersOf h) i).2.2.2.1, ((), ())) := i_ShelfOk_is k _ hk sh.s
    simp only [slotsU] at e1
    have eh := i_HolderOf_is k (poolOf h) (Ty.rd (t := RT_User) (usersOf h) i).2.1 hk hs.l
    simp only [poolOf] at eh
    rw [show badU h i = (!((decide (1 ≤ (Ty.rd (t := RT_User) (usersOf h) i).1 ∧ (Ty.rd (t := RT_User) (usersOf h) i).1 ≤ 98) && (slotsB (slotsU (Ty.rd (t := RT_User) (usersOf h) i)) && (shelfB (Ty.rd (t := RT_User) (usersOf h) i).2.2.2.1 && decide (0 ≤ (Ty.rd (t := RT_User) (usersOf h) i).2.2.2.2 ∧ (Ty.rd (t := RT_User) (usersOf h) i).2.2.2.2 ≤ 1000000000)))) && (!(decide (0 < (i : Int)) && decide ((Ty.rd (t := RT_User) (usersOf h) i).1 ≤ (Ty.rd (t := RT_User) (usersOf h) (wi64 ((i : Int) - 1))).1)) && decide (holdB h.2.2.1 (Ty.rd (t := RT_User) (usersOf h) i).2.1 = (Ty.rd (t := RT_User) (usersOf h) i).1)))) from rfl]
    simp only [g1, jn, within_is, e1, e2, eh, slotsU, w2, and_self, decide_true, if_true, Option.bind_some]
    have rest : ∀ b1 b2 b3 b5 b6 : Bool, ∀ go : Option (Bool × Unit × Unit), (if (!b1) = false then (if (!b2) = false then (if (!b3) = true then some (false, ((), ())) else (if (!b5) = false then (if (!b6) = true then some (false, ((), ())) else go) else some (false, ((), ())))) else some (false, ((), ()))) else some (false, ((), ()))) = if (!((b1 && (b2 && (b3 && b5))) && b6)) = true then some (false, ((), ())) else go := by
      intro b1 b2 b3 b5 b6 go
      cases b1 <;> cases b2 <;> cases b3 <;> cases b5 <;> cases b6 <;> rfl
    by_cases h2 : 0 < (i : Int)
    · have g3 : (0 : Int) ≤ wi64 ((i : Int) - 1) ∧ wi64 ((i : Int) - 1) < ((usersOf h).length : Int) := by rw [w1]; omega
      by_cases c3 : (Ty.rd (t := RT_User) (usersOf h) i).1 ≤ (Ty.rd (t := RT_User) (usersOf h) (wi64 ((i : Int) - 1))).1
      · simp only [c3, h2, g3, and_self, decide_true, Bool.true_eq_false, if_true, if_false]
        have q : ∀ b1 b4 : Bool, ∀ go : Option (Bool × Unit × Unit), some (false, ((), ())) = if (!(b1 && (!(true && true) && b4))) = true then some (false, ((), ())) else go := by
          intro b1 b4 go
          cases b1 <;> cases b4 <;> rfl
        exact q _ _ _
      · simp only [c3, h2, g3, and_self, decide_true, decide_false, if_true, Bool.and_false, Bool.not_false, Bool.true_and]
        exact rest _ _ _ _ _ _
    · simp only [h2, decide_false, Bool.false_eq_true, if_false, Bool.false_and, Bool.not_false, Bool.true_and]
      exact rest _ _ _ _ _ _
  · intro ag
    simp only [Int.lt_irrefl, decide_false, Bool.false_eq_true, if_false]
    refine (find_loop_opt (fun i => (h, (routesOf h, (((routesOf h).length : Int), (((i : Nat) : Int), ()))))) (routesOf h).length (badR h) (some (false, ((), ()))) (if poolB (poolOf h) = true then (if routesB (routesOf h) = true then some (decide ((usersOf h).length ≤ 3), ((), ())) else some (false, ((), ()))) else some (false, ((), ()))) ?_ ?_ k (by have := hs.r; omega))
    · intro again i hi
      have hr := hs.r
      have w2 : wi64 ((i : Int) + 1) = ((i + 1 : Nat) : Int) := (w64_id _ (by omega)).trans (by omega)
      have g1 : (0 : Int) ≤ (i : Int) ∧ (i : Int) < ((routesOf h).length : Int) := by omega
      simp only [g1, userAt_is k (usersOf h) _ hk hs.u, w2, and_self, decide_true, if_true, Option.bind_some]
      rfl
    · intro ag2
      have e : decide (((usersOf h).length : Int) ≤ 3) = decide ((usersOf h).length ≤ 3) := by rw [decide_eq_decide]; omega
      simp only [Int.lt_irrefl, decide_false, Bool.false_eq_true, if_false, ep, i_RoutesOk_is k (routesOf h) hk hs.r, e, poolOf, Option.bind_some]
      rfl
def same (x : Int × Int × ByteArray × Unit) (y : RT_Carried.den) : Bool := (decide (y.2.1 = x.1) && (decide (y.2.2.1 = x.2.1) && decide (y.2.2.2 = x.2.2.1)))
theorem countP_drop {α : Type} (p : α → Bool) (a : List α) (i : Nat) (h : i < a.length) : (a.drop i).countP p = (a.drop (i + 1)).countP p + (if p a[i] then 1 else 0) := by
  rw [List.drop_eq_getElem_cons h, List.countP_cons]
theorem s_CountOf_is (k : Nat) (a : List RT_Carried.den) (x : Int × Int × ByteArray × Unit) (hk : 1048576 < k) (hl : a.length ≤ 1048576) : s_CountOf k (a, (x, ())) = some (((a.countP (same x) : Nat) : Int), ((), ((), ()))) := by
  unfold s_CountOf
  rw [whileK_run (fun y => y.1.length - y.2.2.2.1.toNat) (fun y => y.1 = a ∧ y.2.1 = x ∧ 0 ≤ y.2.2.2.1 ∧ y.2.2.2.1 ≤ (a.length : Int) ∧ 0 ≤ y.2.2.1 ∧ y.2.2.1 ≤ y.2.2.2.1) (fun y => (y.2.2.1 + (((a.drop y.2.2.2.1.toNat).countP (same x) : Nat) : Int), ((), ((), ())))) ?_ k]
  · simp
  · exact ⟨rfl, rfl, by simp, by simp, by simp, by simp⟩
  · simp only; omega
  · rintro ⟨a', x', n, i, u⟩ ⟨h1, h2, h3, h4, h5, h6⟩ again hg
    simp only at h1 h2 h3 h4 h5 h6
    subst h1 h2
    by_cases hi : i < (a'.length : Int)
    · have w : wi64 (i + 1) = i + 1 := w64_id _ (by omega)
      have w' : wi64 (n + 1) = n + 1 := w64_id _ (by omega)
      have e : (i + 1).toNat = i.toNat + 1 := by omega
      have g1 := hg (a', (x', (n + 1, (i + 1, ())))) ⟨rfl, rfl, by simp only; omega, by simp only; omega, by simp only; omega, by simp only; omega⟩ (by simp only; omega)
      have g2 := hg (a', (x', (n, (i + 1, ())))) ⟨rfl, rfl, by simp only; omega, by simp only; omega, by simp only; omega, by simp only; omega⟩ (by simp only; omega)
      simp only [hi, h3, w, w', decide_true, and_self, if_true]
      rw [countP_drop _ _ _ (by omega : i.toNat < a'.length)]
      have r := rd_get (t := RT_Carried) a' i (by omega)
      by_cases hc : same x' (Ty.rd (t := RT_Carried) a' i) = true
      · have hc' := hc
        unfold same at hc'
        rw [if_pos hc']
        rw [r] at hc
        refine g1.trans ?_
        simp only [e, hc, if_true]
        congr 2
        omega
      · have hc' := hc
        unfold same at hc'
        rw [if_neg hc']
        rw [r] at hc
        refine g2.trans ?_
        simp only [e, hc]
        rfl
    · have : i = (a'.length : Int) := by omega
      subst this
      simp
theorem i_CountOf_is (k : Nat) (a : List RT_Carried.den) (x : Int × Int × ByteArray × Unit) (hk : 1048576 < k) (hl : a.length ≤ 1048576) : i_CountOf k (a, (x, ())) = some (((a.countP (same x) : Nat) : Int), ((), ((), ()))) := by
  unfold i_CountOf
  rw [whileK_run (fun y => a.length - y.2.2.2.2.1.toNat) (fun y => y.2.2.1 = a ∧ y.1 = x ∧ y.2.2.2.1 = (a.length : Int) ∧ 0 ≤ y.2.2.2.2.1 ∧ y.2.2.2.2.1 ≤ (a.length : Int) ∧ 0 ≤ y.2.1 ∧ y.2.1 ≤ y.2.2.2.2.1) (fun y => (y.2.1 + (((a.drop y.2.2.2.2.1.toNat).countP (same x) : Nat) : Int), ((), ((), ())))) ?_ k]
  · simp
  · exact ⟨rfl, rfl, rfl, by simp, by simp, by simp, by simp⟩
  · simp only; omega
  · rintro ⟨x', n, a', l, i, u⟩ ⟨h1, h2, h0, h3, h4, h5, h6⟩ again hg
    simp only at h1 h2 h3 h4 h5 h6 h0
    subst h1 h2 h0
    by_cases hi : i < (a'.length : Int)
    · have w : wi64 (i + 1) = i + 1 := w64_id _ (by omega)
      have w' : wi64 (n + 1) = n + 1 := w64_id _ (by omega)
      have e : (i + 1).toNat = i.toNat + 1 := by omega
      have g1 := hg (x', (n + 1, (a', ((a'.length : Int), (i + 1, ()))))) ⟨rfl, rfl, rfl, by simp only; omega, by simp only; omega, by simp only; omega, by simp only; omega⟩ (by simp only; omega)
      have g2 := hg (x', (n, (a', ((a'.length : Int), (i + 1, ()))))) ⟨rfl, rfl, rfl, by simp only; omega, by simp only; omega, by simp only; omega, by simp only; omega⟩ (by simp only; omega)
      simp only [hi, h3, w, w', decide_true, and_self, if_true]
      rw [countP_drop _ _ _ (by omega : i.toNat < a'.length)]
      have r := rd_get (t := RT_Carried) a' i (by omega)
      by_cases hc : same x' (Ty.rd (t := RT_Carried) a' i) = true
      · have hc' := hc
        unfold same at hc'
        rw [if_pos hc']
        rw [r] at hc
        refine g1.trans ?_
        simp only [e, hc, if_true]
        congr 2
        omega
      · have hc' := hc
        unfold same at hc'
        rw [if_neg hc']
        rw [r] at hc
        refine g2.trans ?_
        simp only [e, hc]
        rfl
    · have : i = (a'.length : Int) := by omega
      subst this
      simp
abbrev saidOf (r : RT_Life.den) : List RT_Carried.den := (ag_Life r).2.2.2.2.2.2.2.2.2.2.2.1
abbrev gotOf (r : RT_Life.den) : List RT_Carried.den := (ag_Life r).2.2.2.2.2.2.2.2.2.2.2.2.1
def innerOf (q : List RT_Carried.den) (i : Nat) : Int × Int × ByteArray × Unit := ((Ty.rd (t := RT_Carried) q i).2.1, ((Ty.rd (t := RT_Carried) q i).2.2.1, ((Ty.rd (t := RT_Carried) q i).2.2.2, ())))
def gMost (g s : List RT_Carried.den) (i : Nat) (_ : Unit) : (Bool × Unit × Unit) ⊕ Unit := if ((s.countP (same (innerOf g i)) : Nat) : Int) < ((g.countP (same (innerOf g i)) : Nat) : Int) then .inl (false, ((), ())) else .inr ()
def mostB (g s : List RT_Carried.den) : Bool := (foldE (gMost g s) (fun _ => (true, ((), ()))) g.length 0 ()).1
theorem s_AtMostSaid_is (k : Nat) (r : RT_Life.den) (hk : 1048576 < k) (hl : (gotOf r).length ≤ 1048576) (hl' : (saidOf r).length ≤ 1048576) : s_AtMostSaid k (ag_Life r, ()) = some (mostB (gotOf r) (saidOf r), ((), ())) := by
  unfold s_AtMostSaid mostB
  refine (loop_fold (A := Unit) (fun i _ => (ag_Life r, (((i : Nat) : Int), ()))) (gotOf r).length (gMost (gotOf r) (saidOf r)) (fun _ => (true, ((), ()))) (fun _ _ => True) ?_ (fun _ _ _ _ _ _ => trivial) ?_ k () trivial (by omega)).trans rfl
  · intro again i _ hi _
    have w2 : wi64 ((i : Int) + 1) = ((i + 1 : Nat) : Int) := (w64_id _ (by omega)).trans (by omega)
    have g1 : (0 : Int) ≤ (i : Int) ∧ (i : Int) < ((gotOf r).length : Int) := by omega
    have e1 := s_CountOf_is k (gotOf r) (innerOf (gotOf r) i) hk hl
    have e2 := s_CountOf_is k (saidOf r) (innerOf (gotOf r) i) hk hl'
    simp only [innerOf] at e1 e2
    simp only [g1, e1, e2, w2, and_self, decide_true, if_true, Option.bind_some, decide_eq_true_eq]
    by_cases hc : (((saidOf r).countP (same (innerOf (gotOf r) i)) : Nat) : Int) < (((gotOf r).countP (same (innerOf (gotOf r) i)) : Nat) : Int)
    · exact (if_pos hc).trans (by rw [show gMost (gotOf r) (saidOf r) i () = .inl (false, ((), ())) from if_pos hc])
    · exact (if_neg hc).trans (by rw [show gMost (gotOf r) (saidOf r) i () = .inr () from if_neg hc])
  · intro again _ _
    simp only [Int.lt_irrefl, decide_false, Bool.false_eq_true, if_false]
theorem i_AtMostSaid_is (k : Nat) (r : RT_Life.den) (hk : 1048576 < k) (hl : (gotOf r).length ≤ 1048576) (hl' : (saidOf r).length ≤ 1048576) : i_AtMostSaid k (ag_Life r, ()) = some (mostB (gotOf r) (saidOf r), ((), ())) := by
  unfold i_AtMostSaid mostB
  refine (loop_fold (A := Unit) (fun i _ => (ag_Life r, (gotOf r, (((gotOf r).length : Int), (((i : Nat) : Int), ()))))) (gotOf r).length (gMost (gotOf r) (saidOf r)) (fun _ => (true, ((), ()))) (fun _ _ => True) ?_ (fun _ _ _ _ _ _ => trivial) ?_ k () trivial (by omega)).trans rfl
  · intro again i _ hi _
    have w2 : wi64 ((i : Int) + 1) = ((i + 1 : Nat) : Int) := (w64_id _ (by omega)).trans (by omega)
    have g1 : (0 : Int) ≤ (i : Int) ∧ (i : Int) < ((gotOf r).length : Int) := by omega
    have e1 := i_CountOf_is k (gotOf r) (innerOf (gotOf r) i) hk hl
    have e2 := i_CountOf_is k (saidOf r) (innerOf (gotOf r) i) hk hl'
    simp only [innerOf] at e1 e2
    simp only [g1, e1, e2, w2, and_self, decide_true, if_true, Option.bind_some, decide_eq_true_eq]
    by_cases hc : (((saidOf r).countP (same (innerOf (gotOf r) i)) : Nat) : Int) < (((gotOf r).countP (same (innerOf (gotOf r) i)) : Nat) : Int)
    · exact (if_pos hc).trans (by rw [show gMost (gotOf r) (saidOf r) i () = .inl (false, ((), ())) from if_pos hc])
    · exact (if_neg hc).trans (by rw [show gMost (gotOf r) (saidOf r) i () = .inr () from if_neg hc])
  · intro again _ _
    simp only [Int.lt_irrefl, decide_false, Bool.false_eq_true, if_false]
def sameS (q : List RT_Sealing.den) (i j : Nat) : Bool :=
  let a := Ty.rd (t := RT_Sealing) q i
  let b := Ty.rd (t := RT_Sealing) q j
  decide (a.1 = b.1) && (decide (a.2.1 = b.2.1) && (decide (a.2.2.1 = b.2.2.1) && decide (a.2.2.2 = b.2.2.2)))
def gOnce (q : List RT_Sealing.den) (i : Nat) (_ : Unit) : (Bool × Unit × Unit) ⊕ Unit := if (List.range i).all (fun j => !sameS q i j) then .inr () else .inl (false, ((), ()))
def onceB (q : List RT_Sealing.den) : Bool := (foldE (gOnce q) (fun _ => (true, ((), ()))) q.length 0 ()).1
abbrev sealsOf (r : RT_Life.den) : List RT_Sealing.den := (ag_Life r).2.2.2.2.2.2.2.2.2.2.2.2.2.2.1
theorem rd_take {t : Ty} (q : List t.den) (i j : Nat) (h : j < i) (hi : i ≤ q.length) : Ty.rd (t := t) (List.drop (Int.toNat (0 : Int)) (List.take (Int.toNat (i : Int)) q)) j = Ty.rd (t := t) q j := by
  have e1 : (List.drop (Int.toNat (0 : Int)) (List.take (Int.toNat (i : Int)) q)) = q.take i := by simp
  rw [e1, rd_get _ _ (by simp only [Int.toNat_natCast, List.length_take]; omega), rd_get q _ (by simp only [Int.toNat_natCast]; omega)]
  simp
theorem s_NumbersOnce_is (k : Nat) (r : RT_Life.den) (hk : 1048576 < k) (hl : (sealsOf r).length ≤ 1048576) : s_NumbersOnce k (ag_Life r, ()) = some (onceB (sealsOf r), ((), ())) := by
  unfold s_NumbersOnce onceB
  refine (loop_fold (A := Unit) (fun i _ => (ag_Life r, (((i : Nat) : Int), ()))) (sealsOf r).length (gOnce (sealsOf r)) (fun _ => (true, ((), ()))) (fun _ _ => True) ?_ (fun _ _ _ _ _ _ => trivial) ?_ k () trivial (by omega)).trans rfl
  · intro again i _ hi _
    have w2 : wi64 ((i : Int) + 1) = ((i + 1 : Nat) : Int) := (w64_id _ (by omega)).trans (by omega)
    have g1 : (0 : Int) ≤ (i : Int) ∧ (i : Int) < ((sealsOf r).length : Int) := by omega
    unfold gOnce
    simp only [g1, decide_true, if_true]
    refine (find_loop_opt (fun j => (ag_Life r, ((i : Int), (((j : Nat) : Int), ())))) i (fun j => sameS (sealsOf r) i j) (some (false, ((), ()))) (again (ag_Life r, (((i + 1 : Nat) : Int), ()))) ?_ ?_ k (by omega)).trans ?_
    · intro ag j hj
      have q1 : (0 : Int) ≤ (j : Int) ∧ (j : Int) < ((sealsOf r).length : Int) := by omega
      have q2 : (j : Int) < (i : Int) := by omega
      have w3 : wi64 ((j : Int) + 1) = ((j + 1 : Nat) : Int) := (w64_id _ (by omega)).trans (by omega)
      simp only [q1, q2, g1, w3, and_self, decide_true, if_true]
      rfl
    · intro ag
      simp only [Int.lt_irrefl, decide_false, Bool.false_eq_true, if_false, w2]
    · cases (List.range i).all (fun j => !sameS (sealsOf r) i j) <;> simp
  · intro again _ _
    simp only [Int.lt_irrefl, decide_false, Bool.false_eq_true, if_false]
theorem i_NumbersOnce_is (k : Nat) (r : RT_Life.den) (hk : 1048576 < k) (hl : (sealsOf r).length ≤ 1048576) : i_NumbersOnce k (ag_Life r, ()) = some (onceB (sealsOf r), ((), ())) := by
  unfold i_NumbersOnce onceB
  refine (loop_fold (A := Unit) (fun i _ => (ag_Life r, (sealsOf r, (((sealsOf r).length : Int), (((i : Nat) : Int), ()))))) (sealsOf r).length (gOnce (sealsOf r)) (fun _ => (true, ((), ()))) (fun _ _ => True) ?_ (fun _ _ _ _ _ _ => trivial) ?_ k () trivial (by omega)).trans rfl
  · intro again i _ hi _
    have w2 : wi64 ((i : Int) + 1) = ((i + 1 : Nat) : Int) := (w64_id _ (by omega)).trans (by omega)
    have g1 : (0 : Int) ≤ (i : Int) ∧ (i : Int) < ((sealsOf r).length : Int) := by omega
    have g2 : (0 : Int) ≤ (i : Int) ∧ (i : Int) ≤ ((sealsOf r).length : Int) := by omega
    have hlen : (List.drop (Int.toNat (0 : Int)) (List.take (Int.toNat (i : Int)) (sealsOf r))).length = i := by simp; omega
    unfold gOnce
    simp only [g1, g2, and_self, decide_true, if_true]
    refine (find_loop_opt (fun j => (ag_Life r, (((Ty.rd (t := RT_Sealing) (sealsOf r) i).1, ((Ty.rd (t := RT_Sealing) (sealsOf r) i).2.1, ((Ty.rd (t := RT_Sealing) (sealsOf r) i).2.2.1, ((Ty.rd (t := RT_Sealing) (sealsOf r) i).2.2.2, ())))), (sealsOf r, (((sealsOf r).length : Int), ((i : Int), ((List.drop (Int.toNat (0 : Int)) (List.take (Int.toNat (i : Int)) (sealsOf r))), (((List.drop (Int.toNat (0 : Int)) (List.take (Int.toNat (i : Int)) (sealsOf r))).length : Int), (((j : Nat) : Int), ()))))))))) i (fun j => sameS (sealsOf r) i j) (some (false, ((), ()))) (again (ag_Life r, (sealsOf r, (((sealsOf r).length : Int), (((i + 1 : Nat) : Int), ()))))) ?_ ?_ k (by omega)).trans ?_
    · intro ag j hj
      have q1 : (0 : Int) ≤ (j : Int) ∧ (j : Int) < ((List.drop (Int.toNat (0 : Int)) (List.take (Int.toNat (i : Int)) (sealsOf r))).length : Int) := by rw [hlen]; omega
      have w3 : wi64 ((j : Int) + 1) = ((j + 1 : Nat) : Int) := (w64_id _ (by omega)).trans (by omega)
      simp only [q1, w3, and_self, decide_true, if_true, rd_take (t := RT_Sealing) (sealsOf r) i j hj (by omega)]
      rfl
    · intro ag
      simp only [hlen, Int.lt_irrefl, decide_false, Bool.false_eq_true, if_false, w2]
    · cases (List.range i).all (fun j => !sameS (sealsOf r) i j) <;> simp
  · intro again _ _
    simp only [Int.lt_irrefl, decide_false, Bool.false_eq_true, if_false]
abbrev hubOf (r : RT_Life.den) : List RT_User.den := (ag_Life r).2.2.2.2.2.1
abbrev endsOf (r : RT_Life.den) : List RT_User.den := (ag_Life r).2.2.2.2.2.2.1
def gKeys (u h : List RT_User.den) (i : Nat) (_ : Unit) : (Bool × Unit × Unit) ⊕ Unit :=
  let a := (Ty.rd (t := RT_User) u i).2.2.1.1
  let p := atB h (Ty.rd (t := RT_User) u i).1
  let b := (Ty.rd (t := RT_User) h p).2.2.1.1
  if p < 0 then .inr () else if decide (a.1 = b.1) && (!decide (a.2.1 = b.2.2.1) || !decide (a.2.2.1 = b.2.1)) then .inl (false, ((), ())) else .inr ()
def keysB (u h : List RT_User.den) : Bool := (foldE (gKeys u h) (fun _ => (true, ((), ()))) u.length 0 ()).1
theorem s_KeysMeet_is (k : Nat) (r : RT_Life.den) (hk : 1048576 < k) (hl : (endsOf r).length ≤ 1048576) (hl' : (hubOf r).length ≤ 1048576) : s_KeysMeet k (ag_Life r, ()) = some (keysB (endsOf r) (hubOf r), ((), ())) := by
  unfold s_KeysMeet keysB
  refine (loop_fold (A := Unit) (fun i _ => (ag_Life r, (((i : Nat) : Int), ()))) (endsOf r).length (gKeys (endsOf r) (hubOf r)) (fun _ => (true, ((), ()))) (fun _ _ => True) ?_ (fun _ _ _ _ _ _ => trivial) ?_ k () trivial (by omega)).trans rfl
  · intro again i _ hi _
    have w2 : wi64 ((i : Int) + 1) = ((i + 1 : Nat) : Int) := (w64_id _ (by omega)).trans (by omega)
    have g1 : (0 : Int) ≤ (i : Int) ∧ (i : Int) < ((endsOf r).length : Int) := by omega
    simp only [g1, l22At_is k (hubOf r) _ hk hl', w2, and_self, decide_true, if_true, Option.bind_some]
    by_cases hp : atB (hubOf r) (Ty.rd (t := RT_User) (endsOf r) i).1 < 0
    · rw [show gKeys (endsOf r) (hubOf r) i () = .inr () from if_pos hp]
      simp only [hp, decide_true, if_true]
    · have hb := atB_lt _ _ hp
      rw [show gKeys (endsOf r) (hubOf r) i () = _ from if_neg hp]
      simp only [hp, hb, and_self, decide_false, Bool.false_eq_true, if_false, if_true]
      generalize atB (hubOf r) (Ty.rd (t := RT_User) (endsOf r) i).1 = p
      by_cases c1 : (Ty.rd (t := RT_User) (endsOf r) i).2.2.1.1.1 = (Ty.rd (t := RT_User) (hubOf r) p).2.2.1.1.1
      · by_cases c2 : (Ty.rd (t := RT_User) (endsOf r) i).2.2.1.1.2.1 = (Ty.rd (t := RT_User) (hubOf r) p).2.2.1.1.2.2.1
        · by_cases c3 : (Ty.rd (t := RT_User) (endsOf r) i).2.2.1.1.2.2.1 = (Ty.rd (t := RT_User) (hubOf r) p).2.2.1.1.2.1
          · simp only [c1, c2, c3, decide_true, if_true, Bool.not_true, Bool.or_self, Bool.and_false, Bool.false_eq_true, if_false]
          · simp only [c1, c2, c3, decide_true, decide_false, if_true, Bool.not_true, Bool.not_false, Bool.or_true, Bool.and_true]
        · simp only [c1, c2, decide_true, decide_false, if_true, Bool.not_false, Bool.true_or, Bool.and_true, Bool.true_eq_false, if_false]
      · simp only [c1, decide_false, Bool.false_and, Bool.false_eq_true, if_false]
  · intro again _ _
    simp only [Int.lt_irrefl, decide_false, Bool.false_eq_true, if_false]
theorem i_KeysMeet_is (k : Nat) (r : RT_Life.den) (hk : 1048576 < k) (hl : (endsOf r).length ≤ 1048576) (hl' : (hubOf r).length ≤ 1048576) : i_KeysMeet k (ag_Life r, ()) = some (keysB (endsOf r) (hubOf r), ((), ())) := by
  unfold i_KeysMeet keysB
  refine (loop_fold (A := Unit) (fun i _ => (ag_Life r, (endsOf r, (((endsOf r).length : Int), (((i : Nat) : Int), ()))))) (endsOf r).length (gKeys (endsOf r) (hubOf r)) (fun _ => (true, ((), ()))) (fun _ _ => True) ?_ (fun _ _ _ _ _ _ => trivial) ?_ k () trivial (by omega)).trans rfl
  · intro again i _ hi _
    have w2 : wi64 ((i : Int) + 1) = ((i + 1 : Nat) : Int) := (w64_id _ (by omega)).trans (by omega)
    have g1 : (0 : Int) ≤ (i : Int) ∧ (i : Int) < ((endsOf r).length : Int) := by omega
    simp only [g1, userAt_is k (hubOf r) _ hk hl', w2, and_self, decide_true, if_true, Option.bind_some]
    by_cases hp : atB (hubOf r) (Ty.rd (t := RT_User) (endsOf r) i).1 < 0
    · rw [show gKeys (endsOf r) (hubOf r) i () = .inr () from if_pos hp]
      simp only [hp, decide_true, if_true]
    · have hb := atB_lt _ _ hp
      rw [show gKeys (endsOf r) (hubOf r) i () = _ from if_neg hp]
      simp only [hp, hb, and_self, decide_false, Bool.false_eq_true, if_false, if_true]
      generalize atB (hubOf r) (Ty.rd (t := RT_User) (endsOf r) i).1 = p
      by_cases c1 : (Ty.rd (t := RT_User) (endsOf r) i).2.2.1.1.1 = (Ty.rd (t := RT_User) (hubOf r) p).2.2.1.1.1
      · by_cases c2 : (Ty.rd (t := RT_User) (endsOf r) i).2.2.1.1.2.1 = (Ty.rd (t := RT_User) (hubOf r) p).2.2.1.1.2.2.1
        · by_cases c3 : (Ty.rd (t := RT_User) (endsOf r) i).2.2.1.1.2.2.1 = (Ty.rd (t := RT_User) (hubOf r) p).2.2.1.1.2.1
          · simp only [c1, c2, c3, decide_true, if_true, Bool.not_true, Bool.or_self, Bool.and_false, Bool.false_eq_true, if_false]
          · simp only [c1, c2, c3, decide_true, decide_false, if_true, Bool.not_true, Bool.not_false, Bool.or_true, Bool.and_true]
        · simp only [c1, c2, decide_true, decide_false, if_true, Bool.not_false, Bool.true_or, Bool.and_true, Bool.true_eq_false, if_false]
      · simp only [c1, decide_false, Bool.false_and, Bool.false_eq_true, if_false]
  · intro again _ _
    simp only [Int.lt_irrefl, decide_false, Bool.false_eq_true, if_false]
def hubPart (r : RT_Life.den) : HubA := ((ag_Life r).1, ((ag_Life r).2.1, ((ag_Life r).2.2.1, ((ag_Life r).2.2.2.1, ((ag_Life r).2.2.2.2.1, ((ag_Life r).2.2.2.2.2.1, ()))))))
structure LifeShort (r : RT_Life.den) : Prop where
  q : (sealsOf r).length ≤ 1048576
  g : (gotOf r).length ≤ 1048576
  s : (saidOf r).length ≤ 1048576
  e : (endsOf r).length ≤ 1048576
  b : (hubOf r).length ≤ 1048576
  h : HubShort (hubPart r)
def soundB (r : RT_Life.den) : Bool := mostB (gotOf r) (saidOf r) && (onceB (sealsOf r) && (hubB (hubPart r) && keysB (endsOf r) (hubOf r)))
theorem s_SoundLife_is (k : Nat) (r : RT_Life.den) (hk : 1048576 < k) (hs : LifeShort r) : s_SoundLife k (ag_Life r, ()) = some (soundB r, ((), ())) := by
  have e1 := s_AtMostSaid_is k r hk hs.g hs.s
  have e2 := s_NumbersOnce_is k r hk hs.q
  have e3 := s_HubOk_is k (hubPart r) hk hs.h
  have e4 := s_KeysMeet_is k r hk hs.e hs.b
  unfold s_SoundLife soundB
  refine (congrArg (fun o => Option.bind o _) e1).trans ?_
  simp only [Option.bind_some]
  cases mostB (gotOf r) (saidOf r) with
  | false => rfl
  | true =>
    simp only [if_true, Bool.true_and]
    refine (congrArg (fun o => Option.bind o _) e2).trans ?_
    simp only [Option.bind_some]
    cases onceB (sealsOf r) with
    | false => rfl
    | true =>
      simp only [if_true, Bool.true_and]
      refine (congrArg (fun o => Option.bind o _) e3).trans ?_
      simp only [Option.bind_some]
      cases hubB (hubPart r) with
      | false => rfl
      | true =>
        simp only [if_true, Bool.true_and]
        refine (congrArg (fun o => Option.bind o _) e4).trans ?_
        rfl
theorem i_SoundLife_is (k : Nat) (r : RT_Life.den) (hk : 1048576 < k) (hs : LifeShort r) : i_SoundLife k (ag_Life r, ()) = some (soundB r, ((), ())) := by
  have e1 := i_AtMostSaid_is k r hk hs.g hs.s
  have e2 := i_NumbersOnce_is k r hk hs.q
  have e3 := i_HubOk_is k (hubPart r) hk hs.h
  have e4 := i_KeysMeet_is k r hk hs.e hs.b
  unfold i_SoundLife soundB
  refine (congrArg (fun o => Option.bind o _) e1).trans ?_
  simp only [Option.bind_some]
  cases mostB (gotOf r) (saidOf r) with
  | false => rfl
  | true =>
    simp only [if_true, Bool.true_and]
    refine (congrArg (fun o => Option.bind o _) e2).trans ?_
    simp only [Option.bind_some]
    cases onceB (sealsOf r) with
    | false => rfl
    | true =>
      simp only [if_true, Bool.true_and]
      refine (congrArg (fun o => Option.bind o _) e3).trans ?_
      simp only [Option.bind_some]
      cases hubB (hubPart r) with
      | false => rfl
      | true =>
        simp only [if_true, Bool.true_and]
        refine (congrArg (fun o => Option.bind o _) e4).trans ?_
        rfl
theorem pure_FnExactSoundLife (x : argsDen pars_FnExactSoundLife) (hx : argsWf pars_FnExactSoundLife x) : ∃ k o, w_FnExactSoundLife k (argsX pars_FnExactSoundLife x) = some (true, o) := by
  obtain ⟨h0, u⟩ := x
  refine ⟨1048577, ((), ()), ?_⟩
  show w_FnExactSoundLife 1048577 (ag_Life h0, ()) = _
  have hw := wfr_Life h0 hx.1
  unfold w_FnExactSoundLife
  obtain ⟨m, h1, h2⟩ := szLife_le 1048577 (ag_Life h0) 1048576 (by omega) (by decide) hw
  have e0 := toLife_is 1048577 (ag_Life h0) (by decide)
  have e1 := eqLife_is 1048577 (ag_Life h0) (ag_Life h0) (by decide)
  by_cases hm : m < 0
  · refine (congrArg (fun o => Option.bind o _) h1).trans ?_
    simp [hm]
  obtain ⟨_, hb⟩ := h2 (by omega)
  have hs : LifeShort h0 := ⟨hb.2.2.2.2.2.2.2.2.2.1.1, hb.2.2.2.2.2.2.2.2.1.1, hb.2.2.2.2.2.2.2.1.1, hb.2.2.2.2.1.1, hb.2.2.2.1.1, ⟨hb.1.1, hb.2.1.1, hb.2.2.1.1, hb.2.2.2.1.1, fun u hu => user_short u (hb.2.2.2.1.2 u hu)⟩⟩
  have es := s_SoundLife_is 1048577 h0 (by decide) hs
  have ei := i_SoundLife_is 1048577 h0 (by decide) hs
  refine (congrArg (fun o => Option.bind o _) h1).trans ?_
  simp only [hm, decide_false, Option.bind_some, Bool.false_eq_true, if_false]
  refine (congrArg (fun o => Option.bind o _) (e0 hb)).trans ?_
  simp only [Option.bind_some]
  refine (congrArg (fun o => Option.bind o _) es).trans ?_
  simp only [Option.bind_some]
  refine (congrArg (fun o => Option.bind o _) (e0 hb)).trans ?_
  simp only [Option.bind_some]
  refine (congrArg (fun o => Option.bind o _) ei).trans ?_
  simp only [Option.bind_some, decide_true, Bool.not_true, Bool.false_eq_true, if_false]
  refine (congrArg (fun o => Option.bind o _) (e0 hb)).trans ?_
  simp only [Option.bind_some]
  refine (congrArg (fun o => Option.bind o _) (e1 hb)).trans ?_
  simp only [dq_self, Option.bind_some, Bool.not_true, Bool.false_eq_true, if_false]
open Go.ChangeShapes Go.WideShapes Go.ChangeAt Go.RowKit
theorem own_FnExactSoundLife : ownKnob Tryz.prog.godebug = none := by kernel_rfl
theorem lifted_FnExactSoundLife (os : Os) (started : os.Started) (H : Type) (enc : TypeId × Value → H) :
    ReturnsInHanded {} Tryz.checked os 4 .any (Rows.fnExactSoundLifeSpec.pre6 enc Tryz.prog Tryz.f4 Rows.fnExactSoundLifeRow.domain false) (Rows.fnExactSoundLifeSpec.post enc Tryz.prog Tryz.f4 false true false false) :=
  law_lifted (C := Tryz.checked) (l := pars_FnExactSoundLife) (rb := 4) own_FnExactSoundLife started (by kernel_rfl) Tryz.func4
    (ChangeSpec.witness6 (enc := enc) (C := Tryz.checked) false ⟨#[], #[.agg #[.int .i64 0, .int .i64 0, .slice none 0 0, .slice none 0 0, .slice none 0 0, .slice none 0 0, .slice none 0 0, .slice none 0 0, .int .i64 0, .slice none 0 0, .int .i64 0, .slice none 0 0, .slice none 0 0, .int .i64 0, .slice none 0 0]], []⟩ 8 (by kernel_rfl) (by kernel_rfl) (by kernel_rfl) (by kernel_rfl))
    e_w_FnExactSoundLife rfl (by decide) pure_FnExactSoundLife (by kernel_rfl) rfl Tryz.underlying4 (by kernel_rfl) (by kernel_rfl) rfl
    (fun ds h => match ds, h with | [_], _ => rfl)
theorem inPlace_FnExactSoundLife : Tryz.prog.inPlace 4 = Rows.fnExactSoundLifeRow.inPlace := by kernel_rfl
theorem unfollowed_FnExactSoundLife : Tryz.prog.unfollowed 4 = Rows.fnExactSoundLifeRow.unfollowed := by kernel_rfl
theorem recurses_FnExactSoundLife : Tryz.prog.recurses 4 = Rows.fnExactSoundLifeRow.recurses := by kernel_rfl
theorem named_FnExactSoundLife : Tryz.prog.varsNamed 4 = Rows.fnExactSoundLifeRow.named := by kernel_rfl
theorem facts_FnExactSoundLife : joinedFacts Tryz.prog 4 Tryz.f4 Rows.fnExactSoundLifeSpec Rows.fnExactSoundLifeRow = true := by
  unfold joinedFacts
  rw [seat_laid, seat_maps, seat_heard, seat_enter, inPlace_FnExactSoundLife, unfollowed_FnExactSoundLife, recurses_FnExactSoundLife, named_FnExactSoundLife]
  kernel_rfl
theorem fnExactSoundLife_holds : Rows.FnExactSoundLifeSaid :=
  OpenClaim.holds_of_wide 4 Tryz.f4 rfl rfl rfl rfl rfl rfl rfl ⟨rfl, rfl, rfl, rfl, rfl⟩ rfl rfl rfl rfl rfl (by kernel_rfl) Tryz.func4 facts_FnExactSoundLife (of_decide_eq_true (by kernel_rfl))
    (by unfold Func.isWrapper; first | (rw [if_pos (by decide +kernel)]; kernel_rfl) | (rw [if_neg (by decide +kernel)]; exact ⟨rfl, rfl⟩)) (fun os started H enc _ => lifted_FnExactSoundLife os started H enc)
#print axioms fnExactSoundLife_holds
end Go.Proofs.YtbplkcabblnhdaaGreat
