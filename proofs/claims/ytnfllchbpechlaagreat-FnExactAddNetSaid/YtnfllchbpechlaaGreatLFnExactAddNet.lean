import Derived.Test.YtnfllchbpechlaaGreatRows
import Derived.Test.YtnfllchbpechlaaGreatFun3
import Derived.Test.YtnfllchbpechlaaGreatBase
import Derived.Test.YtnfllchbpechlaaGreatFacts
import Derived.WalkKit
import Derived.ProofKit
import Derived.OpenShut
import Derived.ShutString
import Derived.ChangeOld
import Derived.Below
import Derived.SizedLaws
/- FnExactAddNet answers true for every input, and its arguments read behind the call as they did ahead of it. Conditions: none. -/
set_option linter.unusedVariables false
set_option linter.unusedSimpArgs false
namespace Go.Proofs.YtnfllchbpechlaaGreat
open Go Go.Eng Go.Proofs
abbrev pars_FnExactAddNet : List Par := [(true, (.pair (.pair (.pair (.int .i64) (.int .i64)) (.pair (.list (.pair (.int .i64) (.pair (.int .i64) (.int .i64)))) (.list (.pair (.int .i64) (.int .i64))))) (.pair (.list (.pair (.pair (.int .i64) (.int .i64)) (.int .i64))) (.list (.pair (.int .i64) (.pair (.int .i64) (.pair (.pair (.pair (.int .i64) (.pair .str (.pair .str (.pair (.int .i64) (.pair (.list (.int .i64)) (.int .i64)))))) (.pair (.int .i64) (.pair .str (.pair .str (.pair (.int .i64) (.pair (.list (.int .i64)) (.int .i64))))))) (.pair (.list (.pair (.int .i64) (.pair (.int .i64) (.pair (.int .i64) (.pair (.list .str) (.pair (.list .bool) (.int .i64))))))) (.int .i64))))))))), (false, (.int .i64)), (true, (.pair (.int .i64) (.int .i64)))]
theorem l01In_is (k : Nat) (a b c : Int) : s_l01In k (a, (b, (c, ()))) = some (decide (b ≤ a ∧ a ≤ c), ((), ((), ((), ())))) := by
  unfold s_l01In
  by_cases h : b ≤ a <;> simp [h]
theorem within_is (k : Nat) (a b c : Int) : i_within k (a, (b, (c, ()))) = some (decide (b ≤ a ∧ a ≤ c), ((), ((), ((), ())))) := l01In_is k a b c
theorem s_AddrOk_is (k : Nat) (a : Int) : s_AddrOk k (a, ()) = some (decide (0 ≤ a ∧ a ≤ 4294967295), ((), ())) := by
  unfold s_AddrOk
  rw [l01In_is]
  rfl
theorem i_AddrOk_is (k : Nat) (a : Int) : i_AddrOk k (a, ()) = some (decide (0 ≤ a ∧ a ≤ 4294967295), ((), ())) := s_AddrOk_is k a
theorem pow_cast (n : Nat) : ((2 ^ n : Nat) : Int) = (2 : Int) ^ n := by simp
theorem l08Size_is (k : Nat) (n : Int) (h : 0 ≤ n ∧ n ≤ 32) (hk : 40 < k) : s_l08Size k (n, ()) = some ((2 : Int) ^ (32 - n.toNat), ((), ())) := by
  unfold s_l08Size
  rw [whileK_run (fun y => 32 - y.2.1.toNat) (fun y => 0 ≤ y.2.1 ∧ y.2.1 ≤ 32 ∧ 0 ≤ y.1 ∧ y.1 * 2 ^ (32 - y.2.1.toNat) ≤ 4294967296) (fun y => (y.1 * 2 ^ (32 - y.2.1.toNat), ((), ()))) ?_ k]
  · simp
  · refine ⟨h.1, h.2, by simp, ?_⟩
    show (1 : Int) * 2 ^ (32 - n.toNat) ≤ 4294967296
    have : (2 : Nat) ^ (32 - n.toNat) ≤ 2 ^ 32 := Nat.pow_le_pow_right (by decide) (by omega)
    have : ((2 ^ (32 - n.toNat) : Nat) : Int) ≤ ((2 ^ 32 : Nat) : Int) := Int.ofNat_le.2 this
    rw [Int.one_mul, ← pow_cast]
    exact this
  · show 32 - n.toNat < k
    omega
  · rintro ⟨a, i, u⟩ ⟨h1, h2, h3, h4⟩ again hg
    simp only at h1 h2 h3 h4
    by_cases hi : i < 32
    · have e : 32 - i.toNat = (32 - (i + 1).toNat) + 1 := by omega
      rw [e, Int.pow_succ] at h4
      have hp : (1 : Int) ≤ 2 ^ (32 - (i + 1).toNat) := by
        have : 0 < (2 : Nat) ^ (32 - (i + 1).toNat) := Nat.two_pow_pos _
        rw [← pow_cast]
        omega
      have ha : a ≤ a * 2 ^ (32 - (i + 1).toNat) := by
        have := Int.mul_le_mul_of_nonneg_left hp h3
        omega
      have h4' : a * 2 ^ (32 - (i + 1).toNat) * 2 ≤ 4294967296 := by rw [Int.mul_assoc]; exact h4
      have w1 : wi64 (2 * a) = 2 * a := w64_id _ (by omega)
      have w2 : wi64 (i + 1) = i + 1 := w64_id _ (by omega)
      have := hg (2 * a, (i + 1, ())) ⟨by simp only; omega, by simp only; omega, by simp only; omega, by
        show 2 * a * 2 ^ (32 - (i + 1).toNat) ≤ _
        rw [Int.mul_assoc, Int.mul_comm]
        exact h4'⟩ (by simp only; omega)
      simp only [hi, decide_true, if_true, w1, w2, this]
      rw [e, Int.pow_succ]
      congr 2
      rw [Int.mul_comm 2 a, Int.mul_assoc, Int.mul_comm 2]
    · have : i = 32 := by omega
      subst this
      simp
theorem lastBits_is (k : Nat) (n : Int) (h : 0 ≤ n ∧ n ≤ 32) : i_lastBits k (n, ()) = some ((2 : Int) ^ (32 - n.toNat) - 1, ((), ())) := by
  unfold i_lastBits
  have w : wi64 (32 - n) = 32 - n := w64_id _ (by omega)
  have hp : (2 : Nat) ^ (32 - n.toNat) ≤ 2 ^ 32 := Nat.pow_le_pow_right (by decide) (by omega)
  have hp : ((2 ^ (32 - n.toNat) : Nat) : Int) ≤ ((2 ^ 32 : Nat) : Int) := Int.ofNat_le.2 hp
  have h32 : ((2 ^ 32 : Nat) : Int) = 4294967296 := rfl
  have h0 : 0 < (2 : Nat) ^ (32 - n.toNat) := Nat.two_pow_pos _
  have h0 : (1 : Int) ≤ ((2 ^ (32 - n.toNat) : Nat) : Int) := by omega
  have e : (min (Int.toNat (32 - n)) (IntKind.bits .i64)) = 32 - n.toNat := by show min (Int.toNat (32 - n)) 64 = _; omega
  rw [pow_cast] at hp h0
  simp only [w, e]
  rw [if_neg (by omega), Int.one_mul]
  have w2 : wi64 ((2 : Int) ^ (32 - n.toNat)) = (2 : Int) ^ (32 - n.toNat) := w64_id _ (by omega)
  rw [w2]
  have w3 : wi64 ((2 : Int) ^ (32 - n.toNat) - 1) = (2 : Int) ^ (32 - n.toNat) - 1 := w64_id _ (by omega)
  rw [w3]
theorem s_PrefixOk_is (k : Nat) (a n : Int) (hk : 40 < k) : s_PrefixOk k ((a, (n, ())), ()) = some (decide ((0 ≤ a ∧ a ≤ 4294967295) ∧ (0 ≤ n ∧ n ≤ 32) ∧ a % 2 ^ (32 - n.toNat) = 0), ((), ())) := by
  unfold s_PrefixOk
  simp only [s_AddrOk_is, l01In_is, Option.bind_some]
  by_cases h : 0 ≤ a ∧ a ≤ 4294967295
  · by_cases h' : 0 ≤ n ∧ n ≤ 32
    · simp only [l08Size_is k n h' hk, Option.bind_some]
      have h0 : ¬ (2 : Int) ^ (32 - n.toNat) = 0 := by
        have h0 : 0 < (2 : Nat) ^ (32 - n.toNat) := Nat.two_pow_pos _
        rw [← pow_cast]
        omega
      rw [if_neg h0, Int.tmod_eq_emod_of_nonneg h.1]
      simp [h, h']
    · simp [h, h']
  · simp [h]
theorem i_PrefixOk_is (k : Nat) (a n : Int) : i_PrefixOk k ((a, (n, ())), ()) = some (decide ((0 ≤ a ∧ a ≤ 4294967295) ∧ (0 ≤ n ∧ n ≤ 32) ∧ a % 2 ^ (32 - n.toNat) = 0), ((), ())) := by
  unfold i_PrefixOk
  simp only [i_AddrOk_is, within_is, Option.bind_some]
  by_cases h : 0 ≤ a ∧ a ≤ 4294967295
  · by_cases h' : 0 ≤ n ∧ n ≤ 32
    · simp only [lastBits_is k n h', Option.bind_some]
      rw [and_mask _ (by omega) a h.1 (by omega)]
      simp [h, h']
    · simp [h, h']
  · simp [h]
abbrev RT_Lease : Ty := (.pair (.int .i64) (.pair (.int .i64) (.int .i64)))
def ag_Lease (r : RT_Lease.den) : Int × Int × Int × Unit := (r.1, (r.2.1, (r.2.2, ())))
theorem ag_Lease_inj (r r' : RT_Lease.den) : (ag_Lease r = ag_Lease r') ↔ r = r' := by
  constructor
  · intro h
    obtain ⟨x0, ⟨x1, x2⟩⟩ := r
    obtain ⟨y0, ⟨y1, y2⟩⟩ := r'
    simp only [ag_Lease, Prod.mk.injEq, and_true] at h
    simp only [Prod.mk.injEq]
    simp_all
  · intro h
    rw [h]
def Wf_Lease (x : Int × Int × Int × Unit) : Prop := True
def Bd_Lease (x : Int × Int × Int × Unit) : Prop := True
def Wf_LeaseS (a : List (Int × Int × Int)) : Prop := a.length ≤ 9223372036854775807 ∧ ∀ r ∈ a, Wf_Lease (ag_Lease r)
def Bd_LeaseS (a : List (Int × Int × Int)) : Prop := a.length ≤ 1048576 ∧ ∀ r ∈ a, Bd_Lease (ag_Lease r)
abbrev RT_Fixed : Ty := (.pair (.int .i64) (.int .i64))
def ag_Fixed (r : RT_Fixed.den) : Int × Int × Unit := (r.1, (r.2, ()))
theorem ag_Fixed_inj (r r' : RT_Fixed.den) : (ag_Fixed r = ag_Fixed r') ↔ r = r' := by
  constructor
  · intro h
    obtain ⟨x0, x1⟩ := r
    obtain ⟨y0, y1⟩ := r'
    simp only [ag_Fixed, Prod.mk.injEq, and_true] at h
    simp only [Prod.mk.injEq]
    simp_all
  · intro h
    rw [h]
def Wf_Fixed (x : Int × Int × Unit) : Prop := True
def Bd_Fixed (x : Int × Int × Unit) : Prop := True
def Wf_FixedS (a : List (Int × Int)) : Prop := a.length ≤ 9223372036854775807 ∧ ∀ r ∈ a, Wf_Fixed (ag_Fixed r)
def Bd_FixedS (a : List (Int × Int)) : Prop := a.length ≤ 1048576 ∧ ∀ r ∈ a, Bd_Fixed (ag_Fixed r)
abbrev RT_Route : Ty := (.pair (.pair (.int .i64) (.int .i64)) (.int .i64))
def ag_Route (r : RT_Route.den) : Int × Int × Int × Unit := (r.1.1, (r.1.2, (r.2, ())))
theorem ag_Route_inj (r r' : RT_Route.den) : (ag_Route r = ag_Route r') ↔ r = r' := by
  constructor
  · intro h
    obtain ⟨⟨x0, x1⟩, x2⟩ := r
    obtain ⟨⟨y0, y1⟩, y2⟩ := r'
    simp only [ag_Route, Prod.mk.injEq, and_true] at h
    simp only [Prod.mk.injEq]
    simp_all
  · intro h
    rw [h]
def Wf_Route (x : Int × Int × Int × Unit) : Prop := True
def Bd_Route (x : Int × Int × Int × Unit) : Prop := True
def Wf_RouteS (a : List ((Int × Int) × Int)) : Prop := a.length ≤ 9223372036854775807 ∧ ∀ r ∈ a, Wf_Route (ag_Route r)
def Bd_RouteS (a : List ((Int × Int) × Int)) : Prop := a.length ≤ 1048576 ∧ ∀ r ∈ a, Bd_Route (ag_Route r)
abbrev RT_User : Ty := (.pair (.int .i64) (.pair (.int .i64) (.pair (.pair (.pair (.int .i64) (.pair .str (.pair .str (.pair (.int .i64) (.pair (.list (.int .i64)) (.int .i64)))))) (.pair (.int .i64) (.pair .str (.pair .str (.pair (.int .i64) (.pair (.list (.int .i64)) (.int .i64))))))) (.pair (.list (.pair (.int .i64) (.pair (.int .i64) (.pair (.int .i64) (.pair (.list .str) (.pair (.list .bool) (.int .i64))))))) (.int .i64)))))
def ag_User (r : RT_User.den) : Int × Int × Int × ByteArray × ByteArray × Int × List (Int) × Int × Int × ByteArray × ByteArray × Int × List (Int) × Int × (List (Int × Int × Int × List (ByteArray) × List (Bool) × Int)) × Int × Unit := (r.1, (r.2.1, (r.2.2.1.1.1, (r.2.2.1.1.2.1, (r.2.2.1.1.2.2.1, (r.2.2.1.1.2.2.2.1, (r.2.2.1.1.2.2.2.2.1, (r.2.2.1.1.2.2.2.2.2, (r.2.2.1.2.1, (r.2.2.1.2.2.1, (r.2.2.1.2.2.2.1, (r.2.2.1.2.2.2.2.1, (r.2.2.1.2.2.2.2.2.1, (r.2.2.1.2.2.2.2.2.2, (r.2.2.2.1, (r.2.2.2.2, ()))))))))))))))))
theorem ag_User_inj (r r' : RT_User.den) : (ag_User r = ag_User r') ↔ r = r' := by
  constructor
  · intro h
    obtain ⟨x0, ⟨x1, ⟨⟨⟨x2, ⟨x3, ⟨x4, ⟨x5, ⟨x6, x7⟩⟩⟩⟩⟩, ⟨x8, ⟨x9, ⟨x10, ⟨x11, ⟨x12, x13⟩⟩⟩⟩⟩⟩, ⟨x14, x15⟩⟩⟩⟩ := r
    obtain ⟨y0, ⟨y1, ⟨⟨⟨y2, ⟨y3, ⟨y4, ⟨y5, ⟨y6, y7⟩⟩⟩⟩⟩, ⟨y8, ⟨y9, ⟨y10, ⟨y11, ⟨y12, y13⟩⟩⟩⟩⟩⟩, ⟨y14, y15⟩⟩⟩⟩ := r'
    simp only [ag_User, Prod.mk.injEq, and_true] at h
    simp only [Prod.mk.injEq]
    simp_all
  · intro h
    rw [h]
def Wf_IntS (a : List (Int)) : Prop := a.length ≤ 9223372036854775807
def Bd_IntS (a : List (Int)) : Prop := a.length ≤ 1048576
abbrev RT_Held : Ty := (.pair (.int .i64) (.pair (.int .i64) (.pair (.int .i64) (.pair (.list .str) (.pair (.list .bool) (.int .i64))))))
def ag_Held (r : RT_Held.den) : Int × Int × Int × List (ByteArray) × List (Bool) × Int × Unit := (r.1, (r.2.1, (r.2.2.1, (r.2.2.2.1, (r.2.2.2.2.1, (r.2.2.2.2.2, ()))))))
theorem ag_Held_inj (r r' : RT_Held.den) : (ag_Held r = ag_Held r') ↔ r = r' := by
  constructor
  · intro h
    obtain ⟨x0, ⟨x1, ⟨x2, ⟨x3, ⟨x4, x5⟩⟩⟩⟩⟩ := r
    obtain ⟨y0, ⟨y1, ⟨y2, ⟨y3, ⟨y4, y5⟩⟩⟩⟩⟩ := r'
    simp only [ag_Held, Prod.mk.injEq, and_true] at h
    simp only [Prod.mk.injEq]
    simp_all
  · intro h
    rw [h]
def Wf_StringS (a : List (ByteArray)) : Prop := a.length ≤ 9223372036854775807 ∧ ∀ r ∈ a, ByteArray.size r ≤ 9223372036854775807
def Bd_StringS (a : List (ByteArray)) : Prop := a.length ≤ 1048576
def Wf_BoolS (a : List (Bool)) : Prop := a.length ≤ 9223372036854775807
def Bd_BoolS (a : List (Bool)) : Prop := a.length ≤ 1048576
def Wf_Held (x : Int × Int × Int × List (ByteArray) × List (Bool) × Int × Unit) : Prop := Wf_StringS x.2.2.2.1 ∧ Wf_BoolS x.2.2.2.2.1 ∧ True
def Bd_Held (x : Int × Int × Int × List (ByteArray) × List (Bool) × Int × Unit) : Prop := Bd_StringS x.2.2.2.1 ∧ Bd_BoolS x.2.2.2.2.1 ∧ True
def Wf_HeldS (a : List (Int × Int × Int × List (ByteArray) × List (Bool) × Int)) : Prop := a.length ≤ 9223372036854775807 ∧ ∀ r ∈ a, Wf_Held (ag_Held r)
def Bd_HeldS (a : List (Int × Int × Int × List (ByteArray) × List (Bool) × Int)) : Prop := a.length ≤ 1048576 ∧ ∀ r ∈ a, Bd_Held (ag_Held r)
def Wf_User (x : Int × Int × Int × ByteArray × ByteArray × Int × List (Int) × Int × Int × ByteArray × ByteArray × Int × List (Int) × Int × (List (Int × Int × Int × List (ByteArray) × List (Bool) × Int)) × Int × Unit) : Prop := ByteArray.size x.2.2.2.1 ≤ 9223372036854775807 ∧ ByteArray.size x.2.2.2.2.1 ≤ 9223372036854775807 ∧ Wf_IntS x.2.2.2.2.2.2.1 ∧ ByteArray.size x.2.2.2.2.2.2.2.2.2.1 ≤ 9223372036854775807 ∧ ByteArray.size x.2.2.2.2.2.2.2.2.2.2.1 ≤ 9223372036854775807 ∧ Wf_IntS x.2.2.2.2.2.2.2.2.2.2.2.2.1 ∧ Wf_HeldS x.2.2.2.2.2.2.2.2.2.2.2.2.2.2.1 ∧ True
def Bd_User (x : Int × Int × Int × ByteArray × ByteArray × Int × List (Int) × Int × Int × ByteArray × ByteArray × Int × List (Int) × Int × (List (Int × Int × Int × List (ByteArray) × List (Bool) × Int)) × Int × Unit) : Prop := ByteArray.size x.2.2.2.1 ≤ 1048576 ∧ ByteArray.size x.2.2.2.2.1 ≤ 1048576 ∧ Bd_IntS x.2.2.2.2.2.2.1 ∧ ByteArray.size x.2.2.2.2.2.2.2.2.2.1 ≤ 1048576 ∧ ByteArray.size x.2.2.2.2.2.2.2.2.2.2.1 ≤ 1048576 ∧ Bd_IntS x.2.2.2.2.2.2.2.2.2.2.2.2.1 ∧ Bd_HeldS x.2.2.2.2.2.2.2.2.2.2.2.2.2.2.1 ∧ True
def Wf_UserS (a : List (Int × Int × ((Int × ByteArray × ByteArray × Int × List (Int) × Int) × Int × ByteArray × ByteArray × Int × List (Int) × Int) × List (Int × Int × Int × List (ByteArray) × List (Bool) × Int) × Int)) : Prop := a.length ≤ 9223372036854775807 ∧ ∀ r ∈ a, Wf_User (ag_User r)
def Bd_UserS (a : List (Int × Int × ((Int × ByteArray × ByteArray × Int × List (Int) × Int) × Int × ByteArray × ByteArray × Int × List (Int) × Int) × List (Int × Int × Int × List (ByteArray) × List (Bool) × Int) × Int)) : Prop := a.length ≤ 1048576 ∧ ∀ r ∈ a, Bd_User (ag_User r)
def Wf_Hub (x : Int × Int × (List (Int × Int × Int)) × (List (Int × Int)) × (List ((Int × Int) × Int)) × (List (Int × Int × ((Int × ByteArray × ByteArray × Int × List (Int) × Int) × Int × ByteArray × ByteArray × Int × List (Int) × Int) × List (Int × Int × Int × List (ByteArray) × List (Bool) × Int) × Int)) × Unit) : Prop := Wf_LeaseS x.2.2.1 ∧ Wf_FixedS x.2.2.2.1 ∧ Wf_RouteS x.2.2.2.2.1 ∧ Wf_UserS x.2.2.2.2.2.1 ∧ True
def Bd_Hub (x : Int × Int × (List (Int × Int × Int)) × (List (Int × Int)) × (List ((Int × Int) × Int)) × (List (Int × Int × ((Int × ByteArray × ByteArray × Int × List (Int) × Int) × Int × ByteArray × ByteArray × Int × List (Int) × Int) × List (Int × Int × Int × List (ByteArray) × List (Bool) × Int) × Int)) × Unit) : Prop := Bd_LeaseS x.2.2.1 ∧ Bd_FixedS x.2.2.2.1 ∧ Bd_RouteS x.2.2.2.2.1 ∧ Bd_UserS x.2.2.2.2.2.1 ∧ True
def Wf_Pool (x : Int × Int × (List (Int × Int × Int)) × (List (Int × Int)) × Unit) : Prop := Wf_LeaseS x.2.2.1 ∧ Wf_FixedS x.2.2.2.1 ∧ True
def Bd_Pool (x : Int × Int × (List (Int × Int × Int)) × (List (Int × Int)) × Unit) : Prop := Bd_LeaseS x.2.2.1 ∧ Bd_FixedS x.2.2.2.1 ∧ True
theorem szLeaseS_le (k : Nat) (a : List (Int × Int × Int)) (n : Int) (h : 0 ≤ n ∧ n ≤ 1048576) (hk : 1048576 < k) (hw : Wf_LeaseS a) : ∃ m : Int, w_szLeaseS k (a, (n, ())) = some (m, ((), ((), ()))) ∧ (0 ≤ m → m ≤ n ∧ Bd_LeaseS a) := by
  unfold w_szLeaseS
  have hl : a.length ≤ 9223372036854775807 := hw.1
  have e : wi64 (n - (List.length a : Int)) = n - (List.length a : Int) := w64_id _ (by omega)
  simp only [e]
  by_cases hc : n - (List.length a : Int) < 0
  · simp only [hc, decide_true, if_true]
    exact ⟨_, rfl, fun h => by omega⟩
  · simp only [hc, decide_false, Bool.false_eq_true, if_false]
    exact ⟨_, rfl, fun _ => ⟨by omega, ⟨by omega, fun r _ => by unfold Bd_Lease; simp⟩⟩⟩
theorem szFixedS_le (k : Nat) (a : List (Int × Int)) (n : Int) (h : 0 ≤ n ∧ n ≤ 1048576) (hk : 1048576 < k) (hw : Wf_FixedS a) : ∃ m : Int, w_szFixedS k (a, (n, ())) = some (m, ((), ((), ()))) ∧ (0 ≤ m → m ≤ n ∧ Bd_FixedS a) := by
  unfold w_szFixedS
  have hl : a.length ≤ 9223372036854775807 := hw.1
  have e : wi64 (n - (List.length a : Int)) = n - (List.length a : Int) := w64_id _ (by omega)
  simp only [e]
  by_cases hc : n - (List.length a : Int) < 0
  · simp only [hc, decide_true, if_true]
    exact ⟨_, rfl, fun h => by omega⟩
  · simp only [hc, decide_false, Bool.false_eq_true, if_false]
    exact ⟨_, rfl, fun _ => ⟨by omega, ⟨by omega, fun r _ => by unfold Bd_Fixed; simp⟩⟩⟩
theorem szPool_le (k : Nat) (x : Int × Int × (List (Int × Int × Int)) × (List (Int × Int)) × Unit) (n : Int) (h : 0 ≤ n ∧ n ≤ 1048576) (hk : 1048576 < k) (hw : Wf_Pool x) : ∃ m : Int, w_szPool k (x, (n, ())) = some (m, ((), ((), ()))) ∧ (0 ≤ m → m ≤ n ∧ Bd_Pool x) := by
  obtain ⟨a0, a1, a2, a3, u⟩ := x
  unfold w_szPool
  unfold Wf_Pool at hw
  unfold Bd_Pool
  simp only [] at hw ⊢
  obtain ⟨w2, w3, _⟩ := hw
  obtain ⟨m0, e0, b0⟩ := szLeaseS_le k a2 n ⟨by omega, by omega⟩ hk w2
  simp only [e0, Option.bind_some]
  by_cases c0 : m0 < 0
  · simp only [c0, decide_true, if_true]
    exact ⟨_, rfl, fun h => by omega⟩
  have d0 := b0 (by omega)
  simp only [c0, decide_false, Bool.false_eq_true, if_false]
  obtain ⟨m1, e1, b1⟩ := szFixedS_le k a3 m0 ⟨by omega, by omega⟩ hk w3
  simp only [e1, Option.bind_some]
  by_cases c1 : m1 < 0
  · simp only [c1, decide_true, if_true]
    exact ⟨_, rfl, fun h => by omega⟩
  have d1 := b1 (by omega)
  simp only [c1, decide_false, Bool.false_eq_true, if_false]
  exact ⟨_, rfl, fun _ => ⟨by omega, ⟨d0.2, d1.2, trivial⟩⟩⟩
theorem szRouteS_le (k : Nat) (a : List ((Int × Int) × Int)) (n : Int) (h : 0 ≤ n ∧ n ≤ 1048576) (hk : 1048576 < k) (hw : Wf_RouteS a) : ∃ m : Int, w_szRouteS k (a, (n, ())) = some (m, ((), ((), ()))) ∧ (0 ≤ m → m ≤ n ∧ Bd_RouteS a) := by
  unfold w_szRouteS
  have hl : a.length ≤ 9223372036854775807 := hw.1
  have e : wi64 (n - (List.length a : Int)) = n - (List.length a : Int) := w64_id _ (by omega)
  simp only [e]
  by_cases hc : n - (List.length a : Int) < 0
  · simp only [hc, decide_true, if_true]
    exact ⟨_, rfl, fun h => by omega⟩
  · simp only [hc, decide_false, Bool.false_eq_true, if_false]
    exact ⟨_, rfl, fun _ => ⟨by omega, ⟨by omega, fun r _ => by unfold Bd_Route; simp⟩⟩⟩
def Wf_Slots (x : Int × ByteArray × ByteArray × Int × List (Int) × Int × Int × ByteArray × ByteArray × Int × List (Int) × Int × Unit) : Prop := ByteArray.size x.2.1 ≤ 9223372036854775807 ∧ ByteArray.size x.2.2.1 ≤ 9223372036854775807 ∧ Wf_IntS x.2.2.2.2.1 ∧ ByteArray.size x.2.2.2.2.2.2.2.1 ≤ 9223372036854775807 ∧ ByteArray.size x.2.2.2.2.2.2.2.2.1 ≤ 9223372036854775807 ∧ Wf_IntS x.2.2.2.2.2.2.2.2.2.2.1 ∧ True
def Bd_Slots (x : Int × ByteArray × ByteArray × Int × List (Int) × Int × Int × ByteArray × ByteArray × Int × List (Int) × Int × Unit) : Prop := ByteArray.size x.2.1 ≤ 1048576 ∧ ByteArray.size x.2.2.1 ≤ 1048576 ∧ Bd_IntS x.2.2.2.2.1 ∧ ByteArray.size x.2.2.2.2.2.2.2.1 ≤ 1048576 ∧ ByteArray.size x.2.2.2.2.2.2.2.2.1 ≤ 1048576 ∧ Bd_IntS x.2.2.2.2.2.2.2.2.2.2.1 ∧ True
def Wf_Slot (x : Int × ByteArray × ByteArray × Int × List (Int) × Int × Unit) : Prop := ByteArray.size x.2.1 ≤ 9223372036854775807 ∧ ByteArray.size x.2.2.1 ≤ 9223372036854775807 ∧ Wf_IntS x.2.2.2.2.1 ∧ True
def Bd_Slot (x : Int × ByteArray × ByteArray × Int × List (Int) × Int × Unit) : Prop := ByteArray.size x.2.1 ≤ 1048576 ∧ ByteArray.size x.2.2.1 ≤ 1048576 ∧ Bd_IntS x.2.2.2.2.1 ∧ True
theorem szIntS_le (k : Nat) (a : List (Int)) (n : Int) (h : 0 ≤ n ∧ n ≤ 1048576) (hk : 1048576 < k) (hw : Wf_IntS a) : ∃ m : Int, w_szIntS k (a, (n, ())) = some (m, ((), ((), ()))) ∧ (0 ≤ m → m ≤ n ∧ Bd_IntS a) := by
  unfold w_szIntS
  have hl : a.length ≤ 9223372036854775807 := hw
  have e : wi64 (n - (List.length a : Int)) = n - (List.length a : Int) := w64_id _ (by omega)
  simp only [e]
  by_cases hc : n - (List.length a : Int) < 0
  · simp only [hc, decide_true, if_true]
    exact ⟨_, rfl, fun h => by omega⟩
  · simp only [hc, decide_false, Bool.false_eq_true, if_false]
    exact ⟨_, rfl, fun _ => ⟨by omega, by show a.length ≤ 1048576; omega⟩⟩
theorem szSlot_le (k : Nat) (x : Int × ByteArray × ByteArray × Int × List (Int) × Int × Unit) (n : Int) (h : 0 ≤ n ∧ n ≤ 1048576) (hk : 1048576 < k) (hw : Wf_Slot x) : ∃ m : Int, w_szSlot k (x, (n, ())) = some (m, ((), ((), ()))) ∧ (0 ≤ m → m ≤ n ∧ Bd_Slot x) := by
  obtain ⟨a0, a1, a2, a3, a4, a5, u⟩ := x
  unfold w_szSlot
  unfold Wf_Slot at hw
  unfold Bd_Slot
  simp only [] at hw ⊢
  obtain ⟨w1, w2, w4, _⟩ := hw
  have e0 : wi64 (n - (ByteArray.size a1 : Int)) = n - (ByteArray.size a1 : Int) := w64_id _ (by omega)
  simp only [e0]
  by_cases c0 : (n - (ByteArray.size a1 : Int)) < 0
  · simp only [c0, decide_true, if_true]
    exact ⟨_, rfl, fun h => by omega⟩
  simp only [c0, decide_false, Bool.false_eq_true, if_false]
  have e1 : wi64 ((n - (ByteArray.size a1 : Int)) - (ByteArray.size a2 : Int)) = (n - (ByteArray.size a1 : Int)) - (ByteArray.size a2 : Int) := w64_id _ (by omega)
  simp only [e1]
  by_cases c1 : ((n - (ByteArray.size a1 : Int)) - (ByteArray.size a2 : Int)) < 0
  · simp only [c1, decide_true, if_true]
    exact ⟨_, rfl, fun h => by omega⟩
  simp only [c1, decide_false, Bool.false_eq_true, if_false]
  obtain ⟨m2, e2, b2⟩ := szIntS_le k a4 ((n - (ByteArray.size a1 : Int)) - (ByteArray.size a2 : Int)) ⟨by omega, by omega⟩ hk w4
  simp only [e2, Option.bind_some]
  by_cases c2 : m2 < 0
  · simp only [c2, decide_true, if_true]
    exact ⟨_, rfl, fun h => by omega⟩
  have d2 := b2 (by omega)
  simp only [c2, decide_false, Bool.false_eq_true, if_false]
  exact ⟨_, rfl, fun _ => ⟨by omega, ⟨by omega, by omega, d2.2, trivial⟩⟩⟩
theorem szSlots_le (k : Nat) (x : Int × ByteArray × ByteArray × Int × List (Int) × Int × Int × ByteArray × ByteArray × Int × List (Int) × Int × Unit) (n : Int) (h : 0 ≤ n ∧ n ≤ 1048576) (hk : 1048576 < k) (hw : Wf_Slots x) : ∃ m : Int, w_szSlots k (x, (n, ())) = some (m, ((), ((), ()))) ∧ (0 ≤ m → m ≤ n ∧ Bd_Slots x) := by
  obtain ⟨a0, a1, a2, a3, a4, a5, a6, a7, a8, a9, a10, a11, u⟩ := x
  unfold w_szSlots
  unfold Wf_Slots at hw
  unfold Bd_Slots
  simp only [] at hw ⊢
  obtain ⟨w1, w2, w4, w7, w8, w10, _⟩ := hw
  obtain ⟨m0, e0, b0⟩ := szSlot_le k (a0, (a1, (a2, (a3, (a4, (a5, ())))))) n ⟨by omega, by omega⟩ hk ⟨w1, w2, w4, trivial⟩
  simp only [e0, Option.bind_some]
  by_cases c0 : m0 < 0
  · simp only [c0, decide_true, if_true]
    exact ⟨_, rfl, fun h => by omega⟩
  have d0 := b0 (by omega)
  simp only [c0, decide_false, Bool.false_eq_true, if_false]
  obtain ⟨m1, e1, b1⟩ := szSlot_le k (a6, (a7, (a8, (a9, (a10, (a11, ())))))) m0 ⟨by omega, by omega⟩ hk ⟨w7, w8, w10, trivial⟩
  simp only [e1, Option.bind_some]
  by_cases c1 : m1 < 0
  · simp only [c1, decide_true, if_true]
    exact ⟨_, rfl, fun h => by omega⟩
  have d1 := b1 (by omega)
  simp only [c1, decide_false, Bool.false_eq_true, if_false]
  exact ⟨_, rfl, fun _ => ⟨by omega, ⟨d0.2.1, d0.2.2.1, d0.2.2.2.1, d1.2.1, d1.2.2.1, d1.2.2.2.1, trivial⟩⟩⟩
def Wf_Shelf (x : (List (Int × Int × Int × List (ByteArray) × List (Bool) × Int)) × Unit) : Prop := Wf_HeldS x.1 ∧ True
def Bd_Shelf (x : (List (Int × Int × Int × List (ByteArray) × List (Bool) × Int)) × Unit) : Prop := Bd_HeldS x.1 ∧ True
theorem szStringS_le (k : Nat) (a : List (ByteArray)) (n : Int) (h : 0 ≤ n ∧ n ≤ 1048576) (hk : 1048576 < k) (hw : Wf_StringS a) : ∃ m : Int, w_szStringS k (a, (n, ())) = some (m, ((), ((), ()))) ∧ (0 ≤ m → m ≤ n ∧ Bd_StringS a) := by
  unfold w_szStringS
  have hl : a.length ≤ 9223372036854775807 := hw.1
  have e : wi64 (n - (List.length a : Int)) = n - (List.length a : Int) := w64_id _ (by omega)
  simp only [e]
  by_cases hc : n - (List.length a : Int) < 0
  · simp only [hc, decide_true, if_true]
    exact ⟨_, rfl, fun h => by omega⟩
  · simp only [hc, decide_false, Bool.false_eq_true, if_false]
    refine (loop_sz (t := .str) a (fun m => (m, ((), ((), ())))) (fun _ => True) ?_ ?_ (n - a.length) (by omega) (by omega) k (by omega)).imp fun m hm => ⟨hm.1, fun h0 => ⟨by have := (hm.2 h0).1; omega, by show a.length ≤ 1048576; omega⟩⟩
    · intro again n' i hn0 hn1 hi hl'
      have w : wi64 (i + 1) = i + 1 := w64_id _ (by omega)
      have hr := rd_get (t := .str) a i (by omega)
      have hs : ByteArray.size (Ty.rd (t := .str) a i) ≤ 9223372036854775807 := by rw [hr]; exact hw.2 _ (List.getElem_mem _)
      have w2 : wi64 (n' - (ByteArray.size (Ty.rd (t := .str) a i) : Int)) = n' - (ByteArray.size (Ty.rd (t := .str) a i) : Int) := w64_id _ (by omega)
      refine ⟨n' - (ByteArray.size (Ty.rd (t := .str) a i) : Int), fun hm => ⟨by omega, trivial⟩, ?_⟩
      simp only [hl', hi, w2, w, decide_true, and_self, if_true, decide_eq_true_eq]
    · intro again n' i hi
      have : ¬ i < (a.length : Int) := by omega
      simp [this]
theorem szBoolS_le (k : Nat) (a : List (Bool)) (n : Int) (h : 0 ≤ n ∧ n ≤ 1048576) (hk : 1048576 < k) (hw : Wf_BoolS a) : ∃ m : Int, w_szBoolS k (a, (n, ())) = some (m, ((), ((), ()))) ∧ (0 ≤ m → m ≤ n ∧ Bd_BoolS a) := by
  unfold w_szBoolS
  have hl : a.length ≤ 9223372036854775807 := hw
  have e : wi64 (n - (List.length a : Int)) = n - (List.length a : Int) := w64_id _ (by omega)
  simp only [e]
  by_cases hc : n - (List.length a : Int) < 0
  · simp only [hc, decide_true, if_true]
    exact ⟨_, rfl, fun h => by omega⟩
  · simp only [hc, decide_false, Bool.false_eq_true, if_false]
    exact ⟨_, rfl, fun _ => ⟨by omega, by show a.length ≤ 1048576; omega⟩⟩
theorem szHeld_le (k : Nat) (x : Int × Int × Int × List (ByteArray) × List (Bool) × Int × Unit) (n : Int) (h : 0 ≤ n ∧ n ≤ 1048576) (hk : 1048576 < k) (hw : Wf_Held x) : ∃ m : Int, w_szHeld k (x, (n, ())) = some (m, ((), ((), ()))) ∧ (0 ≤ m → m ≤ n ∧ Bd_Held x) := by
  obtain ⟨a0, a1, a2, a3, a4, a5, u⟩ := x
  unfold w_szHeld
  unfold Wf_Held at hw
  unfold Bd_Held
  simp only [] at hw ⊢
  obtain ⟨w3, w4, _⟩ := hw
  obtain ⟨m0, e0, b0⟩ := szStringS_le k a3 n ⟨by omega, by omega⟩ hk w3
  simp only [e0, Option.bind_some]
  by_cases c0 : m0 < 0
  · simp only [c0, decide_true, if_true]
    exact ⟨_, rfl, fun h => by omega⟩
  have d0 := b0 (by omega)
  simp only [c0, decide_false, Bool.false_eq_true, if_false]
  obtain ⟨m1, e1, b1⟩ := szBoolS_le k a4 m0 ⟨by omega, by omega⟩ hk w4
  simp only [e1, Option.bind_some]
  by_cases c1 : m1 < 0
  · simp only [c1, decide_true, if_true]
    exact ⟨_, rfl, fun h => by omega⟩
  have d1 := b1 (by omega)
  simp only [c1, decide_false, Bool.false_eq_true, if_false]
  exact ⟨_, rfl, fun _ => ⟨by omega, ⟨d0.2, d1.2, trivial⟩⟩⟩
theorem szHeldS_le (k : Nat) (a : List (Int × Int × Int × List (ByteArray) × List (Bool) × Int)) (n : Int) (h : 0 ≤ n ∧ n ≤ 1048576) (hk : 1048576 < k) (hw : Wf_HeldS a) : ∃ m : Int, w_szHeldS k (a, (n, ())) = some (m, ((), ((), ()))) ∧ (0 ≤ m → m ≤ n ∧ Bd_HeldS a) := by
  unfold w_szHeldS
  have hl : a.length ≤ 9223372036854775807 := hw.1
  have e : wi64 (n - (List.length a : Int)) = n - (List.length a : Int) := w64_id _ (by omega)
  simp only [e]
  by_cases hc : n - (List.length a : Int) < 0
  · simp only [hc, decide_true, if_true]
    exact ⟨_, rfl, fun h => by omega⟩
  · simp only [hc, decide_false, Bool.false_eq_true, if_false]
    refine (loop_sz (t := (.pair (.int .i64) (.pair (.int .i64) (.pair (.int .i64) (.pair (.list .str) (.pair (.list .bool) (.int .i64))))))) a (fun m => (m, ((), ((), ())))) (fun r => Bd_Held (ag_Held r)) ?_ ?_ (n - a.length) (by omega) (by omega) k (by omega)).imp fun m hm => ⟨hm.1, fun h0 => ⟨by have := (hm.2 h0).1; omega, ⟨by omega, (hm.2 h0).2⟩⟩⟩
    · intro again n' i hn0 hn1 hi hl'
      have w : wi64 (i + 1) = i + 1 := w64_id _ (by omega)
      have hr := rd_get (t := (.pair (.int .i64) (.pair (.int .i64) (.pair (.int .i64) (.pair (.list .str) (.pair (.list .bool) (.int .i64))))))) a i (by omega)
      obtain ⟨m, e1, e2⟩ := szHeld_le k (ag_Held (Ty.rd (t := (.pair (.int .i64) (.pair (.int .i64) (.pair (.int .i64) (.pair (.list .str) (.pair (.list .bool) (.int .i64))))))) a i)) n' ⟨hn0, hn1⟩ hk (by rw [hr]; exact hw.2 _ (List.getElem_mem _))
      simp only [ag_Held] at e1
      refine ⟨m, fun hm => e2 hm, ?_⟩
      simp only [hl', hi, e1, w, decide_true, and_self, if_true, Option.bind_some, decide_eq_true_eq]
    · intro again n' i hi
      have : ¬ i < (a.length : Int) := by omega
      simp [this]
theorem szShelf_le (k : Nat) (x : (List (Int × Int × Int × List (ByteArray) × List (Bool) × Int)) × Unit) (n : Int) (h : 0 ≤ n ∧ n ≤ 1048576) (hk : 1048576 < k) (hw : Wf_Shelf x) : ∃ m : Int, w_szShelf k (x, (n, ())) = some (m, ((), ((), ()))) ∧ (0 ≤ m → m ≤ n ∧ Bd_Shelf x) := by
  obtain ⟨a0, u⟩ := x
  unfold w_szShelf
  unfold Wf_Shelf at hw
  unfold Bd_Shelf
  simp only [] at hw ⊢
  obtain ⟨w0, _⟩ := hw
  obtain ⟨m0, e0, b0⟩ := szHeldS_le k a0 n ⟨by omega, by omega⟩ hk w0
  simp only [e0, Option.bind_some]
  by_cases c0 : m0 < 0
  · simp only [c0, decide_true, if_true]
    exact ⟨_, rfl, fun h => by omega⟩
  have d0 := b0 (by omega)
  simp only [c0, decide_false, Bool.false_eq_true, if_false]
  exact ⟨_, rfl, fun _ => ⟨by omega, ⟨d0.2, trivial⟩⟩⟩
theorem szUser_le (k : Nat) (x : Int × Int × Int × ByteArray × ByteArray × Int × List (Int) × Int × Int × ByteArray × ByteArray × Int × List (Int) × Int × (List (Int × Int × Int × List (ByteArray) × List (Bool) × Int)) × Int × Unit) (n : Int) (h : 0 ≤ n ∧ n ≤ 1048576) (hk : 1048576 < k) (hw : Wf_User x) : ∃ m : Int, w_szUser k (x, (n, ())) = some (m, ((), ((), ()))) ∧ (0 ≤ m → m ≤ n ∧ Bd_User x) := by
  obtain ⟨a0, a1, a2, a3, a4, a5, a6, a7, a8, a9, a10, a11, a12, a13, a14, a15, u⟩ := x
  unfold w_szUser
  unfold Wf_User at hw
  unfold Bd_User
  simp only [] at hw ⊢
  obtain ⟨w3, w4, w6, w9, w10, w12, w14, _⟩ := hw
  obtain ⟨m0, e0, b0⟩ := szSlots_le k (a2, (a3, (a4, (a5, (a6, (a7, (a8, (a9, (a10, (a11, (a12, (a13, ())))))))))))) n ⟨by omega, by omega⟩ hk ⟨w3, w4, w6, w9, w10, w12, trivial⟩
  simp only [e0, Option.bind_some]
  by_cases c0 : m0 < 0
  · simp only [c0, decide_true, if_true]
    exact ⟨_, rfl, fun h => by omega⟩
  have d0 := b0 (by omega)
  simp only [c0, decide_false, Bool.false_eq_true, if_false]
  obtain ⟨m1, e1, b1⟩ := szShelf_le k (a14, ()) m0 ⟨by omega, by omega⟩ hk ⟨w14, trivial⟩
  simp only [e1, Option.bind_some]
  by_cases c1 : m1 < 0
  · simp only [c1, decide_true, if_true]
    exact ⟨_, rfl, fun h => by omega⟩
  have d1 := b1 (by omega)
  simp only [c1, decide_false, Bool.false_eq_true, if_false]
  exact ⟨_, rfl, fun _ => ⟨by omega, ⟨d0.2.1, d0.2.2.1, d0.2.2.2.1, d0.2.2.2.2.1, d0.2.2.2.2.2.1, d0.2.2.2.2.2.2.1, d1.2.1, trivial⟩⟩⟩
theorem szUserS_le (k : Nat) (a : List (Int × Int × ((Int × ByteArray × ByteArray × Int × List (Int) × Int) × Int × ByteArray × ByteArray × Int × List (Int) × Int) × List (Int × Int × Int × List (ByteArray) × List (Bool) × Int) × Int)) (n : Int) (h : 0 ≤ n ∧ n ≤ 1048576) (hk : 1048576 < k) (hw : Wf_UserS a) : ∃ m : Int, w_szUserS k (a, (n, ())) = some (m, ((), ((), ()))) ∧ (0 ≤ m → m ≤ n ∧ Bd_UserS a) := by
  unfold w_szUserS
  have hl : a.length ≤ 9223372036854775807 := hw.1
  have e : wi64 (n - (List.length a : Int)) = n - (List.length a : Int) := w64_id _ (by omega)
  simp only [e]
  by_cases hc : n - (List.length a : Int) < 0
  · simp only [hc, decide_true, if_true]
    exact ⟨_, rfl, fun h => by omega⟩
  · simp only [hc, decide_false, Bool.false_eq_true, if_false]
    refine (loop_sz (t := (.pair (.int .i64) (.pair (.int .i64) (.pair (.pair (.pair (.int .i64) (.pair .str (.pair .str (.pair (.int .i64) (.pair (.list (.int .i64)) (.int .i64)))))) (.pair (.int .i64) (.pair .str (.pair .str (.pair (.int .i64) (.pair (.list (.int .i64)) (.int .i64))))))) (.pair (.list (.pair (.int .i64) (.pair (.int .i64) (.pair (.int .i64) (.pair (.list .str) (.pair (.list .bool) (.int .i64))))))) (.int .i64)))))) a (fun m => (m, ((), ((), ())))) (fun r => Bd_User (ag_User r)) ?_ ?_ (n - a.length) (by omega) (by omega) k (by omega)).imp fun m hm => ⟨hm.1, fun h0 => ⟨by have := (hm.2 h0).1; omega, ⟨by omega, (hm.2 h0).2⟩⟩⟩
    · intro again n' i hn0 hn1 hi hl'
      have w : wi64 (i + 1) = i + 1 := w64_id _ (by omega)
      have hr := rd_get (t := (.pair (.int .i64) (.pair (.int .i64) (.pair (.pair (.pair (.int .i64) (.pair .str (.pair .str (.pair (.int .i64) (.pair (.list (.int .i64)) (.int .i64)))))) (.pair (.int .i64) (.pair .str (.pair .str (.pair (.int .i64) (.pair (.list (.int .i64)) (.int .i64))))))) (.pair (.list (.pair (.int .i64) (.pair (.int .i64) (.pair (.int .i64) (.pair (.list .str) (.pair (.list .bool) (.int .i64))))))) (.int .i64)))))) a i (by omega)
      obtain ⟨m, e1, e2⟩ := szUser_le k (ag_User (Ty.rd (t := (.pair (.int .i64) (.pair (.int .i64) (.pair (.pair (.pair (.int .i64) (.pair .str (.pair .str (.pair (.int .i64) (.pair (.list (.int .i64)) (.int .i64)))))) (.pair (.int .i64) (.pair .str (.pair .str (.pair (.int .i64) (.pair (.list (.int .i64)) (.int .i64))))))) (.pair (.list (.pair (.int .i64) (.pair (.int .i64) (.pair (.int .i64) (.pair (.list .str) (.pair (.list .bool) (.int .i64))))))) (.int .i64)))))) a i)) n' ⟨hn0, hn1⟩ hk (by rw [hr]; exact hw.2 _ (List.getElem_mem _))
      simp only [ag_User] at e1
      refine ⟨m, fun hm => e2 hm, ?_⟩
      simp only [hl', hi, e1, w, decide_true, and_self, if_true, Option.bind_some, decide_eq_true_eq]
    · intro again n' i hi
      have : ¬ i < (a.length : Int) := by omega
      simp [this]
theorem szHub_le (k : Nat) (x : Int × Int × (List (Int × Int × Int)) × (List (Int × Int)) × (List ((Int × Int) × Int)) × (List (Int × Int × ((Int × ByteArray × ByteArray × Int × List (Int) × Int) × Int × ByteArray × ByteArray × Int × List (Int) × Int) × List (Int × Int × Int × List (ByteArray) × List (Bool) × Int) × Int)) × Unit) (n : Int) (h : 0 ≤ n ∧ n ≤ 1048576) (hk : 1048576 < k) (hw : Wf_Hub x) : ∃ m : Int, w_szHub k (x, (n, ())) = some (m, ((), ((), ()))) ∧ (0 ≤ m → m ≤ n ∧ Bd_Hub x) := by
  obtain ⟨a0, a1, a2, a3, a4, a5, u⟩ := x
  unfold w_szHub
  unfold Wf_Hub at hw
  unfold Bd_Hub
  simp only [] at hw ⊢
  obtain ⟨w2, w3, w4, w5, _⟩ := hw
  obtain ⟨m0, e0, b0⟩ := szPool_le k (a0, (a1, (a2, (a3, ())))) n ⟨by omega, by omega⟩ hk ⟨w2, w3, trivial⟩
  simp only [e0, Option.bind_some]
  by_cases c0 : m0 < 0
  · simp only [c0, decide_true, if_true]
    exact ⟨_, rfl, fun h => by omega⟩
  have d0 := b0 (by omega)
  simp only [c0, decide_false, Bool.false_eq_true, if_false]
  obtain ⟨m1, e1, b1⟩ := szRouteS_le k a4 m0 ⟨by omega, by omega⟩ hk w4
  simp only [e1, Option.bind_some]
  by_cases c1 : m1 < 0
  · simp only [c1, decide_true, if_true]
    exact ⟨_, rfl, fun h => by omega⟩
  have d1 := b1 (by omega)
  simp only [c1, decide_false, Bool.false_eq_true, if_false]
  obtain ⟨m2, e2, b2⟩ := szUserS_le k a5 m1 ⟨by omega, by omega⟩ hk w5
  simp only [e2, Option.bind_some]
  by_cases c2 : m2 < 0
  · simp only [c2, decide_true, if_true]
    exact ⟨_, rfl, fun h => by omega⟩
  have d2 := b2 (by omega)
  simp only [c2, decide_false, Bool.false_eq_true, if_false]
  exact ⟨_, rfl, fun _ => ⟨by omega, ⟨d0.2.1, d0.2.2.1, d1.2, d2.2, trivial⟩⟩⟩
def Bd_Prefix (x : Int × Int × Unit) : Prop := True
theorem toPrefix_is (k : Nat) (x : Int × Int × Unit) (hk : 1048576 < k) (hb : Bd_Prefix x) : w_toPrefix k (x, ()) = some (x, ((), ())) := by
  obtain ⟨a0, a1, u⟩ := x
  unfold w_toPrefix
  rfl
theorem toLease_is (k : Nat) (x : Int × Int × Int × Unit) (hk : 1048576 < k) (hb : Bd_Lease x) : w_toLease k (x, ()) = some (x, ((), ())) := by
  obtain ⟨a0, a1, a2, u⟩ := x
  unfold w_toLease
  rfl
theorem toLeaseS_is (k : Nat) (a : List (Int × Int × Int)) (hk : 1048576 < k) (hb : Bd_LeaseS a) : w_toLeaseS k (a, ()) = some (a, ((), ())) := by
  unfold w_toLeaseS
  have hl : a.length ≤ 1048576 := hb.1
  have hcap : (capMax : Int) = 274877906944 := rfl
  simp only [if_true]
  rw [if_pos (by omega)]
  refine loop_to (t := (.pair (.int .i64) (.pair (.int .i64) (.int .i64)))) a (fun out => (out, ((), ()))) ?_ ?_ _ (by simp) k (by omega)
  · intro again out i hi hl' ho
    have w : wi64 (i + 1) = i + 1 := w64_id _ (by omega)
    have hr := rd_get (t := (.pair (.int .i64) (.pair (.int .i64) (.int .i64)))) a i (by omega)
    have e := toLease_is k (ag_Lease (Ty.rd (t := (.pair (.int .i64) (.pair (.int .i64) (.int .i64)))) a i)) hk (by rw [hr]; exact hb.2 _ (List.getElem_mem _))
    simp only [ag_Lease] at e
    simp only [hl', hi, ho, e, w, decide_true, and_self, if_true, Option.bind_some]
  · intro again out i hi
    have : ¬ i < (a.length : Int) := by omega
    simp [this]
theorem toFixed_is (k : Nat) (x : Int × Int × Unit) (hk : 1048576 < k) (hb : Bd_Fixed x) : w_toFixed k (x, ()) = some (x, ((), ())) := by
  obtain ⟨a0, a1, u⟩ := x
  unfold w_toFixed
  rfl
theorem toFixedS_is (k : Nat) (a : List (Int × Int)) (hk : 1048576 < k) (hb : Bd_FixedS a) : w_toFixedS k (a, ()) = some (a, ((), ())) := by
  unfold w_toFixedS
  have hl : a.length ≤ 1048576 := hb.1
  have hcap : (capMax : Int) = 274877906944 := rfl
  simp only [if_true]
  rw [if_pos (by omega)]
  refine loop_to (t := (.pair (.int .i64) (.int .i64))) a (fun out => (out, ((), ()))) ?_ ?_ _ (by simp) k (by omega)
  · intro again out i hi hl' ho
    have w : wi64 (i + 1) = i + 1 := w64_id _ (by omega)
    have hr := rd_get (t := (.pair (.int .i64) (.int .i64))) a i (by omega)
    have e := toFixed_is k (ag_Fixed (Ty.rd (t := (.pair (.int .i64) (.int .i64))) a i)) hk (by rw [hr]; exact hb.2 _ (List.getElem_mem _))
    simp only [ag_Fixed] at e
    simp only [hl', hi, ho, e, w, decide_true, and_self, if_true, Option.bind_some]
  · intro again out i hi
    have : ¬ i < (a.length : Int) := by omega
    simp [this]
theorem toPool_is (k : Nat) (x : Int × Int × (List (Int × Int × Int)) × (List (Int × Int)) × Unit) (hk : 1048576 < k) (hb : Bd_Pool x) : w_toPool k (x, ()) = some (x, ((), ())) := by
  obtain ⟨a0, a1, a2, a3, u⟩ := x
  unfold w_toPool
  unfold Bd_Pool at hb
  obtain ⟨b2, b3, b⟩ := hb
  simp only [] at b2 b3
  simp only [toPrefix_is k (a0, (a1, ())) hk trivial, toLeaseS_is k a2 hk b2, toFixedS_is k a3 hk b3, Option.bind_some]
theorem toRoute_is (k : Nat) (x : Int × Int × Int × Unit) (hk : 1048576 < k) (hb : Bd_Route x) : w_toRoute k (x, ()) = some (x, ((), ())) := by
  obtain ⟨a0, a1, a2, u⟩ := x
  unfold w_toRoute
  simp only [toPrefix_is k (a0, (a1, ())) hk trivial, Option.bind_some]
theorem toRouteS_is (k : Nat) (a : List ((Int × Int) × Int)) (hk : 1048576 < k) (hb : Bd_RouteS a) : w_toRouteS k (a, ()) = some (a, ((), ())) := by
  unfold w_toRouteS
  have hl : a.length ≤ 1048576 := hb.1
  have hcap : (capMax : Int) = 274877906944 := rfl
  simp only [if_true]
  rw [if_pos (by omega)]
  refine loop_to (t := (.pair (.pair (.int .i64) (.int .i64)) (.int .i64))) a (fun out => (out, ((), ()))) ?_ ?_ _ (by simp) k (by omega)
  · intro again out i hi hl' ho
    have w : wi64 (i + 1) = i + 1 := w64_id _ (by omega)
    have hr := rd_get (t := (.pair (.pair (.int .i64) (.int .i64)) (.int .i64))) a i (by omega)
    have e := toRoute_is k (ag_Route (Ty.rd (t := (.pair (.pair (.int .i64) (.int .i64)) (.int .i64))) a i)) hk (by rw [hr]; exact hb.2 _ (List.getElem_mem _))
    simp only [ag_Route] at e
    simp only [hl', hi, ho, e, w, decide_true, and_self, if_true, Option.bind_some]
  · intro again out i hi
    have : ¬ i < (a.length : Int) := by omega
    simp [this]
theorem toIntS_is (k : Nat) (a : List (Int)) (hk : 1048576 < k) (hb : Bd_IntS a) : w_toIntS k (a, ()) = some (a, ((), ())) := by
  unfold w_toIntS
  have hl : a.length ≤ 1048576 := hb
  have hcap : (capMax : Int) = 274877906944 := rfl
  simp only [if_true]
  rw [if_pos (by omega)]
  refine loop_to (t := (.int .i64)) a (fun out => (out, ((), ()))) ?_ ?_ _ (by simp) k (by omega)
  · intro again out i hi hl' ho
    have w : wi64 (i + 1) = i + 1 := w64_id _ (by omega)
    simp only [hl', hi, ho, w, decide_true, and_self, if_true]
  · intro again out i hi
    have : ¬ i < (a.length : Int) := by omega
    simp [this]
theorem toSlot_is (k : Nat) (x : Int × ByteArray × ByteArray × Int × List (Int) × Int × Unit) (hk : 1048576 < k) (hb : Bd_Slot x) : w_toSlot k (x, ()) = some (x, ((), ())) := by
  obtain ⟨a0, a1, a2, a3, a4, a5, u⟩ := x
  unfold w_toSlot
  unfold Bd_Slot at hb
  obtain ⟨b1, b2, b4, b⟩ := hb
  simp only [] at b1 b2 b4
  simp only [toIntS_is k a4 hk b4, Option.bind_some]
theorem toSlots_is (k : Nat) (x : Int × ByteArray × ByteArray × Int × List (Int) × Int × Int × ByteArray × ByteArray × Int × List (Int) × Int × Unit) (hk : 1048576 < k) (hb : Bd_Slots x) : w_toSlots k (x, ()) = some (x, ((), ())) := by
  obtain ⟨a0, a1, a2, a3, a4, a5, a6, a7, a8, a9, a10, a11, u⟩ := x
  unfold w_toSlots
  unfold Bd_Slots at hb
  obtain ⟨b1, b2, b4, b7, b8, b10, b⟩ := hb
  simp only [] at b1 b2 b4 b7 b8 b10
  simp only [toSlot_is k (a0, (a1, (a2, (a3, (a4, (a5, ())))))) hk ⟨b1, b2, b4, trivial⟩, toSlot_is k (a6, (a7, (a8, (a9, (a10, (a11, ())))))) hk ⟨b7, b8, b10, trivial⟩, Option.bind_some]
theorem toStringS_is (k : Nat) (a : List (ByteArray)) (hk : 1048576 < k) (hb : Bd_StringS a) : w_toStringS k (a, ()) = some (a, ((), ())) := by
  unfold w_toStringS
  have hl : a.length ≤ 1048576 := hb
  have hcap : (capMax : Int) = 274877906944 := rfl
  simp only [if_true]
  rw [if_pos (by omega)]
  refine loop_to (t := .str) a (fun out => (out, ((), ()))) ?_ ?_ _ (by simp) k (by omega)
  · intro again out i hi hl' ho
    have w : wi64 (i + 1) = i + 1 := w64_id _ (by omega)
    simp only [hl', hi, ho, w, decide_true, and_self, if_true]
  · intro again out i hi
    have : ¬ i < (a.length : Int) := by omega
    simp [this]
theorem toBoolS_is (k : Nat) (a : List (Bool)) (hk : 1048576 < k) (hb : Bd_BoolS a) : w_toBoolS k (a, ()) = some (a, ((), ())) := by
  unfold w_toBoolS
  have hl : a.length ≤ 1048576 := hb
  have hcap : (capMax : Int) = 274877906944 := rfl
  simp only [if_true]
  rw [if_pos (by omega)]
  refine loop_to (t := .bool) a (fun out => (out, ((), ()))) ?_ ?_ _ (by simp) k (by omega)
  · intro again out i hi hl' ho
    have w : wi64 (i + 1) = i + 1 := w64_id _ (by omega)
    simp only [hl', hi, ho, w, decide_true, and_self, if_true]
  · intro again out i hi
    have : ¬ i < (a.length : Int) := by omega
    simp [this]
theorem toHeld_is (k : Nat) (x : Int × Int × Int × List (ByteArray) × List (Bool) × Int × Unit) (hk : 1048576 < k) (hb : Bd_Held x) : w_toHeld k (x, ()) = some (x, ((), ())) := by
  obtain ⟨a0, a1, a2, a3, a4, a5, u⟩ := x
  unfold w_toHeld
  unfold Bd_Held at hb
  obtain ⟨b3, b4, b⟩ := hb
  simp only [] at b3 b4
  simp only [toStringS_is k a3 hk b3, toBoolS_is k a4 hk b4, Option.bind_some]
theorem toHeldS_is (k : Nat) (a : List (Int × Int × Int × List (ByteArray) × List (Bool) × Int)) (hk : 1048576 < k) (hb : Bd_HeldS a) : w_toHeldS k (a, ()) = some (a, ((), ())) := by
  unfold w_toHeldS
  have hl : a.length ≤ 1048576 := hb.1
  have hcap : (capMax : Int) = 274877906944 := rfl
  simp only [if_true]
  rw [if_pos (by omega)]
  refine loop_to (t := (.pair (.int .i64) (.pair (.int .i64) (.pair (.int .i64) (.pair (.list .str) (.pair (.list .bool) (.int .i64))))))) a (fun out => (out, ((), ()))) ?_ ?_ _ (by simp) k (by omega)
  · intro again out i hi hl' ho
    have w : wi64 (i + 1) = i + 1 := w64_id _ (by omega)
    have hr := rd_get (t := (.pair (.int .i64) (.pair (.int .i64) (.pair (.int .i64) (.pair (.list .str) (.pair (.list .bool) (.int .i64))))))) a i (by omega)
    have e := toHeld_is k (ag_Held (Ty.rd (t := (.pair (.int .i64) (.pair (.int .i64) (.pair (.int .i64) (.pair (.list .str) (.pair (.list .bool) (.int .i64))))))) a i)) hk (by rw [hr]; exact hb.2 _ (List.getElem_mem _))
    simp only [ag_Held] at e
    simp only [hl', hi, ho, e, w, decide_true, and_self, if_true, Option.bind_some]
  · intro again out i hi
    have : ¬ i < (a.length : Int) := by omega
    simp [this]
theorem toShelf_is (k : Nat) (x : (List (Int × Int × Int × List (ByteArray) × List (Bool) × Int)) × Unit) (hk : 1048576 < k) (hb : Bd_Shelf x) : w_toShelf k (x, ()) = some (x, ((), ())) := by
  obtain ⟨a0, u⟩ := x
  unfold w_toShelf
  unfold Bd_Shelf at hb
  obtain ⟨b0, b⟩ := hb
  simp only [] at b0
  simp only [toHeldS_is k a0 hk b0, Option.bind_some]
theorem toUser_is (k : Nat) (x : Int × Int × Int × ByteArray × ByteArray × Int × List (Int) × Int × Int × ByteArray × ByteArray × Int × List (Int) × Int × (List (Int × Int × Int × List (ByteArray) × List (Bool) × Int)) × Int × Unit) (hk : 1048576 < k) (hb : Bd_User x) : w_toUser k (x, ()) = some (x, ((), ())) := by
  obtain ⟨a0, a1, a2, a3, a4, a5, a6, a7, a8, a9, a10, a11, a12, a13, a14, a15, u⟩ := x
  unfold w_toUser
  unfold Bd_User at hb
  obtain ⟨b3, b4, b6, b9, b10, b12, b14, b⟩ := hb
  simp only [] at b3 b4 b6 b9 b10 b12 b14
  simp only [toSlots_is k (a2, (a3, (a4, (a5, (a6, (a7, (a8, (a9, (a10, (a11, (a12, (a13, ())))))))))))) hk ⟨b3, b4, b6, b9, b10, b12, trivial⟩, toShelf_is k (a14, ()) hk ⟨b14, trivial⟩, Option.bind_some]
theorem toUserS_is (k : Nat) (a : List (Int × Int × ((Int × ByteArray × ByteArray × Int × List (Int) × Int) × Int × ByteArray × ByteArray × Int × List (Int) × Int) × List (Int × Int × Int × List (ByteArray) × List (Bool) × Int) × Int)) (hk : 1048576 < k) (hb : Bd_UserS a) : w_toUserS k (a, ()) = some (a, ((), ())) := by
  unfold w_toUserS
  have hl : a.length ≤ 1048576 := hb.1
  have hcap : (capMax : Int) = 274877906944 := rfl
  simp only [if_true]
  rw [if_pos (by omega)]
  refine loop_to (t := (.pair (.int .i64) (.pair (.int .i64) (.pair (.pair (.pair (.int .i64) (.pair .str (.pair .str (.pair (.int .i64) (.pair (.list (.int .i64)) (.int .i64)))))) (.pair (.int .i64) (.pair .str (.pair .str (.pair (.int .i64) (.pair (.list (.int .i64)) (.int .i64))))))) (.pair (.list (.pair (.int .i64) (.pair (.int .i64) (.pair (.int .i64) (.pair (.list .str) (.pair (.list .bool) (.int .i64))))))) (.int .i64)))))) a (fun out => (out, ((), ()))) ?_ ?_ _ (by simp) k (by omega)
  · intro again out i hi hl' ho
    have w : wi64 (i + 1) = i + 1 := w64_id _ (by omega)
    have hr := rd_get (t := (.pair (.int .i64) (.pair (.int .i64) (.pair (.pair (.pair (.int .i64) (.pair .str (.pair .str (.pair (.int .i64) (.pair (.list (.int .i64)) (.int .i64)))))) (.pair (.int .i64) (.pair .str (.pair .str (.pair (.int .i64) (.pair (.list (.int .i64)) (.int .i64))))))) (.pair (.list (.pair (.int .i64) (.pair (.int .i64) (.pair (.int .i64) (.pair (.list .str) (.pair (.list .bool) (.int .i64))))))) (.int .i64)))))) a i (by omega)
    have e := toUser_is k (ag_User (Ty.rd (t := (.pair (.int .i64) (.pair (.int .i64) (.pair (.pair (.pair (.int .i64) (.pair .str (.pair .str (.pair (.int .i64) (.pair (.list (.int .i64)) (.int .i64)))))) (.pair (.int .i64) (.pair .str (.pair .str (.pair (.int .i64) (.pair (.list (.int .i64)) (.int .i64))))))) (.pair (.list (.pair (.int .i64) (.pair (.int .i64) (.pair (.int .i64) (.pair (.list .str) (.pair (.list .bool) (.int .i64))))))) (.int .i64)))))) a i)) hk (by rw [hr]; exact hb.2 _ (List.getElem_mem _))
    simp only [ag_User] at e
    simp only [hl', hi, ho, e, w, decide_true, and_self, if_true, Option.bind_some]
  · intro again out i hi
    have : ¬ i < (a.length : Int) := by omega
    simp [this]
theorem toHub_is (k : Nat) (x : Int × Int × (List (Int × Int × Int)) × (List (Int × Int)) × (List ((Int × Int) × Int)) × (List (Int × Int × ((Int × ByteArray × ByteArray × Int × List (Int) × Int) × Int × ByteArray × ByteArray × Int × List (Int) × Int) × List (Int × Int × Int × List (ByteArray) × List (Bool) × Int) × Int)) × Unit) (hk : 1048576 < k) (hb : Bd_Hub x) : w_toHub k (x, ()) = some (x, ((), ())) := by
  obtain ⟨a0, a1, a2, a3, a4, a5, u⟩ := x
  unfold w_toHub
  unfold Bd_Hub at hb
  obtain ⟨b2, b3, b4, b5, b⟩ := hb
  simp only [] at b2 b3 b4 b5
  simp only [toPool_is k (a0, (a1, (a2, (a3, ())))) hk ⟨b2, b3, trivial⟩, toRouteS_is k a4 hk b4, toUserS_is k a5 hk b5, Option.bind_some]
theorem eqPrefix_is (k : Nat) (x y : Int × Int × Unit) (hk : 1048576 < k) (hb : Bd_Prefix x) : w_eqPrefix k (x, (y, ())) = some (dq x y, ((), ((), ()))) := by
  obtain ⟨a0, a1, u⟩ := x
  obtain ⟨b0, b1, u'⟩ := y
  unfold w_eqPrefix
  by_cases h0 : a0 = b0
  rotate_left
  · have hn : (a0, (a1, ())) ≠ (b0, (b1, ())) := fun h => h0 (by simp only [Prod.mk.injEq] at h; simp_all)
    rw [dq_false hn]
    simp [h0]
  subst h0
  by_cases h1 : a1 = b1
  rotate_left
  · have hn : (a0, (a1, ())) ≠ (a0, (b1, ())) := fun h => h1 (by simp only [Prod.mk.injEq] at h; simp_all)
    rw [dq_false hn]
    simp [h1]
  subst h1
  simp [dq_self]
theorem eqLease_is (k : Nat) (x y : Int × Int × Int × Unit) (hk : 1048576 < k) (hb : Bd_Lease x) : w_eqLease k (x, (y, ())) = some (dq x y, ((), ((), ()))) := by
  obtain ⟨a0, a1, a2, u⟩ := x
  obtain ⟨b0, b1, b2, u'⟩ := y
  unfold w_eqLease
  by_cases h0 : a0 = b0
  rotate_left
  · have hn : (a0, (a1, (a2, ()))) ≠ (b0, (b1, (b2, ()))) := fun h => h0 (by simp only [Prod.mk.injEq] at h; simp_all)
    rw [dq_false hn]
    simp [h0]
  subst h0
  by_cases h1 : a1 = b1
  rotate_left
  · have hn : (a0, (a1, (a2, ()))) ≠ (a0, (b1, (b2, ()))) := fun h => h1 (by simp only [Prod.mk.injEq] at h; simp_all)
    rw [dq_false hn]
    simp [h1]
  subst h1
  by_cases h2 : a2 = b2
  rotate_left
  · have hn : (a0, (a1, (a2, ()))) ≠ (a0, (a1, (b2, ()))) := fun h => h2 (by simp only [Prod.mk.injEq] at h; simp_all)
    rw [dq_false hn]
    simp [h2]
  subst h2
  simp [dq_self]
theorem eqLeaseS_is (k : Nat) (a b : List RT_Lease.den) (hk : 1048576 < k) (hb : Bd_LeaseS a) : w_eqLeaseS k (a, (b, ())) = some (dq a b, ((), ((), ()))) := by
  unfold w_eqLeaseS
  have hl : a.length ≤ 1048576 := hb.1
  by_cases hab : a.length = b.length
  · simp only [hab, decide_true, Bool.not_true]
    refine (loop_dq (t := RT_Lease) (R := Bool × Unit × Unit × Unit) a b hab (false, ((), ((), ()))) (true, ((), ((), ()))) ?_ ?_ k (by omega)).trans ?_
    · intro again i hi hl'
      have w : wi64 (i + 1) = i + 1 := w64_id _ (by omega)
      have hlb : i < (b.length : Int) := by omega
      have hr := rd_get (t := RT_Lease) a i (by omega)
      have e := eqLease_is k (ag_Lease (Ty.rd (t := RT_Lease) a i)) (ag_Lease (Ty.rd (t := RT_Lease) b i)) hk (by rw [hr]; exact hb.2 _ (List.getElem_mem _))
      rw [show (dq (ag_Lease (Ty.rd (t := RT_Lease) a i)) (ag_Lease (Ty.rd (t := RT_Lease) b i))) = dq (Ty.rd (t := RT_Lease) a i) (Ty.rd (t := RT_Lease) b i) from dq_of (ag_Lease_inj _ _)] at e
      simp only [ag_Lease] at e
      simp only [hl', hi, hlb, e, w, decide_true, and_self, if_true, Option.bind_some]
      cases dq (Ty.rd (t := RT_Lease) a i) (Ty.rd (t := RT_Lease) b i) <;> simp
    · intro again i hi
      have : ¬ i < (a.length : Int) := by omega
      simp only [this, decide_false]
      rfl
    · cases dq a b <;> simp
  · have : ¬ ((a.length : Int) = (b.length : Int)) := by omega
    have h2 : a ≠ b := fun h => hab (by rw [h])
    simp [this, dq_false h2]
theorem eqFixed_is (k : Nat) (x y : Int × Int × Unit) (hk : 1048576 < k) (hb : Bd_Fixed x) : w_eqFixed k (x, (y, ())) = some (dq x y, ((), ((), ()))) := by
  obtain ⟨a0, a1, u⟩ := x
  obtain ⟨b0, b1, u'⟩ := y
  unfold w_eqFixed
  by_cases h0 : a0 = b0
  rotate_left
  · have hn : (a0, (a1, ())) ≠ (b0, (b1, ())) := fun h => h0 (by simp only [Prod.mk.injEq] at h; simp_all)
    rw [dq_false hn]
    simp [h0]
  subst h0
  by_cases h1 : a1 = b1
  rotate_left
  · have hn : (a0, (a1, ())) ≠ (a0, (b1, ())) := fun h => h1 (by simp only [Prod.mk.injEq] at h; simp_all)
    rw [dq_false hn]
    simp [h1]
  subst h1
  simp [dq_self]
theorem eqFixedS_is (k : Nat) (a b : List RT_Fixed.den) (hk : 1048576 < k) (hb : Bd_FixedS a) : w_eqFixedS k (a, (b, ())) = some (dq a b, ((), ((), ()))) := by
  unfold w_eqFixedS
  have hl : a.length ≤ 1048576 := hb.1
  by_cases hab : a.length = b.length
  · simp only [hab, decide_true, Bool.not_true]
    refine (loop_dq (t := RT_Fixed) (R := Bool × Unit × Unit × Unit) a b hab (false, ((), ((), ()))) (true, ((), ((), ()))) ?_ ?_ k (by omega)).trans ?_
    · intro again i hi hl'
      have w : wi64 (i + 1) = i + 1 := w64_id _ (by omega)
      have hlb : i < (b.length : Int) := by omega
      have hr := rd_get (t := RT_Fixed) a i (by omega)
      have e := eqFixed_is k (ag_Fixed (Ty.rd (t := RT_Fixed) a i)) (ag_Fixed (Ty.rd (t := RT_Fixed) b i)) hk (by rw [hr]; exact hb.2 _ (List.getElem_mem _))
      rw [show (dq (ag_Fixed (Ty.rd (t := RT_Fixed) a i)) (ag_Fixed (Ty.rd (t := RT_Fixed) b i))) = dq (Ty.rd (t := RT_Fixed) a i) (Ty.rd (t := RT_Fixed) b i) from dq_of (ag_Fixed_inj _ _)] at e
      simp only [ag_Fixed] at e
      simp only [hl', hi, hlb, e, w, decide_true, and_self, if_true, Option.bind_some]
      cases dq (Ty.rd (t := RT_Fixed) a i) (Ty.rd (t := RT_Fixed) b i) <;> simp
    · intro again i hi
      have : ¬ i < (a.length : Int) := by omega
      simp only [this, decide_false]
      rfl
    · cases dq a b <;> simp
  · have : ¬ ((a.length : Int) = (b.length : Int)) := by omega
    have h2 : a ≠ b := fun h => hab (by rw [h])
    simp [this, dq_false h2]
theorem eqPool_is (k : Nat) (x y : Int × Int × (List (Int × Int × Int)) × (List (Int × Int)) × Unit) (hk : 1048576 < k) (hb : Bd_Pool x) : w_eqPool k (x, (y, ())) = some (dq x y, ((), ((), ()))) := by
  obtain ⟨a0, a1, a2, a3, u⟩ := x
  obtain ⟨b0, b1, b2, b3, u'⟩ := y
  unfold w_eqPool
  unfold Bd_Pool at hb
  obtain ⟨w2, w3, _⟩ := hb
  simp only [] at w2 w3
  simp only [eqPrefix_is k (a0, (a1, ())) (b0, (b1, ())) hk trivial, eqLeaseS_is k a2 b2 hk w2, eqFixedS_is k a3 b3 hk w3, Option.bind_some]
  by_cases h0 : (a0, (a1, ())) = (b0, (b1, ()))
  rotate_left
  · have hn : (a0, (a1, (a2, (a3, ())))) ≠ (b0, (b1, (b2, (b3, ())))) := fun h => h0 (by simp only [Prod.mk.injEq] at h; simp_all)
    rw [dq_false hn]
    simp [h0, dq_false]
  simp only [Prod.mk.injEq, and_true] at h0
  obtain ⟨rfl, rfl⟩ := h0
  by_cases h1 : a2 = b2
  rotate_left
  · have hn : (a0, (a1, (a2, (a3, ())))) ≠ (a0, (a1, (b2, (b3, ())))) := fun h => h1 (by simp only [Prod.mk.injEq] at h; simp_all)
    rw [dq_false hn]
    simp [h1, dq_false]
  subst h1
  by_cases h2 : a3 = b3
  rotate_left
  · have hn : (a0, (a1, (a2, (a3, ())))) ≠ (a0, (a1, (a2, (b3, ())))) := fun h => h2 (by simp only [Prod.mk.injEq] at h; simp_all)
    rw [dq_false hn]
    simp [h2, dq_false]
  subst h2
  simp [dq_self]
theorem eqRoute_is (k : Nat) (x y : Int × Int × Int × Unit) (hk : 1048576 < k) (hb : Bd_Route x) : w_eqRoute k (x, (y, ())) = some (dq x y, ((), ((), ()))) := by
  obtain ⟨a0, a1, a2, u⟩ := x
  obtain ⟨b0, b1, b2, u'⟩ := y
  unfold w_eqRoute
  simp only [eqPrefix_is k (a0, (a1, ())) (b0, (b1, ())) hk trivial, Option.bind_some]
  by_cases h0 : (a0, (a1, ())) = (b0, (b1, ()))
  rotate_left
  · have hn : (a0, (a1, (a2, ()))) ≠ (b0, (b1, (b2, ()))) := fun h => h0 (by simp only [Prod.mk.injEq] at h; simp_all)
    rw [dq_false hn]
    simp [h0, dq_false]
  simp only [Prod.mk.injEq, and_true] at h0
  obtain ⟨rfl, rfl⟩ := h0
  by_cases h1 : a2 = b2
  rotate_left
  · have hn : (a0, (a1, (a2, ()))) ≠ (a0, (a1, (b2, ()))) := fun h => h1 (by simp only [Prod.mk.injEq] at h; simp_all)
    rw [dq_false hn]
    simp [h1]
  subst h1
  simp [dq_self]
theorem eqRouteS_is (k : Nat) (a b : List RT_Route.den) (hk : 1048576 < k) (hb : Bd_RouteS a) : w_eqRouteS k (a, (b, ())) = some (dq a b, ((), ((), ()))) := by
  unfold w_eqRouteS
  have hl : a.length ≤ 1048576 := hb.1
  by_cases hab : a.length = b.length
  · simp only [hab, decide_true, Bool.not_true]
    refine (loop_dq (t := RT_Route) (R := Bool × Unit × Unit × Unit) a b hab (false, ((), ((), ()))) (true, ((), ((), ()))) ?_ ?_ k (by omega)).trans ?_
    · intro again i hi hl'
      have w : wi64 (i + 1) = i + 1 := w64_id _ (by omega)
      have hlb : i < (b.length : Int) := by omega
      have hr := rd_get (t := RT_Route) a i (by omega)
      have e := eqRoute_is k (ag_Route (Ty.rd (t := RT_Route) a i)) (ag_Route (Ty.rd (t := RT_Route) b i)) hk (by rw [hr]; exact hb.2 _ (List.getElem_mem _))
      rw [show (dq (ag_Route (Ty.rd (t := RT_Route) a i)) (ag_Route (Ty.rd (t := RT_Route) b i))) = dq (Ty.rd (t := RT_Route) a i) (Ty.rd (t := RT_Route) b i) from dq_of (ag_Route_inj _ _)] at e
      simp only [ag_Route] at e
      simp only [hl', hi, hlb, e, w, decide_true, and_self, if_true, Option.bind_some]
      cases dq (Ty.rd (t := RT_Route) a i) (Ty.rd (t := RT_Route) b i) <;> simp
    · intro again i hi
      have : ¬ i < (a.length : Int) := by omega
      simp only [this, decide_false]
      rfl
    · cases dq a b <;> simp
  · have : ¬ ((a.length : Int) = (b.length : Int)) := by omega
    have h2 : a ≠ b := fun h => hab (by rw [h])
    simp [this, dq_false h2]
theorem eqIntS_is (k : Nat) (a b : List ((.int .i64) : Ty).den) (hk : 1048576 < k) (hb : Bd_IntS a) : w_eqIntS k (a, (b, ())) = some (dq a b, ((), ((), ()))) := by
  unfold w_eqIntS
  have hl : a.length ≤ 1048576 := hb
  by_cases hab : a.length = b.length
  · simp only [hab, decide_true, Bool.not_true]
    refine (loop_dq (t := (.int .i64)) (R := Bool × Unit × Unit × Unit) a b hab (false, ((), ((), ()))) (true, ((), ((), ()))) ?_ ?_ k (by omega)).trans ?_
    · intro again i hi hl'
      have w : wi64 (i + 1) = i + 1 := w64_id _ (by omega)
      have hlb : i < (b.length : Int) := by omega
      simp only [hl', hi, hlb, w, decide_true, and_self, if_true]
      by_cases e : Ty.rd (t := (.int .i64)) a i = Ty.rd (t := (.int .i64)) b i <;> simp [e, dq_self, dq_false]
    · intro again i hi
      have : ¬ i < (a.length : Int) := by omega
      simp only [this, decide_false]
      rfl
    · cases dq a b <;> simp
  · have : ¬ ((a.length : Int) = (b.length : Int)) := by omega
    have h2 : a ≠ b := fun h => hab (by rw [h])
    simp [this, dq_false h2]
theorem eqSlot_is (k : Nat) (x y : Int × ByteArray × ByteArray × Int × List (Int) × Int × Unit) (hk : 1048576 < k) (hb : Bd_Slot x) : w_eqSlot k (x, (y, ())) = some (dq x y, ((), ((), ()))) := by
  obtain ⟨a0, a1, a2, a3, a4, a5, u⟩ := x
  obtain ⟨b0, b1, b2, b3, b4, b5, u'⟩ := y
  unfold w_eqSlot
  unfold Bd_Slot at hb
  obtain ⟨w1, w2, w4, _⟩ := hb
  simp only [] at w1 w2 w4
  simp only [eqIntS_is k a4 b4 hk w4, Option.bind_some]
  by_cases h0 : a0 = b0
  rotate_left
  · have hn : (a0, (a1, (a2, (a3, (a4, (a5, ())))))) ≠ (b0, (b1, (b2, (b3, (b4, (b5, ())))))) := fun h => h0 (by simp only [Prod.mk.injEq] at h; simp_all)
    rw [dq_false hn]
    simp [h0]
  subst h0
  by_cases h1 : a1 = b1
  rotate_left
  · have hn : (a0, (a1, (a2, (a3, (a4, (a5, ())))))) ≠ (a0, (b1, (b2, (b3, (b4, (b5, ())))))) := fun h => h1 (by simp only [Prod.mk.injEq] at h; simp_all)
    rw [dq_false hn]
    simp [h1]
  subst h1
  by_cases h2 : a2 = b2
  rotate_left
  · have hn : (a0, (a1, (a2, (a3, (a4, (a5, ())))))) ≠ (a0, (a1, (b2, (b3, (b4, (b5, ())))))) := fun h => h2 (by simp only [Prod.mk.injEq] at h; simp_all)
    rw [dq_false hn]
    simp [h2]
  subst h2
  by_cases h3 : a3 = b3
  rotate_left
  · have hn : (a0, (a1, (a2, (a3, (a4, (a5, ())))))) ≠ (a0, (a1, (a2, (b3, (b4, (b5, ())))))) := fun h => h3 (by simp only [Prod.mk.injEq] at h; simp_all)
    rw [dq_false hn]
    simp [h3]
  subst h3
  by_cases h4 : a4 = b4
  rotate_left
  · have hn : (a0, (a1, (a2, (a3, (a4, (a5, ())))))) ≠ (a0, (a1, (a2, (a3, (b4, (b5, ())))))) := fun h => h4 (by simp only [Prod.mk.injEq] at h; simp_all)
    rw [dq_false hn]
    simp [h4, dq_false]
  subst h4
  by_cases h5 : a5 = b5
  rotate_left
  · have hn : (a0, (a1, (a2, (a3, (a4, (a5, ())))))) ≠ (a0, (a1, (a2, (a3, (a4, (b5, ())))))) := fun h => h5 (by simp only [Prod.mk.injEq] at h; simp_all)
    rw [dq_false hn]
    simp [h5]
  subst h5
  simp [dq_self]
theorem eqSlots_is (k : Nat) (x y : Int × ByteArray × ByteArray × Int × List (Int) × Int × Int × ByteArray × ByteArray × Int × List (Int) × Int × Unit) (hk : 1048576 < k) (hb : Bd_Slots x) : w_eqSlots k (x, (y, ())) = some (dq x y, ((), ((), ()))) := by
  obtain ⟨a0, a1, a2, a3, a4, a5, a6, a7, a8, a9, a10, a11, u⟩ := x
  obtain ⟨b0, b1, b2, b3, b4, b5, b6, b7, b8, b9, b10, b11, u'⟩ := y
  unfold w_eqSlots
  unfold Bd_Slots at hb
  obtain ⟨w1, w2, w4, w7, w8, w10, _⟩ := hb
  simp only [] at w1 w2 w4 w7 w8 w10
  simp only [eqSlot_is k (a0, (a1, (a2, (a3, (a4, (a5, ())))))) (b0, (b1, (b2, (b3, (b4, (b5, ())))))) hk ⟨w1, w2, w4, trivial⟩, eqSlot_is k (a6, (a7, (a8, (a9, (a10, (a11, ())))))) (b6, (b7, (b8, (b9, (b10, (b11, ())))))) hk ⟨w7, w8, w10, trivial⟩, Option.bind_some]
  by_cases h0 : (a0, (a1, (a2, (a3, (a4, (a5, ())))))) = (b0, (b1, (b2, (b3, (b4, (b5, ()))))))
  rotate_left
  · have hn : (a0, (a1, (a2, (a3, (a4, (a5, (a6, (a7, (a8, (a9, (a10, (a11, ())))))))))))) ≠ (b0, (b1, (b2, (b3, (b4, (b5, (b6, (b7, (b8, (b9, (b10, (b11, ())))))))))))) := fun h => h0 (by simp only [Prod.mk.injEq] at h; simp_all)
    rw [dq_false hn]
    simp [h0, dq_false]
  simp only [Prod.mk.injEq, and_true] at h0
  obtain ⟨rfl, rfl, rfl, rfl, rfl, rfl⟩ := h0
  by_cases h1 : (a6, (a7, (a8, (a9, (a10, (a11, ())))))) = (b6, (b7, (b8, (b9, (b10, (b11, ()))))))
  rotate_left
  · have hn : (a0, (a1, (a2, (a3, (a4, (a5, (a6, (a7, (a8, (a9, (a10, (a11, ())))))))))))) ≠ (a0, (a1, (a2, (a3, (a4, (a5, (b6, (b7, (b8, (b9, (b10, (b11, ())))))))))))) := fun h => h1 (by simp only [Prod.mk.injEq] at h; simp_all)
    rw [dq_false hn]
    simp [h1, dq_false]
  simp only [Prod.mk.injEq, and_true] at h1
  obtain ⟨rfl, rfl, rfl, rfl, rfl, rfl⟩ := h1
  simp [dq_self]
theorem eqStringS_is (k : Nat) (a b : List (.str : Ty).den) (hk : 1048576 < k) (hb : Bd_StringS a) : w_eqStringS k (a, (b, ())) = some (dq a b, ((), ((), ()))) := by
  unfold w_eqStringS
  have hl : a.length ≤ 1048576 := hb
  by_cases hab : a.length = b.length
  · simp only [hab, decide_true, Bool.not_true]
    refine (loop_dq (t := .str) (R := Bool × Unit × Unit × Unit) a b hab (false, ((), ((), ()))) (true, ((), ((), ()))) ?_ ?_ k (by omega)).trans ?_
    · intro again i hi hl'
      have w : wi64 (i + 1) = i + 1 := w64_id _ (by omega)
      have hlb : i < (b.length : Int) := by omega
      simp only [hl', hi, hlb, w, decide_true, and_self, if_true]
      by_cases e : Ty.rd (t := .str) a i = Ty.rd (t := .str) b i <;> simp [e, dq_self, dq_false]
    · intro again i hi
      have : ¬ i < (a.length : Int) := by omega
      simp only [this, decide_false]
      rfl
    · cases dq a b <;> simp
  · have : ¬ ((a.length : Int) = (b.length : Int)) := by omega
    have h2 : a ≠ b := fun h => hab (by rw [h])
    simp [this, dq_false h2]
theorem eqBoolS_is (k : Nat) (a b : List (.bool : Ty).den) (hk : 1048576 < k) (hb : Bd_BoolS a) : w_eqBoolS k (a, (b, ())) = some (dq a b, ((), ((), ()))) := by
  unfold w_eqBoolS
  have hl : a.length ≤ 1048576 := hb
  by_cases hab : a.length = b.length
  · simp only [hab, decide_true, Bool.not_true]
    refine (loop_dq (t := .bool) (R := Bool × Unit × Unit × Unit) a b hab (false, ((), ((), ()))) (true, ((), ((), ()))) ?_ ?_ k (by omega)).trans ?_
    · intro again i hi hl'
      have w : wi64 (i + 1) = i + 1 := w64_id _ (by omega)
      have hlb : i < (b.length : Int) := by omega
      simp only [hl', hi, hlb, w, decide_true, and_self, if_true]
      by_cases e : Ty.rd (t := .bool) a i = Ty.rd (t := .bool) b i <;> simp [e, dq_self, dq_false]
    · intro again i hi
      have : ¬ i < (a.length : Int) := by omega
      simp only [this, decide_false]
      rfl
    · cases dq a b <;> simp
  · have : ¬ ((a.length : Int) = (b.length : Int)) := by omega
    have h2 : a ≠ b := fun h => hab (by rw [h])
    simp [this, dq_false h2]
theorem eqHeld_is (k : Nat) (x y : Int × Int × Int × List (ByteArray) × List (Bool) × Int × Unit) (hk : 1048576 < k) (hb : Bd_Held x) : w_eqHeld k (x, (y, ())) = some (dq x y, ((), ((), ()))) := by
  obtain ⟨a0, a1, a2, a3, a4, a5, u⟩ := x
  obtain ⟨b0, b1, b2, b3, b4, b5, u'⟩ := y
  unfold w_eqHeld
  unfold Bd_Held at hb
  obtain ⟨w3, w4, _⟩ := hb
  simp only [] at w3 w4
  simp only [eqStringS_is k a3 b3 hk w3, eqBoolS_is k a4 b4 hk w4, Option.bind_some]
  by_cases h0 : a0 = b0
  rotate_left
  · have hn : (a0, (a1, (a2, (a3, (a4, (a5, ())))))) ≠ (b0, (b1, (b2, (b3, (b4, (b5, ())))))) := fun h => h0 (by simp only [Prod.mk.injEq] at h; simp_all)
    rw [dq_false hn]
    simp [h0]
  subst h0
  by_cases h1 : a1 = b1
  rotate_left
  · have hn : (a0, (a1, (a2, (a3, (a4, (a5, ())))))) ≠ (a0, (b1, (b2, (b3, (b4, (b5, ())))))) := fun h => h1 (by simp only [Prod.mk.injEq] at h; simp_all)
    rw [dq_false hn]
    simp [h1]
  subst h1
  by_cases h2 : a2 = b2
  rotate_left
  · have hn : (a0, (a1, (a2, (a3, (a4, (a5, ())))))) ≠ (a0, (a1, (b2, (b3, (b4, (b5, ())))))) := fun h => h2 (by simp only [Prod.mk.injEq] at h; simp_all)
    rw [dq_false hn]
    simp [h2]
  subst h2
  by_cases h3 : a3 = b3
  rotate_left
  · have hn : (a0, (a1, (a2, (a3, (a4, (a5, ())))))) ≠ (a0, (a1, (a2, (b3, (b4, (b5, ())))))) := fun h => h3 (by simp only [Prod.mk.injEq] at h; simp_all)
    rw [dq_false hn]
    simp [h3, dq_false]
  subst h3
  by_cases h4 : a4 = b4
  rotate_left
  · have hn : (a0, (a1, (a2, (a3, (a4, (a5, ())))))) ≠ (a0, (a1, (a2, (a3, (b4, (b5, ())))))) := fun h => h4 (by simp only [Prod.mk.injEq] at h; simp_all)
    rw [dq_false hn]
    simp [h4, dq_false]
  subst h4
  by_cases h5 : a5 = b5
  rotate_left
  · have hn : (a0, (a1, (a2, (a3, (a4, (a5, ())))))) ≠ (a0, (a1, (a2, (a3, (a4, (b5, ())))))) := fun h => h5 (by simp only [Prod.mk.injEq] at h; simp_all)
    rw [dq_false hn]
    simp [h5]
  subst h5
  simp [dq_self]
theorem eqHeldS_is (k : Nat) (a b : List RT_Held.den) (hk : 1048576 < k) (hb : Bd_HeldS a) : w_eqHeldS k (a, (b, ())) = some (dq a b, ((), ((), ()))) := by
  unfold w_eqHeldS
  have hl : a.length ≤ 1048576 := hb.1
  by_cases hab : a.length = b.length
  · simp only [hab, decide_true, Bool.not_true]
    refine (loop_dq (t := RT_Held) (R := Bool × Unit × Unit × Unit) a b hab (false, ((), ((), ()))) (true, ((), ((), ()))) ?_ ?_ k (by omega)).trans ?_
    · intro again i hi hl'
      have w : wi64 (i + 1) = i + 1 := w64_id _ (by omega)
      have hlb : i < (b.length : Int) := by omega
      have hr := rd_get (t := RT_Held) a i (by omega)
      have e := eqHeld_is k (ag_Held (Ty.rd (t := RT_Held) a i)) (ag_Held (Ty.rd (t := RT_Held) b i)) hk (by rw [hr]; exact hb.2 _ (List.getElem_mem _))
      rw [show (dq (ag_Held (Ty.rd (t := RT_Held) a i)) (ag_Held (Ty.rd (t := RT_Held) b i))) = dq (Ty.rd (t := RT_Held) a i) (Ty.rd (t := RT_Held) b i) from dq_of (ag_Held_inj _ _)] at e
      simp only [ag_Held] at e
      simp only [hl', hi, hlb, e, w, decide_true, and_self, if_true, Option.bind_some]
      cases dq (Ty.rd (t := RT_Held) a i) (Ty.rd (t := RT_Held) b i) <;> simp
    · intro again i hi
      have : ¬ i < (a.length : Int) := by omega
      simp only [this, decide_false]
      rfl
    · cases dq a b <;> simp
  · have : ¬ ((a.length : Int) = (b.length : Int)) := by omega
    have h2 : a ≠ b := fun h => hab (by rw [h])
    simp [this, dq_false h2]
theorem eqShelf_is (k : Nat) (x y : (List (Int × Int × Int × List (ByteArray) × List (Bool) × Int)) × Unit) (hk : 1048576 < k) (hb : Bd_Shelf x) : w_eqShelf k (x, (y, ())) = some (dq x y, ((), ((), ()))) := by
  obtain ⟨a0, u⟩ := x
  obtain ⟨b0, u'⟩ := y
  unfold w_eqShelf
  unfold Bd_Shelf at hb
  obtain ⟨w0, _⟩ := hb
  simp only [] at w0
  simp only [eqHeldS_is k a0 b0 hk w0, Option.bind_some]
  by_cases h0 : a0 = b0
  rotate_left
  · have hn : (a0, ()) ≠ (b0, ()) := fun h => h0 (by simp only [Prod.mk.injEq] at h; simp_all)
    rw [dq_false hn]
    simp [h0, dq_false]
  subst h0
  simp [dq_self]
theorem eqUser_is (k : Nat) (x y : Int × Int × Int × ByteArray × ByteArray × Int × List (Int) × Int × Int × ByteArray × ByteArray × Int × List (Int) × Int × (List (Int × Int × Int × List (ByteArray) × List (Bool) × Int)) × Int × Unit) (hk : 1048576 < k) (hb : Bd_User x) : w_eqUser k (x, (y, ())) = some (dq x y, ((), ((), ()))) := by
  obtain ⟨a0, a1, a2, a3, a4, a5, a6, a7, a8, a9, a10, a11, a12, a13, a14, a15, u⟩ := x
  obtain ⟨b0, b1, b2, b3, b4, b5, b6, b7, b8, b9, b10, b11, b12, b13, b14, b15, u'⟩ := y
  unfold w_eqUser
  unfold Bd_User at hb
  obtain ⟨w3, w4, w6, w9, w10, w12, w14, _⟩ := hb
  simp only [] at w3 w4 w6 w9 w10 w12 w14
  simp only [eqSlots_is k (a2, (a3, (a4, (a5, (a6, (a7, (a8, (a9, (a10, (a11, (a12, (a13, ())))))))))))) (b2, (b3, (b4, (b5, (b6, (b7, (b8, (b9, (b10, (b11, (b12, (b13, ())))))))))))) hk ⟨w3, w4, w6, w9, w10, w12, trivial⟩, eqShelf_is k (a14, ()) (b14, ()) hk ⟨w14, trivial⟩, Option.bind_some]
  by_cases h0 : a0 = b0
  rotate_left
  · have hn : (a0, (a1, (a2, (a3, (a4, (a5, (a6, (a7, (a8, (a9, (a10, (a11, (a12, (a13, (a14, (a15, ())))))))))))))))) ≠ (b0, (b1, (b2, (b3, (b4, (b5, (b6, (b7, (b8, (b9, (b10, (b11, (b12, (b13, (b14, (b15, ())))))))))))))))) := fun h => h0 (by simp only [Prod.mk.injEq] at h; simp_all)
    rw [dq_false hn]
    simp [h0]
  subst h0
  by_cases h1 : a1 = b1
  rotate_left
  · have hn : (a0, (a1, (a2, (a3, (a4, (a5, (a6, (a7, (a8, (a9, (a10, (a11, (a12, (a13, (a14, (a15, ())))))))))))))))) ≠ (a0, (b1, (b2, (b3, (b4, (b5, (b6, (b7, (b8, (b9, (b10, (b11, (b12, (b13, (b14, (b15, ())))))))))))))))) := fun h => h1 (by simp only [Prod.mk.injEq] at h; simp_all)
    rw [dq_false hn]
    simp [h1]
  subst h1
  by_cases h2 : (a2, (a3, (a4, (a5, (a6, (a7, (a8, (a9, (a10, (a11, (a12, (a13, ())))))))))))) = (b2, (b3, (b4, (b5, (b6, (b7, (b8, (b9, (b10, (b11, (b12, (b13, ()))))))))))))
  rotate_left
  · have hn : (a0, (a1, (a2, (a3, (a4, (a5, (a6, (a7, (a8, (a9, (a10, (a11, (a12, (a13, (a14, (a15, ())))))))))))))))) ≠ (a0, (a1, (b2, (b3, (b4, (b5, (b6, (b7, (b8, (b9, (b10, (b11, (b12, (b13, (b14, (b15, ())))))))))))))))) := fun h => h2 (by simp only [Prod.mk.injEq] at h; simp_all)
    rw [dq_false hn]
    simp [h2, dq_false]
  simp only [Prod.mk.injEq, and_true] at h2
  obtain ⟨rfl, rfl, rfl, rfl, rfl, rfl, rfl, rfl, rfl, rfl, rfl, rfl⟩ := h2
  by_cases h3 : (a14, ()) = (b14, ())
  rotate_left
  · have hn : (a0, (a1, (a2, (a3, (a4, (a5, (a6, (a7, (a8, (a9, (a10, (a11, (a12, (a13, (a14, (a15, ())))))))))))))))) ≠ (a0, (a1, (a2, (a3, (a4, (a5, (a6, (a7, (a8, (a9, (a10, (a11, (a12, (a13, (b14, (b15, ())))))))))))))))) := fun h => h3 (by simp only [Prod.mk.injEq] at h; simp_all)
    rw [dq_false hn]
    simp [h3, dq_false]
  simp only [Prod.mk.injEq, and_true] at h3
  obtain ⟨rfl⟩ := h3
  by_cases h4 : a15 = b15
  rotate_left
  · have hn : (a0, (a1, (a2, (a3, (a4, (a5, (a6, (a7, (a8, (a9, (a10, (a11, (a12, (a13, (a14, (a15, ())))))))))))))))) ≠ (a0, (a1, (a2, (a3, (a4, (a5, (a6, (a7, (a8, (a9, (a10, (a11, (a12, (a13, (a14, (b15, ())))))))))))))))) := fun h => h4 (by simp only [Prod.mk.injEq] at h; simp_all)
    rw [dq_false hn]
    simp [h4]
  subst h4
  simp [dq_self]
theorem eqUserS_is (k : Nat) (a b : List RT_User.den) (hk : 1048576 < k) (hb : Bd_UserS a) : w_eqUserS k (a, (b, ())) = some (dq a b, ((), ((), ()))) := by
  unfold w_eqUserS
  have hl : a.length ≤ 1048576 := hb.1
  by_cases hab : a.length = b.length
  · simp only [hab, decide_true, Bool.not_true]
    refine (loop_dq (t := RT_User) (R := Bool × Unit × Unit × Unit) a b hab (false, ((), ((), ()))) (true, ((), ((), ()))) ?_ ?_ k (by omega)).trans ?_
    · intro again i hi hl'
      have w : wi64 (i + 1) = i + 1 := w64_id _ (by omega)
      have hlb : i < (b.length : Int) := by omega
      have hr := rd_get (t := RT_User) a i (by omega)
      have e := eqUser_is k (ag_User (Ty.rd (t := RT_User) a i)) (ag_User (Ty.rd (t := RT_User) b i)) hk (by rw [hr]; exact hb.2 _ (List.getElem_mem _))
      rw [show (dq (ag_User (Ty.rd (t := RT_User) a i)) (ag_User (Ty.rd (t := RT_User) b i))) = dq (Ty.rd (t := RT_User) a i) (Ty.rd (t := RT_User) b i) from dq_of (ag_User_inj _ _)] at e
      simp only [ag_User] at e
      simp only [hl', hi, hlb, e, w, decide_true, and_self, if_true, Option.bind_some]
      cases dq (Ty.rd (t := RT_User) a i) (Ty.rd (t := RT_User) b i) <;> simp
    · intro again i hi
      have : ¬ i < (a.length : Int) := by omega
      simp only [this, decide_false]
      rfl
    · cases dq a b <;> simp
  · have : ¬ ((a.length : Int) = (b.length : Int)) := by omega
    have h2 : a ≠ b := fun h => hab (by rw [h])
    simp [this, dq_false h2]
theorem eqHub_is (k : Nat) (x y : Int × Int × (List (Int × Int × Int)) × (List (Int × Int)) × (List ((Int × Int) × Int)) × (List (Int × Int × ((Int × ByteArray × ByteArray × Int × List (Int) × Int) × Int × ByteArray × ByteArray × Int × List (Int) × Int) × List (Int × Int × Int × List (ByteArray) × List (Bool) × Int) × Int)) × Unit) (hk : 1048576 < k) (hb : Bd_Hub x) : w_eqHub k (x, (y, ())) = some (dq x y, ((), ((), ()))) := by
  obtain ⟨a0, a1, a2, a3, a4, a5, u⟩ := x
  obtain ⟨b0, b1, b2, b3, b4, b5, u'⟩ := y
  unfold w_eqHub
  unfold Bd_Hub at hb
  obtain ⟨w2, w3, w4, w5, _⟩ := hb
  simp only [] at w2 w3 w4 w5
  simp only [eqPool_is k (a0, (a1, (a2, (a3, ())))) (b0, (b1, (b2, (b3, ())))) hk ⟨w2, w3, trivial⟩, eqRouteS_is k a4 b4 hk w4, eqUserS_is k a5 b5 hk w5, Option.bind_some]
  by_cases h0 : (a0, (a1, (a2, (a3, ())))) = (b0, (b1, (b2, (b3, ()))))
  rotate_left
  · have hn : (a0, (a1, (a2, (a3, (a4, (a5, ())))))) ≠ (b0, (b1, (b2, (b3, (b4, (b5, ())))))) := fun h => h0 (by simp only [Prod.mk.injEq] at h; simp_all)
    rw [dq_false hn]
    simp [h0, dq_false]
  simp only [Prod.mk.injEq, and_true] at h0
  obtain ⟨rfl, rfl, rfl, rfl⟩ := h0
  by_cases h1 : a4 = b4
  rotate_left
  · have hn : (a0, (a1, (a2, (a3, (a4, (a5, ())))))) ≠ (a0, (a1, (a2, (a3, (b4, (b5, ())))))) := fun h => h1 (by simp only [Prod.mk.injEq] at h; simp_all)
    rw [dq_false hn]
    simp [h1, dq_false]
  subst h1
  by_cases h2 : a5 = b5
  rotate_left
  · have hn : (a0, (a1, (a2, (a3, (a4, (a5, ())))))) ≠ (a0, (a1, (a2, (a3, (a4, (b5, ())))))) := fun h => h2 (by simp only [Prod.mk.injEq] at h; simp_all)
    rw [dq_false hn]
    simp [h2, dq_false]
  subst h2
  simp [dq_self]
abbrev RT_Hub : Ty := (.pair (.pair (.pair (.int .i64) (.int .i64)) (.pair (.list (.pair (.int .i64) (.pair (.int .i64) (.int .i64)))) (.list (.pair (.int .i64) (.int .i64))))) (.pair (.list (.pair (.pair (.int .i64) (.int .i64)) (.int .i64))) (.list (.pair (.int .i64) (.pair (.int .i64) (.pair (.pair (.pair (.int .i64) (.pair .str (.pair .str (.pair (.int .i64) (.pair (.list (.int .i64)) (.int .i64)))))) (.pair (.int .i64) (.pair .str (.pair .str (.pair (.int .i64) (.pair (.list (.int .i64)) (.int .i64))))))) (.pair (.list (.pair (.int .i64) (.pair (.int .i64) (.pair (.int .i64) (.pair (.list .str) (.pair (.list .bool) (.int .i64))))))) (.int .i64))))))))
def ag_Hub (r : RT_Hub.den) : Int × Int × (List (Int × Int × Int)) × (List (Int × Int)) × (List ((Int × Int) × Int)) × (List (Int × Int × ((Int × ByteArray × ByteArray × Int × List (Int) × Int) × Int × ByteArray × ByteArray × Int × List (Int) × Int) × List (Int × Int × Int × List (ByteArray) × List (Bool) × Int) × Int)) × Unit := (r.1.1.1, (r.1.1.2, (r.1.2.1, (r.1.2.2, (r.2.1, (r.2.2, ()))))))
theorem wfr_Lease (r : RT_Lease.den) (h : RT_Lease.wf r) : Wf_Lease (ag_Lease r) := trivial
theorem wfr_Fixed (r : RT_Fixed.den) (h : RT_Fixed.wf r) : Wf_Fixed (ag_Fixed r) := trivial
theorem wfr_Route (r : RT_Route.den) (h : RT_Route.wf r) : Wf_Route (ag_Route r) := trivial
theorem wfr_Held (r : RT_Held.den) (h : RT_Held.wf r) : Wf_Held (ag_Held r) := ⟨h.2.2.2.1, h.2.2.2.2.1.1, trivial⟩
theorem wfr_User (r : RT_User.den) (h : RT_User.wf r) : Wf_User (ag_User r) := ⟨h.2.2.1.1.2.1, h.2.2.1.1.2.2.1, h.2.2.1.1.2.2.2.2.1.1, h.2.2.1.2.2.1, h.2.2.1.2.2.2.1, h.2.2.1.2.2.2.2.2.1.1, ⟨h.2.2.2.1.1, fun r hr => wfr_Held r (h.2.2.2.1.2 r hr)⟩, trivial⟩
theorem wfr_Hub (r : RT_Hub.den) (h : RT_Hub.wf r) : Wf_Hub (ag_Hub r) := ⟨⟨h.1.2.1.1, fun r hr => wfr_Lease r (h.1.2.1.2 r hr)⟩, ⟨h.1.2.2.1, fun r hr => wfr_Fixed r (h.1.2.2.2 r hr)⟩, ⟨h.2.1.1, fun r hr => wfr_Route r (h.2.1.2 r hr)⟩, ⟨h.2.2.1, fun r hr => wfr_User r (h.2.2.2 r hr)⟩, trivial⟩
theorem Compare_is (k : Nat) (a b : Int) : x_cmp_Compare_int k (a, (b, ())) = some ((if a < b then -1 else if b < a then 1 else 0), ((), ((), ()))) := by
  unfold x_cmp_Compare_int x_cmp_isNaN_int
  simp only [Option.bind_some, decide_true, Bool.not_true, Bool.false_eq_true, if_false]
  by_cases h : a < b
  · simp [h]
  · by_cases h' : b < a <;> simp [h, h']
theorem Or_is (k : Nat) (a b : Int) (hk : 3 < k) : x_cmp_Or_int k ([a, b], ()) = some ((if a = 0 then b else a), ((), ())) := by
  unfold x_cmp_Or_int
  have r0 : Ty.rd (t := .int .i64) [a, b] 0 = a := rfl
  have r1 : Ty.rd (t := .int .i64) [a, b] 1 = b := rfl
  refine (loop_find (R := Int × Unit × Unit) (fun j => ((0 : Int), ([a, b], ((2 : Int), (((j : Nat) : Int), ()))))) 2 (fun j => !decide (Ty.rd (t := .int .i64) [a, b] (j : Nat) = 0)) (fun j => (Ty.rd (t := .int .i64) [a, b] (j : Nat), ((), ()))) (0, ((), ())) ?_ ?_ k (by omega)).trans ?_
  · intro ag j hj
    have q1 : (0 : Int) ≤ (j : Int) ∧ (j : Int) < (([a, b] : List Int).length : Int) := by simp; omega
    have q2 : (j : Int) < 2 := by omega
    have w3 : wi64 ((j : Int) + 1) = ((j + 1 : Nat) : Int) := (w64_id _ (by omega)).trans (by omega)
    simp only [q1, q2, w3, and_self, decide_true, if_true]
  · intro ag
    simp
  · have e : List.range 2 = [0, 1] := rfl
    rw [e]
    by_cases h : a = 0
    · subst h
      by_cases h1 : b = 0
      · subst h1
        simp [Ty.rd]
      · simp [Ty.rd, h1]
    · simp [Ty.rd, h]
def aheadB (p n q m : Int) : Bool := decide (p < q) || (decide (p = q) && decide (n < m))
theorem Ahead_is (k : Nat) (p n q m : Int) : s_l09Ahead k ((p, (n, ())), ((q, (m, ())), ())) = some (aheadB p n q m, ((), ((), ()))) := by
  unfold s_l09Ahead aheadB
  by_cases h : p < q
  · simp [h]
  · by_cases h' : p = q <;> simp [h, h']
theorem comparePrefixes_is (k : Nat) (p n q m : Int) (hk : 3 < k) : ∃ c : Int, i_comparePrefixes k ((p, (n, ())), ((q, (m, ())), ())) = some (c, ((), ((), ()))) ∧ (0 ≤ c ↔ aheadB p n q m = false) := by
  unfold i_comparePrefixes aheadB
  simp only [Compare_is, Or_is k _ _ hk, Option.bind_some]
  refine ⟨_, rfl, ?_⟩
  by_cases h : p < q
  · simp [h]
  · by_cases h' : q < p
    · have : ¬ p = q := by omega
      simp [h, h', this]
    · have : p = q := by omega
      subst this
      by_cases h3 : n < m
      · simp [h3]
      · by_cases h4 : m < n <;> simp [h3, h4]
def gRoute (a : List RT_Route.den) (i : Nat) (_ : Unit) : (Bool × Unit × Unit) ⊕ Unit :=
  let r := Ty.rd (t := RT_Route) a i
  let p := Ty.rd (t := RT_Route) a (wi64 ((i : Int) - 1))
  if decide ((0 ≤ r.1.1 ∧ r.1.1 ≤ 4294967295) ∧ (0 ≤ r.1.2 ∧ r.1.2 ≤ 32) ∧ r.1.1 % 2 ^ (32 - r.1.2.toNat) = 0) && (decide (1 ≤ r.2 ∧ r.2 ≤ 99) && (!decide (0 < (i : Int)) || aheadB p.1.1 p.1.2 r.1.1 r.1.2)) then .inr () else .inl (false, ((), ()))
def routesB (a : List RT_Route.den) : Bool := (foldE (gRoute a) (fun _ => (decide ((a.length : Int) ≤ 12), ((), ()))) a.length 0 ()).1
theorem s_RoutesOk_is (k : Nat) (a : List RT_Route.den) (hk : 1048576 < k) (hl : a.length ≤ 1048576) : s_RoutesOk k (a, ()) = some (routesB a, ((), ())) := by
  unfold s_RoutesOk
  refine (loop_fold (A := Unit) (fun i _ => (a, (((i : Nat) : Int), ()))) a.length (gRoute a) (fun _ => (decide ((a.length : Int) ≤ 12), ((), ()))) (fun _ _ => True) ?_ (fun _ _ _ _ _ _ => trivial) ?_ k () trivial (by omega)).trans rfl
  · intro again i _ hi _
    have w2 : wi64 ((i : Int) + 1) = ((i + 1 : Nat) : Int) := (w64_id _ (by omega)).trans (by omega)
    have w1 : wi64 ((i : Int) - 1) = (i : Int) - 1 := w64_id _ (by omega)
    have g1 : (0 : Int) ≤ (i : Int) ∧ (i : Int) < (a.length : Int) := by omega
    unfold gRoute
    simp only [g1, s_PrefixOk_is k _ _ (by omega : 40 < k), Ahead_is, l01In_is, w2, and_self, decide_true, if_true, Option.bind_some]
    generalize decide ((0 ≤ (Ty.rd (t := RT_Route) a i).1.1 ∧ (Ty.rd (t := RT_Route) a i).1.1 ≤ 4294967295) ∧ (0 ≤ (Ty.rd (t := RT_Route) a i).1.2 ∧ (Ty.rd (t := RT_Route) a i).1.2 ≤ 32) ∧ (Ty.rd (t := RT_Route) a i).1.1 % 2 ^ (32 - (Ty.rd (t := RT_Route) a i).1.2.toNat) = 0) = b1
    generalize decide (1 ≤ (Ty.rd (t := RT_Route) a i).2 ∧ (Ty.rd (t := RT_Route) a i).2 ≤ 99) = b2
    cases b1 with
    | false => simp
    | true =>
      cases b2 with
      | false => simp
      | true =>
        by_cases h2 : 0 < (i : Int)
        · have g3 : (0 : Int) ≤ wi64 ((i : Int) - 1) ∧ wi64 ((i : Int) - 1) < (a.length : Int) := by rw [w1]; omega
          simp only [h2, g3, and_self, decide_true, Bool.not_true, if_true, Bool.true_and, Bool.false_or]
          generalize aheadB _ _ _ _ = b3
          cases b3 <;> simp
        · have : i = 0 := by omega
          subst this
          simp
  · intro again _ _
    simp
theorem isId_is (k : Nat) (a : Int) : i_isId k (a, ()) = some (decide (1 ≤ a ∧ a ≤ 99), ((), ())) := by
  unfold i_isId
  rw [within_is]
  rfl
theorem i_RoutesOk_is (k : Nat) (a : List RT_Route.den) (hk : 1048576 < k) (hl : a.length ≤ 1048576) : i_RoutesOk k (a, ()) = some (routesB a, ((), ())) := by
  unfold i_RoutesOk
  refine (loop_fold (A := Unit) (fun i _ => (a, (a, ((a.length : Int), (((i : Nat) : Int), ()))))) a.length (gRoute a) (fun _ => (decide ((a.length : Int) ≤ 12), ((), ()))) (fun _ _ => True) ?_ (fun _ _ _ _ _ _ => trivial) ?_ k () trivial (by omega)).trans rfl
  · intro again i _ hi _
    have w2 : wi64 ((i : Int) + 1) = ((i + 1 : Nat) : Int) := (w64_id _ (by omega)).trans (by omega)
    have w1 : wi64 ((i : Int) - 1) = (i : Int) - 1 := w64_id _ (by omega)
    have g1 : (0 : Int) ≤ (i : Int) ∧ (i : Int) < (a.length : Int) := by omega
    unfold gRoute
    obtain ⟨c, hc, hc'⟩ := comparePrefixes_is k (Ty.rd (t := RT_Route) a (wi64 ((i : Int) - 1))).1.1 (Ty.rd (t := RT_Route) a (wi64 ((i : Int) - 1))).1.2 (Ty.rd (t := RT_Route) a i).1.1 (Ty.rd (t := RT_Route) a i).1.2 (by omega)
    simp only [g1, i_PrefixOk_is, hc, isId_is, w2, and_self, decide_true, if_true, Option.bind_some]
    generalize decide ((0 ≤ (Ty.rd (t := RT_Route) a i).1.1 ∧ (Ty.rd (t := RT_Route) a i).1.1 ≤ 4294967295) ∧ (0 ≤ (Ty.rd (t := RT_Route) a i).1.2 ∧ (Ty.rd (t := RT_Route) a i).1.2 ≤ 32) ∧ (Ty.rd (t := RT_Route) a i).1.1 % 2 ^ (32 - (Ty.rd (t := RT_Route) a i).1.2.toNat) = 0) = b1
    generalize decide (1 ≤ (Ty.rd (t := RT_Route) a i).2 ∧ (Ty.rd (t := RT_Route) a i).2 ≤ 99) = b2
    generalize aheadB _ _ _ _ = b3 at hc'
    cases b1 with
    | false => simp
    | true =>
      cases b2 with
      | false => simp
      | true =>
        by_cases h2 : 0 < (i : Int)
        · have g3 : (0 : Int) ≤ wi64 ((i : Int) - 1) ∧ wi64 ((i : Int) - 1) < (a.length : Int) := by rw [w1]; omega
          simp only [h2, g3, and_self, decide_true, Bool.not_true, if_true, Bool.true_and, Bool.false_or]
          cases b3 with
          | false => have := hc'.2 rfl; simp [this]
          | true =>
            have : ¬ 0 ≤ c := fun h => by have := hc'.1 h; simp at this
            simp [this]
        · have : i = 0 := by omega
          subst this
          simp
  · intro again _ _
    simp
abbrev PoolA : Type := Int × Int × List (Int × Int × Int) × List (Int × Int) × Unit
abbrev SlotsA : Type := Int × ByteArray × ByteArray × Int × List Int × Int × Int × ByteArray × ByteArray × Int × List Int × Int × Unit
def atB (q : List RT_User.den) (id : Int) : Int := match (List.range q.length).find? (fun j => decide ((Ty.rd (t := RT_User) q (j : Nat)).1 = id)) with | some j => ((j : Nat) : Int) | none => -1
theorem l22At_is (k : Nat) (q : List RT_User.den) (id : Int) (hk : 1048576 < k) (hl : q.length ≤ 1048576) : s_l22At k (q, (id, ())) = some (atB q id, ((), ((), ()))) := by
  unfold s_l22At atB
  refine (loop_find (R := Int × Unit × Unit × Unit) (fun j => (q, (id, (((j : Nat) : Int), ())))) q.length (fun j => decide ((Ty.rd (t := RT_User) q (j : Nat)).1 = id)) (fun j => (((j : Nat) : Int), ((), ((), ())))) (-1, ((), ((), ()))) ?_ ?_ k (by omega)).trans ?_
  · intro ag j hj
    have q1 : (0 : Int) ≤ (j : Int) ∧ (j : Int) < (q.length : Int) := by omega
    have w3 : wi64 ((j : Int) + 1) = ((j + 1 : Nat) : Int) := (w64_id _ (by omega)).trans (by omega)
    simp only [q1, w3, and_self, decide_true, if_true]
  · intro ag
    simp only [Int.lt_irrefl, decide_false, Bool.false_eq_true, if_false]
  · cases (List.range q.length).find? (fun j => decide ((Ty.rd (t := RT_User) q (j : Nat)).1 = id)) <;> rfl
theorem userAt_is (k : Nat) (q : List RT_User.den) (id : Int) (hk : 1048576 < k) (hl : q.length ≤ 1048576) : i_userAt k (q, (id, ())) = some (atB q id, ((), ((), ()))) := by
  unfold i_userAt atB
  have h : x_slices_IndexFunc_impl_User_impl_User_of_i_userAt_1 k (q, (((id, ()), ()), ())) = some ((match (List.range q.length).find? (fun j => decide ((Ty.rd (t := RT_User) q (j : Nat)).1 = id)) with | some j => ((j : Nat) : Int) | none => -1), ((), ((((id, ()), ()), ())))) := by
    unfold x_slices_IndexFunc_impl_User_impl_User_of_i_userAt_1
    refine (loop_find (R := Int × Unit × ((Int × Unit) × Unit) × Unit) (fun j => (q, ((((id, ()), ())), ((q.length : Int), (((j : Nat) : Int), ()))))) q.length (fun j => decide ((Ty.rd (t := RT_User) q (j : Nat)).1 = id)) (fun j => (((j : Nat) : Int), ((), ((((id, ()), ()), ()))))) (-1, ((), ((((id, ()), ()), ())))) ?_ ?_ k (by omega)).trans ?_
    · intro ag j hj
      have q1 : (0 : Int) ≤ (j : Int) ∧ (j : Int) < (q.length : Int) := by omega
      have w3 : wi64 ((j : Int) + 1) = ((j + 1 : Nat) : Int) := (w64_id _ (by omega)).trans (by omega)
      simp only [q1, w3, i_userAt_1, and_self, decide_true, if_true, Option.bind_some]
    · intro ag
      simp only [Int.lt_irrefl, decide_false, Bool.false_eq_true, if_false]
    · cases (List.range q.length).find? (fun j => decide ((Ty.rd (t := RT_User) q (j : Nat)).1 = id)) <;> rfl
  rw [h]
  rfl
theorem getD_some' {A : Type} {l : List A} {n : Nat} {r d : A} (h : l[n]? = some r) : l.getD n d = r := by simp [List.getD, h]
theorem getD_set' {A : Type} {l : List A} {n : Nat} {x d : A} (h : n < l.length) : (l.set n x).getD n d = x := by simp [List.getD, h]
theorem set_set' {A : Type} (l : List A) (n : Nat) (x y : A) : (l.set n x).set n y = l.set n y := by simp
/-- Marks are laid row by row, and found again. -/
theorem loop_MH {A R R' : Type} {step : (List A × Int × Int × Unit → Option R) → List A × Int × Int × Unit → Option R} {hstep : (List A × Int × Int × Unit → Option R') → List A × Int × Int × Unit → Option R'} (fin : List A → Int → R) (hfin : Int → R') (c N : Int) (hc : 0 ≤ c) (P : A → Prop)
    (hs : ∀ (r : A), P r → ∀ n : Int, 0 ≤ n → n + c ≤ N → ∃ (r' : A) (n' : Int), n ≤ n' ∧ n' ≤ n + c ∧ (∀ again (out : List A) (i : Int), 0 ≤ i → i < out.length → i ≤ 1048576 → out[i.toNat]? = some r → step again (out, (n, (i, ()))) = again (out.set i.toNat r', (n', (i + 1, ())))) ∧
      (∀ again (out : List A) (i : Int), 0 ≤ i → i < out.length → i ≤ 1048576 → out[i.toNat]? = some r' → hstep again (out, (n, (i, ()))) = again (out, (n', (i + 1, ())))))
    (he : ∀ again (out : List A) (n i : Int), (out.length : Int) ≤ i → step again (out, (n, (i, ()))) = some (fin out n))
    (hhe : ∀ again (out : List A) (n i : Int), (out.length : Int) ≤ i → hstep again (out, (n, (i, ()))) = some (hfin n))
    (a : List A) (ha : ∀ r ∈ a, P r) (hal : a.length ≤ 1048576) (n : Int) (hn : 0 ≤ n) (C : Int) (hC : C = c * (a.length : Nat)) (hN : n + C ≤ N) (k : Nat) (hk : 1048576 < k) :
    ∃ (a' : List A) (n' : Int), a'.length = a.length ∧ n ≤ n' ∧ n' ≤ n + C ∧ whileK step k (a, (n, (0, ()))) = some (fin a' n') ∧ whileK hstep k (a', (n, (0, ()))) = some (hfin n') := by
  subst hC
  have key : ∀ (s p : List A) (n : Int) (k : Nat), (∀ r ∈ s, P r) → p.length + s.length ≤ 1048576 → 0 ≤ n → n + c * (s.length : Nat) ≤ N → s.length < k →
      ∃ (s' : List A) (n' : Int), s'.length = s.length ∧ n ≤ n' ∧ n' ≤ n + c * (s.length : Nat) ∧ whileK step k (p ++ s, (n, ((p.length : Int), ()))) = some (fin (p ++ s') n') ∧ whileK hstep k (p ++ s', (n, ((p.length : Int), ()))) = some (hfin n') := by
    intro s
    induction s with
    | nil =>
      intro p n k _ _ _ _ hk
      obtain ⟨k, rfl⟩ : ∃ k', k = k' + 1 := ⟨k - 1, by omega⟩
      exact ⟨[], n, rfl, by omega, by simp, he _ _ _ _ (by simp), hhe _ _ _ _ (by simp)⟩
    | cons r s ih =>
      intro p n k hP hl hn hN hk
      obtain ⟨k, rfl⟩ : ∃ k', k = k' + 1 := ⟨k - 1, by omega⟩
      simp only [List.length_cons] at hl hN hk
      have e : c * ((s.length + 1 : Nat) : Int) = c * (s.length : Nat) + c := by rw [Int.natCast_add, Int.mul_add]; simp
      have hpos : 0 ≤ c * ((s.length : Nat) : Int) := Int.mul_nonneg hc (by omega)
      rw [e] at hN
      obtain ⟨r', n1, h1, h2, h3, h4⟩ := hs r (hP r (by simp)) n hn (by omega)
      obtain ⟨s', n', g1, g2, g3, g4, g5⟩ := ih (p ++ [r']) n1 k (fun x hx => hP x (List.mem_cons_of_mem _ hx)) (by simp; omega) (by omega) (by omega) (by omega)
      have ep : ((p ++ [r']).length : Int) = (p.length : Int) + 1 := by simp
      rw [ep, List.append_assoc, List.append_assoc] at g4
      rw [ep, List.append_assoc] at g5
      refine ⟨r' :: s', n', by simp [g1], by omega, by simp only [List.length_cons]; rw [e]; omega, ?_, ?_⟩
      · show step (whileK step k) _ = _
        rw [h3 _ _ _ (by omega) (by simp; omega) (by omega) (by simp)]
        have : (p ++ r :: s).set ((p.length : Int)).toNat r' = p ++ ([r'] ++ s) := by simp
        rw [this]
        exact g4
      · show hstep (whileK hstep k) _ = _
        rw [h4 _ _ _ (by omega) (by simp; omega) (by omega) (by simp)]
        exact g5
  have := key a [] n k ha (by simpa using hal) hn hN (by omega)
  simpa using this
theorem MH_BoolS (k : Nat) (a : List Bool) (n : Int) (hn : 0 ≤ n) (hN : n + a.length ≤ 4611686018427387904) (hk : 1048576 < k) (hl : a.length ≤ 1048576) :
    ∃ (a' : List Bool) (n' : Int), a'.length = a.length ∧ n ≤ n' ∧ n' ≤ n + a.length ∧ w_markBoolS k (a, (n, ())) = some (n', (a', ((), ()))) ∧ w_heldBoolS k (a', (n, ())) = some (n', ((), ((), ()))) := by
  unfold w_markBoolS w_heldBoolS
  refine loop_MH (A := Bool) (fun out n => (n, (out, ((), ())))) (fun n => (n, ((), ((), ())))) 1 4611686018427387904 (by decide) (fun _ => True) ?_ ?_ ?_ a (fun _ _ => trivial) hl n hn (a.length : Int) (by omega) (by omega) k hk
  · intro r _ n hn hN
    refine ⟨decide (Int.tmod n 3 = 0), n + 1, by omega, by omega, fun again out i h0 h1 h2 hr => ?_, fun again out i h0 h1 h2 hr => ?_⟩
    · have w : wi64 (n + 1) = n + 1 := w64_id _ (by omega)
      have w' : wi64 (i + 1) = i + 1 := w64_id _ (by omega)
      simp only [h0, h1, w, w', decide_true, and_self, if_true]
    · have w : wi64 (n + 1) = n + 1 := w64_id _ (by omega)
      have w' : wi64 (i + 1) = i + 1 := w64_id _ (by omega)
      simp only [Ty.rd, getD_some' hr, h0, h1, w, w', decide_true, and_self, if_true, Bool.not_true, Bool.false_eq_true, if_false]
  · intro again out n i hi
    have : ¬ i < (out.length : Int) := by omega
    simp [this]
  · intro again out n i hi
    have : ¬ i < (out.length : Int) := by omega
    simp [this]
theorem MH_IntS (k : Nat) (a : List Int) (n : Int) (hn : 0 ≤ n) (hN : n + a.length ≤ 4611686018427387904) (hk : 1048576 < k) (hl : a.length ≤ 1048576) :
    ∃ (a' : List Int) (n' : Int), a'.length = a.length ∧ n ≤ n' ∧ n' ≤ n + a.length ∧ w_markIntS k (a, (n, ())) = some (n', (a', ((), ()))) ∧ w_heldIntS k (a', (n, ())) = some (n', ((), ((), ()))) := by
  unfold w_markIntS w_heldIntS
  refine loop_MH (A := Int) (fun out n => (n, (out, ((), ())))) (fun n => (n, ((), ((), ())))) 1 4611686018427387904 (by decide) (fun _ => True) ?_ ?_ ?_ a (fun _ _ => trivial) hl n hn (a.length : Int) (by omega) (by omega) k hk
  · intro r _ n hn hN
    refine ⟨n, n + 1, by omega, by omega, fun again out i h0 h1 h2 hr => ?_, fun again out i h0 h1 h2 hr => ?_⟩
    · have w : wi64 (n + 1) = n + 1 := w64_id _ (by omega)
      have w' : wi64 (i + 1) = i + 1 := w64_id _ (by omega)
      simp only [h0, h1, w, w', decide_true, and_self, if_true]
    · have w : wi64 (n + 1) = n + 1 := w64_id _ (by omega)
      have w' : wi64 (i + 1) = i + 1 := w64_id _ (by omega)
      simp only [Ty.rd, getD_some' hr, h0, h1, w, w', decide_true, and_self, if_true, Bool.not_true, Bool.false_eq_true, if_false]
  · intro again out n i hi
    have : ¬ i < (out.length : Int) := by omega
    simp [this]
  · intro again out n i hi
    have : ¬ i < (out.length : Int) := by omega
    simp [this]
theorem markText_ends (k : Nat) (n : Int) (hn : n < 4611686018427387904) (hk : n < k) : ∃ r, w_markText k (n, ()) = some (r, ((), ())) := by
  unfold w_markText
  by_cases h0 : n ≤ 0
  · simp only [h0, decide_true, if_true]
    exact ⟨_, rfl⟩
  · simp only [h0, decide_false]
    have hm : maxStr = 9223372036854775807 := rfl
    have h1 : (⟨#[109]⟩ : ByteArray).size = 1 := rfl
    refine (whileK_some (g := fun t : ByteArray => (t, ((), ()))) (fun y : Int × ByteArray × Unit => y.1.toNat) (fun y : Int × ByteArray × Unit => 0 ≤ y.1 ∧ y.1 + (y.2.1.size : Int) < 4611686018427387905) (fun _ _ => True) ?_ k (n, ((⟨#[]⟩ : ByteArray), ())) ⟨by simp only; omega, by simp only; have : (⟨#[]⟩ : ByteArray).size = 0 := rfl; omega⟩ (by simp only; omega)).imp fun t h => h.1
    · rintro ⟨a, s, u⟩ ⟨g1, g2⟩ again hg
      simp only at g1 g2
      have hsz : ∀ c : Int, (strOf [c]).size = 1 := fun c => by simp [strOf, ByteArray.size]
      by_cases ha : 0 < a
      · have hq : Int.tdiv a 10 = a / 10 := Int.tdiv_eq_ediv_of_nonneg g1
        have hw : wi64 (a / 10) = a / 10 := w64_id _ (by omega)
        simp only [ha, decide_true, if_true, hsz, hq, hw]
        rw [if_pos (by omega)]
        exact hg _ ⟨by simp only; omega, by simp only [ByteArray.size_append, hsz]; omega⟩ (by simp only; omega)
      · simp only [ha, decide_false]
        have : ((⟨#[109]⟩ : ByteArray).size + s.size ≤ maxStr) := by omega
        simp only [this, if_true]
        exact ⟨_, rfl, trivial⟩
theorem MH_StringS (k : Nat) (a : List ByteArray) (n : Int) (hn : 0 ≤ n) (hN : n + a.length < 4611686018427387904) (hk : 4611686018427387904 < k) (hl : a.length ≤ 1048576) :
    ∃ (a' : List ByteArray) (n' : Int), a'.length = a.length ∧ n ≤ n' ∧ n' ≤ n + a.length ∧ w_markStringS k (a, (n, ())) = some (n', (a', ((), ()))) ∧ w_heldStringS k (a', (n, ())) = some (n', ((), ((), ()))) := by
  unfold w_markStringS w_heldStringS
  refine loop_MH (A := ByteArray) (fun out n => (n, (out, ((), ())))) (fun n => (n, ((), ((), ())))) 1 4611686018427387904 (by decide) (fun _ => True) ?_ ?_ ?_ a (fun _ _ => trivial) hl n hn (a.length : Int) (by omega) (by omega) k (by omega)
  · intro r _ n hn hN
    obtain ⟨tx, ht⟩ := markText_ends k n (by omega) (by omega)
    refine ⟨tx, n + 1, by omega, by omega, fun again out i h0 h1 h2 hr => ?_, fun again out i h0 h1 h2 hr => ?_⟩
    · have w : wi64 (n + 1) = n + 1 := w64_id _ (by omega)
      have w' : wi64 (i + 1) = i + 1 := w64_id _ (by omega)
      simp only [ht, Option.bind_some, h0, h1, w, w', decide_true, and_self, if_true]
    · have w : wi64 (n + 1) = n + 1 := w64_id _ (by omega)
      have w' : wi64 (i + 1) = i + 1 := w64_id _ (by omega)
      simp only [ht, Option.bind_some, Ty.rd, getD_some' hr, h0, h1, w, w', decide_true, and_self, if_true, Bool.not_true, Bool.false_eq_true, if_false]
  · intro again out n i hi
    have : ¬ i < (out.length : Int) := by omega
    simp [this]
  · intro again out n i hi
    have : ¬ i < (out.length : Int) := by omega
    simp [this]
theorem MH_HeldS (k : Nat) (a : List (Int × Int × Int × List (ByteArray) × List (Bool) × Int)) (n : Int) (hn : 0 ≤ n) (C : Int) (hC : C = 2097160 * (a.length : Nat)) (hN : n + C < 4611686018427387904) (hk : 4611686018427387904 < k) (hb : Bd_HeldS a) :
    ∃ (a' : List (Int × Int × Int × List (ByteArray) × List (Bool) × Int)) (n' : Int), a'.length = a.length ∧ n ≤ n' ∧ n' ≤ n + C ∧ w_markHeldS k (a, (n, ())) = some (n', (a', ((), ()))) ∧ w_heldHeldS k (a', (n, ())) = some (n', ((), ((), ()))) := by
  unfold w_markHeldS w_heldHeldS
  refine loop_MH (A := Int × Int × Int × List (ByteArray) × List (Bool) × Int) (fun out n => (n, (out, ((), ())))) (fun n => (n, ((), ((), ())))) 2097160 4611686018427387903 (by decide) (fun r => r.2.2.2.1.length ≤ 1048576 ∧ r.2.2.2.2.1.length ≤ 1048576) ?_ ?_ ?_ a (fun r hr => ⟨(hb.2 r hr).1, (hb.2 r hr).2.1⟩) hb.1 n hn C hC (by omega) k (by omega)
  · rintro ⟨r1, r2, r3, ps, hv, r6⟩ ⟨p1, p2⟩ n hn hN
    simp only at p1 p2
    have w1 : wi64 (n + 1) = n + 1 := w64_id _ (by omega)
    have w2 : wi64 (n + 1 + 1) = n + 1 + 1 := w64_id _ (by omega)
    have w3 : wi64 (n + 1 + 1 + 1) = n + 1 + 1 + 1 := w64_id _ (by omega)
    obtain ⟨ps', n1, a1, a2, a3, a4, a5⟩ := MH_StringS k ps (n + 1 + 1 + 1) (by omega) (by omega) hk p1
    obtain ⟨hv', n2, b1, b2, b3, b4, b5⟩ := MH_BoolS k hv n1 (by omega) (by omega) (by omega) p2
    have w4 : wi64 (n2 + 1) = n2 + 1 := w64_id _ (by omega)
    have c1 : ¬ n1 < 0 := by omega
    have c2 : ¬ n2 < 0 := by omega
    refine ⟨(n, n + 1, n + 1 + 1, ps', hv', n2), n2 + 1, by omega, by omega, fun again out i h0 h1 h2 hr => ?_, fun again out i h0 h1 h2 hr => ?_⟩
    · have w' : wi64 (i + 1) = i + 1 := w64_id _ (by omega)
      have hlt : i.toNat < out.length := by omega
      simp only [jn, Ty.rd, getD_some' hr, getD_set' (show i.toNat < _ by simpa using hlt), List.length_set, set_set', h0, h1, hlt, w1, w2, w3, w4, w', a4, b4, Option.bind_some, decide_true, and_self, if_true, getD_set']
    · have w' : wi64 (i + 1) = i + 1 := w64_id _ (by omega)
      simp only [Ty.rd, getD_some' hr, h0, h1, w1, w2, w3, w4, w', a5, b5, c1, c2, Option.bind_some, decide_true, decide_false, and_self, if_true, Bool.not_true, Bool.false_eq_true, if_false]
  · intro again out n i hi
    have : ¬ i < (out.length : Int) := by omega
    simp [this]
  · intro again out n i hi
    have : ¬ i < (out.length : Int) := by omega
    simp [this]
theorem copy_list (a : List Int) (hl : a.length ≤ 1048576) : ([] : List Int).length + a.length ≤ capMax := by
  have : capMax = 274877906944 := rfl
  simp; omega
theorem s_l17Copy_is (k : Nat) (x : SlotsA) (h1 : x.2.2.2.2.1.length ≤ 1048576) (h2 : x.2.2.2.2.2.2.2.2.2.2.1.length ≤ 1048576) : s_l17Copy k (x, ()) = some (x, ((), ())) := by
  unfold s_l17Copy s_l17CopySlot
  simp only [copy_list _ h1, copy_list _ h2, if_true, Option.bind_some, List.nil_append]
theorem i_copySlots_is (k : Nat) (x : SlotsA) (h1 : x.2.2.2.2.1.length ≤ 1048576) (h2 : x.2.2.2.2.2.2.2.2.2.2.1.length ≤ 1048576) : i_copySlots k (x, ()) = some (x, ((), ())) := by
  unfold i_copySlots i_copyInts
  simp only [copy_list _ h1, copy_list _ h2, if_true, Option.bind_some, List.nil_append]
/-- The slots' lists are short. -/
def Short (x : SlotsA) : Prop := x.2.2.2.2.1.length ≤ 1048576 ∧ x.2.2.2.2.2.2.2.2.2.2.1.length ≤ 1048576
theorem short_bd {x : SlotsA} (h : Bd_Slots x) : Short x := ⟨h.2.2.1, h.2.2.2.2.2.1⟩
theorem loop_app {X R A : Type} {step : (X → Option R) → X → Option R} (a : List A) (st : Nat → List A → X) (r : R)
    (hs : ∀ again i out x, out.length = i → i < a.length → a[i]? = some x → step again (st i out) = again (st (i + 1) (out ++ [x])))
    (he : ∀ again, step again (st a.length a) = some r) : ∀ k, a.length < k → whileK step k (st 0 []) = some r := by
  have key : ∀ (s p : List A) k, p ++ s = a → s.length < k → whileK step k (st p.length p) = some r := by
    intro s
    induction s with
    | nil =>
      intro p k h hk
      obtain ⟨k, rfl⟩ : ∃ k', k = k' + 1 := ⟨k - 1, by omega⟩
      have : p = a := by simpa using h
      subst this
      exact he _
    | cons x s ih =>
      intro p k h hk
      obtain ⟨k, rfl⟩ : ∃ k', k = k' + 1 := ⟨k - 1, by omega⟩
      show step _ _ = _
      subst h
      rw [hs _ _ _ x rfl (by simp) (by simp)]
      have := ih (p ++ [x]) k (by simp) (by simpa using hk)
      simpa using this
  intro k hk
  exact key a [] k (by simp) hk
theorem held_lens {a : List (Int × Int × Int × List (ByteArray) × List (Bool) × Int)} (hb : Bd_HeldS a) {i : Nat} {x : Int × Int × Int × List (ByteArray) × List (Bool) × Int} (h : a[i]? = some x) : x.2.2.2.1.length ≤ 1048576 ∧ x.2.2.2.2.1.length ≤ 1048576 := by
  have := hb.2 x (List.mem_of_getElem? h)
  exact ⟨this.1, this.2.1⟩
theorem s_l20Copy_is (k : Nat) (a : List (Int × Int × Int × List (ByteArray) × List (Bool) × Int)) (hk : 1048576 < k) (hb : Bd_HeldS a) : s_l20Copy k ((a, ()), ()) = some ((a, ()), ((), ())) := by
  unfold s_l20Copy
  have hl : a.length ≤ 1048576 := hb.1
  have hcap : capMax = 274877906944 := rfl
  refine loop_app (A := Int × Int × Int × List (ByteArray) × List (Bool) × Int) a (fun i out => ((a, ()), (([], ()), ((out, ()), ((i : Int), ()))))) ((a, ()), ((), ())) ?_ ?_ k (by omega)
  · intro again i out x ho hi hx
    obtain ⟨h1, h2⟩ := held_lens hb hx
    have w : wi64 ((i : Int) + 1) = ((i + 1 : Nat) : Int) := by rw [show wi64 ((i : Int) + 1) = (i : Int) + 1 from w64_id _ (by omega)]; omega
    have p1 : (i : Int) < (a.length : Int) := by omega
    have p2 : 0 ≤ (i : Int) := by omega
    have c1 : 0 + x.2.2.2.1.length ≤ capMax := by omega
    have c2 : 0 + x.2.2.2.2.1.length ≤ capMax := by omega
    have c3 : out.length + 1 ≤ capMax := by omega
    obtain ⟨x1, x2, x3, x4, x5, x6⟩ := x
    simp only at c1 c2
    simp only [Ty.rd, Int.toNat_natCast, getD_some' hx, p1, p2, w, c1, c2, c3, List.length_nil, List.length_cons, decide_true, and_self, if_true, List.nil_append, Nat.zero_add]
    rw [if_pos (by omega), if_pos (by omega)]
  · intro again
    have : ¬ (a.length : Int) < (a.length : Int) := by omega
    simp [this]
theorem i_copyShelf_is (k : Nat) (a : List (Int × Int × Int × List (ByteArray) × List (Bool) × Int)) (hk : 1048576 < k) (hb : Bd_HeldS a) : i_copyShelf k ((a, ()), ()) = some ((a, ()), ((), ())) := by
  unfold i_copyShelf
  have hl : a.length ≤ 1048576 := hb.1
  have hcap : capMax = 274877906944 := rfl
  refine loop_app (A := Int × Int × Int × List (ByteArray) × List (Bool) × Int) a (fun i out => (([], ()), ((out, ()), (a, ((a.length : Int), ((i : Int), ())))))) ((a, ()), ((), ())) ?_ ?_ k (by omega)
  · intro again i out x ho hi hx
    obtain ⟨h1, h2⟩ := held_lens hb hx
    have w : wi64 ((i : Int) + 1) = ((i + 1 : Nat) : Int) := by rw [show wi64 ((i : Int) + 1) = (i : Int) + 1 from w64_id _ (by omega)]; omega
    have p1 : (i : Int) < (a.length : Int) := by omega
    have p2 : 0 ≤ (i : Int) := by omega
    have c3 : out.length + 1 ≤ capMax := by omega
    obtain ⟨x1, x2, x3, x4, x5, x6⟩ := x
    simp only at h1 h2
    have e : i_copyTexts k (x4, ()) = some (x4, ((), ())) := by
      unfold i_copyTexts
      rw [if_pos (by simp; omega)]
      simp
    simp only [Ty.rd, Int.toNat_natCast, getD_some' hx, p1, p2, w, c3, e, Option.bind_some, List.length_nil, List.length_cons, decide_true, and_self, if_true, List.nil_append, Nat.zero_add]
    rw [if_pos (by omega)]
  · intro again
    have : ¬ (a.length : Int) < (a.length : Int) := by omega
    simp [this]
abbrev UserA := Int × Int × Int × ByteArray × ByteArray × Int × List (Int) × Int × Int × ByteArray × ByteArray × Int × List (Int) × Int × (List (Int × Int × Int × List (ByteArray) × List (Bool) × Int)) × Int × Unit
theorem bd_userSlots {a0 a1 a2 : Int} {a3 a4 : ByteArray} {a5 : Int} {a6 : List Int} {a7 a8 : Int} {a9 a10 : ByteArray} {a11 : Int} {a12 : List Int} {a13 : Int} {a14 : List (Int × Int × Int × List (ByteArray) × List (Bool) × Int)} {a15 : Int} (hb : Bd_User (a0, (a1, (a2, (a3, (a4, (a5, (a6, (a7, (a8, (a9, (a10, (a11, (a12, (a13, (a14, (a15, ()))))))))))))))))) :
    Bd_Slots (a2, (a3, (a4, (a5, (a6, (a7, (a8, (a9, (a10, (a11, (a12, (a13, ())))))))))))) ∧ Bd_HeldS a14 := by
  unfold Bd_User at hb
  obtain ⟨b3, b4, b6, b9, b10, b12, b14, b⟩ := hb
  exact ⟨⟨b3, b4, b6, b9, b10, b12, trivial⟩, b14⟩
theorem s_l22CopyUser_is (k : Nat) (x : UserA) (hk : 1048576 < k) (hb : Bd_User x) : s_l22CopyUser k (x, ()) = some (x, ((), ())) := by
  obtain ⟨a0, a1, a2, a3, a4, a5, a6, a7, a8, a9, a10, a11, a12, a13, a14, a15, ⟨⟩⟩ := x
  obtain ⟨h1, h2⟩ := bd_userSlots hb
  have e1 := s_l17Copy_is k (a2, (a3, (a4, (a5, (a6, (a7, (a8, (a9, (a10, (a11, (a12, (a13, ())))))))))))) (short_bd h1).1 (short_bd h1).2
  have e2 := s_l20Copy_is k a14 hk h2
  unfold s_l22CopyUser
  simp only [e1, e2, Option.bind_some]
theorem i_copyUser_is (k : Nat) (x : UserA) (hk : 1048576 < k) (hb : Bd_User x) : i_copyUser k (x, ()) = some (x, ((), ())) := by
  obtain ⟨a0, a1, a2, a3, a4, a5, a6, a7, a8, a9, a10, a11, a12, a13, a14, a15, ⟨⟩⟩ := x
  obtain ⟨h1, h2⟩ := bd_userSlots hb
  have e1 := i_copySlots_is k (a2, (a3, (a4, (a5, (a6, (a7, (a8, (a9, (a10, (a11, (a12, (a13, ())))))))))))) (short_bd h1).1 (short_bd h1).2
  have e2 := i_copyShelf_is k a14 hk h2
  unfold i_copyUser
  simp only [e1, e2, Option.bind_some]
theorem del_run {A R C : Type} {step : (List A × C × Int × Int × Unit → Option R) → List A × C × Int × Int × Unit → Option R} (D : A → Bool) (c : C) (fin : List A → R)
    (hs : ∀ again (p gs r : List A) (g v : A), p.length + gs.length + r.length ≤ 1048576 → step again (p ++ g :: (gs ++ v :: r), (c, ((p.length : Int), (((p.length + gs.length + 1 : Nat) : Int), ())))) =
      if D v = true then again (p ++ g :: (gs ++ v :: r), (c, ((p.length : Int), (((p.length + gs.length + 2 : Nat) : Int), ())))) else again (p ++ v :: (gs ++ v :: r), (c, (((p.length + 1 : Nat) : Int), (((p.length + gs.length + 2 : Nat) : Int), ())))))
    (he : ∀ again (q t : List A), step again (q ++ t, (c, ((q.length : Int), ((((q ++ t).length : Nat) : Int), ())))) = some (fin q)) :
    ∀ (r p gs : List A) (g : A) (k : Nat), p.length + gs.length + r.length ≤ 1048576 → r.length < k → whileK step k (p ++ g :: (gs ++ r), (c, ((p.length : Int), (((p.length + gs.length + 1 : Nat) : Int), ())))) = some (fin (p ++ r.filter (fun v => !D v))) := by
  intro r
  induction r with
  | nil =>
    intro p gs g k hb hk
    obtain ⟨k, rfl⟩ : ∃ k', k = k' + 1 := ⟨k - 1, by omega⟩
    have e1 : ((p.length + gs.length + 1 : Nat) : Int) = (((p ++ (g :: (gs ++ []))).length : Nat) : Int) := by simp; omega
    have := he (whileK step k) p (g :: (gs ++ []))
    show step _ _ = _
    rw [e1]
    simpa using this
  | cons v r ih =>
    intro p gs g k hb hk
    obtain ⟨k, rfl⟩ : ∃ k', k = k' + 1 := ⟨k - 1, by omega⟩
    simp only [List.length_cons] at hb hk
    by_cases d : D v = true
    · have ht := ih p (gs ++ [v]) g k (by simp; omega) (by omega)
      show step _ _ = _
      rw [hs _ p gs r g v (by omega), if_pos d, List.filter_cons_of_neg (by simp [d]), ← ht]
      simp
      rfl
    · have ht : whileK step k (p ++ v :: (gs ++ v :: r), (c, (((p.length + 1 : Nat) : Int), (((p.length + gs.length + 2 : Nat) : Int), ())))) = some (fin (p ++ (v :: r).filter (fun v => !D v))) := by
        cases gs with
        | nil =>
          have ht := ih (p ++ [v]) [] v k (by simp; omega) (by omega)
          rw [List.filter_cons_of_pos (by simp [d])]
          have e1 : ((p ++ [v]).length : Int) = ((p.length + 1 : Nat) : Int) := by simp
          have e2 : (((p ++ [v]).length + ([] : List A).length + 1 : Nat) : Int) = ((p.length + ([] : List A).length + 2 : Nat) : Int) := by simp; omega
          rw [e1, e2] at ht
          simpa using ht
        | cons g' gs' =>
          have ht := ih (p ++ [v]) (gs' ++ [v]) g' k (by simp at hb ⊢; omega) (by omega)
          rw [List.filter_cons_of_pos (by simp [d])]
          have e1 : ((p ++ [v]).length : Int) = ((p.length + 1 : Nat) : Int) := by simp
          have e2 : (((p ++ [v]).length + (gs' ++ [v]).length + 1 : Nat) : Int) = ((p.length + (g' :: gs').length + 2 : Nat) : Int) := by simp; omega
          rw [e1, e2] at ht
          simpa using ht
      show step _ _ = _
      rw [hs _ p gs r g v (by omega), if_neg d]
      exact ht
/-- What is found first, and the rest that stays. -/
theorem first_split {A : Type} (d : A) (D : A → Bool) (L : List A) : (match (List.range L.length).find? (fun i => D (L.getD i d)) with
    | none => L.filter (fun x => !D x) = L
    | some i => ∃ p g r, L = p ++ g :: r ∧ p.length = i ∧ L.filter (fun x => !D x) = p ++ r.filter (fun x => !D x)) := by
  cases hq : (List.range L.length).find? (fun i => D (L.getD i d)) with
  | none =>
    rw [List.find?_eq_none] at hq
    rw [List.filter_eq_self]
    intro x hx
    obtain ⟨i, hi, rfl⟩ := List.mem_iff_getElem.1 hx
    have := hq i (by simpa using hi)
    simp only [List.getD, List.getElem?_eq_getElem hi, Option.getD_some] at this
    simpa using this
  | some i =>
    have hi : i < L.length := by
      have := List.mem_of_find?_eq_some hq
      simpa using this
    have h1 := List.find?_some hq
    have h2 := (find_at hi h1).1 hq
    simp only [List.getD, List.getElem?_eq_getElem hi, Option.getD_some] at h1
    refine ⟨L.take i, L[i], L.drop (i + 1), ?_, by simp; omega, ?_⟩
    · rw [← List.drop_eq_getElem_cons hi, List.take_append_drop]
    · have hsplit : L = L.take i ++ L[i] :: L.drop (i + 1) := by rw [← List.drop_eq_getElem_cons hi, List.take_append_drop]
      conv => lhs; rw [hsplit]
      rw [List.filter_append, List.filter_cons_of_neg (by simp [h1])]
      congr 1
      rw [List.filter_eq_self]
      intro x hx
      obtain ⟨j, hj, rfl⟩ := List.mem_iff_getElem.1 hx
      have hj' : j < i := by simp at hj; omega
      have := h2 j hj'
      simp only [List.getD, List.getElem?_eq_getElem (show j < L.length by omega), Option.getD_some] at this
      rw [List.getElem_take]
      simp [this]
theorem MH_LeaseS (k : Nat) (a : List (Int × Int × Int)) (n : Int) (hn : 0 ≤ n) (hl : a.length ≤ 1048576) (C : Int) (hC : C = 3 * (a.length : Nat)) (hN : n + C ≤ 100000000000) (hk : 1048576 < k) :
    ∃ (a' : List (Int × Int × Int)) (n' : Int), a'.length = a.length ∧ n ≤ n' ∧ n' ≤ n + C ∧ w_markLeaseS k (a, (n, ())) = some (n', (a', ((), ()))) ∧ w_heldLeaseS k (a', (n, ())) = some (n', ((), ((), ()))) := by
  unfold w_markLeaseS w_heldLeaseS
  refine loop_MH (A := Int × Int × Int) (fun out n => (n, (out, ((), ())))) (fun n => (n, ((), ((), ())))) 3 100000000000 (by decide) (fun _ => True) ?_ ?_ ?_ a (fun _ _ => trivial) hl n hn C hC hN k hk
  · rintro ⟨r1, r2, r3⟩ _ n hn hN
    have w1 : wi64 (n + 1) = n + 1 := w64_id _ (by omega)
    have w2 : wi64 (n + 1 + 1) = n + 1 + 1 := w64_id _ (by omega)
    have w3 : wi64 (n + 1 + 1 + 1) = n + 1 + 1 + 1 := w64_id _ (by omega)
    refine ⟨(n, n + 1, n + 1 + 1), n + 1 + 1 + 1, by omega, by omega, fun again out i h0 h1 h2 hr => ?_, fun again out i h0 h1 h2 hr => ?_⟩
    · have w' : wi64 (i + 1) = i + 1 := w64_id _ (by omega)
      have hlt : i.toNat < out.length := by omega
      simp only [jn, Ty.rd, getD_some' hr, getD_set' (show i.toNat < _ by simpa using hlt), List.length_set, set_set', h0, h1, hlt, w1, w2, w3, w', Option.bind_some, decide_true, and_self, if_true, getD_set']
    · have w' : wi64 (i + 1) = i + 1 := w64_id _ (by omega)
      simp only [Ty.rd, getD_some' hr, h0, h1, w1, w2, w3, w', Option.bind_some, decide_true, decide_false, and_self, if_true, Bool.not_true, Bool.false_eq_true, if_false]
  · intro again out n i hi
    have : ¬ i < (out.length : Int) := by omega
    simp [this]
  · intro again out n i hi
    have : ¬ i < (out.length : Int) := by omega
    simp [this]
theorem MH_FixedS (k : Nat) (a : List (Int × Int)) (n : Int) (hn : 0 ≤ n) (hl : a.length ≤ 1048576) (C : Int) (hC : C = 3 * (a.length : Nat)) (hN : n + C ≤ 100000000000) (hk : 1048576 < k) :
    ∃ (a' : List (Int × Int)) (n' : Int), a'.length = a.length ∧ n ≤ n' ∧ n' ≤ n + C ∧ w_markFixedS k (a, (n, ())) = some (n', (a', ((), ()))) ∧ w_heldFixedS k (a', (n, ())) = some (n', ((), ((), ()))) := by
  unfold w_markFixedS w_heldFixedS
  refine loop_MH (A := Int × Int) (fun out n => (n, (out, ((), ())))) (fun n => (n, ((), ((), ())))) 3 100000000000 (by decide) (fun _ => True) ?_ ?_ ?_ a (fun _ _ => trivial) hl n hn C hC hN k hk
  · rintro ⟨r1, r2⟩ _ n hn hN
    have w1 : wi64 (n + 1) = n + 1 := w64_id _ (by omega)
    have w2 : wi64 (n + 1 + 1) = n + 1 + 1 := w64_id _ (by omega)
    refine ⟨(n, n + 1), n + 1 + 1, by omega, by omega, fun again out i h0 h1 h2 hr => ?_, fun again out i h0 h1 h2 hr => ?_⟩
    · have w' : wi64 (i + 1) = i + 1 := w64_id _ (by omega)
      have hlt : i.toNat < out.length := by omega
      simp only [jn, Ty.rd, getD_some' hr, getD_set' (show i.toNat < _ by simpa using hlt), List.length_set, set_set', h0, h1, hlt, w1, w2, w', Option.bind_some, decide_true, and_self, if_true, getD_set']
    · have w' : wi64 (i + 1) = i + 1 := w64_id _ (by omega)
      simp only [Ty.rd, getD_some' hr, h0, h1, w1, w2, w', Option.bind_some, decide_true, decide_false, and_self, if_true, Bool.not_true, Bool.false_eq_true, if_false]
  · intro again out n i hi
    have : ¬ i < (out.length : Int) := by omega
    simp [this]
  · intro again out n i hi
    have : ¬ i < (out.length : Int) := by omega
    simp [this]
theorem MH_RouteS (k : Nat) (a : List ((Int × Int) × Int)) (n : Int) (hn : 0 ≤ n) (hl : a.length ≤ 1048576) (C : Int) (hC : C = 3 * (a.length : Nat)) (hN : n + C ≤ 100000000000) (hk : 1048576 < k) :
    ∃ (a' : List ((Int × Int) × Int)) (n' : Int), a'.length = a.length ∧ n ≤ n' ∧ n' ≤ n + C ∧ w_markRouteS k (a, (n, ())) = some (n', (a', ((), ()))) ∧ w_heldRouteS k (a', (n, ())) = some (n', ((), ((), ()))) := by
  unfold w_markRouteS w_heldRouteS
  refine loop_MH (A := (Int × Int) × Int) (fun out n => (n, (out, ((), ())))) (fun n => (n, ((), ((), ())))) 3 100000000000 (by decide) (fun _ => True) ?_ ?_ ?_ a (fun _ _ => trivial) hl n hn C hC hN k hk
  · rintro ⟨⟨r1, r2⟩, r3⟩ _ n hn hN
    have w1 : wi64 (n + 1) = n + 1 := w64_id _ (by omega)
    have w2 : wi64 (n + 1 + 1) = n + 1 + 1 := w64_id _ (by omega)
    have w3 : wi64 (n + 1 + 1 + 1) = n + 1 + 1 + 1 := w64_id _ (by omega)
    refine ⟨((n, n + 1), n + 1 + 1), n + 1 + 1 + 1, by omega, by omega, fun again out i h0 h1 h2 hr => ?_, fun again out i h0 h1 h2 hr => ?_⟩
    · have w' : wi64 (i + 1) = i + 1 := w64_id _ (by omega)
      have hlt : i.toNat < out.length := by omega
      simp only [jn, Ty.rd, getD_some' hr, getD_set' (show i.toNat < _ by simpa using hlt), List.length_set, set_set', h0, h1, hlt, w1, w2, w3, w', Option.bind_some, decide_true, and_self, if_true, getD_set']
    · have w' : wi64 (i + 1) = i + 1 := w64_id _ (by omega)
      simp only [Ty.rd, getD_some' hr, h0, h1, w1, w2, w3, w', Option.bind_some, decide_true, decide_false, and_self, if_true, Bool.not_true, Bool.false_eq_true, if_false]
  · intro again out n i hi
    have : ¬ i < (out.length : Int) := by omega
    simp [this]
  · intro again out n i hi
    have : ¬ i < (out.length : Int) := by omega
    simp [this]
theorem MH_UserS (k : Nat) (a : List RT_User.den) (n : Int) (hn : 0 ≤ n) (C : Int) (hC : C = 2200000000000 * (a.length : Nat)) (hN : n + C ≤ 4611686018427387903) (hk : 4611686018427387904 < k) (hb : Bd_UserS a) :
    ∃ (a' : List RT_User.den) (n' : Int), a'.length = a.length ∧ n ≤ n' ∧ n' ≤ n + C ∧ w_markUserS k (a, (n, ())) = some (n', (a', ((), ()))) ∧ w_heldUserS k (a', (n, ())) = some (n', ((), ((), ()))) := by
  unfold w_markUserS w_heldUserS
  have hl := hb.1
  refine loop_MH (A := RT_User.den) (fun out n => (n, (out, ((), ())))) (fun n => (n, ((), ((), ())))) 2200000000000 4611686018427387903 (by decide) (fun r => Bd_User (ag_User r)) ?_ ?_ ?_ a hb.2 hl n hn C hC hN k (by omega)
  · rintro ⟨r1, r2, ⟨⟨r3, r4, r5, r6, r7, r8⟩, r9, r10, r11, r12, r13, r14⟩, r15, r16⟩ hp n hn hN
    obtain ⟨_, _, p1, _, _, p2, p3, _⟩ := hp
    have p1 : r7.length ≤ 1048576 := p1
    have p2 : r13.length ≤ 1048576 := p2
    have p3 : Bd_HeldS r15 := p3
    have p4 := p3.1
    have w1 : wi64 (n + 1) = n + 1 := w64_id _ (by omega)
    have w2 : wi64 (n + 1 + 1) = n + 1 + 1 := w64_id _ (by omega)
    have w3 : wi64 (n + 1 + 1 + 1) = n + 1 + 1 + 1 := w64_id _ (by omega)
    have w4 : wi64 (n + 1 + 1 + 1 + 1) = n + 1 + 1 + 1 + 1 := w64_id _ (by omega)
    have w5 : wi64 (n + 1 + 1 + 1 + 1 + 1) = n + 1 + 1 + 1 + 1 + 1 := w64_id _ (by omega)
    have w6 : wi64 (n + 1 + 1 + 1 + 1 + 1 + 1) = n + 1 + 1 + 1 + 1 + 1 + 1 := w64_id _ (by omega)
    obtain ⟨t1, ht1⟩ := markText_ends k (n + 1 + 1 + 1) (by omega) (by omega)
    obtain ⟨t2, ht2⟩ := markText_ends k (n + 1 + 1 + 1 + 1) (by omega) (by omega)
    obtain ⟨l1, m1, a1, a2, a3, a4, a5⟩ := MH_IntS k r7 (n + 1 + 1 + 1 + 1 + 1 + 1) (by omega) (by omega) (by omega) p1
    have v1 : wi64 (m1 + 1) = m1 + 1 := w64_id _ (by omega)
    have v2 : wi64 (m1 + 1 + 1) = m1 + 1 + 1 := w64_id _ (by omega)
    have v3 : wi64 (m1 + 1 + 1 + 1) = m1 + 1 + 1 + 1 := w64_id _ (by omega)
    have v4 : wi64 (m1 + 1 + 1 + 1 + 1) = m1 + 1 + 1 + 1 + 1 := w64_id _ (by omega)
    have v5 : wi64 (m1 + 1 + 1 + 1 + 1 + 1) = m1 + 1 + 1 + 1 + 1 + 1 := w64_id _ (by omega)
    obtain ⟨t3, ht3⟩ := markText_ends k (m1 + 1 + 1) (by omega) (by omega)
    obtain ⟨t4, ht4⟩ := markText_ends k (m1 + 1 + 1 + 1) (by omega) (by omega)
    obtain ⟨l2, m2, b1, b2, b3, b4, b5⟩ := MH_IntS k r13 (m1 + 1 + 1 + 1 + 1 + 1) (by omega) (by omega) (by omega) p2
    have u1 : wi64 (m2 + 1) = m2 + 1 := w64_id _ (by omega)
    obtain ⟨hs, m3, c1, c2, c3, c4, c5⟩ := MH_HeldS k r15 (m2 + 1) (by omega) _ rfl (by omega) hk p3
    have u2 : wi64 (m3 + 1) = m3 + 1 := w64_id _ (by omega)
    have e1 : ¬ m1 < 0 := by omega
    have e2 : ¬ m2 < 0 := by omega
    have e3 : ¬ m3 < 0 := by omega
    refine ⟨(n, n + 1, ((n + 1 + 1, t1, t2, n + 1 + 1 + 1 + 1 + 1, l1, m1), (m1 + 1, t3, t4, m1 + 1 + 1 + 1 + 1, l2, m2)), hs, m3), m3 + 1, by omega, by omega, fun again out i h0 h1 h2 hr => ?_, fun again out i h0 h1 h2 hr => ?_⟩
    · have w' : wi64 (i + 1) = i + 1 := w64_id _ (by omega)
      have hlt : i.toNat < out.length := by omega
      simp only [jn, Ty.rd, getD_some' hr, getD_set' (show i.toNat < _ by simpa using hlt), List.length_set, set_set', h0, h1, hlt, w1, w2, w3, w4, w5, w6, v1, v2, v3, v4, v5, u1, u2, w', ht1, ht2, ht3, ht4, a4, b4, c4, Option.bind_some, decide_true, and_self, if_true, getD_set']
    · have w' : wi64 (i + 1) = i + 1 := w64_id _ (by omega)
      simp only [Ty.rd, getD_some' hr, h0, h1, w1, w2, w3, w4, w5, w6, v1, v2, v3, v4, v5, u1, u2, w', ht1, ht2, ht3, ht4, a5, b5, c5, e1, e2, e3, Option.bind_some, decide_true, decide_false, and_self, if_true, Bool.not_true, Bool.false_eq_true, if_false]
  · intro again out n i hi
    have : ¬ i < (out.length : Int) := by omega
    simp [this]
  · intro again out n i hi
    have : ¬ i < (out.length : Int) := by omega
    simp [this]
theorem i_copyUsers_is (k : Nat) (a : List RT_User.den) (hk : 1048576 < k) (hb : Bd_UserS a) : i_copyUsers k (a, ()) = some (a, ((), ())) := by
  unfold i_copyUsers
  have hl : a.length ≤ 1048576 := hb.1
  have hcap : capMax = 274877906944 := rfl
  refine loop_app (A := RT_User.den) a (fun i out => (out, (a, ((a.length : Int), ((i : Int), ()))))) (a, ((), ())) ?_ ?_ k (by omega)
  · intro again i out x ho hi hx
    have hu : Bd_User (ag_User x) := hb.2 x (List.mem_of_getElem? hx)
    have e := i_copyUser_is k (ag_User x) hk hu
    have w : wi64 ((i : Int) + 1) = ((i + 1 : Nat) : Int) := by rw [show wi64 ((i : Int) + 1) = (i : Int) + 1 from w64_id _ (by omega)]; omega
    have p1 : (i : Int) < (a.length : Int) := by omega
    have p2 : 0 ≤ (i : Int) := by omega
    have c3 : out.length + 1 ≤ capMax := by omega
    obtain ⟨x0, x1, ⟨⟨x2, x3, x4, x5, x6, x7⟩, x8, x9, x10, x11, x12, x13⟩, x14, x15⟩ := x
    simp only [ag_User] at e
    simp only [Ty.rd, Int.toNat_natCast, getD_some' hx, p1, p2, w, c3, e, Option.bind_some, List.length_nil, List.length_cons, decide_true, and_self, if_true, Nat.zero_add]
  · intro again
    have : ¬ (a.length : Int) < (a.length : Int) := by omega
    simp only [this, decide_false, Bool.false_eq_true, if_false]
theorem s_l22CopyUsers_is (k : Nat) (a : List RT_User.den) (hk : 1048576 < k) (hb : Bd_UserS a) : s_l22CopyUsers k (a, ()) = some (a, ((), ())) := by
  unfold s_l22CopyUsers
  have hl : a.length ≤ 1048576 := hb.1
  have hcap : capMax = 274877906944 := rfl
  refine loop_app (A := RT_User.den) a (fun i out => (a, (out, ((i : Int), ())))) (a, ((), ())) ?_ ?_ k (by omega)
  · intro again i out x ho hi hx
    have hu : Bd_User (ag_User x) := hb.2 x (List.mem_of_getElem? hx)
    have e := s_l22CopyUser_is k (ag_User x) hk hu
    have w : wi64 ((i : Int) + 1) = ((i + 1 : Nat) : Int) := by rw [show wi64 ((i : Int) + 1) = (i : Int) + 1 from w64_id _ (by omega)]; omega
    have p1 : (i : Int) < (a.length : Int) := by omega
    have p2 : 0 ≤ (i : Int) := by omega
    have c3 : out.length + 1 ≤ capMax := by omega
    obtain ⟨x0, x1, ⟨⟨x2, x3, x4, x5, x6, x7⟩, x8, x9, x10, x11, x12, x13⟩, x14, x15⟩ := x
    simp only [ag_User] at e
    simp only [Ty.rd, Int.toNat_natCast, getD_some' hx, p1, p2, w, c3, e, Option.bind_some, List.length_nil, List.length_cons, decide_true, and_self, if_true, Nat.zero_add]
  · intro again
    have : ¬ (a.length : Int) < (a.length : Int) := by omega
    simp only [this, decide_false, Bool.false_eq_true, if_false]
theorem i_copyPool_is (k : Nat) (x : PoolA) (hb : Bd_Pool x) : i_copyPool k (x, ()) = some (x, ((), ())) := by
  obtain ⟨a0, a1, a2, a3, ⟨⟩⟩ := x
  have h1 : a2.length ≤ 1048576 := hb.1.1
  have h2 : a3.length ≤ 1048576 := hb.2.1.1
  have hcap : capMax = 274877906944 := rfl
  unfold i_copyPool
  rw [if_pos (by simp only [List.length_nil]; omega), if_pos (by simp only [List.length_nil]; omega)]
  simp
theorem s_l11Copy_is (k : Nat) (x : PoolA) (hb : Bd_Pool x) : s_l11Copy k (x, ()) = some (x, ((), ())) := by
  obtain ⟨a0, a1, a2, a3, ⟨⟩⟩ := x
  have h1 : a2.length ≤ 1048576 := hb.1.1
  have h2 : a3.length ≤ 1048576 := hb.2.1.1
  have hcap : capMax = 274877906944 := rfl
  unfold s_l11Copy
  rw [if_pos (by simp only [List.length_nil]; omega), if_pos (by simp only [List.length_nil]; omega)]
  simp
theorem i_copyRoutes_is (k : Nat) (a : List RT_Route.den) (hl : a.length ≤ 1048576) : i_copyRoutes k (a, ()) = some (a, ((), ())) := by
  have hcap : capMax = 274877906944 := rfl
  unfold i_copyRoutes
  rw [if_pos (by simp only [List.length_nil]; omega)]
  simp
abbrev HubA := Int × Int × (List RT_Lease.den) × (List RT_Fixed.den) × (List RT_Route.den) × (List RT_User.den) × Unit
theorem bd_hubPool {a0 a1 : Int} {a2 : List RT_Lease.den} {a3 : List RT_Fixed.den} {a4 : List RT_Route.den} {a5 : List RT_User.den} (hb : Bd_Hub (a0, (a1, (a2, (a3, (a4, (a5, ()))))))) : Bd_Pool (a0, (a1, (a2, (a3, ())))) ∧ Bd_RouteS a4 ∧ Bd_UserS a5 := by
  unfold Bd_Hub at hb
  obtain ⟨h1, h2, h3, h4, _⟩ := hb
  exact ⟨⟨h1, h2, trivial⟩, h3, h4⟩
theorem bd_hubOf {a0 a1 : Int} {a2 : List RT_Lease.den} {a3 : List RT_Fixed.den} {a4 : List RT_Route.den} {a5 : List RT_User.den} (h1 : Bd_LeaseS a2) (h2 : Bd_FixedS a3) (h3 : Bd_RouteS a4) (h4 : Bd_UserS a5) : Bd_Hub (a0, (a1, (a2, (a3, (a4, (a5, ())))))) :=
  ⟨h1, h2, h3, h4, trivial⟩
theorem i_copyHub_is (k : Nat) (x : HubA) (hk : 1048576 < k) (hb : Bd_Hub x) : i_copyHub k (x, ()) = some (x, ((), ())) := by
  obtain ⟨a0, a1, a2, a3, a4, a5, ⟨⟩⟩ := x
  obtain ⟨h1, h2, h3⟩ := bd_hubPool hb
  unfold i_copyHub
  simp only [i_copyPool_is k (a0, (a1, (a2, (a3, ())))) h1, i_copyRoutes_is k a4 h2.1, i_copyUsers_is k a5 hk h3, Option.bind_some]
theorem s_l22Copy_is (k : Nat) (x : HubA) (hk : 1048576 < k) (hb : Bd_Hub x) : s_l22Copy k (x, ()) = some (x, ((), ())) := by
  obtain ⟨a0, a1, a2, a3, a4, a5, ⟨⟩⟩ := x
  obtain ⟨h1, h2, h3⟩ := bd_hubPool hb
  have h2' : a4.length ≤ 1048576 := h2.1
  have hcap : capMax = 274877906944 := rfl
  unfold s_l22Copy
  simp only [s_l11Copy_is k (a0, (a1, (a2, (a3, ())))) h1, s_l22CopyUsers_is k a5 hk h3, Option.bind_some]
  rw [if_pos (by simp only [List.length_nil]; omega)]
  simp
theorem MH_Hub (k : Nat) (x : HubA) (hk : 4611686018427387904 < k) (hb : Bd_Hub x) :
    ∃ (l : List RT_Lease.den) (f : List RT_Fixed.den) (r : List RT_Route.den) (u : List RT_User.den) (n : Int), 0 ≤ n ∧ w_markHub k (x, (1, ())) = some (n, (((), ((), (l, (f, (r, (u, ())))))), ((), ()))) ∧
      w_heldHub k ((x.1, (x.2.1, (l, (f, (r, (u, ())))))), (1, ())) = some (n, ((), ((), ()))) := by
  obtain ⟨a0, a1, a2, a3, a4, a5, ⟨⟩⟩ := x
  obtain ⟨h1, h2, h3⟩ := bd_hubPool hb
  have l2 : a2.length ≤ 1048576 := h1.1.1
  have l3 : a3.length ≤ 1048576 := h1.2.1.1
  have l4 : a4.length ≤ 1048576 := h2.1
  have l5 : a5.length ≤ 1048576 := h3.1
  obtain ⟨l, n1, p1, p2, p3, p4, p5⟩ := MH_LeaseS k a2 1 (by omega) l2 _ rfl (by omega) (by omega)
  obtain ⟨f, n2, q1, q2, q3, q4, q5⟩ := MH_FixedS k a3 n1 (by omega) l3 _ rfl (by omega) (by omega)
  obtain ⟨r, n3, r1, r2, r3, r4, r5⟩ := MH_RouteS k a4 n2 (by omega) l4 _ rfl (by omega) (by omega)
  obtain ⟨u, n4, u1, u2, u3, u4, u5⟩ := MH_UserS k a5 n3 (by omega) _ rfl (by omega) hk h3
  have c1 : ¬ n1 < 0 := by omega
  have c2 : ¬ n2 < 0 := by omega
  have c3 : ¬ n3 < 0 := by omega
  have c4 : ¬ n4 < 0 := by omega
  refine ⟨l, f, r, u, n4, by omega, ?_, ?_⟩
  · unfold w_markHub w_markPool
    simp only [p4, q4, r4, u4, Option.bind_some]
  · unfold w_heldHub w_heldPool
    simp only [p5, q5, r5, u5, c1, c2, c3, c4, decide_false, Bool.false_eq_true, if_false, Option.bind_some]
abbrev WoutD := (Int × Int) × Int
abbrev WoutT : Ty := (.pair (.pair (.int .i64) (.int .i64)) (.int .i64))
theorem idxWout_is (k : Nat) (a : List WoutD) (fp fn : Int) (hk : 1048576 < k) (hl : a.length ≤ 1048576) : x_slices_IndexFunc_impl_Route_impl_Route_of_i_withoutPrefix_1 k (a, (((fp, (fn, ())), ()), ())) =
    some (match (List.range a.length).find? (fun i => decide ((fun x : WoutD => x.1.1 = fp ∧ x.1.2 = fn) (a.getD i (Ty.dflt WoutT)))) with | some i => (((i : Nat) : Int), ((), (((fp, (fn, ())), ()), ()))) | none => (-1, ((), (((fp, (fn, ())), ()), ())))) := by
  unfold x_slices_IndexFunc_impl_Route_impl_Route_of_i_withoutPrefix_1
  refine loop_find (fun i => (a, (((fp, (fn, ())), ()), ((a.length : Int), (((i : Nat) : Int), ()))))) a.length (fun i => decide ((fun x : WoutD => x.1.1 = fp ∧ x.1.2 = fn) (a.getD i (Ty.dflt WoutT)))) (fun i => (((i : Nat) : Int), ((), (((fp, (fn, ())), ()), ())))) (-1, ((), (((fp, (fn, ())), ()), ()))) ?_ ?_ k (by omega)
  · intro again i hi
    have g1 : (0 : Int) ≤ (i : Int) ∧ (i : Int) < (a.length : Int) := by omega
    have w2 : wi64 ((i : Int) + 1) = ((i + 1 : Nat) : Int) := (w64_id _ (by omega)).trans (by omega)
    simp only [g1, w2, i_withoutPrefix_1, Ty.rd, Int.toNat_natCast, and_self, decide_true, if_true, Option.bind_some, Bool.decide_and]
    rfl
  · intro again
    simp
theorem delWout_is (k : Nat) (L : List WoutD) (fp fn : Int) (hk : 1048576 < k) (hl : L.length ≤ 1048576) : x_slices_DeleteFunc_impl_Route_impl_Route_of_i_withoutPrefix_1 k (L, (((fp, (fn, ())), ()), ())) =
    some (L.filter (fun x => !decide (x.1.1 = fp ∧ x.1.2 = fn)), ((), (((fp, (fn, ())), ()), ()))) := by
  have e := idxWout_is k L fp fn hk hl
  have hsp := first_split (Ty.dflt WoutT) (fun x : WoutD => decide (x.1.1 = fp ∧ x.1.2 = fn)) L
  unfold x_slices_DeleteFunc_impl_Route_impl_Route_of_i_withoutPrefix_1
  simp only [e, Option.bind_some]
  cases hq : (List.range L.length).find? (fun i => decide ((fun x : WoutD => x.1.1 = fp ∧ x.1.2 = fn) (L.getD i (Ty.dflt WoutT)))) with
  | none =>
    rw [hq] at hsp
    rw [hsp]
    simp
  | some i =>
    rw [hq] at hsp
    obtain ⟨p, g, r, rfl, rfl, hfil⟩ := hsp
    have hne : ¬ ((p.length : Nat) : Int) = -1 := by omega
    have hl' : p.length + r.length + 1 ≤ 1048576 := by simpa [Nat.add_assoc] using hl
    have w2 : wi64 ((p.length : Int) + 1) = ((p.length + ([] : List WoutD).length + 1 : Nat) : Int) := (w64_id _ (by omega)).trans (by simp)
    rw [hfil]
    simp only [hne, w2, decide_false, Bool.false_eq_true, if_false]
    refine (del_run (fun x : WoutD => decide (x.1.1 = fp ∧ x.1.2 = fn)) ((fp, (fn, ())), ()) (fun q => (q, ((), (((fp, (fn, ())), ()), ())))) ?_ ?_ r p [] g k (by simp; omega) (by omega))
    · intro again p gs r g v hb
      have hlen : (p ++ g :: (gs ++ v :: r)).length = p.length + gs.length + r.length + 2 := by simp; omega
      have g1 : ((p.length + gs.length + 1 : Nat) : Int) < ((p ++ g :: (gs ++ v :: r)).length : Int) := by rw [hlen]; omega
      have g2 : (0 : Int) ≤ ((p.length + gs.length + 1 : Nat) : Int) ∧ ((p.length + gs.length + 1 : Nat) : Int) < ((p ++ g :: (gs ++ v :: r)).length : Int) := by rw [hlen]; omega
      have g3 : (0 : Int) ≤ (p.length : Int) ∧ (p.length : Int) < ((p ++ g :: (gs ++ v :: r)).length : Int) := by rw [hlen]; omega
      have r1 : (p ++ g :: (gs ++ v :: r)).getD (p.length + gs.length + 1) (Ty.dflt WoutT) = v := by
        rw [show p ++ g :: (gs ++ v :: r) = (p ++ g :: gs) ++ v :: r by simp, show p.length + gs.length + 1 = (p ++ g :: gs).length by simp; omega]
        simp [List.getD]
      have s1 : List.set (p ++ g :: (gs ++ v :: r)) p.length v = p ++ v :: (gs ++ v :: r) := by simp
      have w1 : wi64 ((p.length : Int) + 1) = ((p.length + 1 : Nat) : Int) := (w64_id _ (by omega)).trans (by omega)
      have w2 : wi64 (((p.length + gs.length + 1 : Nat) : Int) + 1) = ((p.length + gs.length + 2 : Nat) : Int) := (w64_id _ (by omega)).trans (by omega)
      obtain ⟨⟨v1, v2⟩, v3⟩ := v
      simp only [jn, Ty.rd, Int.toNat_natCast, r1, g1, g2, g3, s1, w1, w2, i_withoutPrefix_1, decide_true, and_self, if_true, Option.bind_some, Bool.decide_and]
      by_cases q : v1 = fp ∧ v2 = fn <;> simp [q]
    · intro again q t
      have hd : ¬ (((q ++ t).length : Nat) : Int) < ((q ++ t).length : Int) := by omega
      have g1 : (0 : Int) ≤ (q.length : Int) ∧ (q.length : Int) ≤ ((q ++ t).length : Int) := by simp only [List.length_append]; omega
      simp only [hd, g1, decide_false, Bool.false_eq_true, if_false, and_self, if_true]
      simp
      omega
theorem loop_span {X R A : Type} {step : (X → Option R) → X → Option R} (W : List A) (D : A → Bool) (st : Nat → X) (K : Nat → Option R)
    (hs : ∀ again i x, i < W.length → W[i]? = some x → step again (st i) = if D x = true then again (st (i + 1)) else K i)
    (he : ∀ again, step again (st W.length) = K W.length) : ∀ k, W.length < k → whileK step k (st 0) = K (W.takeWhile D).length := by
  have key : ∀ (s p : List A) k, p ++ s = W → s.length < k → whileK step k (st p.length) = K (p.length + (s.takeWhile D).length) := by
    intro s
    induction s with
    | nil =>
      intro p k h hk
      obtain ⟨k, rfl⟩ : ∃ k', k = k' + 1 := ⟨k - 1, by omega⟩
      have : p = W := by simpa using h
      subst this
      exact he _
    | cons x s ih =>
      intro p k h hk
      obtain ⟨k, rfl⟩ : ∃ k', k = k' + 1 := ⟨k - 1, by omega⟩
      show step _ _ = _
      subst h
      rw [hs _ _ x (by simp) (by simp)]
      by_cases d : D x = true
      · have := ih (p ++ [x]) k (by simp) (by simpa using hk)
        rw [if_pos d, show p.length + 1 = (p ++ [x]).length by simp, this]
        simp [d]
        congr 1
        omega
      · rw [if_neg d]
        simp [d]
  intro k hk
  have := key W [] k (by simp) hk
  simpa using this
theorem ahead_trans {a b c d e f : Int} (h1 : aheadB a b c d = true) (h2 : aheadB c d e f = true) : aheadB a b e f = true := by
  unfold aheadB at *
  simp only [Bool.or_eq_true, Bool.and_eq_true, decide_eq_true_eq] at *
  omega
theorem ahead_tri (a b c d : Int) : aheadB a b c d = true ∨ (a = c ∧ b = d) ∨ aheadB c d a b = true := by
  unfold aheadB
  simp only [Bool.or_eq_true, Bool.and_eq_true, decide_eq_true_eq]
  omega
theorem ahead_irr (a b : Int) : aheadB a b a b = false := by
  unfold aheadB
  simp
theorem ahead_asym {a b c d : Int} (h : aheadB a b c d = true) : aheadB c d a b = false := by
  cases q : aheadB c d a b with
  | false => rfl
  | true => have := ahead_trans h q; rw [ahead_irr] at this; cases this
abbrev RouteR := (Int × Int) × Int
theorem put_split (p n : Int) : ∀ L : List RouteR, L.Pairwise (fun x y => aheadB x.1.1 x.1.2 y.1.1 y.1.2 = true) →
    (L.filter (fun x => !decide (x.1.1 = p ∧ x.1.2 = n))).takeWhile (fun x => aheadB x.1.1 x.1.2 p n) = L.filter (fun x => aheadB x.1.1 x.1.2 p n) ∧
    (L.filter (fun x => !decide (x.1.1 = p ∧ x.1.2 = n))).dropWhile (fun x => aheadB x.1.1 x.1.2 p n) = L.filter (fun x => aheadB p n x.1.1 x.1.2) := by
  intro L hp
  induction L with
  | nil => simp
  | cons x L ih =>
    obtain ⟨hx, hp⟩ := List.pairwise_cons.1 hp
    by_cases a : aheadB x.1.1 x.1.2 p n = true
    · obtain ⟨h1, h2⟩ := ih hp
      have ne : ¬ (x.1.1 = p ∧ x.1.2 = n) := by
        rintro ⟨rfl, rfl⟩
        rw [ahead_irr] at a
        cases a
      have b := ahead_asym a
      simp only [List.filter_cons, ne, decide_false, Bool.not_false, if_true, a, b, List.takeWhile_cons, List.dropWhile_cons, Bool.false_eq_true, if_false, h1, h2, and_self]
    · have a' : aheadB x.1.1 x.1.2 p n = false := by simpa using a
      have hB : ∀ y ∈ L, aheadB p n y.1.1 y.1.2 = true := fun y hy => by
        rcases ahead_tri x.1.1 x.1.2 p n with h | ⟨h1, h2⟩ | h
        · exact absurd h a
        · have := hx y hy
          rwa [h1, h2] at this
        · exact ahead_trans h (hx y hy)
      have e1 : L.filter (fun x => aheadB x.1.1 x.1.2 p n) = [] := List.filter_eq_nil_iff.2 fun y hy => by simp [ahead_asym (hB y hy)]
      have e2 : L.filter (fun x => aheadB p n x.1.1 x.1.2) = L := List.filter_eq_self.2 hB
      have e3 : L.filter (fun x => !decide (x.1.1 = p ∧ x.1.2 = n)) = L := List.filter_eq_self.2 fun y hy => by
        have : ¬ (y.1.1 = p ∧ y.1.2 = n) := by
          rintro ⟨h1, h2⟩
          have := hB y hy
          rw [h1, h2, ahead_irr] at this
          cases this
        simp [this]
      have e4 : L.takeWhile (fun x => aheadB x.1.1 x.1.2 p n) = [] ∧ L.dropWhile (fun x => aheadB x.1.1 x.1.2 p n) = L := by
        cases L with
        | nil => simp
        | cons y L => simp [ahead_asym (hB y (by simp))]
      by_cases e : x.1.1 = p ∧ x.1.2 = n
      · have b : aheadB p n x.1.1 x.1.2 = false := by rw [e.1, e.2, ahead_irr]
        simp only [List.filter_cons, e, and_self, decide_true, Bool.not_true, Bool.false_eq_true, if_false, a', b, e1, e2, e3, e4, ahead_irr]
      · have b : aheadB p n x.1.1 x.1.2 = true := by
          rcases ahead_tri x.1.1 x.1.2 p n with h | h | h
          · exact absurd h a
          · exact absurd h e
          · exact h
        simp only [List.filter_cons, e, decide_false, Bool.not_false, if_true, a', b, e1, e2, e3, List.takeWhile_cons, List.dropWhile_cons, Bool.false_eq_true, if_false, and_self]
theorem foldE_all {g : Nat → Unit → (Bool × Unit × Unit) ⊕ Unit} {fin : Unit → Bool × Unit × Unit} (hg : ∀ i, g i () = .inr () ∨ ∃ o, g i () = .inl (false, o)) :
    ∀ m i, (foldE g fin m i ()).1 = true → ∀ j, i ≤ j → j < i + m → g j () = .inr () := by
  intro m
  induction m with
  | zero => intro i _ j h1 h2; omega
  | succ m ih =>
    intro i h j h1 h2
    rcases hg i with e | ⟨o, e⟩
    · by_cases hj : j = i
      · rw [hj]; exact e
      · refine ih (i + 1) ?_ j (by omega) (by omega)
        simpa [foldE, e] using h
    · simp [foldE, e] at h
theorem foldE_fin {g : Nat → Unit → (Bool × Unit × Unit) ⊕ Unit} {fin : Unit → Bool × Unit × Unit} (hg : ∀ i, g i () = .inr () ∨ ∃ o, g i () = .inl (false, o)) :
    ∀ m i, (foldE g fin m i ()).1 = true → (fin ()).1 = true := by
  intro m
  induction m with
  | zero => intro i h; simpa [foldE] using h
  | succ m ih =>
    intro i h
    rcases hg i with e | ⟨o, e⟩
    · exact ih (i + 1) (by simpa [foldE, e] using h)
    · simp [foldE, e] at h
theorem gRoute_or (a : List RouteR) : ∀ i, gRoute a i () = .inr () ∨ ∃ o, gRoute a i () = .inl (false, o) := fun i => by
  unfold gRoute
  dsimp only
  split
  · exact .inl rfl
  · exact .inr ⟨_, rfl⟩
theorem routes_len {a : List RouteR} (h : routesB a = true) : a.length ≤ 12 := by
  have := foldE_fin (gRoute_or a) a.length 0 h
  simp only [decide_eq_true_eq] at this
  omega
theorem routes_sorted {a : List RouteR} (hl : a.length ≤ 1048576) (h : routesB a = true) : a.Pairwise (fun x y => aheadB x.1.1 x.1.2 y.1.1 y.1.2 = true) := by
  have hall := foldE_all (gRoute_or a) a.length 0 h
  have step : ∀ i (hi : i + 1 < a.length), aheadB a[i].1.1 a[i].1.2 a[i + 1].1.1 a[i + 1].1.2 = true := fun i hi => by
    have := hall (i + 1) (by omega) (by omega)
    unfold gRoute at this
    have w1 : wi64 (((i + 1 : Nat) : Int) - 1) = (i : Int) := (w64_id _ (by omega)).trans (by omega)
    dsimp only at this
    rw [w1] at this
    split at this
    · rename_i hc
      simp only [Bool.and_eq_true, Bool.or_eq_true] at hc
      have hc := hc.2.2
      have hp : (0 : Int) < ((i + 1 : Nat) : Int) := by omega
      simp only [hp, decide_true, Bool.not_true, Bool.false_eq_true, false_or] at hc
      have e1 : Ty.rd (t := RT_Route) a ((i : Nat) : Int) = a[i] := by
        show a.getD i _ = _
        rw [List.getD_eq_getElem?_getD, List.getElem?_eq_getElem (by omega)]; rfl
      have e2 : Ty.rd (t := RT_Route) a ((i + 1 : Nat) : Int) = a[i + 1] := by
        show a.getD (i + 1) _ = _
        rw [List.getD_eq_getElem?_getD, List.getElem?_eq_getElem (by omega)]; rfl
      rw [e1, e2] at hc
      exact hc
    · cases this
  rw [List.pairwise_iff_getElem]
  intro i j hi hj hij
  induction j with
  | zero => omega
  | succ j ih =>
    by_cases e : i = j
    · subst e; exact step i hj
    · exact ahead_trans (ih (by omega) (by omega)) (step j hj)
def putL (L : List RouteR) (p n c : Int) : List RouteR := L.filter (fun x => aheadB x.1.1 x.1.2 p n) ++ [((p, n), c)] ++ L.filter (fun x => aheadB p n x.1.1 x.1.2)
def putB (L : List RouteR) (p n c : Int) : List RouteR × Bool := if routesB L = true ∧ routesB (putL L p n c) = true then (putL L p n c, true) else (L, false)
theorem putL_len (L : List RouteR) (p n c : Int) : (putL L p n c).length ≤ 2 * L.length + 1 := by
  unfold putL
  have h1 := List.length_filter_le (fun x : RouteR => aheadB x.1.1 x.1.2 p n) L
  have h2 := List.length_filter_le (fun x : RouteR => aheadB p n x.1.1 x.1.2) L
  simp only [List.length_append, List.length_cons, List.length_nil]
  omega
theorem i_withoutPrefix_is (k : Nat) (a : List RouteR) (p n : Int) (hk : 1048576 < k) (hl : a.length ≤ 1048576) : i_withoutPrefix k (a, ((p, (n, ())), ())) = some (a.filter (fun x => !decide (x.1.1 = p ∧ x.1.2 = n)), ((), ((), ()))) := by
  unfold i_withoutPrefix
  simp only [i_copyRoutes_is k a hl, Option.bind_some, delWout_is k a p n hk hl]
theorem i_PutRoute_is (k : Nat) (a : List RouteR) (p n c : Int) (hk : 1048576 < k) (hl : a.length ≤ 1048576) : i_PutRoute k (a, ((p, (n, (c, ()))), ())) = some (((putB a p n c).1, ((putB a p n c).2, ())), ((), ((), ()))) := by
  unfold i_PutRoute
  simp only [i_withoutPrefix_is k a p n hk (by omega), Option.bind_some, jn]
  generalize hW : a.filter (fun x => !decide (x.1.1 = p ∧ x.1.2 = n)) = W
  have hWl : W.length ≤ a.length := by rw [← hW]; exact List.length_filter_le _ _
  refine Eq.trans (loop_span (A := RouteR) W (fun x => aheadB x.1.1 x.1.2 p n) (fun i => (a, ((p, (n, (c, ()))), (W, ((i : Int), ()))))) (fun i => (x_slices_Insert_impl_Route_impl_Route k (W, (((i : Nat) : Int), ([((p, n), c)], ())))).bind fun p3 => (i_RoutesOk k (a, ())).bind fun p4 => if (!p4.1) = false then (i_RoutesOk k (p3.1, ())).bind fun p5 => (if (!p5.1) = true then (i_copyRoutes k (a, ())).bind fun p6 => some ((p6.1, (false, ())), ((), ((), ()))) else some ((p3.1, (true, ())), ((), ((), ())))) else (i_copyRoutes k (a, ())).bind fun p7 => some ((p7.1, (false, ())), ((), ((), ())))) ?_ ?_ k (by omega)) ?_
  · intro again i x hi hx
    have w : wi64 ((i : Int) + 1) = ((i + 1 : Nat) : Int) := (w64_id _ (by omega)).trans (by omega)
    have p1 : (i : Int) < (W.length : Int) := by omega
    have p2 : 0 ≤ (i : Int) := by omega
    obtain ⟨⟨x1, x2⟩, x3⟩ := x
    obtain ⟨cc, hc1, hc2⟩ := comparePrefixes_is k x1 x2 p n (by omega)
    simp only [Ty.rd, Int.toNat_natCast, getD_some' hx, p1, p2, w, hc1, decide_true, and_self, if_true, Option.bind_some]
    by_cases q : aheadB x1 x2 p n = true
    · have : cc < 0 := by
        refine Int.not_le.1 fun h => ?_
        rw [hc2.1 h] at q
        cases q
      simp only [this, q, decide_true, if_true]
    · have : ¬ cc < 0 := by
        have := hc2.2 (by simpa using q)
        omega
      simp only [this, q, decide_false, Bool.false_eq_true, if_false]
  · intro again
    have : ¬ (W.length : Int) < (W.length : Int) := by omega
    simp only [this, decide_false, Bool.false_eq_true, if_false]
  · have hT : (W.takeWhile (fun x => aheadB x.1.1 x.1.2 p n)).length ≤ W.length := by
      have := congrArg List.length (List.takeWhile_append_dropWhile (p := fun x : RouteR => aheadB x.1.1 x.1.2 p n) (l := W))
      rw [List.length_append] at this
      omega
    have hins : x_slices_Insert_impl_Route_impl_Route k (W, ((((W.takeWhile (fun x => aheadB x.1.1 x.1.2 p n)).length : Nat) : Int), ([((p, n), c)], ()))) = some (W.takeWhile (fun x => aheadB x.1.1 x.1.2 p n) ++ [((p, n), c)] ++ W.dropWhile (fun x => aheadB x.1.1 x.1.2 p n), ((), ((), ((), ())))) := by
      unfold x_slices_Insert_impl_Route_impl_Route insF
      have e := List.takeWhile_append_dropWhile (p := fun x : RouteR => aheadB x.1.1 x.1.2 p n) (l := W)
      have e1 : W.take (W.takeWhile (fun x => aheadB x.1.1 x.1.2 p n)).length = W.takeWhile (fun x => aheadB x.1.1 x.1.2 p n) := by
        conv => lhs; arg 2; rw [← e]
        rw [List.take_left]
      have e2 : W.drop (W.takeWhile (fun x => aheadB x.1.1 x.1.2 p n)).length = W.dropWhile (fun x => aheadB x.1.1 x.1.2 p n) := by
        conv => lhs; arg 2; rw [← e]
        rw [List.drop_left]
      rw [if_pos (by simp only [List.length_cons, List.length_nil]; omega)]
      simp only [Int.toNat_natCast, e1, e2]
    simp only [hins, Option.bind_some, i_RoutesOk_is k a hk (by omega), i_copyRoutes_is k a (show a.length ≤ 1048576 by omega)]
    unfold putB
    cases hr : routesB a with
    | false => simp
    | true =>
      obtain ⟨s1, s2⟩ := put_split p n a (routes_sorted (by omega) hr)
      rw [hW] at s1 s2
      have hp : W.takeWhile (fun x => aheadB x.1.1 x.1.2 p n) ++ [((p, n), c)] ++ W.dropWhile (fun x => aheadB x.1.1 x.1.2 p n) = putL a p n c := by rw [s1, s2]; rfl
      have hpl := putL_len a p n c
      have h12 := routes_len hr
      simp only [hp, i_RoutesOk_is k (putL a p n c) hk (by omega), Option.bind_some]
      cases routesB (putL a p n c) <;> simp
theorem loop_pick1 {X R A : Type} {step : (X → Option R) → X → Option R} (a : List A) (D : A → Bool) (st : Nat → List A → X) (r : Option R)
    (hs : ∀ again i out x, out.length ≤ i → i < a.length → a[i]? = some x → step again (st i out) = again (st (i + 1) (if D x = true then out ++ [x] else out)))
    (he : ∀ again, step again (st a.length (a.filter D)) = r) : ∀ k, a.length < k → whileK step k (st 0 []) = r := by
  have key : ∀ (s p : List A) k, p ++ s = a → s.length < k → whileK step k (st p.length (p.filter D)) = r := by
    intro s
    induction s with
    | nil =>
      intro p k h hk
      obtain ⟨k, rfl⟩ : ∃ k', k = k' + 1 := ⟨k - 1, by omega⟩
      have : p = a := by simpa using h
      subst this
      exact he _
    | cons x s ih =>
      intro p k h hk
      obtain ⟨k, rfl⟩ : ∃ k', k = k' + 1 := ⟨k - 1, by omega⟩
      show step _ _ = _
      subst h
      rw [hs _ _ _ x (List.length_filter_le _ _) (by simp) (by simp)]
      have := ih (p ++ [x]) k (by simp) (by simpa using hk)
      rw [List.filter_append] at this
      have e : p.filter D ++ [x].filter D = if D x = true then p.filter D ++ [x] else p.filter D := by
        by_cases d : D x = true
        · simp [d]
        · simp [d]
      rw [e] at this
      simpa using this
  intro k hk
  exact key a [] k (by simp) hk
theorem s_PutRoute_is (k : Nat) (a : List RouteR) (p n c : Int) (hk : 1048576 < k) (hl : a.length ≤ 1048576) : s_PutRoute k (a, ((p, (n, (c, ()))), ())) = some (((putB a p n c).1, ((putB a p n c).2, ())), ((), ((), ()))) := by
  unfold s_PutRoute
  have hcap : capMax = 274877906944 := rfl
  have f1 : (a.filter (fun x => aheadB x.1.1 x.1.2 p n)).length ≤ a.length := List.length_filter_le _ _
  have f2 : (a.filter (fun x => aheadB p n x.1.1 x.1.2)).length ≤ a.length := List.length_filter_le _ _
  refine loop_pick1 (A := RouteR) a (fun x => aheadB x.1.1 x.1.2 p n) (fun i out => (a, ((p, (n, (c, ()))), (out, ((i : Int), ()))))) _ ?_ ?_ k (by omega)
  · intro again i out x ho hi hx
    have w : wi64 ((i : Int) + 1) = ((i + 1 : Nat) : Int) := (w64_id _ (by omega)).trans (by omega)
    have p1 : (i : Int) < (a.length : Int) := by omega
    have p2 : 0 ≤ (i : Int) := by omega
    have c3 : out.length + 1 ≤ capMax := by omega
    obtain ⟨⟨x1, x2⟩, x3⟩ := x
    simp only [Ty.rd, Int.toNat_natCast, getD_some' hx, p1, p2, w, c3, Ahead_is, List.length_nil, List.length_cons, decide_true, and_self, if_true, Option.bind_some, Nat.zero_add]
    cases aheadB x1 x2 p n <;> simp
  · intro again
    have : ¬ (a.length : Int) < (a.length : Int) := by omega
    have c1 : (a.filter (fun x => aheadB x.1.1 x.1.2 p n)).length + 1 ≤ capMax := by omega
    simp only [this, decide_false, Bool.false_eq_true, if_false, List.length_nil, List.length_cons, Nat.zero_add, c1, if_true]
    generalize hA : a.filter (fun x => aheadB x.1.1 x.1.2 p n) ++ [((p, n), c)] = acc
    have hal : acc.length ≤ 1048577 := by rw [← hA]; simp only [List.length_append, List.length_cons, List.length_nil]; omega
    refine Eq.trans (congrArg (fun q => whileK _ k (a, ((p, (n, (c, ()))), (q, ((0 : Int), ()))))) (List.append_nil acc).symm) (loop_pick1 (A := RouteR) a (fun x => aheadB p n x.1.1 x.1.2) (fun i out => (a, ((p, (n, (c, ()))), (acc ++ out, ((i : Int), ()))))) (some (((putB a p n c).1, ((putB a p n c).2, ())), ((), ((), ())))) ?_ ?_ k (by omega))
    · intro again i out x ho hi hx
      have w : wi64 ((i : Int) + 1) = ((i + 1 : Nat) : Int) := (w64_id _ (by omega)).trans (by omega)
      have p1 : (i : Int) < (a.length : Int) := by omega
      have p2 : 0 ≤ (i : Int) := by omega
      have c3 : (acc ++ out).length + 1 ≤ capMax := by rw [List.length_append]; omega
      obtain ⟨⟨x1, x2⟩, x3⟩ := x
      simp only [Ty.rd, Int.toNat_natCast, getD_some' hx, p1, p2, w, c3, Ahead_is, List.length_nil, List.length_cons, decide_true, and_self, if_true, Option.bind_some, Nat.zero_add]
      cases aheadB p n x1 x2 <;> simp
    · intro again
      have hP : acc ++ a.filter (fun x => aheadB p n x.1.1 x.1.2) = putL a p n c := by rw [← hA]; rfl
      have c2 : 0 + a.length ≤ capMax := by omega
      simp only [‹¬ (a.length : Int) < (a.length : Int)›, decide_false, Bool.false_eq_true, if_false, hP, s_RoutesOk_is k a hk hl, Option.bind_some, c2, List.length_nil, if_true, List.nil_append]
      unfold putB
      cases hr : routesB a with
      | false =>
        simp
        omega
      | true =>
        have hpl := putL_len a p n c
        have h12 := routes_len hr
        simp only [s_RoutesOk_is k (putL a p n c) hk (by omega), Option.bind_some]
        cases routesB (putL a p n c)
        · simp
          omega
        · simp
theorem bd_putB {a : List RouteR} (p n c : Int) (hb : Bd_RouteS a) : Bd_RouteS (putB a p n c).1 := by
  unfold putB
  split
  · rename_i h
    exact ⟨show (putL a p n c).length ≤ 1048576 by have := routes_len h.2; omega, fun r _ => trivial⟩
  · exact hb
def netB (x : HubA) (f p n : Int) : HubA × Bool := if atB x.2.2.2.2.2.1 f < 0 ∨ (putB x.2.2.2.2.1 p n f).2 = false then (x, false) else ((x.1, (x.2.1, (x.2.2.1, (x.2.2.2.1, ((putB x.2.2.2.2.1 p n f).1, (x.2.2.2.2.2.1, ())))))), true)
theorem bd_netB {x : HubA} (f p n : Int) (hb : Bd_Hub x) : Bd_Hub (netB x f p n).1 := by
  obtain ⟨a0, a1, a2, a3, a4, a5, ⟨⟩⟩ := x
  obtain ⟨h1, h2, h3⟩ := bd_hubPool hb
  unfold netB
  split
  · exact hb
  · exact bd_hubOf h1.1 h1.2.1 (bd_putB p n f h2) h3
theorem i_AddNet_is (k : Nat) (x : HubA) (f p n : Int) (hk : 1048576 < k) (hb : Bd_Hub x) : i_AddNet k (x, (f, ((p, (n, ())), ()))) = some (((netB x f p n).1, ((netB x f p n).2, ())), ((), ((), ((), ())))) := by
  obtain ⟨a0, a1, a2, a3, a4, a5, ⟨⟩⟩ := x
  obtain ⟨h1, h2, h3⟩ := bd_hubPool hb
  unfold i_AddNet netB
  simp only [i_copyHub_is k (a0, (a1, (a2, (a3, (a4, (a5, ())))))) hk hb, userAt_is k a5 f hk h3.1, i_PutRoute_is k a4 p n f hk h2.1, Option.bind_some]
  by_cases q : atB a5 f < 0
  · simp [q]
  · cases hq : (putB a4 p n f).2 <;> simp [q]
theorem s_AddNet_is (k : Nat) (x : HubA) (f p n : Int) (hk : 1048576 < k) (hb : Bd_Hub x) : s_AddNet k (x, (f, ((p, (n, ())), ()))) = some (((netB x f p n).1, ((netB x f p n).2, ())), ((), ((), ((), ())))) := by
  obtain ⟨a0, a1, a2, a3, a4, a5, ⟨⟩⟩ := x
  obtain ⟨h1, h2, h3⟩ := bd_hubPool hb
  unfold s_AddNet netB
  simp only [s_l22Copy_is k (a0, (a1, (a2, (a3, (a4, (a5, ())))))) hk hb, l22At_is k a5 f hk h3.1, s_PutRoute_is k a4 p n f hk h2.1, Option.bind_some]
  by_cases q : atB a5 f < 0
  · cases hq : (putB a4 p n f).2 <;> simp [q]
  · cases hq : (putB a4 p n f).2 <;> simp [q]
theorem addNet_law (k : Nat) (hk : 4611686018427387904 < k) (x : HubA) (f p n : Int) (hw : Wf_Hub x) : w_FnExactAddNet k (x, (f, ((p, (n, ())), ()))) = some (true, ((), ((), ((), ())))) := by
  have e0 := fun (hb : Bd_Hub x) => toHub_is k x (by omega) hb
  have ep := toPrefix_is k (p, (n, ())) (by omega) trivial
  obtain ⟨m, h1, h2⟩ := szHub_le k x 1048576 (by omega) (by omega) hw
  have ei := fun (hb : Bd_Hub x) => i_AddNet_is k x f p n (by omega) hb
  have es := fun (hb : Bd_Hub x) => s_AddNet_is k x f p n (by omega) hb
  have eq := fun (hb : Bd_Hub x) => eqHub_is k x x (by omega) hb
  have er := fun (hb : Bd_Hub x) => eqHub_is k (netB x f p n).1 (netB x f p n).1 (by omega) (bd_netB f p n hb)
  have ma := fun (hb : Bd_Hub x) => MH_Hub k x hk hb
  have mr := fun (hb : Bd_Hub x) => MH_Hub k (netB x f p n).1 hk (bd_netB f p n hb)
  generalize netB x f p n = R at ei es er mr
  obtain ⟨⟨r0, r1, r2, r3, r4, r5, ⟨⟩⟩, ok⟩ := R
  obtain ⟨a0, a1, a2, a3, a4, a5, ⟨⟩⟩ := x
  unfold w_FnExactAddNet
  simp only [h1, Option.bind_some]
  by_cases hm : m < 0
  · simp [hm]
  obtain ⟨_, hb⟩ := h2 (by omega)
  obtain ⟨l1, f1, q1, u1, n1, g1, g2, g3⟩ := ma hb
  obtain ⟨l2, f2, q2, u2, n2, j1, j2, j3⟩ := mr hb
  have c1 : ¬ n1 < 0 := by omega
  have c2 : ¬ n2 < 0 := by omega
  simp only [hm, e0 hb, ep, ei hb, es hb, eq hb, er hb, g2, j2, j3, c1, c2, dq_self, decide_false, decide_true, Bool.false_eq_true, if_false, Bool.not_true, if_true, Option.bind_some]
theorem pure_FnExactAddNet (x : argsDen pars_FnExactAddNet) (hx : argsWf pars_FnExactAddNet x) : ∃ k o, w_FnExactAddNet k (argsX pars_FnExactAddNet x) = some (true, o) := by
  obtain ⟨h0, f, p, u⟩ := x
  refine ⟨4611686018427387905, ((), ((), ((), ()))), ?_⟩
  show w_FnExactAddNet 4611686018427387905 (ag_Hub h0, (f, ((p.1, (p.2, ())), ()))) = _
  exact addNet_law 4611686018427387905 (by decide) (ag_Hub h0) f p.1 p.2 (wfr_Hub h0 hx.1)
open Go.ChangeShapes Go.WideShapes Go.ChangeAt Go.RowKit
theorem own_FnExactAddNet : ownKnob Tryz.prog.godebug = none := by kernel_rfl
theorem lifted_FnExactAddNet (os : Os) (started : os.Started) (H : Type) (enc : TypeId × Value → H) :
    ReturnsInHanded {} Tryz.checked os 4 .any (Rows.fnExactAddNetSpec.pre6 enc Tryz.prog Tryz.f4 Rows.fnExactAddNetRow.domain false) (Rows.fnExactAddNetSpec.post enc Tryz.prog Tryz.f4 false true false false) :=
  law_lifted (C := Tryz.checked) (l := pars_FnExactAddNet) (rb := 4) own_FnExactAddNet started (by kernel_rfl) Tryz.func4
    (ChangeSpec.witness6 (enc := enc) (C := Tryz.checked) false ⟨#[], #[.agg #[.int .i64 0, .int .i64 0, .slice none 0 0, .slice none 0 0, .slice none 0 0, .slice none 0 0], .int .i64 0, .agg #[.int .i64 0, .int .i64 0]], []⟩ 8 (by kernel_rfl) (by kernel_rfl) (by kernel_rfl) (by kernel_rfl))
    e_w_FnExactAddNet rfl (by decide) pure_FnExactAddNet (by kernel_rfl) rfl Tryz.underlying4 (by kernel_rfl) (by kernel_rfl) rfl
    (fun ds h => match ds, h with | [_, _, _], _ => rfl)
theorem inPlace_FnExactAddNet : Tryz.prog.inPlace 4 = Rows.fnExactAddNetRow.inPlace := by kernel_rfl
theorem unfollowed_FnExactAddNet : Tryz.prog.unfollowed 4 = Rows.fnExactAddNetRow.unfollowed := by kernel_rfl
theorem recurses_FnExactAddNet : Tryz.prog.recurses 4 = Rows.fnExactAddNetRow.recurses := by kernel_rfl
theorem named_FnExactAddNet : Tryz.prog.varsNamed 4 = Rows.fnExactAddNetRow.named := by kernel_rfl
theorem facts_FnExactAddNet : joinedFacts Tryz.prog 4 Tryz.f4 Rows.fnExactAddNetSpec Rows.fnExactAddNetRow = true := by
  unfold joinedFacts
  rw [seat_laid, seat_maps, seat_heard, seat_enter, inPlace_FnExactAddNet, unfollowed_FnExactAddNet, recurses_FnExactAddNet, named_FnExactAddNet]
  kernel_rfl
theorem fnExactAddNet_holds : Rows.FnExactAddNetSaid :=
  OpenClaim.holds_of_wide 4 Tryz.f4 rfl rfl rfl rfl rfl rfl rfl ⟨rfl, rfl, rfl, rfl, rfl⟩ rfl rfl rfl rfl rfl (by kernel_rfl) Tryz.func4 facts_FnExactAddNet (of_decide_eq_true (by kernel_rfl))
    (by unfold Func.isWrapper; first | (rw [if_pos (by decide +kernel)]; kernel_rfl) | (rw [if_neg (by decide +kernel)]; exact ⟨rfl, rfl⟩)) (fun os started H enc _ => lifted_FnExactAddNet os started H enc)
#print axioms fnExactAddNet_holds
end Go.Proofs.YtnfllchbpechlaaGreat
