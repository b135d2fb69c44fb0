import Derived.Test.YtfponeljjihkbaaRows
import Derived.Test.YtfponeljjihkbaaFun2
import Derived.Test.YtfponeljjihkbaaBase
import Derived.Test.YtfponeljjihkbaaFacts
import Derived.WalkKit
import Derived.ProofKit
import Derived.OpenShut
import Derived.ShutString
import Derived.ChangeOld
import Derived.Below
import Derived.SizedLaws
/- FnExactAllowed answers true for every input, and its arguments read behind the call as they did ahead of it. Conditions: none. -/
set_option linter.unusedVariables false
namespace Go.Proofs.Ytfponeljjihkbaa
open Go Go.Eng Go.Proofs
abbrev pars_FnExactAllowed : List Par := [(true, (.pair (.pair (.pair (.int .i64) (.int .i64)) (.pair (.list (.pair (.int .i64) (.pair (.int .i64) (.int .i64)))) (.list (.pair (.int .i64) (.int .i64))))) (.pair (.list (.pair (.pair (.int .i64) (.int .i64)) (.int .i64))) (.list (.pair (.int .i64) (.pair (.int .i64) (.pair (.pair (.pair (.int .i64) (.pair .str (.pair .str (.pair (.int .i64) (.pair (.list (.int .i64)) (.int .i64)))))) (.pair (.int .i64) (.pair .str (.pair .str (.pair (.int .i64) (.pair (.list (.int .i64)) (.int .i64))))))) (.pair (.list (.pair (.int .i64) (.pair (.int .i64) (.pair (.int .i64) (.pair (.list .str) (.pair (.list .bool) (.int .i64))))))) (.int .i64))))))))), (false, (.int .i64)), (true, (.pair (.int .i64) (.pair (.int .i64) .str)))]
theorem l01In_is (k : Nat) (a b c : Int) : s_l01In k (a, (b, (c, ()))) = some (decide (b ≤ a ∧ a ≤ c), ((), ((), ((), ())))) := by
  unfold s_l01In
  by_cases h : b ≤ a <;> simp [h]
theorem within_is (k : Nat) (a b c : Int) : i_within k (a, (b, (c, ()))) = some (decide (b ≤ a ∧ a ≤ c), ((), ((), ((), ())))) := l01In_is k a b c
theorem s_AddrOk_is (k : Nat) (a : Int) : s_AddrOk k (a, ()) = some (decide (0 ≤ a ∧ a ≤ 4294967295), ((), ())) := by
  unfold s_AddrOk
  rw [l01In_is]
  rfl
theorem i_AddrOk_is (k : Nat) (a : Int) : i_AddrOk k (a, ()) = some (decide (0 ≤ a ∧ a ≤ 4294967295), ((), ())) := s_AddrOk_is k a
theorem pow_cast (n : Nat) : ((2 ^ n : Nat) : Int) = (2 : Int) ^ n := by simp
theorem l08Size_is (k : Nat) (n : Int) (h : 0 ≤ n ∧ n ≤ 32) (hk : 40 < k) : s_l08Size k (n, ()) = some ((2 : Int) ^ (32 - n.toNat), ((), ())) := by
  unfold s_l08Size
  rw [whileK_run (fun y => 32 - y.2.1.toNat) (fun y => 0 ≤ y.2.1 ∧ y.2.1 ≤ 32 ∧ 0 ≤ y.1 ∧ y.1 * 2 ^ (32 - y.2.1.toNat) ≤ 4294967296) (fun y => (y.1 * 2 ^ (32 - y.2.1.toNat), ((), ()))) ?_ k]
  · simp
  · refine ⟨h.1, h.2, by simp, ?_⟩
    show (1 : Int) * 2 ^ (32 - n.toNat) ≤ 4294967296
    have : (2 : Nat) ^ (32 - n.toNat) ≤ 2 ^ 32 := Nat.pow_le_pow_right (by decide) (by omega)
    have : ((2 ^ (32 - n.toNat) : Nat) : Int) ≤ ((2 ^ 32 : Nat) : Int) := Int.ofNat_le.2 this
    rw [Int.one_mul, ← pow_cast]
    exact this
  · show 32 - n.toNat < k
    omega
  · rintro ⟨a, i, u⟩ ⟨h1, h2, h3, h4⟩ again hg
    simp only at h1 h2 h3 h4
    by_cases hi : i < 32
    · have e : 32 - i.toNat = (32 - (i + 1).toNat) + 1 := by omega
      rw [e, Int.pow_succ] at h4
      have hp : (1 : Int) ≤ 2 ^ (32 - (i + 1).toNat) := by
        have : 0 < (2 : Nat) ^ (32 - (i + 1).toNat) := Nat.two_pow_pos _
        rw [← pow_cast]
        omega
      have ha : a ≤ a * 2 ^ (32 - (i + 1).toNat) := by
        have := Int.mul_le_mul_of_nonneg_left hp h3
        omega
      have h4' : a * 2 ^ (32 - (i + 1).toNat) * 2 ≤ 4294967296 := by rw [Int.mul_assoc]; exact h4
      have w1 : wi64 (2 * a) = 2 * a := w64_id _ (by omega)
      have w2 : wi64 (i + 1) = i + 1 := w64_id _ (by omega)
      have := hg (2 * a, (i + 1, ())) ⟨by simp only; omega, by simp only; omega, by simp only; omega, by
        show 2 * a * 2 ^ (32 - (i + 1).toNat) ≤ _
        rw [Int.mul_assoc, Int.mul_comm]
        exact h4'⟩ (by simp only; omega)
      simp only [hi, decide_true, if_true, w1, w2, this]
      rw [e, Int.pow_succ]
      congr 2
      rw [Int.mul_comm 2 a, Int.mul_assoc, Int.mul_comm 2]
    · have : i = 32 := by omega
      subst this
      simp
theorem lastBits_is (k : Nat) (n : Int) (h : 0 ≤ n ∧ n ≤ 32) : i_lastBits k (n, ()) = some ((2 : Int) ^ (32 - n.toNat) - 1, ((), ())) := by
  unfold i_lastBits
  have w : wi64 (32 - n) = 32 - n := w64_id _ (by omega)
  have hp : (2 : Nat) ^ (32 - n.toNat) ≤ 2 ^ 32 := Nat.pow_le_pow_right (by decide) (by omega)
  have hp : ((2 ^ (32 - n.toNat) : Nat) : Int) ≤ ((2 ^ 32 : Nat) : Int) := Int.ofNat_le.2 hp
  have h32 : ((2 ^ 32 : Nat) : Int) = 4294967296 := rfl
  have h0 : 0 < (2 : Nat) ^ (32 - n.toNat) := Nat.two_pow_pos _
  have h0 : (1 : Int) ≤ ((2 ^ (32 - n.toNat) : Nat) : Int) := by omega
  have e : (min (Int.toNat (32 - n)) (IntKind.bits .i64)) = 32 - n.toNat := by show min (Int.toNat (32 - n)) 64 = _; omega
  rw [pow_cast] at hp h0
  simp only [w, e]
  rw [if_neg (by omega), Int.one_mul]
  have w2 : wi64 ((2 : Int) ^ (32 - n.toNat)) = (2 : Int) ^ (32 - n.toNat) := w64_id _ (by omega)
  rw [w2]
  have w3 : wi64 ((2 : Int) ^ (32 - n.toNat) - 1) = (2 : Int) ^ (32 - n.toNat) - 1 := w64_id _ (by omega)
  rw [w3]
theorem s_PrefixOk_is (k : Nat) (a n : Int) (hk : 40 < k) : s_PrefixOk k ((a, (n, ())), ()) = some (decide ((0 ≤ a ∧ a ≤ 4294967295) ∧ (0 ≤ n ∧ n ≤ 32) ∧ a % 2 ^ (32 - n.toNat) = 0), ((), ())) := by
  unfold s_PrefixOk
  simp only [s_AddrOk_is, l01In_is, Option.bind_some]
  by_cases h : 0 ≤ a ∧ a ≤ 4294967295
  · by_cases h' : 0 ≤ n ∧ n ≤ 32
    · simp only [l08Size_is k n h' hk, Option.bind_some]
      have h0 : ¬ (2 : Int) ^ (32 - n.toNat) = 0 := by
        have h0 : 0 < (2 : Nat) ^ (32 - n.toNat) := Nat.two_pow_pos _
        rw [← pow_cast]
        omega
      rw [if_neg h0, Int.tmod_eq_emod_of_nonneg h.1]
      simp [h, h']
    · simp [h, h']
  · simp [h]
theorem i_PrefixOk_is (k : Nat) (a n : Int) : i_PrefixOk k ((a, (n, ())), ()) = some (decide ((0 ≤ a ∧ a ≤ 4294967295) ∧ (0 ≤ n ∧ n ≤ 32) ∧ a % 2 ^ (32 - n.toNat) = 0), ((), ())) := by
  unfold i_PrefixOk
  simp only [i_AddrOk_is, within_is, Option.bind_some]
  by_cases h : 0 ≤ a ∧ a ≤ 4294967295
  · by_cases h' : 0 ≤ n ∧ n ≤ 32
    · simp only [lastBits_is k n h', Option.bind_some]
      rw [and_mask _ (by omega) a h.1 (by omega)]
      simp [h, h']
    · simp [h, h']
  · simp [h]
abbrev RT_Lease : Ty := (.pair (.int .i64) (.pair (.int .i64) (.int .i64)))
def ag_Lease (r : RT_Lease.den) : Int × Int × Int × Unit := (r.1, (r.2.1, (r.2.2, ())))
theorem ag_Lease_inj (r r' : RT_Lease.den) : (ag_Lease r = ag_Lease r') ↔ r = r' := by
  constructor
  · intro h
    obtain ⟨x0, ⟨x1, x2⟩⟩ := r
    obtain ⟨y0, ⟨y1, y2⟩⟩ := r'
    simp only [ag_Lease, Prod.mk.injEq, and_true] at h
    simp only [Prod.mk.injEq]
    simp_all
  · intro h
    rw [h]
def Wf_Lease (x : Int × Int × Int × Unit) : Prop := True
def Bd_Lease (x : Int × Int × Int × Unit) : Prop := True
def Wf_LeaseS (a : List (Int × Int × Int)) : Prop := a.length ≤ 9223372036854775807 ∧ ∀ r ∈ a, Wf_Lease (ag_Lease r)
def Bd_LeaseS (a : List (Int × Int × Int)) : Prop := a.length ≤ 1048576 ∧ ∀ r ∈ a, Bd_Lease (ag_Lease r)
abbrev RT_Fixed : Ty := (.pair (.int .i64) (.int .i64))
def ag_Fixed (r : RT_Fixed.den) : Int × Int × Unit := (r.1, (r.2, ()))
theorem ag_Fixed_inj (r r' : RT_Fixed.den) : (ag_Fixed r = ag_Fixed r') ↔ r = r' := by
  constructor
  · intro h
    obtain ⟨x0, x1⟩ := r
    obtain ⟨y0, y1⟩ := r'
    simp only [ag_Fixed, Prod.mk.injEq, and_true] at h
    simp only [Prod.mk.injEq]
    simp_all
  · intro h
    rw [h]
def Wf_Fixed (x : Int × Int × Unit) : Prop := True
def Bd_Fixed (x : Int × Int × Unit) : Prop := True
def Wf_FixedS (a : List (Int × Int)) : Prop := a.length ≤ 9223372036854775807 ∧ ∀ r ∈ a, Wf_Fixed (ag_Fixed r)
def Bd_FixedS (a : List (Int × Int)) : Prop := a.length ≤ 1048576 ∧ ∀ r ∈ a, Bd_Fixed (ag_Fixed r)
abbrev RT_Route : Ty := (.pair (.pair (.int .i64) (.int .i64)) (.int .i64))
def ag_Route (r : RT_Route.den) : Int × Int × Int × Unit := (r.1.1, (r.1.2, (r.2, ())))
theorem ag_Route_inj (r r' : RT_Route.den) : (ag_Route r = ag_Route r') ↔ r = r' := by
  constructor
  · intro h
    obtain ⟨⟨x0, x1⟩, x2⟩ := r
    obtain ⟨⟨y0, y1⟩, y2⟩ := r'
    simp only [ag_Route, Prod.mk.injEq, and_true] at h
    simp only [Prod.mk.injEq]
    simp_all
  · intro h
    rw [h]
def Wf_Route (x : Int × Int × Int × Unit) : Prop := True
def Bd_Route (x : Int × Int × Int × Unit) : Prop := True
def Wf_RouteS (a : List ((Int × Int) × Int)) : Prop := a.length ≤ 9223372036854775807 ∧ ∀ r ∈ a, Wf_Route (ag_Route r)
def Bd_RouteS (a : List ((Int × Int) × Int)) : Prop := a.length ≤ 1048576 ∧ ∀ r ∈ a, Bd_Route (ag_Route r)
abbrev RT_User : Ty := (.pair (.int .i64) (.pair (.int .i64) (.pair (.pair (.pair (.int .i64) (.pair .str (.pair .str (.pair (.int .i64) (.pair (.list (.int .i64)) (.int .i64)))))) (.pair (.int .i64) (.pair .str (.pair .str (.pair (.int .i64) (.pair (.list (.int .i64)) (.int .i64))))))) (.pair (.list (.pair (.int .i64) (.pair (.int .i64) (.pair (.int .i64) (.pair (.list .str) (.pair (.list .bool) (.int .i64))))))) (.int .i64)))))
def ag_User (r : RT_User.den) : Int × Int × Int × ByteArray × ByteArray × Int × List (Int) × Int × Int × ByteArray × ByteArray × Int × List (Int) × Int × (List (Int × Int × Int × List (ByteArray) × List (Bool) × Int)) × Int × Unit := (r.1, (r.2.1, (r.2.2.1.1.1, (r.2.2.1.1.2.1, (r.2.2.1.1.2.2.1, (r.2.2.1.1.2.2.2.1, (r.2.2.1.1.2.2.2.2.1, (r.2.2.1.1.2.2.2.2.2, (r.2.2.1.2.1, (r.2.2.1.2.2.1, (r.2.2.1.2.2.2.1, (r.2.2.1.2.2.2.2.1, (r.2.2.1.2.2.2.2.2.1, (r.2.2.1.2.2.2.2.2.2, (r.2.2.2.1, (r.2.2.2.2, ()))))))))))))))))
theorem ag_User_inj (r r' : RT_User.den) : (ag_User r = ag_User r') ↔ r = r' := by
  constructor
  · intro h
    obtain ⟨x0, ⟨x1, ⟨⟨⟨x2, ⟨x3, ⟨x4, ⟨x5, ⟨x6, x7⟩⟩⟩⟩⟩, ⟨x8, ⟨x9, ⟨x10, ⟨x11, ⟨x12, x13⟩⟩⟩⟩⟩⟩, ⟨x14, x15⟩⟩⟩⟩ := r
    obtain ⟨y0, ⟨y1, ⟨⟨⟨y2, ⟨y3, ⟨y4, ⟨y5, ⟨y6, y7⟩⟩⟩⟩⟩, ⟨y8, ⟨y9, ⟨y10, ⟨y11, ⟨y12, y13⟩⟩⟩⟩⟩⟩, ⟨y14, y15⟩⟩⟩⟩ := r'
    simp only [ag_User, Prod.mk.injEq, and_true] at h
    simp only [Prod.mk.injEq]
    simp_all
  · intro h
    rw [h]
def Wf_IntS (a : List (Int)) : Prop := a.length ≤ 9223372036854775807
def Bd_IntS (a : List (Int)) : Prop := a.length ≤ 1048576
abbrev RT_Held : Ty := (.pair (.int .i64) (.pair (.int .i64) (.pair (.int .i64) (.pair (.list .str) (.pair (.list .bool) (.int .i64))))))
def ag_Held (r : RT_Held.den) : Int × Int × Int × List (ByteArray) × List (Bool) × Int × Unit := (r.1, (r.2.1, (r.2.2.1, (r.2.2.2.1, (r.2.2.2.2.1, (r.2.2.2.2.2, ()))))))
theorem ag_Held_inj (r r' : RT_Held.den) : (ag_Held r = ag_Held r') ↔ r = r' := by
  constructor
  · intro h
    obtain ⟨x0, ⟨x1, ⟨x2, ⟨x3, ⟨x4, x5⟩⟩⟩⟩⟩ := r
    obtain ⟨y0, ⟨y1, ⟨y2, ⟨y3, ⟨y4, y5⟩⟩⟩⟩⟩ := r'
    simp only [ag_Held, Prod.mk.injEq, and_true] at h
    simp only [Prod.mk.injEq]
    simp_all
  · intro h
    rw [h]
def Wf_StringS (a : List (ByteArray)) : Prop := a.length ≤ 9223372036854775807 ∧ ∀ r ∈ a, ByteArray.size r ≤ 9223372036854775807
def Bd_StringS (a : List (ByteArray)) : Prop := a.length ≤ 1048576
def Wf_BoolS (a : List (Bool)) : Prop := a.length ≤ 9223372036854775807
def Bd_BoolS (a : List (Bool)) : Prop := a.length ≤ 1048576
def Wf_Held (x : Int × Int × Int × List (ByteArray) × List (Bool) × Int × Unit) : Prop := Wf_StringS x.2.2.2.1 ∧ Wf_BoolS x.2.2.2.2.1 ∧ True
def Bd_Held (x : Int × Int × Int × List (ByteArray) × List (Bool) × Int × Unit) : Prop := Bd_StringS x.2.2.2.1 ∧ Bd_BoolS x.2.2.2.2.1 ∧ True
def Wf_HeldS (a : List (Int × Int × Int × List (ByteArray) × List (Bool) × Int)) : Prop := a.length ≤ 9223372036854775807 ∧ ∀ r ∈ a, Wf_Held (ag_Held r)
def Bd_HeldS (a : List (Int × Int × Int × List (ByteArray) × List (Bool) × Int)) : Prop := a.length ≤ 1048576 ∧ ∀ r ∈ a, Bd_Held (ag_Held r)
def Wf_User (x : Int × Int × Int × ByteArray × ByteArray × Int × List (Int) × Int × Int × ByteArray × ByteArray × Int × List (Int) × Int × (List (Int × Int × Int × List (ByteArray) × List (Bool) × Int)) × Int × Unit) : Prop := ByteArray.size x.2.2.2.1 ≤ 9223372036854775807 ∧ ByteArray.size x.2.2.2.2.1 ≤ 9223372036854775807 ∧ Wf_IntS x.2.2.2.2.2.2.1 ∧ ByteArray.size x.2.2.2.2.2.2.2.2.2.1 ≤ 9223372036854775807 ∧ ByteArray.size x.2.2.2.2.2.2.2.2.2.2.1 ≤ 9223372036854775807 ∧ Wf_IntS x.2.2.2.2.2.2.2.2.2.2.2.2.1 ∧ Wf_HeldS x.2.2.2.2.2.2.2.2.2.2.2.2.2.2.1 ∧ True
def Bd_User (x : Int × Int × Int × ByteArray × ByteArray × Int × List (Int) × Int × Int × ByteArray × ByteArray × Int × List (Int) × Int × (List (Int × Int × Int × List (ByteArray) × List (Bool) × Int)) × Int × Unit) : Prop := ByteArray.size x.2.2.2.1 ≤ 1048576 ∧ ByteArray.size x.2.2.2.2.1 ≤ 1048576 ∧ Bd_IntS x.2.2.2.2.2.2.1 ∧ ByteArray.size x.2.2.2.2.2.2.2.2.2.1 ≤ 1048576 ∧ ByteArray.size x.2.2.2.2.2.2.2.2.2.2.1 ≤ 1048576 ∧ Bd_IntS x.2.2.2.2.2.2.2.2.2.2.2.2.1 ∧ Bd_HeldS x.2.2.2.2.2.2.2.2.2.2.2.2.2.2.1 ∧ True
def Wf_UserS (a : List (Int × Int × ((Int × ByteArray × ByteArray × Int × List (Int) × Int) × Int × ByteArray × ByteArray × Int × List (Int) × Int) × List (Int × Int × Int × List (ByteArray) × List (Bool) × Int) × Int)) : Prop := a.length ≤ 9223372036854775807 ∧ ∀ r ∈ a, Wf_User (ag_User r)
def Bd_UserS (a : List (Int × Int × ((Int × ByteArray × ByteArray × Int × List (Int) × Int) × Int × ByteArray × ByteArray × Int × List (Int) × Int) × List (Int × Int × Int × List (ByteArray) × List (Bool) × Int) × Int)) : Prop := a.length ≤ 1048576 ∧ ∀ r ∈ a, Bd_User (ag_User r)
def Wf_Hub (x : Int × Int × (List (Int × Int × Int)) × (List (Int × Int)) × (List ((Int × Int) × Int)) × (List (Int × Int × ((Int × ByteArray × ByteArray × Int × List (Int) × Int) × Int × ByteArray × ByteArray × Int × List (Int) × Int) × List (Int × Int × Int × List (ByteArray) × List (Bool) × Int) × Int)) × Unit) : Prop := Wf_LeaseS x.2.2.1 ∧ Wf_FixedS x.2.2.2.1 ∧ Wf_RouteS x.2.2.2.2.1 ∧ Wf_UserS x.2.2.2.2.2.1 ∧ True
def Bd_Hub (x : Int × Int × (List (Int × Int × Int)) × (List (Int × Int)) × (List ((Int × Int) × Int)) × (List (Int × Int × ((Int × ByteArray × ByteArray × Int × List (Int) × Int) × Int × ByteArray × ByteArray × Int × List (Int) × Int) × List (Int × Int × Int × List (ByteArray) × List (Bool) × Int) × Int)) × Unit) : Prop := Bd_LeaseS x.2.2.1 ∧ Bd_FixedS x.2.2.2.1 ∧ Bd_RouteS x.2.2.2.2.1 ∧ Bd_UserS x.2.2.2.2.2.1 ∧ True
def Wf_Pool (x : Int × Int × (List (Int × Int × Int)) × (List (Int × Int)) × Unit) : Prop := Wf_LeaseS x.2.2.1 ∧ Wf_FixedS x.2.2.2.1 ∧ True
def Bd_Pool (x : Int × Int × (List (Int × Int × Int)) × (List (Int × Int)) × Unit) : Prop := Bd_LeaseS x.2.2.1 ∧ Bd_FixedS x.2.2.2.1 ∧ True
theorem szLeaseS_le (k : Nat) (a : List (Int × Int × Int)) (n : Int) (h : 0 ≤ n ∧ n ≤ 1048576) (hk : 1048576 < k) (hw : Wf_LeaseS a) : ∃ m : Int, w_szLeaseS k (a, (n, ())) = some (m, ((), ((), ()))) ∧ (0 ≤ m → m ≤ n ∧ Bd_LeaseS a) := by
  unfold w_szLeaseS
  have hl : a.length ≤ 9223372036854775807 := hw.1
  have e : wi64 (n - (List.length a : Int)) = n - (List.length a : Int) := w64_id _ (by omega)
  simp only [e]
  by_cases hc : n - (List.length a : Int) < 0
  · simp only [hc, decide_true, if_true]
    exact ⟨_, rfl, fun h => by omega⟩
  · simp only [hc, decide_false, Bool.false_eq_true, if_false]
    exact ⟨_, rfl, fun _ => ⟨by omega, ⟨by omega, fun r _ => by unfold Bd_Lease; simp⟩⟩⟩
theorem szFixedS_le (k : Nat) (a : List (Int × Int)) (n : Int) (h : 0 ≤ n ∧ n ≤ 1048576) (hk : 1048576 < k) (hw : Wf_FixedS a) : ∃ m : Int, w_szFixedS k (a, (n, ())) = some (m, ((), ((), ()))) ∧ (0 ≤ m → m ≤ n ∧ Bd_FixedS a) := by
  unfold w_szFixedS
  have hl : a.length ≤ 9223372036854775807 := hw.1
  have e : wi64 (n - (List.length a : Int)) = n - (List.length a : Int) := w64_id _ (by omega)
  simp only [e]
  by_cases hc : n - (List.length a : Int) < 0
  · simp only [hc, decide_true, if_true]
    exact ⟨_, rfl, fun h => by omega⟩
  · simp only [hc, decide_false, Bool.false_eq_true, if_false]
    exact ⟨_, rfl, fun _ => ⟨by omega, ⟨by omega, fun r _ => by unfold Bd_Fixed; simp⟩⟩⟩
theorem szPool_le (k : Nat) (x : Int × Int × (List (Int × Int × Int)) × (List (Int × Int)) × Unit) (n : Int) (h : 0 ≤ n ∧ n ≤ 1048576) (hk : 1048576 < k) (hw : Wf_Pool x) : ∃ m : Int, w_szPool k (x, (n, ())) = some (m, ((), ((), ()))) ∧ (0 ≤ m → m ≤ n ∧ Bd_Pool x) := by
  obtain ⟨a0, a1, a2, a3, u⟩ := x
  unfold w_szPool
  unfold Wf_Pool at hw
  unfold Bd_Pool
  simp only [] at hw ⊢
  obtain ⟨w2, w3, _⟩ := hw
  obtain ⟨m0, e0, b0⟩ := szLeaseS_le k a2 n ⟨by omega, by omega⟩ hk w2
  simp only [e0, Option.bind_some]
  by_cases c0 : m0 < 0
  · simp only [c0, decide_true, if_true]
    exact ⟨_, rfl, fun h => by omega⟩
  have d0 := b0 (by omega)
  simp only [c0, decide_false, Bool.false_eq_true, if_false]
  obtain ⟨m1, e1, b1⟩ := szFixedS_le k a3 m0 ⟨by omega, by omega⟩ hk w3
  simp only [e1, Option.bind_some]
  by_cases c1 : m1 < 0
  · simp only [c1, decide_true, if_true]
    exact ⟨_, rfl, fun h => by omega⟩
  have d1 := b1 (by omega)
  simp only [c1, decide_false, Bool.false_eq_true, if_false]
  exact ⟨_, rfl, fun _ => ⟨by omega, ⟨d0.2, d1.2, trivial⟩⟩⟩
theorem szRouteS_le (k : Nat) (a : List ((Int × Int) × Int)) (n : Int) (h : 0 ≤ n ∧ n ≤ 1048576) (hk : 1048576 < k) (hw : Wf_RouteS a) : ∃ m : Int, w_szRouteS k (a, (n, ())) = some (m, ((), ((), ()))) ∧ (0 ≤ m → m ≤ n ∧ Bd_RouteS a) := by
  unfold w_szRouteS
  have hl : a.length ≤ 9223372036854775807 := hw.1
  have e : wi64 (n - (List.length a : Int)) = n - (List.length a : Int) := w64_id _ (by omega)
  simp only [e]
  by_cases hc : n - (List.length a : Int) < 0
  · simp only [hc, decide_true, if_true]
    exact ⟨_, rfl, fun h => by omega⟩
  · simp only [hc, decide_false, Bool.false_eq_true, if_false]
    exact ⟨_, rfl, fun _ => ⟨by omega, ⟨by omega, fun r _ => by unfold Bd_Route; simp⟩⟩⟩
def Wf_Slots (x : Int × ByteArray × ByteArray × Int × List (Int) × Int × Int × ByteArray × ByteArray × Int × List (Int) × Int × Unit) : Prop := ByteArray.size x.2.1 ≤ 9223372036854775807 ∧ ByteArray.size x.2.2.1 ≤ 9223372036854775807 ∧ Wf_IntS x.2.2.2.2.1 ∧ ByteArray.size x.2.2.2.2.2.2.2.1 ≤ 9223372036854775807 ∧ ByteArray.size x.2.2.2.2.2.2.2.2.1 ≤ 9223372036854775807 ∧ Wf_IntS x.2.2.2.2.2.2.2.2.2.2.1 ∧ True
def Bd_Slots (x : Int × ByteArray × ByteArray × Int × List (Int) × Int × Int × ByteArray × ByteArray × Int × List (Int) × Int × Unit) : Prop := ByteArray.size x.2.1 ≤ 1048576 ∧ ByteArray.size x.2.2.1 ≤ 1048576 ∧ Bd_IntS x.2.2.2.2.1 ∧ ByteArray.size x.2.2.2.2.2.2.2.1 ≤ 1048576 ∧ ByteArray.size x.2.2.2.2.2.2.2.2.1 ≤ 1048576 ∧ Bd_IntS x.2.2.2.2.2.2.2.2.2.2.1 ∧ True
def Wf_Slot (x : Int × ByteArray × ByteArray × Int × List (Int) × Int × Unit) : Prop := ByteArray.size x.2.1 ≤ 9223372036854775807 ∧ ByteArray.size x.2.2.1 ≤ 9223372036854775807 ∧ Wf_IntS x.2.2.2.2.1 ∧ True
def Bd_Slot (x : Int × ByteArray × ByteArray × Int × List (Int) × Int × Unit) : Prop := ByteArray.size x.2.1 ≤ 1048576 ∧ ByteArray.size x.2.2.1 ≤ 1048576 ∧ Bd_IntS x.2.2.2.2.1 ∧ True
theorem szIntS_le (k : Nat) (a : List (Int)) (n : Int) (h : 0 ≤ n ∧ n ≤ 1048576) (hk : 1048576 < k) (hw : Wf_IntS a) : ∃ m : Int, w_szIntS k (a, (n, ())) = some (m, ((), ((), ()))) ∧ (0 ≤ m → m ≤ n ∧ Bd_IntS a) := by
  unfold w_szIntS
  have hl : a.length ≤ 9223372036854775807 := hw
  have e : wi64 (n - (List.length a : Int)) = n - (List.length a : Int) := w64_id _ (by omega)
  simp only [e]
  by_cases hc : n - (List.length a : Int) < 0
  · simp only [hc, decide_true, if_true]
    exact ⟨_, rfl, fun h => by omega⟩
  · simp only [hc, decide_false, Bool.false_eq_true, if_false]
    exact ⟨_, rfl, fun _ => ⟨by omega, by show a.length ≤ 1048576; omega⟩⟩
theorem szSlot_le (k : Nat) (x : Int × ByteArray × ByteArray × Int × List (Int) × Int × Unit) (n : Int) (h : 0 ≤ n ∧ n ≤ 1048576) (hk : 1048576 < k) (hw : Wf_Slot x) : ∃ m : Int, w_szSlot k (x, (n, ())) = some (m, ((), ((), ()))) ∧ (0 ≤ m → m ≤ n ∧ Bd_Slot x) := by
  obtain ⟨a0, a1, a2, a3, a4, a5, u⟩ := x
  unfold w_szSlot
  unfold Wf_Slot at hw
  unfold Bd_Slot
  simp only [] at hw ⊢
  obtain ⟨w1, w2, w4, _⟩ := hw
  have e0 : wi64 (n - (ByteArray.size a1 : Int)) = n - (ByteArray.size a1 : Int) := w64_id _ (by omega)
  simp only [e0]
  by_cases c0 : (n - (ByteArray.size a1 : Int)) < 0
  · simp only [c0, decide_true, if_true]
    exact ⟨_, rfl, fun h => by omega⟩
  simp only [c0, decide_false, Bool.false_eq_true, if_false]
  have e1 : wi64 ((n - (ByteArray.size a1 : Int)) - (ByteArray.size a2 : Int)) = (n - (ByteArray.size a1 : Int)) - (ByteArray.size a2 : Int) := w64_id _ (by omega)
  simp only [e1]
  by_cases c1 : ((n - (ByteArray.size a1 : Int)) - (ByteArray.size a2 : Int)) < 0
  · simp only [c1, decide_true, if_true]
    exact ⟨_, rfl, fun h => by omega⟩
  simp only [c1, decide_false, Bool.false_eq_true, if_false]
  obtain ⟨m2, e2, b2⟩ := szIntS_le k a4 ((n - (ByteArray.size a1 : Int)) - (ByteArray.size a2 : Int)) ⟨by omega, by omega⟩ hk w4
  simp only [e2, Option.bind_some]
  by_cases c2 : m2 < 0
  · simp only [c2, decide_true, if_true]
    exact ⟨_, rfl, fun h => by omega⟩
  have d2 := b2 (by omega)
  simp only [c2, decide_false, Bool.false_eq_true, if_false]
  exact ⟨_, rfl, fun _ => ⟨by omega, ⟨by omega, by omega, d2.2, trivial⟩⟩⟩
theorem szSlots_le (k : Nat) (x : Int × ByteArray × ByteArray × Int × List (Int) × Int × Int × ByteArray × ByteArray × Int × List (Int) × Int × Unit) (n : Int) (h : 0 ≤ n ∧ n ≤ 1048576) (hk : 1048576 < k) (hw : Wf_Slots x) : ∃ m : Int, w_szSlots k (x, (n, ())) = some (m, ((), ((), ()))) ∧ (0 ≤ m → m ≤ n ∧ Bd_Slots x) := by
  obtain ⟨a0, a1, a2, a3, a4, a5, a6, a7, a8, a9, a10, a11, u⟩ := x
  unfold w_szSlots
  unfold Wf_Slots at hw
  unfold Bd_Slots
  simp only [] at hw ⊢
  obtain ⟨w1, w2, w4, w7, w8, w10, _⟩ := hw
  obtain ⟨m0, e0, b0⟩ := szSlot_le k (a0, (a1, (a2, (a3, (a4, (a5, ())))))) n ⟨by omega, by omega⟩ hk ⟨w1, w2, w4, trivial⟩
  simp only [e0, Option.bind_some]
  by_cases c0 : m0 < 0
  · simp only [c0, decide_true, if_true]
    exact ⟨_, rfl, fun h => by omega⟩
  have d0 := b0 (by omega)
  simp only [c0, decide_false, Bool.false_eq_true, if_false]
  obtain ⟨m1, e1, b1⟩ := szSlot_le k (a6, (a7, (a8, (a9, (a10, (a11, ())))))) m0 ⟨by omega, by omega⟩ hk ⟨w7, w8, w10, trivial⟩
  simp only [e1, Option.bind_some]
  by_cases c1 : m1 < 0
  · simp only [c1, decide_true, if_true]
    exact ⟨_, rfl, fun h => by omega⟩
  have d1 := b1 (by omega)
  simp only [c1, decide_false, Bool.false_eq_true, if_false]
  exact ⟨_, rfl, fun _ => ⟨by omega, ⟨d0.2.1, d0.2.2.1, d0.2.2.2.1, d1.2.1, d1.2.2.1, d1.2.2.2.1, trivial⟩⟩⟩
def Wf_Shelf (x : (List (Int × Int × Int × List (ByteArray) × List (Bool) × Int)) × Unit) : Prop := Wf_HeldS x.1 ∧ True
def Bd_Shelf (x : (List (Int × Int × Int × List (ByteArray) × List (Bool) × Int)) × Unit) : Prop := Bd_HeldS x.1 ∧ True
theorem szStringS_le (k : Nat) (a : List (ByteArray)) (n : Int) (h : 0 ≤ n ∧ n ≤ 1048576) (hk : 1048576 < k) (hw : Wf_StringS a) : ∃ m : Int, w_szStringS k (a, (n, ())) = some (m, ((), ((), ()))) ∧ (0 ≤ m → m ≤ n ∧ Bd_StringS a) := by
  unfold w_szStringS
  have hl : a.length ≤ 9223372036854775807 := hw.1
  have e : wi64 (n - (List.length a : Int)) = n - (List.length a : Int) := w64_id _ (by omega)
  simp only [e]
  by_cases hc : n - (List.length a : Int) < 0
  · simp only [hc, decide_true, if_true]
    exact ⟨_, rfl, fun h => by omega⟩
  · simp only [hc, decide_false, Bool.false_eq_true, if_false]
    refine (loop_sz (t := .str) a (fun m => (m, ((), ((), ())))) (fun _ => True) ?_ ?_ (n - a.length) (by omega) (by omega) k (by omega)).imp fun m hm => ⟨hm.1, fun h0 => ⟨by have := (hm.2 h0).1; omega, by show a.length ≤ 1048576; omega⟩⟩
    · intro again n' i hn0 hn1 hi hl'
      have w : wi64 (i + 1) = i + 1 := w64_id _ (by omega)
      have hr := rd_get (t := .str) a i (by omega)
      have hs : ByteArray.size (Ty.rd (t := .str) a i) ≤ 9223372036854775807 := by rw [hr]; exact hw.2 _ (List.getElem_mem _)
      have w2 : wi64 (n' - (ByteArray.size (Ty.rd (t := .str) a i) : Int)) = n' - (ByteArray.size (Ty.rd (t := .str) a i) : Int) := w64_id _ (by omega)
      refine ⟨n' - (ByteArray.size (Ty.rd (t := .str) a i) : Int), fun hm => ⟨by omega, trivial⟩, ?_⟩
      simp only [hl', hi, w2, w, decide_true, and_self, if_true, decide_eq_true_eq]
    · intro again n' i hi
      have : ¬ i < (a.length : Int) := by omega
      simp [this]
theorem szBoolS_le (k : Nat) (a : List (Bool)) (n : Int) (h : 0 ≤ n ∧ n ≤ 1048576) (hk : 1048576 < k) (hw : Wf_BoolS a) : ∃ m : Int, w_szBoolS k (a, (n, ())) = some (m, ((), ((), ()))) ∧ (0 ≤ m → m ≤ n ∧ Bd_BoolS a) := by
  unfold w_szBoolS
  have hl : a.length ≤ 9223372036854775807 := hw
  have e : wi64 (n - (List.length a : Int)) = n - (List.length a : Int) := w64_id _ (by omega)
  simp only [e]
  by_cases hc : n - (List.length a : Int) < 0
  · simp only [hc, decide_true, if_true]
    exact ⟨_, rfl, fun h => by omega⟩
  · simp only [hc, decide_false, Bool.false_eq_true, if_false]
    exact ⟨_, rfl, fun _ => ⟨by omega, by show a.length ≤ 1048576; omega⟩⟩
theorem szHeld_le (k : Nat) (x : Int × Int × Int × List (ByteArray) × List (Bool) × Int × Unit) (n : Int) (h : 0 ≤ n ∧ n ≤ 1048576) (hk : 1048576 < k) (hw : Wf_Held x) : ∃ m : Int, w_szHeld k (x, (n, ())) = some (m, ((), ((), ()))) ∧ (0 ≤ m → m ≤ n ∧ Bd_Held x) := by
  obtain ⟨a0, a1, a2, a3, a4, a5, u⟩ := x
  unfold w_szHeld
  unfold Wf_Held at hw
  unfold Bd_Held
  simp only [] at hw ⊢
  obtain ⟨w3, w4, _⟩ := hw
  obtain ⟨m0, e0, b0⟩ := szStringS_le k a3 n ⟨by omega, by omega⟩ hk w3
  simp only [e0, Option.bind_some]
  by_cases c0 : m0 < 0
  · simp only [c0, decide_true, if_true]
    exact ⟨_, rfl, fun h => by omega⟩
  have d0 := b0 (by omega)
  simp only [c0, decide_false, Bool.false_eq_true, if_false]
  obtain ⟨m1, e1, b1⟩ := szBoolS_le k a4 m0 ⟨by omega, by omega⟩ hk w4
  simp only [e1, Option.bind_some]
  by_cases c1 : m1 < 0
  · simp only [c1, decide_true, if_true]
    exact ⟨_, rfl, fun h => by omega⟩
  have d1 := b1 (by omega)
  simp only [c1, decide_false, Bool.false_eq_true, if_false]
  exact ⟨_, rfl, fun _ => ⟨by omega, ⟨d0.2, d1.2, trivial⟩⟩⟩
theorem szHeldS_le (k : Nat) (a : List (Int × Int × Int × List (ByteArray) × List (Bool) × Int)) (n : Int) (h : 0 ≤ n ∧ n ≤ 1048576) (hk : 1048576 < k) (hw : Wf_HeldS a) : ∃ m : Int, w_szHeldS k (a, (n, ())) = some (m, ((), ((), ()))) ∧ (0 ≤ m → m ≤ n ∧ Bd_HeldS a) := by
  unfold w_szHeldS
  have hl : a.length ≤ 9223372036854775807 := hw.1
  have e : wi64 (n - (List.length a : Int)) = n - (List.length a : Int) := w64_id _ (by omega)
  simp only [e]
  by_cases hc : n - (List.length a : Int) < 0
  · simp only [hc, decide_true, if_true]
    exact ⟨_, rfl, fun h => by omega⟩
  · simp only [hc, decide_false, Bool.false_eq_true, if_false]
    refine (loop_sz (t := (.pair (.int .i64) (.pair (.int .i64) (.pair (.int .i64) (.pair (.list .str) (.pair (.list .bool) (.int .i64))))))) a (fun m => (m, ((), ((), ())))) (fun r => Bd_Held (ag_Held r)) ?_ ?_ (n - a.length) (by omega) (by omega) k (by omega)).imp fun m hm => ⟨hm.1, fun h0 => ⟨by have := (hm.2 h0).1; omega, ⟨by omega, (hm.2 h0).2⟩⟩⟩
    · intro again n' i hn0 hn1 hi hl'
      have w : wi64 (i + 1) = i + 1 := w64_id _ (by omega)
      have hr := rd_get (t := (.pair (.int .i64) (.pair (.int .i64) (.pair (.int .i64) (.pair (.list .str) (.pair (.list .bool) (.int .i64))))))) a i (by omega)
      obtain ⟨m, e1, e2⟩ := szHeld_le k (ag_Held (Ty.rd (t := (.pair (.int .i64) (.pair (.int .i64) (.pair (.int .i64) (.pair (.list .str) (.pair (.list .bool) (.int .i64))))))) a i)) n' ⟨hn0, hn1⟩ hk (by rw [hr]; exact hw.2 _ (List.getElem_mem _))
      simp only [ag_Held] at e1
      refine ⟨m, fun hm => e2 hm, ?_⟩
      simp only [hl', hi, e1, w, decide_true, and_self, if_true, Option.bind_some, decide_eq_true_eq]
    · intro again n' i hi
      have : ¬ i < (a.length : Int) := by omega
      simp [this]
theorem szShelf_le (k : Nat) (x : (List (Int × Int × Int × List (ByteArray) × List (Bool) × Int)) × Unit) (n : Int) (h : 0 ≤ n ∧ n ≤ 1048576) (hk : 1048576 < k) (hw : Wf_Shelf x) : ∃ m : Int, w_szShelf k (x, (n, ())) = some (m, ((), ((), ()))) ∧ (0 ≤ m → m ≤ n ∧ Bd_Shelf x) := by
  obtain ⟨a0, u⟩ := x
  unfold w_szShelf
  unfold Wf_Shelf at hw
  unfold Bd_Shelf
  simp only [] at hw ⊢
  obtain ⟨w0, _⟩ := hw
  obtain ⟨m0, e0, b0⟩ := szHeldS_le k a0 n ⟨by omega, by omega⟩ hk w0
  simp only [e0, Option.bind_some]
  by_cases c0 : m0 < 0
  · simp only [c0, decide_true, if_true]
    exact ⟨_, rfl, fun h => by omega⟩
  have d0 := b0 (by omega)
  simp only [c0, decide_false, Bool.false_eq_true, if_false]
  exact ⟨_, rfl, fun _ => ⟨by omega, ⟨d0.2, trivial⟩⟩⟩
theorem szUser_le (k : Nat) (x : Int × Int × Int × ByteArray × ByteArray × Int × List (Int) × Int × Int × ByteArray × ByteArray × Int × List (Int) × Int × (List (Int × Int × Int × List (ByteArray) × List (Bool) × Int)) × Int × Unit) (n : Int) (h : 0 ≤ n ∧ n ≤ 1048576) (hk : 1048576 < k) (hw : Wf_User x) : ∃ m : Int, w_szUser k (x, (n, ())) = some (m, ((), ((), ()))) ∧ (0 ≤ m → m ≤ n ∧ Bd_User x) := by
  obtain ⟨a0, a1, a2, a3, a4, a5, a6, a7, a8, a9, a10, a11, a12, a13, a14, a15, u⟩ := x
  unfold w_szUser
  unfold Wf_User at hw
  unfold Bd_User
  simp only [] at hw ⊢
  obtain ⟨w3, w4, w6, w9, w10, w12, w14, _⟩ := hw
  obtain ⟨m0, e0, b0⟩ := szSlots_le k (a2, (a3, (a4, (a5, (a6, (a7, (a8, (a9, (a10, (a11, (a12, (a13, ())))))))))))) n ⟨by omega, by omega⟩ hk ⟨w3, w4, w6, w9, w10, w12, trivial⟩
  simp only [e0, Option.bind_some]
  by_cases c0 : m0 < 0
  · simp only [c0, decide_true, if_true]
    exact ⟨_, rfl, fun h => by omega⟩
  have d0 := b0 (by omega)
  simp only [c0, decide_false, Bool.false_eq_true, if_false]
  obtain ⟨m1, e1, b1⟩ := szShelf_le k (a14, ()) m0 ⟨by omega, by omega⟩ hk ⟨w14, trivial⟩
  simp only [e1, Option.bind_some]
  by_cases c1 : m1 < 0
  · simp only [c1, decide_true, if_true]
    exact ⟨_, rfl, fun h => by omega⟩
  have d1 := b1 (by omega)
  simp only [c1, decide_false, Bool.false_eq_true, if_false]
  exact ⟨_, rfl, fun _ => ⟨by omega, ⟨d0.2.1, d0.2.2.1, d0.2.2.2.1, d0.2.2.2.2.1, d0.2.2.2.2.2.1, d0.2.2.2.2.2.2.1, d1.2.1, trivial⟩⟩⟩
theorem szUserS_le (k : Nat) (a : List (Int × Int × ((Int × ByteArray × ByteArray × Int × List (Int) × Int) × Int × ByteArray × ByteArray × Int × List (Int) × Int) × List (Int × Int × Int × List (ByteArray) × List (Bool) × Int) × Int)) (n : Int) (h : 0 ≤ n ∧ n ≤ 1048576) (hk : 1048576 < k) (hw : Wf_UserS a) : ∃ m : Int, w_szUserS k (a, (n, ())) = some (m, ((), ((), ()))) ∧ (0 ≤ m → m ≤ n ∧ Bd_UserS a) := by
  unfold w_szUserS
  have hl : a.length ≤ 9223372036854775807 := hw.1
  have e : wi64 (n - (List.length a : Int)) = n - (List.length a : Int) := w64_id _ (by omega)
  simp only [e]
  by_cases hc : n - (List.length a : Int) < 0
  · simp only [hc, decide_true, if_true]
    exact ⟨_, rfl, fun h => by omega⟩
  · simp only [hc, decide_false, Bool.false_eq_true, if_false]
    refine (loop_sz (t := (.pair (.int .i64) (.pair (.int .i64) (.pair (.pair (.pair (.int .i64) (.pair .str (.pair .str (.pair (.int .i64) (.pair (.list (.int .i64)) (.int .i64)))))) (.pair (.int .i64) (.pair .str (.pair .str (.pair (.int .i64) (.pair (.list (.int .i64)) (.int .i64))))))) (.pair (.list (.pair (.int .i64) (.pair (.int .i64) (.pair (.int .i64) (.pair (.list .str) (.pair (.list .bool) (.int .i64))))))) (.int .i64)))))) a (fun m => (m, ((), ((), ())))) (fun r => Bd_User (ag_User r)) ?_ ?_ (n - a.length) (by omega) (by omega) k (by omega)).imp fun m hm => ⟨hm.1, fun h0 => ⟨by have := (hm.2 h0).1; omega, ⟨by omega, (hm.2 h0).2⟩⟩⟩
    · intro again n' i hn0 hn1 hi hl'
      have w : wi64 (i + 1) = i + 1 := w64_id _ (by omega)
      have hr := rd_get (t := (.pair (.int .i64) (.pair (.int .i64) (.pair (.pair (.pair (.int .i64) (.pair .str (.pair .str (.pair (.int .i64) (.pair (.list (.int .i64)) (.int .i64)))))) (.pair (.int .i64) (.pair .str (.pair .str (.pair (.int .i64) (.pair (.list (.int .i64)) (.int .i64))))))) (.pair (.list (.pair (.int .i64) (.pair (.int .i64) (.pair (.int .i64) (.pair (.list .str) (.pair (.list .bool) (.int .i64))))))) (.int .i64)))))) a i (by omega)
      obtain ⟨m, e1, e2⟩ := szUser_le k (ag_User (Ty.rd (t := (.pair (.int .i64) (.pair (.int .i64) (.pair (.pair (.pair (.int .i64) (.pair .str (.pair .str (.pair (.int .i64) (.pair (.list (.int .i64)) (.int .i64)))))) (.pair (.int .i64) (.pair .str (.pair .str (.pair (.int .i64) (.pair (.list (.int .i64)) (.int .i64))))))) (.pair (.list (.pair (.int .i64) (.pair (.int .i64) (.pair (.int .i64) (.pair (.list .str) (.pair (.list .bool) (.int .i64))))))) (.int .i64)))))) a i)) n' ⟨hn0, hn1⟩ hk (by rw [hr]; exact hw.2 _ (List.getElem_mem _))
      simp only [ag_User] at e1
      refine ⟨m, fun hm => e2 hm, ?_⟩
      simp only [hl', hi, e1, w, decide_true, and_self, if_true, Option.bind_some, decide_eq_true_eq]
    · intro again n' i hi
      have : ¬ i < (a.length : Int) := by omega
      simp [this]
theorem szHub_le (k : Nat) (x : Int × Int × (List (Int × Int × Int)) × (List (Int × Int)) × (List ((Int × Int) × Int)) × (List (Int × Int × ((Int × ByteArray × ByteArray × Int × List (Int) × Int) × Int × ByteArray × ByteArray × Int × List (Int) × Int) × List (Int × Int × Int × List (ByteArray) × List (Bool) × Int) × Int)) × Unit) (n : Int) (h : 0 ≤ n ∧ n ≤ 1048576) (hk : 1048576 < k) (hw : Wf_Hub x) : ∃ m : Int, w_szHub k (x, (n, ())) = some (m, ((), ((), ()))) ∧ (0 ≤ m → m ≤ n ∧ Bd_Hub x) := by
  obtain ⟨a0, a1, a2, a3, a4, a5, u⟩ := x
  unfold w_szHub
  unfold Wf_Hub at hw
  unfold Bd_Hub
  simp only [] at hw ⊢
  obtain ⟨w2, w3, w4, w5, _⟩ := hw
  obtain ⟨m0, e0, b0⟩ := szPool_le k (a0, (a1, (a2, (a3, ())))) n ⟨by omega, by omega⟩ hk ⟨w2, w3, trivial⟩
  simp only [e0, Option.bind_some]
  by_cases c0 : m0 < 0
  · simp only [c0, decide_true, if_true]
    exact ⟨_, rfl, fun h => by omega⟩
  have d0 := b0 (by omega)
  simp only [c0, decide_false, Bool.false_eq_true, if_false]
  obtain ⟨m1, e1, b1⟩ := szRouteS_le k a4 m0 ⟨by omega, by omega⟩ hk w4
  simp only [e1, Option.bind_some]
  by_cases c1 : m1 < 0
  · simp only [c1, decide_true, if_true]
    exact ⟨_, rfl, fun h => by omega⟩
  have d1 := b1 (by omega)
  simp only [c1, decide_false, Bool.false_eq_true, if_false]
  obtain ⟨m2, e2, b2⟩ := szUserS_le k a5 m1 ⟨by omega, by omega⟩ hk w5
  simp only [e2, Option.bind_some]
  by_cases c2 : m2 < 0
  · simp only [c2, decide_true, if_true]
    exact ⟨_, rfl, fun h => by omega⟩
  have d2 := b2 (by omega)
  simp only [c2, decide_false, Bool.false_eq_true, if_false]
  exact ⟨_, rfl, fun _ => ⟨by omega, ⟨d0.2.1, d0.2.2.1, d1.2, d2.2, trivial⟩⟩⟩
def Wf_Inner (x : Int × Int × ByteArray × Unit) : Prop := ByteArray.size x.2.2.1 ≤ 9223372036854775807 ∧ True
def Bd_Inner (x : Int × Int × ByteArray × Unit) : Prop := ByteArray.size x.2.2.1 ≤ 1048576 ∧ True
theorem szInner_le (k : Nat) (x : Int × Int × ByteArray × Unit) (n : Int) (h : 0 ≤ n ∧ n ≤ 1048576) (hk : 1048576 < k) (hw : Wf_Inner x) : ∃ m : Int, w_szInner k (x, (n, ())) = some (m, ((), ((), ()))) ∧ (0 ≤ m → m ≤ n ∧ Bd_Inner x) := by
  obtain ⟨a0, a1, a2, u⟩ := x
  unfold w_szInner
  unfold Wf_Inner at hw
  unfold Bd_Inner
  simp only [] at hw ⊢
  obtain ⟨w2, _⟩ := hw
  have e0 : wi64 (n - (ByteArray.size a2 : Int)) = n - (ByteArray.size a2 : Int) := w64_id _ (by omega)
  simp only [e0]
  by_cases c0 : (n - (ByteArray.size a2 : Int)) < 0
  · simp only [c0, decide_true, if_true]
    exact ⟨_, rfl, fun h => by omega⟩
  simp only [c0, decide_false, Bool.false_eq_true, if_false]
  exact ⟨_, rfl, fun _ => ⟨by omega, ⟨by omega, trivial⟩⟩⟩
def Wf_Prefix (x : Int × Int × Unit) : Prop := True
def Bd_Prefix (x : Int × Int × Unit) : Prop := True
theorem toPrefix_is (k : Nat) (x : Int × Int × Unit) (hk : 1048576 < k) (hb : Bd_Prefix x) : w_toPrefix k (x, ()) = some (x, ((), ())) := by
  obtain ⟨a0, a1, u⟩ := x
  unfold w_toPrefix
  rfl
theorem toLease_is (k : Nat) (x : Int × Int × Int × Unit) (hk : 1048576 < k) (hb : Bd_Lease x) : w_toLease k (x, ()) = some (x, ((), ())) := by
  obtain ⟨a0, a1, a2, u⟩ := x
  unfold w_toLease
  rfl
theorem toLeaseS_is (k : Nat) (a : List (Int × Int × Int)) (hk : 1048576 < k) (hb : Bd_LeaseS a) : w_toLeaseS k (a, ()) = some (a, ((), ())) := by
  unfold w_toLeaseS
  have hl : a.length ≤ 1048576 := hb.1
  have hcap : (capMax : Int) = 274877906944 := rfl
  simp only [if_true]
  rw [if_pos (by omega)]
  refine loop_to (t := (.pair (.int .i64) (.pair (.int .i64) (.int .i64)))) a (fun out => (out, ((), ()))) ?_ ?_ _ (by simp) k (by omega)
  · intro again out i hi hl' ho
    have w : wi64 (i + 1) = i + 1 := w64_id _ (by omega)
    have hr := rd_get (t := (.pair (.int .i64) (.pair (.int .i64) (.int .i64)))) a i (by omega)
    have e := toLease_is k (ag_Lease (Ty.rd (t := (.pair (.int .i64) (.pair (.int .i64) (.int .i64)))) a i)) hk (by rw [hr]; exact hb.2 _ (List.getElem_mem _))
    simp only [ag_Lease] at e
    simp only [hl', hi, ho, e, w, decide_true, and_self, if_true, Option.bind_some]
  · intro again out i hi
    have : ¬ i < (a.length : Int) := by omega
    simp [this]
theorem toFixed_is (k : Nat) (x : Int × Int × Unit) (hk : 1048576 < k) (hb : Bd_Fixed x) : w_toFixed k (x, ()) = some (x, ((), ())) := by
  obtain ⟨a0, a1, u⟩ := x
  unfold w_toFixed
  rfl
theorem toFixedS_is (k : Nat) (a : List (Int × Int)) (hk : 1048576 < k) (hb : Bd_FixedS a) : w_toFixedS k (a, ()) = some (a, ((), ())) := by
  unfold w_toFixedS
  have hl : a.length ≤ 1048576 := hb.1
  have hcap : (capMax : Int) = 274877906944 := rfl
  simp only [if_true]
  rw [if_pos (by omega)]
  refine loop_to (t := (.pair (.int .i64) (.int .i64))) a (fun out => (out, ((), ()))) ?_ ?_ _ (by simp) k (by omega)
  · intro again out i hi hl' ho
    have w : wi64 (i + 1) = i + 1 := w64_id _ (by omega)
    have hr := rd_get (t := (.pair (.int .i64) (.int .i64))) a i (by omega)
    have e := toFixed_is k (ag_Fixed (Ty.rd (t := (.pair (.int .i64) (.int .i64))) a i)) hk (by rw [hr]; exact hb.2 _ (List.getElem_mem _))
    simp only [ag_Fixed] at e
    simp only [hl', hi, ho, e, w, decide_true, and_self, if_true, Option.bind_some]
  · intro again out i hi
    have : ¬ i < (a.length : Int) := by omega
    simp [this]
theorem toPool_is (k : Nat) (x : Int × Int × (List (Int × Int × Int)) × (List (Int × Int)) × Unit) (hk : 1048576 < k) (hb : Bd_Pool x) : w_toPool k (x, ()) = some (x, ((), ())) := by
  obtain ⟨a0, a1, a2, a3, u⟩ := x
  unfold w_toPool
  unfold Bd_Pool at hb
  obtain ⟨b2, b3, b⟩ := hb
  simp only [] at b2 b3
  simp only [toPrefix_is k (a0, (a1, ())) hk trivial, toLeaseS_is k a2 hk b2, toFixedS_is k a3 hk b3, Option.bind_some]
theorem toRoute_is (k : Nat) (x : Int × Int × Int × Unit) (hk : 1048576 < k) (hb : Bd_Route x) : w_toRoute k (x, ()) = some (x, ((), ())) := by
  obtain ⟨a0, a1, a2, u⟩ := x
  unfold w_toRoute
  simp only [toPrefix_is k (a0, (a1, ())) hk trivial, Option.bind_some]
theorem toRouteS_is (k : Nat) (a : List ((Int × Int) × Int)) (hk : 1048576 < k) (hb : Bd_RouteS a) : w_toRouteS k (a, ()) = some (a, ((), ())) := by
  unfold w_toRouteS
  have hl : a.length ≤ 1048576 := hb.1
  have hcap : (capMax : Int) = 274877906944 := rfl
  simp only [if_true]
  rw [if_pos (by omega)]
  refine loop_to (t := (.pair (.pair (.int .i64) (.int .i64)) (.int .i64))) a (fun out => (out, ((), ()))) ?_ ?_ _ (by simp) k (by omega)
  · intro again out i hi hl' ho
    have w : wi64 (i + 1) = i + 1 := w64_id _ (by omega)
    have hr := rd_get (t := (.pair (.pair (.int .i64) (.int .i64)) (.int .i64))) a i (by omega)
    have e := toRoute_is k (ag_Route (Ty.rd (t := (.pair (.pair (.int .i64) (.int .i64)) (.int .i64))) a i)) hk (by rw [hr]; exact hb.2 _ (List.getElem_mem _))
    simp only [ag_Route] at e
    simp only [hl', hi, ho, e, w, decide_true, and_self, if_true, Option.bind_some]
  · intro again out i hi
    have : ¬ i < (a.length : Int) := by omega
    simp [this]
theorem toIntS_is (k : Nat) (a : List (Int)) (hk : 1048576 < k) (hb : Bd_IntS a) : w_toIntS k (a, ()) = some (a, ((), ())) := by
  unfold w_toIntS
  have hl : a.length ≤ 1048576 := hb
  have hcap : (capMax : Int) = 274877906944 := rfl
  simp only [if_true]
  rw [if_pos (by omega)]
  refine loop_to (t := (.int .i64)) a (fun out => (out, ((), ()))) ?_ ?_ _ (by simp) k (by omega)
  · intro again out i hi hl' ho
    have w : wi64 (i + 1) = i + 1 := w64_id _ (by omega)
    simp only [hl', hi, ho, w, decide_true, and_self, if_true]
  · intro again out i hi
    have : ¬ i < (a.length : Int) := by omega
    simp [this]
theorem toSlot_is (k : Nat) (x : Int × ByteArray × ByteArray × Int × List (Int) × Int × Unit) (hk : 1048576 < k) (hb : Bd_Slot x) : w_toSlot k (x, ()) = some (x, ((), ())) := by
  obtain ⟨a0, a1, a2, a3, a4, a5, u⟩ := x
  unfold w_toSlot
  unfold Bd_Slot at hb
  obtain ⟨b1, b2, b4, b⟩ := hb
  simp only [] at b1 b2 b4
  simp only [toIntS_is k a4 hk b4, Option.bind_some]
theorem toSlots_is (k : Nat) (x : Int × ByteArray × ByteArray × Int × List (Int) × Int × Int × ByteArray × ByteArray × Int × List (Int) × Int × Unit) (hk : 1048576 < k) (hb : Bd_Slots x) : w_toSlots k (x, ()) = some (x, ((), ())) := by
  obtain ⟨a0, a1, a2, a3, a4, a5, a6, a7, a8, a9, a10, a11, u⟩ := x
  unfold w_toSlots
  unfold Bd_Slots at hb
  obtain ⟨b1, b2, b4, b7, b8, b10, b⟩ := hb
  simp only [] at b1 b2 b4 b7 b8 b10
  simp only [toSlot_is k (a0, (a1, (a2, (a3, (a4, (a5, ())))))) hk ⟨b1, b2, b4, trivial⟩, toSlot_is k (a6, (a7, (a8, (a9, (a10, (a11, ())))))) hk ⟨b7, b8, b10, trivial⟩, Option.bind_some]
theorem toStringS_is (k : Nat) (a : List (ByteArray)) (hk : 1048576 < k) (hb : Bd_StringS a) : w_toStringS k (a, ()) = some (a, ((), ())) := by
  unfold w_toStringS
  have hl : a.length ≤ 1048576 := hb
  have hcap : (capMax : Int) = 274877906944 := rfl
  simp only [if_true]
  rw [if_pos (by omega)]
  refine loop_to (t := .str) a (fun out => (out, ((), ()))) ?_ ?_ _ (by simp) k (by omega)
  · intro again out i hi hl' ho
    have w : wi64 (i + 1) = i + 1 := w64_id _ (by omega)
    simp only [hl', hi, ho, w, decide_true, and_self, if_true]
  · intro again out i hi
    have : ¬ i < (a.length : Int) := by omega
    simp [this]
theorem toBoolS_is (k : Nat) (a : List (Bool)) (hk : 1048576 < k) (hb : Bd_BoolS a) : w_toBoolS k (a, ()) = some (a, ((), ())) := by
  unfold w_toBoolS
  have hl : a.length ≤ 1048576 := hb
  have hcap : (capMax : Int) = 274877906944 := rfl
  simp only [if_true]
  rw [if_pos (by omega)]
  refine loop_to (t := .bool) a (fun out => (out, ((), ()))) ?_ ?_ _ (by simp) k (by omega)
  · intro again out i hi hl' ho
    have w : wi64 (i + 1) = i + 1 := w64_id _ (by omega)
    simp only [hl', hi, ho, w, decide_true, and_self, if_true]
  · intro again out i hi
    have : ¬ i < (a.length : Int) := by omega
    simp [this]
theorem toHeld_is (k : Nat) (x : Int × Int × Int × List (ByteArray) × List (Bool) × Int × Unit) (hk : 1048576 < k) (hb : Bd_Held x) : w_toHeld k (x, ()) = some (x, ((), ())) := by
  obtain ⟨a0, a1, a2, a3, a4, a5, u⟩ := x
  unfold w_toHeld
  unfold Bd_Held at hb
  obtain ⟨b3, b4, b⟩ := hb
  simp only [] at b3 b4
  simp only [toStringS_is k a3 hk b3, toBoolS_is k a4 hk b4, Option.bind_some]
theorem toHeldS_is (k : Nat) (a : List (Int × Int × Int × List (ByteArray) × List (Bool) × Int)) (hk : 1048576 < k) (hb : Bd_HeldS a) : w_toHeldS k (a, ()) = some (a, ((), ())) := by
  unfold w_toHeldS
  have hl : a.length ≤ 1048576 := hb.1
  have hcap : (capMax : Int) = 274877906944 := rfl
  simp only [if_true]
  rw [if_pos (by omega)]
  refine loop_to (t := (.pair (.int .i64) (.pair (.int .i64) (.pair (.int .i64) (.pair (.list .str) (.pair (.list .bool) (.int .i64))))))) a (fun out => (out, ((), ()))) ?_ ?_ _ (by simp) k (by omega)
  · intro again out i hi hl' ho
    have w : wi64 (i + 1) = i + 1 := w64_id _ (by omega)
    have hr := rd_get (t := (.pair (.int .i64) (.pair (.int .i64) (.pair (.int .i64) (.pair (.list .str) (.pair (.list .bool) (.int .i64))))))) a i (by omega)
    have e := toHeld_is k (ag_Held (Ty.rd (t := (.pair (.int .i64) (.pair (.int .i64) (.pair (.int .i64) (.pair (.list .str) (.pair (.list .bool) (.int .i64))))))) a i)) hk (by rw [hr]; exact hb.2 _ (List.getElem_mem _))
    simp only [ag_Held] at e
    simp only [hl', hi, ho, e, w, decide_true, and_self, if_true, Option.bind_some]
  · intro again out i hi
    have : ¬ i < (a.length : Int) := by omega
    simp [this]
theorem toShelf_is (k : Nat) (x : (List (Int × Int × Int × List (ByteArray) × List (Bool) × Int)) × Unit) (hk : 1048576 < k) (hb : Bd_Shelf x) : w_toShelf k (x, ()) = some (x, ((), ())) := by
  obtain ⟨a0, u⟩ := x
  unfold w_toShelf
  unfold Bd_Shelf at hb
  obtain ⟨b0, b⟩ := hb
  simp only [] at b0
  simp only [toHeldS_is k a0 hk b0, Option.bind_some]
theorem toUser_is (k : Nat) (x : Int × Int × Int × ByteArray × ByteArray × Int × List (Int) × Int × Int × ByteArray × ByteArray × Int × List (Int) × Int × (List (Int × Int × Int × List (ByteArray) × List (Bool) × Int)) × Int × Unit) (hk : 1048576 < k) (hb : Bd_User x) : w_toUser k (x, ()) = some (x, ((), ())) := by
  obtain ⟨a0, a1, a2, a3, a4, a5, a6, a7, a8, a9, a10, a11, a12, a13, a14, a15, u⟩ := x
  unfold w_toUser
  unfold Bd_User at hb
  obtain ⟨b3, b4, b6, b9, b10, b12, b14, b⟩ := hb
  simp only [] at b3 b4 b6 b9 b10 b12 b14
  simp only [toSlots_is k (a2, (a3, (a4, (a5, (a6, (a7, (a8, (a9, (a10, (a11, (a12, (a13, ())))))))))))) hk ⟨b3, b4, b6, b9, b10, b12, trivial⟩, toShelf_is k (a14, ()) hk ⟨b14, trivial⟩, Option.bind_some]
theorem toUserS_is (k : Nat) (a : List (Int × Int × ((Int × ByteArray × ByteArray × Int × List (Int) × Int) × Int × ByteArray × ByteArray × Int × List (Int) × Int) × List (Int × Int × Int × List (ByteArray) × List (Bool) × Int) × Int)) (hk : 1048576 < k) (hb : Bd_UserS a) : w_toUserS k (a, ()) = some (a, ((), ())) := by
  unfold w_toUserS
  have hl : a.length ≤ 1048576 := hb.1
  have hcap : (capMax : Int) = 274877906944 := rfl
  simp only [if_true]
  rw [if_pos (by omega)]
  refine loop_to (t := (.pair (.int .i64) (.pair (.int .i64) (.pair (.pair (.pair (.int .i64) (.pair .str (.pair .str (.pair (.int .i64) (.pair (.list (.int .i64)) (.int .i64)))))) (.pair (.int .i64) (.pair .str (.pair .str (.pair (.int .i64) (.pair (.list (.int .i64)) (.int .i64))))))) (.pair (.list (.pair (.int .i64) (.pair (.int .i64) (.pair (.int .i64) (.pair (.list .str) (.pair (.list .bool) (.int .i64))))))) (.int .i64)))))) a (fun out => (out, ((), ()))) ?_ ?_ _ (by simp) k (by omega)
  · intro again out i hi hl' ho
    have w : wi64 (i + 1) = i + 1 := w64_id _ (by omega)
    have hr := rd_get (t := (.pair (.int .i64) (.pair (.int .i64) (.pair (.pair (.pair (.int .i64) (.pair .str (.pair .str (.pair (.int .i64) (.pair (.list (.int .i64)) (.int .i64)))))) (.pair (.int .i64) (.pair .str (.pair .str (.pair (.int .i64) (.pair (.list (.int .i64)) (.int .i64))))))) (.pair (.list (.pair (.int .i64) (.pair (.int .i64) (.pair (.int .i64) (.pair (.list .str) (.pair (.list .bool) (.int .i64))))))) (.int .i64)))))) a i (by omega)
    have e := toUser_is k (ag_User (Ty.rd (t := (.pair (.int .i64) (.pair (.int .i64) (.pair (.pair (.pair (.int .i64) (.pair .str (.pair .str (.pair (.int .i64) (.pair (.list (.int .i64)) (.int .i64)))))) (.pair (.int .i64) (.pair .str (.pair .str (.pair (.int .i64) (.pair (.list (.int .i64)) (.int .i64))))))) (.pair (.list (.pair (.int .i64) (.pair (.int .i64) (.pair (.int .i64) (.pair (.list .str) (.pair (.list .bool) (.int .i64))))))) (.int .i64)))))) a i)) hk (by rw [hr]; exact hb.2 _ (List.getElem_mem _))
    simp only [ag_User] at e
    simp only [hl', hi, ho, e, w, decide_true, and_self, if_true, Option.bind_some]
  · intro again out i hi
    have : ¬ i < (a.length : Int) := by omega
    simp [this]
theorem toHub_is (k : Nat) (x : Int × Int × (List (Int × Int × Int)) × (List (Int × Int)) × (List ((Int × Int) × Int)) × (List (Int × Int × ((Int × ByteArray × ByteArray × Int × List (Int) × Int) × Int × ByteArray × ByteArray × Int × List (Int) × Int) × List (Int × Int × Int × List (ByteArray) × List (Bool) × Int) × Int)) × Unit) (hk : 1048576 < k) (hb : Bd_Hub x) : w_toHub k (x, ()) = some (x, ((), ())) := by
  obtain ⟨a0, a1, a2, a3, a4, a5, u⟩ := x
  unfold w_toHub
  unfold Bd_Hub at hb
  obtain ⟨b2, b3, b4, b5, b⟩ := hb
  simp only [] at b2 b3 b4 b5
  simp only [toPool_is k (a0, (a1, (a2, (a3, ())))) hk ⟨b2, b3, trivial⟩, toRouteS_is k a4 hk b4, toUserS_is k a5 hk b5, Option.bind_some]
theorem toInner_is (k : Nat) (x : Int × Int × ByteArray × Unit) (hk : 1048576 < k) (hb : Bd_Inner x) : w_toInner k (x, ()) = some (x, ((), ())) := by
  obtain ⟨a0, a1, a2, u⟩ := x
  unfold w_toInner
  rfl
theorem eqPrefix_is (k : Nat) (x y : Int × Int × Unit) (hk : 1048576 < k) (hb : Bd_Prefix x) : w_eqPrefix k (x, (y, ())) = some (dq x y, ((), ((), ()))) := by
  obtain ⟨a0, a1, u⟩ := x
  obtain ⟨b0, b1, u'⟩ := y
  unfold w_eqPrefix
  by_cases h0 : a0 = b0
  rotate_left
  · have hn : (a0, (a1, ())) ≠ (b0, (b1, ())) := fun h => h0 (by simp only [Prod.mk.injEq] at h; simp_all)
    rw [dq_false hn]
    simp [h0]
  subst h0
  by_cases h1 : a1 = b1
  rotate_left
  · have hn : (a0, (a1, ())) ≠ (a0, (b1, ())) := fun h => h1 (by simp only [Prod.mk.injEq] at h; simp_all)
    rw [dq_false hn]
    simp [h1]
  subst h1
  simp [dq_self]
theorem eqLease_is (k : Nat) (x y : Int × Int × Int × Unit) (hk : 1048576 < k) (hb : Bd_Lease x) : w_eqLease k (x, (y, ())) = some (dq x y, ((), ((), ()))) := by
  obtain ⟨a0, a1, a2, u⟩ := x
  obtain ⟨b0, b1, b2, u'⟩ := y
  unfold w_eqLease
  by_cases h0 : a0 = b0
  rotate_left
  · have hn : (a0, (a1, (a2, ()))) ≠ (b0, (b1, (b2, ()))) := fun h => h0 (by simp only [Prod.mk.injEq] at h; simp_all)
    rw [dq_false hn]
    simp [h0]
  subst h0
  by_cases h1 : a1 = b1
  rotate_left
  · have hn : (a0, (a1, (a2, ()))) ≠ (a0, (b1, (b2, ()))) := fun h => h1 (by simp only [Prod.mk.injEq] at h; simp_all)
    rw [dq_false hn]
    simp [h1]
  subst h1
  by_cases h2 : a2 = b2
  rotate_left
  · have hn : (a0, (a1, (a2, ()))) ≠ (a0, (a1, (b2, ()))) := fun h => h2 (by simp only [Prod.mk.injEq] at h; simp_all)
    rw [dq_false hn]
    simp [h2]
  subst h2
  simp [dq_self]
theorem eqLeaseS_is (k : Nat) (a b : List RT_Lease.den) (hk : 1048576 < k) (hb : Bd_LeaseS a) : w_eqLeaseS k (a, (b, ())) = some (dq a b, ((), ((), ()))) := by
  unfold w_eqLeaseS
  have hl : a.length ≤ 1048576 := hb.1
  by_cases hab : a.length = b.length
  · simp only [hab, decide_true, Bool.not_true]
    refine (loop_dq (t := RT_Lease) (R := Bool × Unit × Unit × Unit) a b hab (false, ((), ((), ()))) (true, ((), ((), ()))) ?_ ?_ k (by omega)).trans ?_
    · intro again i hi hl'
      have w : wi64 (i + 1) = i + 1 := w64_id _ (by omega)
      have hlb : i < (b.length : Int) := by omega
      have hr := rd_get (t := RT_Lease) a i (by omega)
      have e := eqLease_is k (ag_Lease (Ty.rd (t := RT_Lease) a i)) (ag_Lease (Ty.rd (t := RT_Lease) b i)) hk (by rw [hr]; exact hb.2 _ (List.getElem_mem _))
      rw [show (dq (ag_Lease (Ty.rd (t := RT_Lease) a i)) (ag_Lease (Ty.rd (t := RT_Lease) b i))) = dq (Ty.rd (t := RT_Lease) a i) (Ty.rd (t := RT_Lease) b i) from dq_of (ag_Lease_inj _ _)] at e
      simp only [ag_Lease] at e
      simp only [hl', hi, hlb, e, w, decide_true, and_self, if_true, Option.bind_some]
      cases dq (Ty.rd (t := RT_Lease) a i) (Ty.rd (t := RT_Lease) b i) <;> simp
    · intro again i hi
      have : ¬ i < (a.length : Int) := by omega
      simp only [this, decide_false]
      rfl
    · cases dq a b <;> simp
  · have : ¬ ((a.length : Int) = (b.length : Int)) := by omega
    have h2 : a ≠ b := fun h => hab (by rw [h])
    simp [this, dq_false h2]
theorem eqFixed_is (k : Nat) (x y : Int × Int × Unit) (hk : 1048576 < k) (hb : Bd_Fixed x) : w_eqFixed k (x, (y, ())) = some (dq x y, ((), ((), ()))) := by
  obtain ⟨a0, a1, u⟩ := x
  obtain ⟨b0, b1, u'⟩ := y
  unfold w_eqFixed
  by_cases h0 : a0 = b0
  rotate_left
  · have hn : (a0, (a1, ())) ≠ (b0, (b1, ())) := fun h => h0 (by simp only [Prod.mk.injEq] at h; simp_all)
    rw [dq_false hn]
    simp [h0]
  subst h0
  by_cases h1 : a1 = b1
  rotate_left
  · have hn : (a0, (a1, ())) ≠ (a0, (b1, ())) := fun h => h1 (by simp only [Prod.mk.injEq] at h; simp_all)
    rw [dq_false hn]
    simp [h1]
  subst h1
  simp [dq_self]
theorem eqFixedS_is (k : Nat) (a b : List RT_Fixed.den) (hk : 1048576 < k) (hb : Bd_FixedS a) : w_eqFixedS k (a, (b, ())) = some (dq a b, ((), ((), ()))) := by
  unfold w_eqFixedS
  have hl : a.length ≤ 1048576 := hb.1
  by_cases hab : a.length = b.length
  · simp only [hab, decide_true, Bool.not_true]
    refine (loop_dq (t := RT_Fixed) (R := Bool × Unit × Unit × Unit) a b hab (false, ((), ((), ()))) (true, ((), ((), ()))) ?_ ?_ k (by omega)).trans ?_
    · intro again i hi hl'
      have w : wi64 (i + 1) = i + 1 := w64_id _ (by omega)
      have hlb : i < (b.length : Int) := by omega
      have hr := rd_get (t := RT_Fixed) a i (by omega)
      have e := eqFixed_is k (ag_Fixed (Ty.rd (t := RT_Fixed) a i)) (ag_Fixed (Ty.rd (t := RT_Fixed) b i)) hk (by rw [hr]; exact hb.2 _ (List.getElem_mem _))
      rw [show (dq (ag_Fixed (Ty.rd (t := RT_Fixed) a i)) (ag_Fixed (Ty.rd (t := RT_Fixed) b i))) = dq (Ty.rd (t := RT_Fixed) a i) (Ty.rd (t := RT_Fixed) b i) from dq_of (ag_Fixed_inj _ _)] at e
      simp only [ag_Fixed] at e
      simp only [hl', hi, hlb, e, w, decide_true, and_self, if_true, Option.bind_some]
      cases dq (Ty.rd (t := RT_Fixed) a i) (Ty.rd (t := RT_Fixed) b i) <;> simp
    · intro again i hi
      have : ¬ i < (a.length : Int) := by omega
      simp only [this, decide_false]
      rfl
    · cases dq a b <;> simp
  · have : ¬ ((a.length : Int) = (b.length : Int)) := by omega
    have h2 : a ≠ b := fun h => hab (by rw [h])
    simp [this, dq_false h2]
theorem eqPool_is (k : Nat) (x y : Int × Int × (List (Int × Int × Int)) × (List (Int × Int)) × Unit) (hk : 1048576 < k) (hb : Bd_Pool x) : w_eqPool k (x, (y, ())) = some (dq x y, ((), ((), ()))) := by
  obtain ⟨a0, a1, a2, a3, u⟩ := x
  obtain ⟨b0, b1, b2, b3, u'⟩ := y
  unfold w_eqPool
  unfold Bd_Pool at hb
  obtain ⟨w2, w3, _⟩ := hb
  simp only [] at w2 w3
  simp only [eqPrefix_is k (a0, (a1, ())) (b0, (b1, ())) hk trivial, eqLeaseS_is k a2 b2 hk w2, eqFixedS_is k a3 b3 hk w3, Option.bind_some]
  by_cases h0 : (a0, (a1, ())) = (b0, (b1, ()))
  rotate_left
  · have hn : (a0, (a1, (a2, (a3, ())))) ≠ (b0, (b1, (b2, (b3, ())))) := fun h => h0 (by simp only [Prod.mk.injEq] at h; simp_all)
    rw [dq_false hn]
    simp [h0, dq_false]
  simp only [Prod.mk.injEq, and_true] at h0
  obtain ⟨rfl, rfl⟩ := h0
  by_cases h1 : a2 = b2
  rotate_left
  · have hn : (a0, (a1, (a2, (a3, ())))) ≠ (a0, (a1, (b2, (b3, ())))) := fun h => h1 (by simp only [Prod.mk.injEq] at h; simp_all)
    rw [dq_false hn]
    simp [h1, dq_false]
  subst h1
  by_cases h2 : a3 = b3
  rotate_left
  · have hn : (a0, (a1, (a2, (a3, ())))) ≠ (a0, (a1, (a2, (b3, ())))) := fun h => h2 (by simp only [Prod.mk.injEq] at h; simp_all)
    rw [dq_false hn]
    simp [h2, dq_false]
  subst h2
  simp [dq_self]
theorem eqRoute_is (k : Nat) (x y : Int × Int × Int × Unit) (hk : 1048576 < k) (hb : Bd_Route x) : w_eqRoute k (x, (y, ())) = some (dq x y, ((), ((), ()))) := by
  obtain ⟨a0, a1, a2, u⟩ := x
  obtain ⟨b0, b1, b2, u'⟩ := y
  unfold w_eqRoute
  simp only [eqPrefix_is k (a0, (a1, ())) (b0, (b1, ())) hk trivial, Option.bind_some]
  by_cases h0 : (a0, (a1, ())) = (b0, (b1, ()))
  rotate_left
  · have hn : (a0, (a1, (a2, ()))) ≠ (b0, (b1, (b2, ()))) := fun h => h0 (by simp only [Prod.mk.injEq] at h; simp_all)
    rw [dq_false hn]
    simp [h0, dq_false]
  simp only [Prod.mk.injEq, and_true] at h0
  obtain ⟨rfl, rfl⟩ := h0
  by_cases h1 : a2 = b2
  rotate_left
  · have hn : (a0, (a1, (a2, ()))) ≠ (a0, (a1, (b2, ()))) := fun h => h1 (by simp only [Prod.mk.injEq] at h; simp_all)
    rw [dq_false hn]
    simp [h1]
  subst h1
  simp [dq_self]
theorem eqRouteS_is (k : Nat) (a b : List RT_Route.den) (hk : 1048576 < k) (hb : Bd_RouteS a) : w_eqRouteS k (a, (b, ())) = some (dq a b, ((), ((), ()))) := by
  unfold w_eqRouteS
  have hl : a.length ≤ 1048576 := hb.1
  by_cases hab : a.length = b.length
  · simp only [hab, decide_true, Bool.not_true]
    refine (loop_dq (t := RT_Route) (R := Bool × Unit × Unit × Unit) a b hab (false, ((), ((), ()))) (true, ((), ((), ()))) ?_ ?_ k (by omega)).trans ?_
    · intro again i hi hl'
      have w : wi64 (i + 1) = i + 1 := w64_id _ (by omega)
      have hlb : i < (b.length : Int) := by omega
      have hr := rd_get (t := RT_Route) a i (by omega)
      have e := eqRoute_is k (ag_Route (Ty.rd (t := RT_Route) a i)) (ag_Route (Ty.rd (t := RT_Route) b i)) hk (by rw [hr]; exact hb.2 _ (List.getElem_mem _))
      rw [show (dq (ag_Route (Ty.rd (t := RT_Route) a i)) (ag_Route (Ty.rd (t := RT_Route) b i))) = dq (Ty.rd (t := RT_Route) a i) (Ty.rd (t := RT_Route) b i) from dq_of (ag_Route_inj _ _)] at e
      simp only [ag_Route] at e
      simp only [hl', hi, hlb, e, w, decide_true, and_self, if_true, Option.bind_some]
      cases dq (Ty.rd (t := RT_Route) a i) (Ty.rd (t := RT_Route) b i) <;> simp
    · intro again i hi
      have : ¬ i < (a.length : Int) := by omega
      simp only [this, decide_false]
      rfl
    · cases dq a b <;> simp
  · have : ¬ ((a.length : Int) = (b.length : Int)) := by omega
    have h2 : a ≠ b := fun h => hab (by rw [h])
    simp [this, dq_false h2]
theorem eqIntS_is (k : Nat) (a b : List ((.int .i64) : Ty).den) (hk : 1048576 < k) (hb : Bd_IntS a) : w_eqIntS k (a, (b, ())) = some (dq a b, ((), ((), ()))) := by
  unfold w_eqIntS
  have hl : a.length ≤ 1048576 := hb
  by_cases hab : a.length = b.length
  · simp only [hab, decide_true, Bool.not_true]
    refine (loop_dq (t := (.int .i64)) (R := Bool × Unit × Unit × Unit) a b hab (false, ((), ((), ()))) (true, ((), ((), ()))) ?_ ?_ k (by omega)).trans ?_
    · intro again i hi hl'
      have w : wi64 (i + 1) = i + 1 := w64_id _ (by omega)
      have hlb : i < (b.length : Int) := by omega
      simp only [hl', hi, hlb, w, decide_true, and_self, if_true]
      by_cases e : Ty.rd (t := (.int .i64)) a i = Ty.rd (t := (.int .i64)) b i <;> simp [e, dq_self, dq_false]
    · intro again i hi
      have : ¬ i < (a.length : Int) := by omega
      simp only [this, decide_false]
      rfl
    · cases dq a b <;> simp
  · have : ¬ ((a.length : Int) = (b.length : Int)) := by omega
    have h2 : a ≠ b := fun h => hab (by rw [h])
    simp [this, dq_false h2]
theorem eqSlot_is (k : Nat) (x y : Int × ByteArray × ByteArray × Int × List (Int) × Int × Unit) (hk : 1048576 < k) (hb : Bd_Slot x) : w_eqSlot k (x, (y, ())) = some (dq x y, ((), ((), ()))) := by
  obtain ⟨a0, a1, a2, a3, a4, a5, u⟩ := x
  obtain ⟨b0, b1, b2, b3, b4, b5, u'⟩ := y
  unfold w_eqSlot
  unfold Bd_Slot at hb
  obtain ⟨w1, w2, w4, _⟩ := hb
  simp only [] at w1 w2 w4
  simp only [eqIntS_is k a4 b4 hk w4, Option.bind_some]
  by_cases h0 : a0 = b0
  rotate_left
  · have hn : (a0, (a1, (a2, (a3, (a4, (a5, ())))))) ≠ (b0, (b1, (b2, (b3, (b4, (b5, ())))))) := fun h => h0 (by simp only [Prod.mk.injEq] at h; simp_all)
    rw [dq_false hn]
    simp [h0]
  subst h0
  by_cases h1 : a1 = b1
  rotate_left
  · have hn : (a0, (a1, (a2, (a3, (a4, (a5, ())))))) ≠ (a0, (b1, (b2, (b3, (b4, (b5, ())))))) := fun h => h1 (by simp only [Prod.mk.injEq] at h; simp_all)
    rw [dq_false hn]
    simp [h1]
  subst h1
  by_cases h2 : a2 = b2
  rotate_left
  · have hn : (a0, (a1, (a2, (a3, (a4, (a5, ())))))) ≠ (a0, (a1, (b2, (b3, (b4, (b5, ())))))) := fun h => h2 (by simp only [Prod.mk.injEq] at h; simp_all)
    rw [dq_false hn]
    simp [h2]
  subst h2
  by_cases h3 : a3 = b3
  rotate_left
  · have hn : (a0, (a1, (a2, (a3, (a4, (a5, ())))))) ≠ (a0, (a1, (a2, (b3, (b4, (b5, ())))))) := fun h => h3 (by simp only [Prod.mk.injEq] at h; simp_all)
    rw [dq_false hn]
    simp [h3]
  subst h3
  by_cases h4 : a4 = b4
  rotate_left
  · have hn : (a0, (a1, (a2, (a3, (a4, (a5, ())))))) ≠ (a0, (a1, (a2, (a3, (b4, (b5, ())))))) := fun h => h4 (by simp only [Prod.mk.injEq] at h; simp_all)
    rw [dq_false hn]
    simp [h4, dq_false]
  subst h4
  by_cases h5 : a5 = b5
  rotate_left
  · have hn : (a0, (a1, (a2, (a3, (a4, (a5, ())))))) ≠ (a0, (a1, (a2, (a3, (a4, (b5, ())))))) := fun h => h5 (by simp only [Prod.mk.injEq] at h; simp_all)
    rw [dq_false hn]
    simp [h5]
  subst h5
  simp [dq_self]
theorem eqSlots_is (k : Nat) (x y : Int × ByteArray × ByteArray × Int × List (Int) × Int × Int × ByteArray × ByteArray × Int × List (Int) × Int × Unit) (hk : 1048576 < k) (hb : Bd_Slots x) : w_eqSlots k (x, (y, ())) = some (dq x y, ((), ((), ()))) := by
  obtain ⟨a0, a1, a2, a3, a4, a5, a6, a7, a8, a9, a10, a11, u⟩ := x
  obtain ⟨b0, b1, b2, b3, b4, b5, b6, b7, b8, b9, b10, b11, u'⟩ := y
  unfold w_eqSlots
  unfold Bd_Slots at hb
  obtain ⟨w1, w2, w4, w7, w8, w10, _⟩ := hb
  simp only [] at w1 w2 w4 w7 w8 w10
  simp only [eqSlot_is k (a0, (a1, (a2, (a3, (a4, (a5, ())))))) (b0, (b1, (b2, (b3, (b4, (b5, ())))))) hk ⟨w1, w2, w4, trivial⟩, eqSlot_is k (a6, (a7, (a8, (a9, (a10, (a11, ())))))) (b6, (b7, (b8, (b9, (b10, (b11, ())))))) hk ⟨w7, w8, w10, trivial⟩, Option.bind_some]
  by_cases h0 : (a0, (a1, (a2, (a3, (a4, (a5, ())))))) = (b0, (b1, (b2, (b3, (b4, (b5, ()))))))
  rotate_left
  · have hn : (a0, (a1, (a2, (a3, (a4, (a5, (a6, (a7, (a8, (a9, (a10, (a11, ())))))))))))) ≠ (b0, (b1, (b2, (b3, (b4, (b5, (b6, (b7, (b8, (b9, (b10, (b11, ())))))))))))) := fun h => h0 (by simp only [Prod.mk.injEq] at h; simp_all)
    rw [dq_false hn]
    simp [h0, dq_false]
  simp only [Prod.mk.injEq, and_true] at h0
  obtain ⟨rfl, rfl, rfl, rfl, rfl, rfl⟩ := h0
  by_cases h1 : (a6, (a7, (a8, (a9, (a10, (a11, ())))))) = (b6, (b7, (b8, (b9, (b10, (b11, ()))))))
  rotate_left
  · have hn : (a0, (a1, (a2, (a3, (a4, (a5, (a6, (a7, (a8, (a9, (a10, (a11, ())))))))))))) ≠ (a0, (a1, (a2, (a3, (a4, (a5, (b6, (b7, (b8, (b9, (b10, (b11, ())))))))))))) := fun h => h1 (by simp only [Prod.mk.injEq] at h; simp_all)
    rw [dq_false hn]
    simp [h1, dq_false]
  simp only [Prod.mk.injEq, and_true] at h1
  obtain ⟨rfl, rfl, rfl, rfl, rfl, rfl⟩ := h1
  simp [dq_self]
theorem eqStringS_is (k : Nat) (a b : List (.str : Ty).den) (hk : 1048576 < k) (hb : Bd_StringS a) : w_eqStringS k (a, (b, ())) = some (dq a b, ((), ((), ()))) := by
  unfold w_eqStringS
  have hl : a.length ≤ 1048576 := hb
  by_cases hab : a.length = b.length
  · simp only [hab, decide_true, Bool.not_true]
    refine (loop_dq (t := .str) (R := Bool × Unit × Unit × Unit) a b hab (false, ((), ((), ()))) (true, ((), ((), ()))) ?_ ?_ k (by omega)).trans ?_
    · intro again i hi hl'
      have w : wi64 (i + 1) = i + 1 := w64_id _ (by omega)
      have hlb : i < (b.length : Int) := by omega
      simp only [hl', hi, hlb, w, decide_true, and_self, if_true]
      by_cases e : Ty.rd (t := .str) a i = Ty.rd (t := .str) b i <;> simp [e, dq_self, dq_false]
    · intro again i hi
      have : ¬ i < (a.length : Int) := by omega
      simp only [this, decide_false]
      rfl
    · cases dq a b <;> simp
  · have : ¬ ((a.length : Int) = (b.length : Int)) := by omega
    have h2 : a ≠ b := fun h => hab (by rw [h])
    simp [this, dq_false h2]
theorem eqBoolS_is (k : Nat) (a b : List (.bool : Ty).den) (hk : 1048576 < k) (hb : Bd_BoolS a) : w_eqBoolS k (a, (b, ())) = some (dq a b, ((), ((), ()))) := by
  unfold w_eqBoolS
  have hl : a.length ≤ 1048576 := hb
  by_cases hab : a.length = b.length
  · simp only [hab, decide_true, Bool.not_true]
    refine (loop_dq (t := .bool) (R := Bool × Unit × Unit × Unit) a b hab (false, ((), ((), ()))) (true, ((), ((), ()))) ?_ ?_ k (by omega)).trans ?_
    · intro again i hi hl'
      have w : wi64 (i + 1) = i + 1 := w64_id _ (by omega)
      have hlb : i < (b.length : Int) := by omega
      simp only [hl', hi, hlb, w, decide_true, and_self, if_true]
      by_cases e : Ty.rd (t := .bool) a i = Ty.rd (t := .bool) b i <;> simp [e, dq_self, dq_false]
    · intro again i hi
      have : ¬ i < (a.length : Int) := by omega
      simp only [this, decide_false]
      rfl
    · cases dq a b <;> simp
  · have : ¬ ((a.length : Int) = (b.length : Int)) := by omega
    have h2 : a ≠ b := fun h => hab (by rw [h])
    simp [this, dq_false h2]
theorem eqHeld_is (k : Nat) (x y : Int × Int × Int × List (ByteArray) × List (Bool) × Int × Unit) (hk : 1048576 < k) (hb : Bd_Held x) : w_eqHeld k (x, (y, ())) = some (dq x y, ((), ((), ()))) := by
  obtain ⟨a0, a1, a2, a3, a4, a5, u⟩ := x
  obtain ⟨b0, b1, b2, b3, b4, b5, u'⟩ := y
  unfold w_eqHeld
  unfold Bd_Held at hb
  obtain ⟨w3, w4, _⟩ := hb
  simp only [] at w3 w4
  simp only [eqStringS_is k a3 b3 hk w3, eqBoolS_is k a4 b4 hk w4, Option.bind_some]
  by_cases h0 : a0 = b0
  rotate_left
  · have hn : (a0, (a1, (a2, (a3, (a4, (a5, ())))))) ≠ (b0, (b1, (b2, (b3, (b4, (b5, ())))))) := fun h => h0 (by simp only [Prod.mk.injEq] at h; simp_all)
    rw [dq_false hn]
    simp [h0]
  subst h0
  by_cases h1 : a1 = b1
  rotate_left
  · have hn : (a0, (a1, (a2, (a3, (a4, (a5, ())))))) ≠ (a0, (b1, (b2, (b3, (b4, (b5, ())))))) := fun h => h1 (by simp only [Prod.mk.injEq] at h; simp_all)
    rw [dq_false hn]
    simp [h1]
  subst h1
  by_cases h2 : a2 = b2
  rotate_left
  · have hn : (a0, (a1, (a2, (a3, (a4, (a5, ())))))) ≠ (a0, (a1, (b2, (b3, (b4, (b5, ())))))) := fun h => h2 (by simp only [Prod.mk.injEq] at h; simp_all)
    rw [dq_false hn]
    simp [h2]
  subst h2
  by_cases h3 : a3 = b3
  rotate_left
  · have hn : (a0, (a1, (a2, (a3, (a4, (a5, ())))))) ≠ (a0, (a1, (a2, (b3, (b4, (b5, ())))))) := fun h => h3 (by simp only [Prod.mk.injEq] at h; simp_all)
    rw [dq_false hn]
    simp [h3, dq_false]
  subst h3
  by_cases h4 : a4 = b4
  rotate_left
  · have hn : (a0, (a1, (a2, (a3, (a4, (a5, ())))))) ≠ (a0, (a1, (a2, (a3, (b4, (b5, ())))))) := fun h => h4 (by simp only [Prod.mk.injEq] at h; simp_all)
    rw [dq_false hn]
    simp [h4, dq_false]
  subst h4
  by_cases h5 : a5 = b5
  rotate_left
  · have hn : (a0, (a1, (a2, (a3, (a4, (a5, ())))))) ≠ (a0, (a1, (a2, (a3, (a4, (b5, ())))))) := fun h => h5 (by simp only [Prod.mk.injEq] at h; simp_all)
    rw [dq_false hn]
    simp [h5]
  subst h5
  simp [dq_self]
theorem eqHeldS_is (k : Nat) (a b : List RT_Held.den) (hk : 1048576 < k) (hb : Bd_HeldS a) : w_eqHeldS k (a, (b, ())) = some (dq a b, ((), ((), ()))) := by
  unfold w_eqHeldS
  have hl : a.length ≤ 1048576 := hb.1
  by_cases hab : a.length = b.length
  · simp only [hab, decide_true, Bool.not_true]
    refine (loop_dq (t := RT_Held) (R := Bool × Unit × Unit × Unit) a b hab (false, ((), ((), ()))) (true, ((), ((), ()))) ?_ ?_ k (by omega)).trans ?_
    · intro again i hi hl'
      have w : wi64 (i + 1) = i + 1 := w64_id _ (by omega)
      have hlb : i < (b.length : Int) := by omega
      have hr := rd_get (t := RT_Held) a i (by omega)
      have e := eqHeld_is k (ag_Held (Ty.rd (t := RT_Held) a i)) (ag_Held (Ty.rd (t := RT_Held) b i)) hk (by rw [hr]; exact hb.2 _ (List.getElem_mem _))
      rw [show (dq (ag_Held (Ty.rd (t := RT_Held) a i)) (ag_Held (Ty.rd (t := RT_Held) b i))) = dq (Ty.rd (t := RT_Held) a i) (Ty.rd (t := RT_Held) b i) from dq_of (ag_Held_inj _ _)] at e
      simp only [ag_Held] at e
      simp only [hl', hi, hlb, e, w, decide_true, and_self, if_true, Option.bind_some]
      cases dq (Ty.rd (t := RT_Held) a i) (Ty.rd (t := RT_Held) b i) <;> simp
    · intro again i hi
      have : ¬ i < (a.length : Int) := by omega
      simp only [this, decide_false]
      rfl
    · cases dq a b <;> simp
  · have : ¬ ((a.length : Int) = (b.length : Int)) := by omega
    have h2 : a ≠ b := fun h => hab (by rw [h])
    simp [this, dq_false h2]
theorem eqShelf_is (k : Nat) (x y : (List (Int × Int × Int × List (ByteArray) × List (Bool) × Int)) × Unit) (hk : 1048576 < k) (hb : Bd_Shelf x) : w_eqShelf k (x, (y, ())) = some (dq x y, ((), ((), ()))) := by
  obtain ⟨a0, u⟩ := x
  obtain ⟨b0, u'⟩ := y
  unfold w_eqShelf
  unfold Bd_Shelf at hb
  obtain ⟨w0, _⟩ := hb
  simp only [] at w0
  simp only [eqHeldS_is k a0 b0 hk w0, Option.bind_some]
  by_cases h0 : a0 = b0
  rotate_left
  · have hn : (a0, ()) ≠ (b0, ()) := fun h => h0 (by simp only [Prod.mk.injEq] at h; simp_all)
    rw [dq_false hn]
    simp [h0, dq_false]
  subst h0
  simp [dq_self]
theorem eqUser_is (k : Nat) (x y : Int × Int × Int × ByteArray × ByteArray × Int × List (Int) × Int × Int × ByteArray × ByteArray × Int × List (Int) × Int × (List (Int × Int × Int × List (ByteArray) × List (Bool) × Int)) × Int × Unit) (hk : 1048576 < k) (hb : Bd_User x) : w_eqUser k (x, (y, ())) = some (dq x y, ((), ((), ()))) := by
  obtain ⟨a0, a1, a2, a3, a4, a5, a6, a7, a8, a9, a10, a11, a12, a13, a14, a15, u⟩ := x
  obtain ⟨b0, b1, b2, b3, b4, b5, b6, b7, b8, b9, b10, b11, b12, b13, b14, b15, u'⟩ := y
  unfold w_eqUser
  unfold Bd_User at hb
  obtain ⟨w3, w4, w6, w9, w10, w12, w14, _⟩ := hb
  simp only [] at w3 w4 w6 w9 w10 w12 w14
  simp only [eqSlots_is k (a2, (a3, (a4, (a5, (a6, (a7, (a8, (a9, (a10, (a11, (a12, (a13, ())))))))))))) (b2, (b3, (b4, (b5, (b6, (b7, (b8, (b9, (b10, (b11, (b12, (b13, ())))))))))))) hk ⟨w3, w4, w6, w9, w10, w12, trivial⟩, eqShelf_is k (a14, ()) (b14, ()) hk ⟨w14, trivial⟩, Option.bind_some]
  by_cases h0 : a0 = b0
  rotate_left
  · have hn : (a0, (a1, (a2, (a3, (a4, (a5, (a6, (a7, (a8, (a9, (a10, (a11, (a12, (a13, (a14, (a15, ())))))))))))))))) ≠ (b0, (b1, (b2, (b3, (b4, (b5, (b6, (b7, (b8, (b9, (b10, (b11, (b12, (b13, (b14, (b15, ())))))))))))))))) := fun h => h0 (by simp only [Prod.mk.injEq] at h; simp_all)
    rw [dq_false hn]
    simp [h0]
  subst h0
  by_cases h1 : a1 = b1
  rotate_left
  · have hn : (a0, (a1, (a2, (a3, (a4, (a5, (a6, (a7, (a8, (a9, (a10, (a11, (a12, (a13, (a14, (a15, ())))))))))))))))) ≠ (a0, (b1, (b2, (b3, (b4, (b5, (b6, (b7, (b8, (b9, (b10, (b11, (b12, (b13, (b14, (b15, ())))))))))))))))) := fun h => h1 (by simp only [Prod.mk.injEq] at h; simp_all)
    rw [dq_false hn]
    simp [h1]
  subst h1
  by_cases h2 : (a2, (a3, (a4, (a5, (a6, (a7, (a8, (a9, (a10, (a11, (a12, (a13, ())))))))))))) = (b2, (b3, (b4, (b5, (b6, (b7, (b8, (b9, (b10, (b11, (b12, (b13, ()))))))))))))
  rotate_left
  · have hn : (a0, (a1, (a2, (a3, (a4, (a5, (a6, (a7, (a8, (a9, (a10, (a11, (a12, (a13, (a14, (a15, ())))))))))))))))) ≠ (a0, (a1, (b2, (b3, (b4, (b5, (b6, (b7, (b8, (b9, (b10, (b11, (b12, (b13, (b14, (b15, ())))))))))))))))) := fun h => h2 (by simp only [Prod.mk.injEq] at h; simp_all)
    rw [dq_false hn]
    simp [h2, dq_false]
  simp only [Prod.mk.injEq, and_true] at h2
  obtain ⟨rfl, rfl, rfl, rfl, rfl, rfl, rfl, rfl, rfl, rfl, rfl, rfl⟩ := h2
  by_cases h3 : (a14, ()) = (b14, ())
  rotate_left
  · have hn : (a0, (a1, (a2, (a3, (a4, (a5, (a6, (a7, (a8, (a9, (a10, (a11, (a12, (a13, (a14, (a15, ())))))))))))))))) ≠ (a0, (a1, (a2, (a3, (a4, (a5, (a6, (a7, (a8, (a9, (a10, (a11, (a12, (a13, (b14, (b15, ())))))))))))))))) := fun h => h3 (by simp only [Prod.mk.injEq] at h; simp_all)
    rw [dq_false hn]
    simp [h3, dq_false]
  simp only [Prod.mk.injEq, and_true] at h3
  obtain ⟨rfl⟩ := h3
  by_cases h4 : a15 = b15
  rotate_left
  · have hn : (a0, (a1, (a2, (a3, (a4, (a5, (a6, (a7, (a8, (a9, (a10, (a11, (a12, (a13, (a14, (a15, ())))))))))))))))) ≠ (a0, (a1, (a2, (a3, (a4, (a5, (a6, (a7, (a8, (a9, (a10, (a11, (a12, (a13, (a14, (b15, ())))))))))))))))) := fun h => h4 (by simp only [Prod.mk.injEq] at h; simp_all)
    rw [dq_false hn]
    simp [h4]
  subst h4
  simp [dq_self]
theorem eqUserS_is (k : Nat) (a b : List RT_User.den) (hk : 1048576 < k) (hb : Bd_UserS a) : w_eqUserS k (a, (b, ())) = some (dq a b, ((), ((), ()))) := by
  unfold w_eqUserS
  have hl : a.length ≤ 1048576 := hb.1
  by_cases hab : a.length = b.length
  · simp only [hab, decide_true, Bool.not_true]
    refine (loop_dq (t := RT_User) (R := Bool × Unit × Unit × Unit) a b hab (false, ((), ((), ()))) (true, ((), ((), ()))) ?_ ?_ k (by omega)).trans ?_
    · intro again i hi hl'
      have w : wi64 (i + 1) = i + 1 := w64_id _ (by omega)
      have hlb : i < (b.length : Int) := by omega
      have hr := rd_get (t := RT_User) a i (by omega)
      have e := eqUser_is k (ag_User (Ty.rd (t := RT_User) a i)) (ag_User (Ty.rd (t := RT_User) b i)) hk (by rw [hr]; exact hb.2 _ (List.getElem_mem _))
      rw [show (dq (ag_User (Ty.rd (t := RT_User) a i)) (ag_User (Ty.rd (t := RT_User) b i))) = dq (Ty.rd (t := RT_User) a i) (Ty.rd (t := RT_User) b i) from dq_of (ag_User_inj _ _)] at e
      simp only [ag_User] at e
      simp only [hl', hi, hlb, e, w, decide_true, and_self, if_true, Option.bind_some]
      cases dq (Ty.rd (t := RT_User) a i) (Ty.rd (t := RT_User) b i) <;> simp
    · intro again i hi
      have : ¬ i < (a.length : Int) := by omega
      simp only [this, decide_false]
      rfl
    · cases dq a b <;> simp
  · have : ¬ ((a.length : Int) = (b.length : Int)) := by omega
    have h2 : a ≠ b := fun h => hab (by rw [h])
    simp [this, dq_false h2]
theorem eqHub_is (k : Nat) (x y : Int × Int × (List (Int × Int × Int)) × (List (Int × Int)) × (List ((Int × Int) × Int)) × (List (Int × Int × ((Int × ByteArray × ByteArray × Int × List (Int) × Int) × Int × ByteArray × ByteArray × Int × List (Int) × Int) × List (Int × Int × Int × List (ByteArray) × List (Bool) × Int) × Int)) × Unit) (hk : 1048576 < k) (hb : Bd_Hub x) : w_eqHub k (x, (y, ())) = some (dq x y, ((), ((), ()))) := by
  obtain ⟨a0, a1, a2, a3, a4, a5, u⟩ := x
  obtain ⟨b0, b1, b2, b3, b4, b5, u'⟩ := y
  unfold w_eqHub
  unfold Bd_Hub at hb
  obtain ⟨w2, w3, w4, w5, _⟩ := hb
  simp only [] at w2 w3 w4 w5
  simp only [eqPool_is k (a0, (a1, (a2, (a3, ())))) (b0, (b1, (b2, (b3, ())))) hk ⟨w2, w3, trivial⟩, eqRouteS_is k a4 b4 hk w4, eqUserS_is k a5 b5 hk w5, Option.bind_some]
  by_cases h0 : (a0, (a1, (a2, (a3, ())))) = (b0, (b1, (b2, (b3, ()))))
  rotate_left
  · have hn : (a0, (a1, (a2, (a3, (a4, (a5, ())))))) ≠ (b0, (b1, (b2, (b3, (b4, (b5, ())))))) := fun h => h0 (by simp only [Prod.mk.injEq] at h; simp_all)
    rw [dq_false hn]
    simp [h0, dq_false]
  simp only [Prod.mk.injEq, and_true] at h0
  obtain ⟨rfl, rfl, rfl, rfl⟩ := h0
  by_cases h1 : a4 = b4
  rotate_left
  · have hn : (a0, (a1, (a2, (a3, (a4, (a5, ())))))) ≠ (a0, (a1, (a2, (a3, (b4, (b5, ())))))) := fun h => h1 (by simp only [Prod.mk.injEq] at h; simp_all)
    rw [dq_false hn]
    simp [h1, dq_false]
  subst h1
  by_cases h2 : a5 = b5
  rotate_left
  · have hn : (a0, (a1, (a2, (a3, (a4, (a5, ())))))) ≠ (a0, (a1, (a2, (a3, (a4, (b5, ())))))) := fun h => h2 (by simp only [Prod.mk.injEq] at h; simp_all)
    rw [dq_false hn]
    simp [h2, dq_false]
  subst h2
  simp [dq_self]
abbrev RT_Hub : Ty := (.pair (.pair (.pair (.int .i64) (.int .i64)) (.pair (.list (.pair (.int .i64) (.pair (.int .i64) (.int .i64)))) (.list (.pair (.int .i64) (.int .i64))))) (.pair (.list (.pair (.pair (.int .i64) (.int .i64)) (.int .i64))) (.list (.pair (.int .i64) (.pair (.int .i64) (.pair (.pair (.pair (.int .i64) (.pair .str (.pair .str (.pair (.int .i64) (.pair (.list (.int .i64)) (.int .i64)))))) (.pair (.int .i64) (.pair .str (.pair .str (.pair (.int .i64) (.pair (.list (.int .i64)) (.int .i64))))))) (.pair (.list (.pair (.int .i64) (.pair (.int .i64) (.pair (.int .i64) (.pair (.list .str) (.pair (.list .bool) (.int .i64))))))) (.int .i64))))))))
def ag_Hub (r : RT_Hub.den) : Int × Int × (List (Int × Int × Int)) × (List (Int × Int)) × (List ((Int × Int) × Int)) × (List (Int × Int × ((Int × ByteArray × ByteArray × Int × List (Int) × Int) × Int × ByteArray × ByteArray × Int × List (Int) × Int) × List (Int × Int × Int × List (ByteArray) × List (Bool) × Int) × Int)) × Unit := (r.1.1.1, (r.1.1.2, (r.1.2.1, (r.1.2.2, (r.2.1, (r.2.2, ()))))))
theorem ag_Hub_inj (r r' : RT_Hub.den) : (ag_Hub r = ag_Hub r') ↔ r = r' := by
  constructor
  · intro h
    obtain ⟨⟨⟨x0, x1⟩, ⟨x2, x3⟩⟩, ⟨x4, x5⟩⟩ := r
    obtain ⟨⟨⟨y0, y1⟩, ⟨y2, y3⟩⟩, ⟨y4, y5⟩⟩ := r'
    simp only [ag_Hub, Prod.mk.injEq, and_true] at h
    simp only [Prod.mk.injEq]
    simp_all
  · intro h
    rw [h]
theorem wfr_Lease (r : RT_Lease.den) (h : RT_Lease.wf r) : Wf_Lease (ag_Lease r) := trivial
theorem wfr_Fixed (r : RT_Fixed.den) (h : RT_Fixed.wf r) : Wf_Fixed (ag_Fixed r) := trivial
theorem wfr_Route (r : RT_Route.den) (h : RT_Route.wf r) : Wf_Route (ag_Route r) := trivial
theorem wfr_Held (r : RT_Held.den) (h : RT_Held.wf r) : Wf_Held (ag_Held r) := ⟨h.2.2.2.1, h.2.2.2.2.1.1, trivial⟩
theorem wfr_User (r : RT_User.den) (h : RT_User.wf r) : Wf_User (ag_User r) := ⟨h.2.2.1.1.2.1, h.2.2.1.1.2.2.1, h.2.2.1.1.2.2.2.2.1.1, h.2.2.1.2.2.1, h.2.2.1.2.2.2.1, h.2.2.1.2.2.2.2.2.1.1, ⟨h.2.2.2.1.1, fun r hr => wfr_Held r (h.2.2.2.1.2 r hr)⟩, trivial⟩
theorem wfr_Hub (r : RT_Hub.den) (h : RT_Hub.wf r) : Wf_Hub (ag_Hub r) := ⟨⟨h.1.2.1.1, fun r hr => wfr_Lease r (h.1.2.1.2 r hr)⟩, ⟨h.1.2.2.1, fun r hr => wfr_Fixed r (h.1.2.2.2 r hr)⟩, ⟨h.2.1.1, fun r hr => wfr_Route r (h.2.1.2 r hr)⟩, ⟨h.2.2.1, fun r hr => wfr_User r (h.2.2.2 r hr)⟩, trivial⟩
abbrev RT_Inner : Ty := (.pair (.int .i64) (.pair (.int .i64) .str))
def ag_Inner (r : RT_Inner.den) : Int × Int × ByteArray × Unit := (r.1, (r.2.1, (r.2.2, ())))
theorem ag_Inner_inj (r r' : RT_Inner.den) : (ag_Inner r = ag_Inner r') ↔ r = r' := by
  constructor
  · intro h
    obtain ⟨x0, ⟨x1, x2⟩⟩ := r
    obtain ⟨y0, ⟨y1, y2⟩⟩ := r'
    simp only [ag_Inner, Prod.mk.injEq, and_true] at h
    simp only [Prod.mk.injEq]
    simp_all
  · intro h
    rw [h]
theorem wfr_Inner (r : RT_Inner.den) (h : RT_Inner.wf r) : Wf_Inner (ag_Inner r) := ⟨h.2.2, trivial⟩
theorem andNot_mask (i : Nat) (hi : i ≤ 62) (x : Int) (h0 : 0 ≤ x) (h1 : x < 2 ^ 63) : bitsI .andNot .i64 x ((2 : Int) ^ i - 1) = x - x % (2 : Int) ^ i := by
  obtain ⟨a, rfl⟩ := Int.eq_ofNat_of_zero_le h0
  have ha : a < 2 ^ 63 := by exact_mod_cast h1
  have hpos : 0 < 2 ^ i := Nat.two_pow_pos i
  have hle : 2 ^ i ≤ 2 ^ 62 := Nat.pow_le_pow_right (by decide) hi
  have hc : ((2 : Int) ^ i - 1) = ((2 ^ i - 1 : Nat) : Int) := by
    rw [Int.natCast_sub hpos]; simp
  have hb : (2 ^ i - 1) % 2 ^ 64 = 2 ^ i - 1 := Nat.mod_eq_of_lt (by omega)
  have ha' : a % 2 ^ 64 = a := Nat.mod_eq_of_lt (by omega)
  have key : a &&& (2 ^ 64 - 1 - (2 ^ i - 1)) = a - a % 2 ^ i := by
    have e : a - a % 2 ^ i = 2 ^ i * (a / 2 ^ i) := by
      have := Nat.div_add_mod a (2 ^ i)
      omega
    rw [e]
    apply Nat.eq_of_testBit_eq
    intro j
    have e2 : 2 ^ 64 - 1 - (2 ^ i - 1) = 2 ^ 64 - (2 ^ i - 1 + 1) := by omega
    rw [e2, Nat.testBit_and, Nat.testBit_two_pow_sub_succ (by omega), Nat.testBit_two_pow_sub_one, Nat.testBit_two_pow_mul, Nat.testBit_div_two_pow]
    by_cases hj : i ≤ j
    · have hj' : ¬ j < i := by omega
      have hs : j - i + i = j := by omega
      by_cases h64 : j < 64
      · simp [hj, hj', h64, hs]
      · have : a.testBit j = false := Nat.testBit_lt_two_pow (Nat.lt_of_lt_of_le ha (Nat.pow_le_pow_right (by decide) (by omega)))
        simp [hj, h64, hs, this]
    · have hj' : j < i := by omega
      simp [hj, hj']
  show IntKind.i64.wrap ((BitVec.ofInt 64 (a : Int) &&& ~~~(BitVec.ofInt 64 ((2 : Int) ^ i - 1))).toNat : Int) = _
  rw [hc, BitVec.toNat_and, BitVec.toNat_not, BitVec.ofInt_natCast, BitVec.ofInt_natCast, BitVec.toNat_ofNat, BitVec.toNat_ofNat, hb, ha', key]
  have hm : a % 2 ^ i ≤ a := Nat.mod_le _ _
  rw [Int.natCast_sub hm, w64_id _ (by omega)]
  simp
theorem emod_le_self (a m : Int) (h : 0 ≤ a) (hm : 0 < m) : 0 ≤ a % m ∧ a % m ≤ a := by
  have h1 := Int.emod_nonneg a (by omega : m ≠ 0)
  have h2 := Int.mul_ediv_add_emod a m
  have h3 : 0 ≤ m * (a / m) := Int.mul_nonneg (by omega) (Int.ediv_nonneg h (by omega))
  omega
theorem pow_pos_int (n : Nat) : 0 < (2 : Int) ^ n := by
  have h0 : 0 < (2 : Nat) ^ n := Nat.two_pow_pos _
  rw [← pow_cast]
  omega
def inB (p n a : Int) : Bool := decide ((0 ≤ p ∧ p ≤ 4294967295) ∧ (0 ≤ n ∧ n ≤ 32) ∧ p % 2 ^ (32 - n.toNat) = 0) && (decide (0 ≤ a ∧ a ≤ 4294967295) && decide (a - a % (2 : Int) ^ (32 - n.toNat) = p))
theorem s_InPrefix_is (k : Nat) (p n a : Int) (hk : 40 < k) : s_InPrefix k ((p, (n, ())), (a, ())) = some (inB p n a, ((), ((), ()))) := by
  unfold s_InPrefix inB
  simp only [s_PrefixOk_is k p n hk, s_AddrOk_is, Option.bind_some]
  cases hd : decide ((0 ≤ p ∧ p ≤ 4294967295) ∧ (0 ≤ n ∧ n ≤ 32) ∧ p % 2 ^ (32 - n.toNat) = 0) with
  | false => simp
  | true =>
    have h' := (of_decide_eq_true hd).2.1
    by_cases h : 0 ≤ a ∧ a ≤ 4294967295
    · have hp := pow_pos_int (32 - n.toNat)
      have hm := emod_le_self a _ h.1 hp
      have w : wi64 (a - a % (2 : Int) ^ (32 - n.toNat)) = a - a % (2 : Int) ^ (32 - n.toNat) := w64_id _ (by omega)
      simp only [l08Size_is k n h' hk, Option.bind_some, h, and_self, decide_true, if_true, Bool.true_and]
      rw [if_neg (by omega), Int.tmod_eq_emod_of_nonneg h.1, w]
    · simp [h]
theorem i_InPrefix_is (k : Nat) (p n a : Int) : i_InPrefix k ((p, (n, ())), (a, ())) = some (inB p n a, ((), ((), ()))) := by
  unfold i_InPrefix inB
  simp only [i_PrefixOk_is, i_AddrOk_is, Option.bind_some]
  cases hd : decide ((0 ≤ p ∧ p ≤ 4294967295) ∧ (0 ≤ n ∧ n ≤ 32) ∧ p % 2 ^ (32 - n.toNat) = 0) with
  | false => simp
  | true =>
    have h' := (of_decide_eq_true hd).2.1
    by_cases h : 0 ≤ a ∧ a ≤ 4294967295
    · simp only [lastBits_is k n h', Option.bind_some, h, and_self, decide_true, if_true, Bool.true_and]
      rw [andNot_mask _ (by omega) a h.1 (by omega)]
    · simp [h]
theorem Compare_is (k : Nat) (a b : Int) : x_cmp_Compare_int k (a, (b, ())) = some ((if a < b then -1 else if b < a then 1 else 0), ((), ((), ()))) := by
  unfold x_cmp_Compare_int x_cmp_isNaN_int
  simp only [Option.bind_some, decide_true, Bool.not_true, Bool.false_eq_true, if_false]
  by_cases h : a < b
  · simp [h]
  · by_cases h' : b < a <;> simp [h, h']
theorem Or_is (k : Nat) (a b : Int) (hk : 3 < k) : x_cmp_Or_int k ([a, b], ()) = some ((if a = 0 then b else a), ((), ())) := by
  unfold x_cmp_Or_int
  have r0 : Ty.rd (t := .int .i64) [a, b] 0 = a := rfl
  have r1 : Ty.rd (t := .int .i64) [a, b] 1 = b := rfl
  refine (loop_find (R := Int × Unit × Unit) (fun j => ((0 : Int), ([a, b], ((2 : Int), (((j : Nat) : Int), ()))))) 2 (fun j => !decide (Ty.rd (t := .int .i64) [a, b] (j : Nat) = 0)) (fun j => (Ty.rd (t := .int .i64) [a, b] (j : Nat), ((), ()))) (0, ((), ())) ?_ ?_ k (by omega)).trans ?_
  · intro ag j hj
    have q1 : (0 : Int) ≤ (j : Int) ∧ (j : Int) < (([a, b] : List Int).length : Int) := by simp; omega
    have q2 : (j : Int) < 2 := by omega
    have w3 : wi64 ((j : Int) + 1) = ((j + 1 : Nat) : Int) := (w64_id _ (by omega)).trans (by omega)
    simp only [q1, q2, w3, and_self, decide_true, if_true]
  · intro ag
    simp
  · have e : List.range 2 = [0, 1] := rfl
    rw [e]
    by_cases h : a = 0
    · subst h
      by_cases h1 : b = 0
      · subst h1
        simp [Ty.rd]
      · simp [Ty.rd, h1]
    · simp [Ty.rd, h]
def aheadB (p n q m : Int) : Bool := decide (p < q) || (decide (p = q) && decide (n < m))
theorem Ahead_is (k : Nat) (p n q m : Int) : s_l09Ahead k ((p, (n, ())), ((q, (m, ())), ())) = some (aheadB p n q m, ((), ((), ()))) := by
  unfold s_l09Ahead aheadB
  by_cases h : p < q
  · simp [h]
  · by_cases h' : p = q <;> simp [h, h']
theorem comparePrefixes_is (k : Nat) (p n q m : Int) (hk : 3 < k) : ∃ c : Int, i_comparePrefixes k ((p, (n, ())), ((q, (m, ())), ())) = some (c, ((), ((), ()))) ∧ (0 ≤ c ↔ aheadB p n q m = false) := by
  unfold i_comparePrefixes aheadB
  simp only [Compare_is, Or_is k _ _ hk, Option.bind_some]
  refine ⟨_, rfl, ?_⟩
  by_cases h : p < q
  · simp [h]
  · by_cases h' : q < p
    · have : ¬ p = q := by omega
      simp [h, h', this]
    · have : p = q := by omega
      subst this
      by_cases h3 : n < m
      · simp [h3]
      · by_cases h4 : m < n <;> simp [h3, h4]
def gRoute (a : List RT_Route.den) (i : Nat) (_ : Unit) : (Bool × Unit × Unit) ⊕ Unit :=
  let r := Ty.rd (t := RT_Route) a i
  let p := Ty.rd (t := RT_Route) a (wi64 ((i : Int) - 1))
  if decide ((0 ≤ r.1.1 ∧ r.1.1 ≤ 4294967295) ∧ (0 ≤ r.1.2 ∧ r.1.2 ≤ 32) ∧ r.1.1 % 2 ^ (32 - r.1.2.toNat) = 0) && (decide (1 ≤ r.2 ∧ r.2 ≤ 99) && (!decide (0 < (i : Int)) || aheadB p.1.1 p.1.2 r.1.1 r.1.2)) then .inr () else .inl (false, ((), ()))
def routesB (a : List RT_Route.den) : Bool := (foldE (gRoute a) (fun _ => (decide ((a.length : Int) ≤ 12), ((), ()))) a.length 0 ()).1
theorem s_RoutesOk_is (k : Nat) (a : List RT_Route.den) (hk : 1048576 < k) (hl : a.length ≤ 1048576) : s_RoutesOk k (a, ()) = some (routesB a, ((), ())) := by
  unfold s_RoutesOk
  refine (loop_fold (A := Unit) (fun i _ => (a, (((i : Nat) : Int), ()))) a.length (gRoute a) (fun _ => (decide ((a.length : Int) ≤ 12), ((), ()))) (fun _ _ => True) ?_ (fun _ _ _ _ _ _ => trivial) ?_ k () trivial (by omega)).trans rfl
  · intro again i _ hi _
    have w2 : wi64 ((i : Int) + 1) = ((i + 1 : Nat) : Int) := (w64_id _ (by omega)).trans (by omega)
    have w1 : wi64 ((i : Int) - 1) = (i : Int) - 1 := w64_id _ (by omega)
    have g1 : (0 : Int) ≤ (i : Int) ∧ (i : Int) < (a.length : Int) := by omega
    unfold gRoute
    simp only [g1, s_PrefixOk_is k _ _ (by omega : 40 < k), Ahead_is, l01In_is, w2, and_self, decide_true, if_true, Option.bind_some]
    generalize decide ((0 ≤ (Ty.rd (t := RT_Route) a i).1.1 ∧ (Ty.rd (t := RT_Route) a i).1.1 ≤ 4294967295) ∧ (0 ≤ (Ty.rd (t := RT_Route) a i).1.2 ∧ (Ty.rd (t := RT_Route) a i).1.2 ≤ 32) ∧ (Ty.rd (t := RT_Route) a i).1.1 % 2 ^ (32 - (Ty.rd (t := RT_Route) a i).1.2.toNat) = 0) = b1
    generalize decide (1 ≤ (Ty.rd (t := RT_Route) a i).2 ∧ (Ty.rd (t := RT_Route) a i).2 ≤ 99) = b2
    cases b1 with
    | false => simp
    | true =>
      cases b2 with
      | false => simp
      | true =>
        by_cases h2 : 0 < (i : Int)
        · have g3 : (0 : Int) ≤ wi64 ((i : Int) - 1) ∧ wi64 ((i : Int) - 1) < (a.length : Int) := by rw [w1]; omega
          simp only [h2, g3, and_self, decide_true, Bool.not_true, if_true, Bool.true_and, Bool.false_or]
          generalize aheadB _ _ _ _ = b3
          cases b3 <;> simp
        · have : i = 0 := by omega
          subst this
          simp
  · intro again _ _
    simp
theorem isId_is (k : Nat) (a : Int) : i_isId k (a, ()) = some (decide (1 ≤ a ∧ a ≤ 99), ((), ())) := by
  unfold i_isId
  rw [within_is]
  rfl
theorem i_RoutesOk_is (k : Nat) (a : List RT_Route.den) (hk : 1048576 < k) (hl : a.length ≤ 1048576) : i_RoutesOk k (a, ()) = some (routesB a, ((), ())) := by
  unfold i_RoutesOk
  refine (loop_fold (A := Unit) (fun i _ => (a, (a, ((a.length : Int), (((i : Nat) : Int), ()))))) a.length (gRoute a) (fun _ => (decide ((a.length : Int) ≤ 12), ((), ()))) (fun _ _ => True) ?_ (fun _ _ _ _ _ _ => trivial) ?_ k () trivial (by omega)).trans rfl
  · intro again i _ hi _
    have w2 : wi64 ((i : Int) + 1) = ((i + 1 : Nat) : Int) := (w64_id _ (by omega)).trans (by omega)
    have w1 : wi64 ((i : Int) - 1) = (i : Int) - 1 := w64_id _ (by omega)
    have g1 : (0 : Int) ≤ (i : Int) ∧ (i : Int) < (a.length : Int) := by omega
    unfold gRoute
    obtain ⟨c, hc, hc'⟩ := comparePrefixes_is k (Ty.rd (t := RT_Route) a (wi64 ((i : Int) - 1))).1.1 (Ty.rd (t := RT_Route) a (wi64 ((i : Int) - 1))).1.2 (Ty.rd (t := RT_Route) a i).1.1 (Ty.rd (t := RT_Route) a i).1.2 (by omega)
    simp only [g1, i_PrefixOk_is, hc, isId_is, w2, and_self, decide_true, if_true, Option.bind_some]
    generalize decide ((0 ≤ (Ty.rd (t := RT_Route) a i).1.1 ∧ (Ty.rd (t := RT_Route) a i).1.1 ≤ 4294967295) ∧ (0 ≤ (Ty.rd (t := RT_Route) a i).1.2 ∧ (Ty.rd (t := RT_Route) a i).1.2 ≤ 32) ∧ (Ty.rd (t := RT_Route) a i).1.1 % 2 ^ (32 - (Ty.rd (t := RT_Route) a i).1.2.toNat) = 0) = b1
    generalize decide (1 ≤ (Ty.rd (t := RT_Route) a i).2 ∧ (Ty.rd (t := RT_Route) a i).2 ≤ 99) = b2
    generalize aheadB _ _ _ _ = b3 at hc'
    cases b1 with
    | false => simp
    | true =>
      cases b2 with
      | false => simp
      | true =>
        by_cases h2 : 0 < (i : Int)
        · have g3 : (0 : Int) ≤ wi64 ((i : Int) - 1) ∧ wi64 ((i : Int) - 1) < (a.length : Int) := by rw [w1]; omega
          simp only [h2, g3, and_self, decide_true, Bool.not_true, if_true, Bool.true_and, Bool.false_or]
          cases b3 with
          | false => have := hc'.2 rfl; simp [this]
          | true =>
            have : ¬ 0 ≤ c := fun h => by have := hc'.1 h; simp at this
            simp [this]
        · have : i = 0 := by omega
          subst this
          simp
  · intro again _ _
    simp
def gLook (a : List RT_Route.den) (x : Int) (i : Nat) (b : Int × Int) : (Int × Unit × Unit × Unit) ⊕ (Int × Int) :=
  let r := Ty.rd (t := RT_Route) a i
  .inr (if inB r.1.1 r.1.2 x && decide (b.1 < r.1.2) then (r.1.2, r.2) else b)
def lookB (a : List RT_Route.den) (x : Int) : Int := if routesB a then (foldE (gLook a x) (fun b => (b.2, ((), ((), ())))) a.length 0 (-1, 0)).1 else 0
theorem s_LookUp_is (k : Nat) (a : List RT_Route.den) (x : Int) (hk : 1048576 < k) (hl : a.length ≤ 1048576) : s_LookUp k (a, (x, ())) = some (lookB a x, ((), ((), ()))) := by
  unfold s_LookUp lookB
  simp only [s_RoutesOk_is k a hk hl, Option.bind_some]
  cases hb : routesB a with
  | false => simp
  | true =>
    simp only [Bool.not_true, Bool.false_eq_true, if_false, if_true]
    refine (loop_fold (A := Int × Int) (fun i b => (a, (x, (b.1, (b.2, (((i : Nat) : Int), ())))))) a.length (gLook a x) (fun b => (b.2, ((), ((), ())))) (fun _ _ => True) ?_ (fun _ _ _ _ _ _ => trivial) ?_ k (-1, 0) trivial (by omega)).trans rfl
    · intro again i b hi _
      have w2 : wi64 ((i : Int) + 1) = ((i + 1 : Nat) : Int) := (w64_id _ (by omega)).trans (by omega)
      have g1 : (0 : Int) ≤ (i : Int) ∧ (i : Int) < (a.length : Int) := by omega
      unfold gLook
      simp only [g1, s_InPrefix_is k _ _ _ (by omega : 40 < k), w2, and_self, decide_true, if_true, Option.bind_some]
      cases inB (Ty.rd (t := RT_Route) a i).1.1 (Ty.rd (t := RT_Route) a i).1.2 x with
      | false => simp
      | true => by_cases h : b.1 < (Ty.rd (t := RT_Route) a i).1.2 <;> simp [h]
    · intro again b _
      simp
theorem i_LookUp_is (k : Nat) (a : List RT_Route.den) (x : Int) (hk : 1048576 < k) (hl : a.length ≤ 1048576) : i_LookUp k (a, (x, ())) = some (lookB a x, ((), ((), ()))) := by
  unfold i_LookUp lookB
  simp only [i_RoutesOk_is k a hk hl, Option.bind_some]
  cases hb : routesB a with
  | false => simp
  | true =>
    simp only [Bool.not_true, Bool.false_eq_true, if_false, if_true]
    refine (loop_fold (A := Int × Int × Int) (fun i b => (x, ((b.1, (b.2.1, (b.2.2, ()))), (a, ((a.length : Int), (((i : Nat) : Int), ())))))) a.length (fun i b => .inr (if inB (Ty.rd (t := RT_Route) a i).1.1 (Ty.rd (t := RT_Route) a i).1.2 x && decide (b.2.1 < (Ty.rd (t := RT_Route) a i).1.2) then ((Ty.rd (t := RT_Route) a i).1.1, (Ty.rd (t := RT_Route) a i).1.2, (Ty.rd (t := RT_Route) a i).2) else b)) (fun b => (b.2.2, ((), ((), ())))) (fun _ _ => True) ?_ (fun _ _ _ _ _ _ => trivial) ?_ k (0, -1, 0) trivial (by omega)).trans ?_
    · intro again i b hi _
      have w2 : wi64 ((i : Int) + 1) = ((i + 1 : Nat) : Int) := (w64_id _ (by omega)).trans (by omega)
      have g1 : (0 : Int) ≤ (i : Int) ∧ (i : Int) < (a.length : Int) := by omega
      simp only [g1, i_InPrefix_is, w2, and_self, decide_true, if_true, Option.bind_some]
      cases inB (Ty.rd (t := RT_Route) a i).1.1 (Ty.rd (t := RT_Route) a i).1.2 x with
      | false => simp
      | true => by_cases h : b.2.1 < (Ty.rd (t := RT_Route) a i).1.2 <;> simp [h]
    · intro again b _
      simp
    · refine congrArg some ?_
      refine foldE_sim (n := a.length) (fun (b : Int × Int × Int) (c : Int × Int) => b.2 = c) ?_ ?_ _ _ _ _ (by omega) rfl
      · rintro i b c hi rfl
        refine .inr ⟨_, _, rfl, rfl, ?_⟩
        split <;> rfl
      · rintro b c rfl
        rfl
theorem pure_FnExactAllowed (x : argsDen pars_FnExactAllowed) (hx : argsWf pars_FnExactAllowed x) : ∃ k o, w_FnExactAllowed k (argsX pars_FnExactAllowed x) = some (true, o) := by
  obtain ⟨h0, id, i0, u⟩ := x
  refine ⟨1048577, ((), ((), ((), ()))), ?_⟩
  show w_FnExactAllowed 1048577 (ag_Hub h0, (id, (ag_Inner i0, ()))) = _
  have hw := wfr_Hub h0 hx.1
  have hv := wfr_Inner i0 hx.2.2.1
  generalize ag_Hub h0 = h at hw
  generalize ag_Inner i0 = y at hv
  unfold w_FnExactAllowed
  obtain ⟨m, h1, h2⟩ := szHub_le 1048577 h 1048576 (by omega) (by decide) hw
  simp only [h1, Option.bind_some]
  by_cases hm : m < 0
  · simp [hm]
  obtain ⟨_, hb⟩ := h2 (by omega)
  obtain ⟨m', h3, h4⟩ := szInner_le 1048577 y m ⟨by omega, by omega⟩ (by decide) hv
  simp only [hm, decide_false, h3, Option.bind_some, Bool.false_eq_true, if_false]
  by_cases hm' : m' < 0
  · simp [hm']
  obtain ⟨_, hb'⟩ := h4 (by omega)
  have hl : h.2.2.2.2.1.length ≤ 1048576 := hb.2.2.1.1
  simp only [hm', decide_false, toHub_is 1048577 h (by decide) hb, toInner_is 1048577 y (by decide) hb', s_Allowed, i_Allowed, s_LookUp_is 1048577 _ _ (by decide) hl, i_LookUp_is 1048577 _ _ (by decide) hl, eqHub_is 1048577 h h (by decide) hb, dq_self, Option.bind_some, Bool.false_eq_true, if_false, decide_true, Bool.not_true]
open Go.ChangeShapes Go.WideShapes Go.ChangeAt Go.RowKit
theorem own_FnExactAllowed : ownKnob Try.prog.godebug = none := by kernel_rfl
theorem lifted_FnExactAllowed (os : Os) (started : os.Started) (H : Type) (enc : TypeId × Value → H) :
    ReturnsInHanded {} Try.checked os 8 .any (Rows.fnExactAllowedSpec.pre6 enc Try.prog Try.f8 Rows.fnExactAllowedRow.domain false) (Rows.fnExactAllowedSpec.post enc Try.prog Try.f8 false true false false) :=
  law_lifted (C := Try.checked) (l := pars_FnExactAllowed) (rb := 4) own_FnExactAllowed started (by kernel_rfl) Try.func8
    (ChangeSpec.witness6 (enc := enc) (C := Try.checked) false ⟨#[], #[.agg #[.int .i64 0, .int .i64 0, .slice none 0 0, .slice none 0 0, .slice none 0 0, .slice none 0 0], .int .i64 0, .agg #[.int .i64 0, .int .i64 0, .string ByteArray.empty]], []⟩ 8 (by kernel_rfl) (by kernel_rfl) (by kernel_rfl) (by kernel_rfl))
    e_w_FnExactAllowed rfl (by decide) pure_FnExactAllowed (by kernel_rfl) rfl Try.underlying4 (by kernel_rfl) (by kernel_rfl) rfl
    (fun ds h => match ds, h with | [_, _, _], _ => rfl)
theorem inPlace_FnExactAllowed : Try.prog.inPlace 8 = Rows.fnExactAllowedRow.inPlace := by kernel_rfl
theorem unfollowed_FnExactAllowed : Try.prog.unfollowed 8 = Rows.fnExactAllowedRow.unfollowed := by kernel_rfl
theorem recurses_FnExactAllowed : Try.prog.recurses 8 = Rows.fnExactAllowedRow.recurses := by kernel_rfl
theorem named_FnExactAllowed : Try.prog.varsNamed 8 = Rows.fnExactAllowedRow.named := by kernel_rfl
theorem facts_FnExactAllowed : joinedFacts Try.prog 8 Try.f8 Rows.fnExactAllowedSpec Rows.fnExactAllowedRow = true := by
  unfold joinedFacts
  rw [seat_laid, seat_maps, seat_heard, seat_enter, inPlace_FnExactAllowed, unfollowed_FnExactAllowed, recurses_FnExactAllowed, named_FnExactAllowed]
  kernel_rfl
theorem fnExactAllowed_holds : Rows.FnExactAllowedSaid :=
  OpenClaim.holds_of_wide 8 Try.f8 rfl rfl rfl rfl rfl rfl rfl ⟨rfl, rfl, rfl, rfl, rfl⟩ rfl rfl rfl rfl rfl (by kernel_rfl) Try.func8 facts_FnExactAllowed (of_decide_eq_true (by kernel_rfl))
    (by unfold Func.isWrapper; first | (rw [if_pos (by decide +kernel)]; kernel_rfl) | (rw [if_neg (by decide +kernel)]; exact ⟨rfl, rfl⟩)) (fun os started H enc _ => lifted_FnExactAllowed os started H enc)
#print axioms fnExactAllowed_holds
end Go.Proofs.Ytfponeljjihkbaa
