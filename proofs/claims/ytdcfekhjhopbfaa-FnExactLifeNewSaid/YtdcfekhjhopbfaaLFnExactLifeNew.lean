import Derived.Test.YtdcfekhjhopbfaaRows
import Derived.Test.YtdcfekhjhopbfaaFun2
import Derived.Test.YtdcfekhjhopbfaaBase
import Derived.Test.YtdcfekhjhopbfaaFacts
import Derived.WalkKit
import Derived.ProofKit
import Derived.OpenShut
import Derived.ShutString
import Derived.ChangeOld
import Derived.Below
import Derived.SizedLaws
/- FnExactLifeNew answers true for every input, and its arguments read behind the call as they did ahead of it. Conditions: none. -/
set_option linter.unusedVariables false
namespace Go.Proofs.Ytdcfekhjhopbfaa
open Go Go.Eng Go.Proofs
abbrev pars_FnExactLifeNew : List Par := [(true, (.pair (.int .i64) (.int .i64)))]
theorem l01In_is (k : Nat) (a b c : Int) : s_l01In k (a, (b, (c, ()))) = some (decide (b ≤ a ∧ a ≤ c), ((), ((), ((), ())))) := by
  unfold s_l01In
  by_cases h : b ≤ a <;> simp [h]
theorem within_is (k : Nat) (a b c : Int) : i_within k (a, (b, (c, ()))) = some (decide (b ≤ a ∧ a ≤ c), ((), ((), ((), ())))) := l01In_is k a b c
theorem s_AddrOk_is (k : Nat) (a : Int) : s_AddrOk k (a, ()) = some (decide (0 ≤ a ∧ a ≤ 4294967295), ((), ())) := by
  unfold s_AddrOk
  rw [l01In_is]
  rfl
theorem i_AddrOk_is (k : Nat) (a : Int) : i_AddrOk k (a, ()) = some (decide (0 ≤ a ∧ a ≤ 4294967295), ((), ())) := s_AddrOk_is k a
theorem pow_cast (n : Nat) : ((2 ^ n : Nat) : Int) = (2 : Int) ^ n := by simp
theorem l08Size_is (k : Nat) (n : Int) (h : 0 ≤ n ∧ n ≤ 32) (hk : 40 < k) : s_l08Size k (n, ()) = some ((2 : Int) ^ (32 - n.toNat), ((), ())) := by
  unfold s_l08Size
  rw [whileK_run (fun y => 32 - y.2.1.toNat) (fun y => 0 ≤ y.2.1 ∧ y.2.1 ≤ 32 ∧ 0 ≤ y.1 ∧ y.1 * 2 ^ (32 - y.2.1.toNat) ≤ 4294967296) (fun y => (y.1 * 2 ^ (32 - y.2.1.toNat), ((), ()))) ?_ k]
  · simp
  · refine ⟨h.1, h.2, by simp, ?_⟩
    show (1 : Int) * 2 ^ (32 - n.toNat) ≤ 4294967296
    have : (2 : Nat) ^ (32 - n.toNat) ≤ 2 ^ 32 := Nat.pow_le_pow_right (by decide) (by omega)
    have : ((2 ^ (32 - n.toNat) : Nat) : Int) ≤ ((2 ^ 32 : Nat) : Int) := Int.ofNat_le.2 this
    rw [Int.one_mul, ← pow_cast]
    exact this
  · show 32 - n.toNat < k
    omega
  · rintro ⟨a, i, u⟩ ⟨h1, h2, h3, h4⟩ again hg
    simp only at h1 h2 h3 h4
    by_cases hi : i < 32
    · have e : 32 - i.toNat = (32 - (i + 1).toNat) + 1 := by omega
      rw [e, Int.pow_succ] at h4
      have hp : (1 : Int) ≤ 2 ^ (32 - (i + 1).toNat) := by
        have : 0 < (2 : Nat) ^ (32 - (i + 1).toNat) := Nat.two_pow_pos _
        rw [← pow_cast]
        omega
      have ha : a ≤ a * 2 ^ (32 - (i + 1).toNat) := by
        have := Int.mul_le_mul_of_nonneg_left hp h3
        omega
      have h4' : a * 2 ^ (32 - (i + 1).toNat) * 2 ≤ 4294967296 := by rw [Int.mul_assoc]; exact h4
      have w1 : wi64 (2 * a) = 2 * a := w64_id _ (by omega)
      have w2 : wi64 (i + 1) = i + 1 := w64_id _ (by omega)
      have := hg (2 * a, (i + 1, ())) ⟨by simp only; omega, by simp only; omega, by simp only; omega, by
        show 2 * a * 2 ^ (32 - (i + 1).toNat) ≤ _
        rw [Int.mul_assoc, Int.mul_comm]
        exact h4'⟩ (by simp only; omega)
      simp only [hi, decide_true, if_true, w1, w2, this]
      rw [e, Int.pow_succ]
      congr 2
      rw [Int.mul_comm 2 a, Int.mul_assoc, Int.mul_comm 2]
    · have : i = 32 := by omega
      subst this
      simp
theorem lastBits_is (k : Nat) (n : Int) (h : 0 ≤ n ∧ n ≤ 32) : i_lastBits k (n, ()) = some ((2 : Int) ^ (32 - n.toNat) - 1, ((), ())) := by
  unfold i_lastBits
  have w : wi64 (32 - n) = 32 - n := w64_id _ (by omega)
  have hp : (2 : Nat) ^ (32 - n.toNat) ≤ 2 ^ 32 := Nat.pow_le_pow_right (by decide) (by omega)
  have hp : ((2 ^ (32 - n.toNat) : Nat) : Int) ≤ ((2 ^ 32 : Nat) : Int) := Int.ofNat_le.2 hp
  have h32 : ((2 ^ 32 : Nat) : Int) = 4294967296 := rfl
  have h0 : 0 < (2 : Nat) ^ (32 - n.toNat) := Nat.two_pow_pos _
  have h0 : (1 : Int) ≤ ((2 ^ (32 - n.toNat) : Nat) : Int) := by omega
  have e : (min (Int.toNat (32 - n)) (IntKind.bits .i64)) = 32 - n.toNat := by show min (Int.toNat (32 - n)) 64 = _; omega
  rw [pow_cast] at hp h0
  simp only [w, e]
  rw [if_neg (by omega), Int.one_mul]
  have w2 : wi64 ((2 : Int) ^ (32 - n.toNat)) = (2 : Int) ^ (32 - n.toNat) := w64_id _ (by omega)
  rw [w2]
  have w3 : wi64 ((2 : Int) ^ (32 - n.toNat) - 1) = (2 : Int) ^ (32 - n.toNat) - 1 := w64_id _ (by omega)
  rw [w3]
theorem s_PrefixOk_is (k : Nat) (a n : Int) (hk : 40 < k) : s_PrefixOk k ((a, (n, ())), ()) = some (decide ((0 ≤ a ∧ a ≤ 4294967295) ∧ (0 ≤ n ∧ n ≤ 32) ∧ a % 2 ^ (32 - n.toNat) = 0), ((), ())) := by
  unfold s_PrefixOk
  simp only [s_AddrOk_is, l01In_is, Option.bind_some]
  by_cases h : 0 ≤ a ∧ a ≤ 4294967295
  · by_cases h' : 0 ≤ n ∧ n ≤ 32
    · simp only [l08Size_is k n h' hk, Option.bind_some]
      have h0 : ¬ (2 : Int) ^ (32 - n.toNat) = 0 := by
        have h0 : 0 < (2 : Nat) ^ (32 - n.toNat) := Nat.two_pow_pos _
        rw [← pow_cast]
        omega
      rw [if_neg h0, Int.tmod_eq_emod_of_nonneg h.1]
      simp [h, h']
    · simp [h, h']
  · simp [h]
theorem i_PrefixOk_is (k : Nat) (a n : Int) : i_PrefixOk k ((a, (n, ())), ()) = some (decide ((0 ≤ a ∧ a ≤ 4294967295) ∧ (0 ≤ n ∧ n ≤ 32) ∧ a % 2 ^ (32 - n.toNat) = 0), ((), ())) := by
  unfold i_PrefixOk
  simp only [i_AddrOk_is, within_is, Option.bind_some]
  by_cases h : 0 ≤ a ∧ a ≤ 4294967295
  · by_cases h' : 0 ≤ n ∧ n ≤ 32
    · simp only [lastBits_is k n h', Option.bind_some]
      rw [and_mask _ (by omega) a h.1 (by omega)]
      simp [h, h']
    · simp [h, h']
  · simp [h]
abbrev RT_Lease : Ty := (.pair (.int .i64) (.pair (.int .i64) (.int .i64)))
abbrev RT_Fixed : Ty := (.pair (.int .i64) (.int .i64))
abbrev RT_Route : Ty := (.pair (.pair (.int .i64) (.int .i64)) (.int .i64))
theorem andNot_mask (i : Nat) (hi : i ≤ 62) (x : Int) (h0 : 0 ≤ x) (h1 : x < 2 ^ 63) : bitsI .andNot .i64 x ((2 : Int) ^ i - 1) = x - x % (2 : Int) ^ i := by
  obtain ⟨a, rfl⟩ := Int.eq_ofNat_of_zero_le h0
  have ha : a < 2 ^ 63 := by exact_mod_cast h1
  have hpos : 0 < 2 ^ i := Nat.two_pow_pos i
  have hle : 2 ^ i ≤ 2 ^ 62 := Nat.pow_le_pow_right (by decide) hi
  have hc : ((2 : Int) ^ i - 1) = ((2 ^ i - 1 : Nat) : Int) := by
    rw [Int.natCast_sub hpos]; simp
  have hb : (2 ^ i - 1) % 2 ^ 64 = 2 ^ i - 1 := Nat.mod_eq_of_lt (by omega)
  have ha' : a % 2 ^ 64 = a := Nat.mod_eq_of_lt (by omega)
  have key : a &&& (2 ^ 64 - 1 - (2 ^ i - 1)) = a - a % 2 ^ i := by
    have e : a - a % 2 ^ i = 2 ^ i * (a / 2 ^ i) := by
      have := Nat.div_add_mod a (2 ^ i)
      omega
    rw [e]
    apply Nat.eq_of_testBit_eq
    intro j
    have e2 : 2 ^ 64 - 1 - (2 ^ i - 1) = 2 ^ 64 - (2 ^ i - 1 + 1) := by omega
    rw [e2, Nat.testBit_and, Nat.testBit_two_pow_sub_succ (by omega), Nat.testBit_two_pow_sub_one, Nat.testBit_two_pow_mul, Nat.testBit_div_two_pow]
    by_cases hj : i ≤ j
    · have hj' : ¬ j < i := by omega
      have hs : j - i + i = j := by omega
      by_cases h64 : j < 64
      · simp [hj, hj', h64, hs]
      · have : a.testBit j = false := Nat.testBit_lt_two_pow (Nat.lt_of_lt_of_le ha (Nat.pow_le_pow_right (by decide) (by omega)))
        simp [hj, h64, hs, this]
    · have hj' : j < i := by omega
      simp [hj, hj']
  show IntKind.i64.wrap ((BitVec.ofInt 64 (a : Int) &&& ~~~(BitVec.ofInt 64 ((2 : Int) ^ i - 1))).toNat : Int) = _
  rw [hc, BitVec.toNat_and, BitVec.toNat_not, BitVec.ofInt_natCast, BitVec.ofInt_natCast, BitVec.toNat_ofNat, BitVec.toNat_ofNat, hb, ha', key]
  have hm : a % 2 ^ i ≤ a := Nat.mod_le _ _
  rw [Int.natCast_sub hm, w64_id _ (by omega)]
  simp
theorem emod_le_self (a m : Int) (h : 0 ≤ a) (hm : 0 < m) : 0 ≤ a % m ∧ a % m ≤ a := by
  have h1 := Int.emod_nonneg a (by omega : m ≠ 0)
  have h2 := Int.mul_ediv_add_emod a m
  have h3 : 0 ≤ m * (a / m) := Int.mul_nonneg (by omega) (Int.ediv_nonneg h (by omega))
  omega
theorem pow_pos_int (n : Nat) : 0 < (2 : Int) ^ n := by
  have h0 : 0 < (2 : Nat) ^ n := Nat.two_pow_pos _
  rw [← pow_cast]
  omega
def inB (p n a : Int) : Bool := decide ((0 ≤ p ∧ p ≤ 4294967295) ∧ (0 ≤ n ∧ n ≤ 32) ∧ p % 2 ^ (32 - n.toNat) = 0) && (decide (0 ≤ a ∧ a ≤ 4294967295) && decide (a - a % (2 : Int) ^ (32 - n.toNat) = p))
theorem s_InPrefix_is (k : Nat) (p n a : Int) (hk : 40 < k) : s_InPrefix k ((p, (n, ())), (a, ())) = some (inB p n a, ((), ((), ()))) := by
  unfold s_InPrefix inB
  simp only [s_PrefixOk_is k p n hk, s_AddrOk_is, Option.bind_some]
  cases hd : decide ((0 ≤ p ∧ p ≤ 4294967295) ∧ (0 ≤ n ∧ n ≤ 32) ∧ p % 2 ^ (32 - n.toNat) = 0) with
  | false => simp
  | true =>
    have h' := (of_decide_eq_true hd).2.1
    by_cases h : 0 ≤ a ∧ a ≤ 4294967295
    · have hp := pow_pos_int (32 - n.toNat)
      have hm := emod_le_self a _ h.1 hp
      have w : wi64 (a - a % (2 : Int) ^ (32 - n.toNat)) = a - a % (2 : Int) ^ (32 - n.toNat) := w64_id _ (by omega)
      simp only [l08Size_is k n h' hk, Option.bind_some, h, and_self, decide_true, if_true, Bool.true_and]
      rw [if_neg (by omega), Int.tmod_eq_emod_of_nonneg h.1, w]
    · simp [h]
theorem i_InPrefix_is (k : Nat) (p n a : Int) : i_InPrefix k ((p, (n, ())), (a, ())) = some (inB p n a, ((), ((), ()))) := by
  unfold i_InPrefix inB
  simp only [i_PrefixOk_is, i_AddrOk_is, Option.bind_some]
  cases hd : decide ((0 ≤ p ∧ p ≤ 4294967295) ∧ (0 ≤ n ∧ n ≤ 32) ∧ p % 2 ^ (32 - n.toNat) = 0) with
  | false => simp
  | true =>
    have h' := (of_decide_eq_true hd).2.1
    by_cases h : 0 ≤ a ∧ a ≤ 4294967295
    · simp only [lastBits_is k n h', Option.bind_some, h, and_self, decide_true, if_true, Bool.true_and]
      rw [andNot_mask _ (by omega) a h.1 (by omega)]
    · simp [h]
theorem isId_is (k : Nat) (a : Int) : i_isId k (a, ()) = some (decide (1 ≤ a ∧ a ≤ 99), ((), ())) := by
  unfold i_isId
  rw [within_is]
  rfl
abbrev PoolA : Type := Int × Int × List (Int × Int × Int) × List (Int × Int) × Unit
def hostB (p n a : Int) : Bool := inB p n a && (!decide (a = p) && !decide (a = p + ((2 : Int) ^ (32 - n.toNat) - 1)))
theorem inB_in {p n a : Int} (h : inB p n a = true) : (0 ≤ p ∧ p ≤ 4294967295) ∧ (0 ≤ n ∧ n ≤ 32) ∧ p % 2 ^ (32 - n.toNat) = 0 := by
  unfold inB at h
  rw [Bool.and_eq_true] at h
  exact of_decide_eq_true h.1
theorem pow_le_32 (n : Int) : (2 : Int) ^ (32 - n.toNat) ≤ 4294967296 := by
  have h : (2 : Nat) ^ (32 - n.toNat) ≤ 2 ^ 32 := Nat.pow_le_pow_right (by decide) (by omega)
  have h : ((2 ^ (32 - n.toNat) : Nat) : Int) ≤ ((2 ^ 32 : Nat) : Int) := Int.ofNat_le.2 h
  rw [pow_cast] at h
  exact h
theorem isHost_is (k : Nat) (p n a : Int) : i_isHost k ((p, (n, ())), (a, ())) = some (hostB p n a, ((), ((), ()))) := by
  unfold i_isHost hostB
  simp only [i_InPrefix_is, Option.bind_some]
  cases hb : inB p n a with
  | false => simp
  | true =>
    obtain ⟨h1, h2, h3⟩ := inB_in hb
    have hp := pow_pos_int (32 - n.toNat)
    have hq := pow_le_32 n
    simp only [lastBits_is k n h2, Option.bind_some, if_true, Bool.true_and]
    rw [or_join (32 - n.toNat) p _ h1.1 h3 (by omega) (by omega) (by omega) (by omega)]
    by_cases e : a = p <;> simp [e]
theorem Inside_is (k : Nat) (x : PoolA) (a : Int) (hk : 40 < k) : s_l11Inside k (x, (a, ())) = some (hostB x.1 x.2.1 a, ((), ((), ()))) := by
  unfold s_l11Inside hostB
  simp only [s_InPrefix_is k _ _ _ hk, Option.bind_some]
  cases hb : inB x.1 x.2.1 a with
  | false => simp
  | true =>
    obtain ⟨h1, h2, h3⟩ := inB_in hb
    have hp := pow_pos_int (32 - x.2.1.toNat)
    have hq := pow_le_32 x.2.1
    have w1 : wi64 (x.1 + (2 : Int) ^ (32 - x.2.1.toNat)) = x.1 + (2 : Int) ^ (32 - x.2.1.toNat) := w64_id _ (by omega)
    have w2 : wi64 (x.1 + ((2 : Int) ^ (32 - x.2.1.toNat) - 1)) = x.1 + ((2 : Int) ^ (32 - x.2.1.toNat) - 1) := w64_id _ (by omega)
    have e2 : x.1 + (2 : Int) ^ (32 - x.2.1.toNat) - 1 = x.1 + ((2 : Int) ^ (32 - x.2.1.toNat) - 1) := by omega
    simp only [l08Size_is k x.2.1 h2 hk, Option.bind_some, if_true, Bool.true_and, w1, e2, w2]
    by_cases e : a = x.1 <;> simp [e]
def fixedB (q : List RT_Fixed.den) (a : Int) : Int := match (List.range q.length).find? (fun j => decide ((Ty.rd (t := RT_Fixed) q (j : Nat)).2 = a)) with | some j => (Ty.rd (t := RT_Fixed) q (j : Nat)).1 | none => 0
theorem fixedFor_is (k : Nat) (x : PoolA) (a : Int) (hk : 1048576 < k) (hl : x.2.2.2.1.length ≤ 1048576) : i_fixedFor k (x, (a, ())) = some (fixedB x.2.2.2.1 a, ((), ((), ()))) := by
  unfold i_fixedFor fixedB
  refine (loop_find (R := Int × Unit × Unit × Unit) (fun j => (a, (x.2.2.2.1, ((x.2.2.2.1.length : Int), (((j : Nat) : Int), ()))))) x.2.2.2.1.length (fun j => decide ((Ty.rd (t := RT_Fixed) x.2.2.2.1 (j : Nat)).2 = a)) (fun j => ((Ty.rd (t := RT_Fixed) x.2.2.2.1 (j : Nat)).1, ((), ((), ())))) (0, ((), ((), ()))) ?_ ?_ k (by omega)).trans ?_
  · intro ag j hj
    have q1 : (0 : Int) ≤ (j : Int) ∧ (j : Int) < (x.2.2.2.1.length : Int) := by omega
    have w3 : wi64 ((j : Int) + 1) = ((j + 1 : Nat) : Int) := (w64_id _ (by omega)).trans (by omega)
    simp only [q1, w3, and_self, decide_true, if_true]
  · intro ag
    simp only [Int.lt_irrefl, decide_false, Bool.false_eq_true, if_false]
  · cases (List.range x.2.2.2.1.length).find? (fun j => decide ((Ty.rd (t := RT_Fixed) x.2.2.2.1 (j : Nat)).2 = a)) <;> rfl
theorem l11FixedFor_is (k : Nat) (x : PoolA) (a : Int) (hk : 1048576 < k) (hl : x.2.2.2.1.length ≤ 1048576) : s_l11FixedFor k (x, (a, ())) = some (fixedB x.2.2.2.1 a, ((), ((), ()))) := by
  unfold s_l11FixedFor fixedB
  refine (loop_find (R := Int × Unit × Unit × Unit) (fun j => (a, (x, (((j : Nat) : Int), ())))) x.2.2.2.1.length (fun j => decide ((Ty.rd (t := RT_Fixed) x.2.2.2.1 (j : Nat)).2 = a)) (fun j => ((Ty.rd (t := RT_Fixed) x.2.2.2.1 (j : Nat)).1, ((), ((), ())))) (0, ((), ((), ()))) ?_ ?_ k (by omega)).trans ?_
  · intro ag j hj
    have q1 : (0 : Int) ≤ (j : Int) ∧ (j : Int) < (x.2.2.2.1.length : Int) := by omega
    have w3 : wi64 ((j : Int) + 1) = ((j + 1 : Nat) : Int) := (w64_id _ (by omega)).trans (by omega)
    simp only [q1, w3, and_self, decide_true, if_true]
  · intro ag
    simp only [Int.lt_irrefl, decide_false, Bool.false_eq_true, if_false]
  · cases (List.range x.2.2.2.1.length).find? (fun j => decide ((Ty.rd (t := RT_Fixed) x.2.2.2.1 (j : Nat)).2 = a)) <;> rfl
def badF (x : PoolA) (i : Nat) : Bool := !(decide (1 ≤ (Ty.rd (t := RT_Fixed) x.2.2.2.1 i).1 ∧ (Ty.rd (t := RT_Fixed) x.2.2.2.1 i).1 ≤ 99) && (hostB x.1 x.2.1 (Ty.rd (t := RT_Fixed) x.2.2.2.1 i).2 && (!(decide (0 < (i : Int)) && decide ((Ty.rd (t := RT_Fixed) x.2.2.2.1 i).1 ≤ (Ty.rd (t := RT_Fixed) x.2.2.2.1 (wi64 ((i : Int) - 1))).1)) && decide (fixedB x.2.2.2.1 (Ty.rd (t := RT_Fixed) x.2.2.2.1 i).2 = (Ty.rd (t := RT_Fixed) x.2.2.2.1 i).1))))
def leaseB (q : List RT_Lease.den) (w : Int) : Int := match (List.range q.length).find? (fun j => decide ((Ty.rd (t := RT_Lease) q (j : Nat)).2.1 = w)) with | some j => ((j : Nat) : Int) | none => -1
theorem leaseOf_is (k : Nat) (x : PoolA) (w : Int) (hk : 1048576 < k) (hl : x.2.2.1.length ≤ 1048576) : i_leaseOf k (x, (w, ())) = some (leaseB x.2.2.1 w, ((), ((), ()))) := by
  have h : x_slices_IndexFunc_impl_Lease_impl_Lease_of_i_leaseOf_1 k (x.2.2.1, (((w, ()), ()), ())) = some (leaseB x.2.2.1 w, ((), ((((w, ()), ()), ())))) := by
    unfold x_slices_IndexFunc_impl_Lease_impl_Lease_of_i_leaseOf_1 leaseB
    refine (loop_find (R := Int × Unit × ((Int × Unit) × Unit) × Unit) (fun j => (x.2.2.1, ((((w, ()), ())), ((x.2.2.1.length : Int), (((j : Nat) : Int), ()))))) x.2.2.1.length (fun j => decide ((Ty.rd (t := RT_Lease) x.2.2.1 (j : Nat)).2.1 = w)) (fun j => (((j : Nat) : Int), ((), ((((w, ()), ()), ()))))) (-1, ((), ((((w, ()), ()), ())))) ?_ ?_ k (by omega)).trans ?_
    · intro ag j hj
      have q1 : (0 : Int) ≤ (j : Int) ∧ (j : Int) < (x.2.2.1.length : Int) := by omega
      have w3 : wi64 ((j : Int) + 1) = ((j + 1 : Nat) : Int) := (w64_id _ (by omega)).trans (by omega)
      simp only [q1, w3, i_leaseOf_1, and_self, decide_true, if_true, Option.bind_some]
    · intro ag
      simp only [Int.lt_irrefl, decide_false, Bool.false_eq_true, if_false]
    · cases (List.range x.2.2.1.length).find? (fun j => decide ((Ty.rd (t := RT_Lease) x.2.2.1 (j : Nat)).2.1 = w)) <;> rfl
  unfold i_leaseOf
  rw [h]
  rfl
def badL (x : PoolA) (i : Nat) : Bool := !(!(decide (0 < (i : Int)) && decide ((Ty.rd (t := RT_Lease) x.2.2.1 i).1 ≤ (Ty.rd (t := RT_Lease) x.2.2.1 (wi64 ((i : Int) - 1))).1)) && (hostB x.1 x.2.1 (Ty.rd (t := RT_Lease) x.2.2.1 i).1 && (decide (1 ≤ (Ty.rd (t := RT_Lease) x.2.2.1 i).2.1 ∧ (Ty.rd (t := RT_Lease) x.2.2.1 i).2.1 ≤ 99) && (decide (0 ≤ (Ty.rd (t := RT_Lease) x.2.2.1 i).2.2 ∧ (Ty.rd (t := RT_Lease) x.2.2.1 i).2.2 ≤ 1000000000) && ((List.range i).all (fun j => !decide ((Ty.rd (t := RT_Lease) x.2.2.1 (j : Nat)).2.1 = (Ty.rd (t := RT_Lease) x.2.2.1 i).2.1)) && (decide (fixedB x.2.2.2.1 (Ty.rd (t := RT_Lease) x.2.2.1 i).1 = 0) || decide (fixedB x.2.2.2.1 (Ty.rd (t := RT_Lease) x.2.2.1 i).1 = (Ty.rd (t := RT_Lease) x.2.2.1 i).2.1)))))))
def prefB (p n : Int) : Bool := decide ((0 ≤ p ∧ p ≤ 4294967295) ∧ (0 ≤ n ∧ n ≤ 32) ∧ p % 2 ^ (32 - n.toNat) = 0)
def poolB (x : PoolA) : Bool := prefB x.1 x.2.1 && (decide (24 ≤ x.2.1 ∧ x.2.1 ≤ 30) && (decide (x.2.2.1.length ≤ 6) && (decide (x.2.2.2.1.length ≤ 4) && ((List.range x.2.2.2.1.length).all (fun j => !badF x j) && (List.range x.2.2.1.length).all (fun j => !badL x j)))))
theorem fixesOk_is (k : Nat) (x : PoolA) (hk : 1048576 < k) (hl : x.2.2.2.1.length ≤ 1048576) : i_fixesOk k (x, ()) = some (((List.range x.2.2.2.1.length).all (fun j => !badF x j) && decide (x.2.2.2.1.length ≤ 4)), ((), ())) := by
  unfold i_fixesOk
  refine (find_loop_opt (fun i => (x, (x.2.2.2.1, ((x.2.2.2.1.length : Int), (((i : Nat) : Int), ()))))) x.2.2.2.1.length (badF x) (some (false, ((), ()))) (some (decide (x.2.2.2.1.length ≤ 4), ((), ()))) ?_ ?_ k (by omega)).trans ?_
  · intro again i hi
    have w2 : wi64 ((i : Int) + 1) = ((i + 1 : Nat) : Int) := (w64_id _ (by omega)).trans (by omega)
    have w1 : wi64 ((i : Int) - 1) = (i : Int) - 1 := w64_id _ (by omega)
    have g1 : (0 : Int) ≤ (i : Int) ∧ (i : Int) < (x.2.2.2.1.length : Int) := by omega
    rw [show badF x i = (!(decide (1 ≤ (Ty.rd (t := RT_Fixed) x.2.2.2.1 i).1 ∧ (Ty.rd (t := RT_Fixed) x.2.2.2.1 i).1 ≤ 99) && (hostB x.1 x.2.1 (Ty.rd (t := RT_Fixed) x.2.2.2.1 i).2 && (!(decide (0 < (i : Int)) && decide ((Ty.rd (t := RT_Fixed) x.2.2.2.1 i).1 ≤ (Ty.rd (t := RT_Fixed) x.2.2.2.1 (wi64 ((i : Int) - 1))).1)) && decide (fixedB x.2.2.2.1 (Ty.rd (t := RT_Fixed) x.2.2.2.1 i).2 = (Ty.rd (t := RT_Fixed) x.2.2.2.1 i).1))))) from rfl]
    simp only [g1, isId_is, isHost_is, fixedFor_is k x _ hk hl, w2, and_self, decide_true, if_true, Option.bind_some]
    by_cases c1 : 1 ≤ (Ty.rd (t := RT_Fixed) x.2.2.2.1 i).1 ∧ (Ty.rd (t := RT_Fixed) x.2.2.2.1 i).1 ≤ 99
    rotate_left
    · simp only [c1, decide_false, Bool.not_false, Bool.true_eq_false, if_false, Bool.false_and, if_true]
    cases c2 : hostB x.1 x.2.1 (Ty.rd (t := RT_Fixed) x.2.2.2.1 i).2 with
    | false => simp only [c1, and_self, decide_true, Bool.not_true, Bool.not_false, Bool.true_eq_false, if_true, if_false, Bool.false_and, Bool.true_and]
    | true =>
      by_cases h2 : 0 < (i : Int)
      · have g3 : (0 : Int) ≤ wi64 ((i : Int) - 1) ∧ wi64 ((i : Int) - 1) < (x.2.2.2.1.length : Int) := by rw [w1]; omega
        by_cases c3 : (Ty.rd (t := RT_Fixed) x.2.2.2.1 i).1 ≤ (Ty.rd (t := RT_Fixed) x.2.2.2.1 (wi64 ((i : Int) - 1))).1
        · simp only [c1, c3, h2, g3, and_self, decide_true, Bool.not_true, Bool.not_false, Bool.true_eq_false, if_true, if_false, Bool.false_and, Bool.true_and]
        · by_cases c4 : fixedB x.2.2.2.1 (Ty.rd (t := RT_Fixed) x.2.2.2.1 i).2 = (Ty.rd (t := RT_Fixed) x.2.2.2.1 i).1 <;>
            simp only [c1, c3, c4, h2, g3, and_self, decide_true, decide_false, Bool.not_true, Bool.not_false, Bool.false_eq_true, if_true, if_false, Bool.and_false, Bool.true_and]
      · by_cases c4 : fixedB x.2.2.2.1 (Ty.rd (t := RT_Fixed) x.2.2.2.1 i).2 = (Ty.rd (t := RT_Fixed) x.2.2.2.1 i).1 <;>
          simp only [c1, c4, h2, and_self, decide_true, decide_false, Bool.not_true, Bool.not_false, Bool.false_eq_true, if_true, if_false, Bool.false_and, Bool.true_and]
  · intro ag
    have e : decide ((x.2.2.2.1.length : Int) ≤ 4) = decide (x.2.2.2.1.length ≤ 4) := by rw [decide_eq_decide]; omega
    simp only [Int.lt_irrefl, decide_false, Bool.false_eq_true, if_false, e]
  · cases (List.range x.2.2.2.1.length).all (fun j => !badF x j) <;> simp
theorem leaseB_at (q : List RT_Lease.den) (i : Nat) (hi : i < q.length) : (leaseB q (Ty.rd (t := RT_Lease) q i).2.1 = (i : Int)) ↔ (List.range i).all (fun j => !decide ((Ty.rd (t := RT_Lease) q (j : Nat)).2.1 = (Ty.rd (t := RT_Lease) q i).2.1)) = true := by
  have hself : (fun j : Nat => decide ((Ty.rd (t := RT_Lease) q (j : Nat)).2.1 = (Ty.rd (t := RT_Lease) q i).2.1)) i = true := by simp
  have hfa := find_at (p := fun j : Nat => decide ((Ty.rd (t := RT_Lease) q (j : Nat)).2.1 = (Ty.rd (t := RT_Lease) q i).2.1)) hi hself
  have hall : (List.range i).all (fun j => !decide ((Ty.rd (t := RT_Lease) q (j : Nat)).2.1 = (Ty.rd (t := RT_Lease) q i).2.1)) = true ↔ ∀ j, j < i → decide ((Ty.rd (t := RT_Lease) q (j : Nat)).2.1 = (Ty.rd (t := RT_Lease) q i).2.1) = false := by simp
  rw [hall, ← hfa]
  unfold leaseB
  cases hf : (List.range q.length).find? (fun j => decide ((Ty.rd (t := RT_Lease) q (j : Nat)).2.1 = (Ty.rd (t := RT_Lease) q i).2.1)) with
  | none =>
    exfalso
    have := List.find?_eq_none.1 hf i (by simpa using hi)
    exact this hself
  | some j =>
    simp only [Option.some.injEq]
    omega
theorem i_PoolOk_is (k : Nat) (x : PoolA) (hk : 1048576 < k) (hl : x.2.2.1.length ≤ 1048576) (hl' : x.2.2.2.1.length ≤ 1048576) : i_PoolOk k (x, ()) = some (poolB x, ((), ())) := by
  unfold i_PoolOk poolB
  simp only [i_PrefixOk_is, within_is, fixesOk_is k x hk hl', Option.bind_some]
  rw [show decide ((0 ≤ x.1 ∧ x.1 ≤ 4294967295) ∧ (0 ≤ x.2.1 ∧ x.2.1 ≤ 32) ∧ x.1 % 2 ^ (32 - x.2.1.toNat) = 0) = prefB x.1 x.2.1 from rfl]
  cases prefB x.1 x.2.1 with
  | false => simp
  | true =>
    by_cases h1 : 24 ≤ x.2.1 ∧ x.2.1 ≤ 30
    rotate_left
    · simp [h1]
    cases hF : (List.range x.2.2.2.1.length).all (fun j => !badF x j) with
    | false => simp [h1]
    | true =>
      by_cases h4 : x.2.2.2.1.length ≤ 4
      rotate_left
      · simp [h1, h4]
      by_cases h6 : x.2.2.1.length ≤ 6
      rotate_left
      · have h6' : (6 : Int) < (x.2.2.1.length : Int) := by omega
        simp [h1, h4, h6, h6']
      have h6' : ¬ (6 : Int) < (x.2.2.1.length : Int) := by omega
      simp only [h1, h4, h6, h6', and_self, decide_true, decide_false, Bool.not_true, Bool.and_self, Bool.true_and, Bool.false_eq_true, if_true, if_false]
      refine (find_loop_opt (fun i => (x, (x.2.2.1, ((x.2.2.1.length : Int), (((i : Nat) : Int), ()))))) x.2.2.1.length (badL x) (some (false, ((), ()))) (some (true, ((), ()))) ?_ ?_ k (by omega)).trans ?_
      · intro again i hi
        have w2 : wi64 ((i : Int) + 1) = ((i + 1 : Nat) : Int) := (w64_id _ (by omega)).trans (by omega)
        have w1 : wi64 ((i : Int) - 1) = (i : Int) - 1 := w64_id _ (by omega)
        have g1 : (0 : Int) ≤ (i : Int) ∧ (i : Int) < (x.2.2.1.length : Int) := by omega
        have hat := leaseB_at x.2.2.1 i hi
        have hu : decide (leaseB x.2.2.1 (Ty.rd (t := RT_Lease) x.2.2.1 i).2.1 = (i : Int)) = (List.range i).all (fun j => !decide ((Ty.rd (t := RT_Lease) x.2.2.1 (j : Nat)).2.1 = (Ty.rd (t := RT_Lease) x.2.2.1 i).2.1)) := by
          rw [Bool.eq_iff_iff, decide_eq_true_eq, hat]
        rw [show badL x i = (!(!(decide (0 < (i : Int)) && decide ((Ty.rd (t := RT_Lease) x.2.2.1 i).1 ≤ (Ty.rd (t := RT_Lease) x.2.2.1 (wi64 ((i : Int) - 1))).1)) && (hostB x.1 x.2.1 (Ty.rd (t := RT_Lease) x.2.2.1 i).1 && (decide (1 ≤ (Ty.rd (t := RT_Lease) x.2.2.1 i).2.1 ∧ (Ty.rd (t := RT_Lease) x.2.2.1 i).2.1 ≤ 99) && (decide (0 ≤ (Ty.rd (t := RT_Lease) x.2.2.1 i).2.2 ∧ (Ty.rd (t := RT_Lease) x.2.2.1 i).2.2 ≤ 1000000000) && ((List.range i).all (fun j => !decide ((Ty.rd (t := RT_Lease) x.2.2.1 (j : Nat)).2.1 = (Ty.rd (t := RT_Lease) x.2.2.1 i).2.1)) && (decide (fixedB x.2.2.2.1 (Ty.rd (t := RT_Lease) x.2.2.1 i).1 = 0) || decide (fixedB x.2.2.2.1 (Ty.rd (t := RT_Lease) x.2.2.1 i).1 = (Ty.rd (t := RT_Lease) x.2.2.1 i).2.1)))))))) from rfl]
        simp only [g1, isId_is, isHost_is, fixedFor_is k x _ hk hl', leaseOf_is k x _ hk hl, hu, w2, and_self, decide_true, if_true, Option.bind_some]
        have rest : ∀ b1 b2 b3 b4 b5 b6 : Bool, ∀ go : Option (Bool × Unit × Unit), (if (!b1) = false then
            if (!b2) = false then
              if (!b3) = true then some (false, ((), ()))
              else if (!b4) = false then
                if (!b5) = true then
                  if (!b6) = true then some (false, ((), ())) else go
                else go
              else some (false, ((), ()))
            else some (false, ((), ()))
          else some (false, ((), ()))) = if (!(b1 && (b2 && (b3 && (b4 && (b5 || b6)))))) = true then some (false, ((), ())) else go := by
          intro b1 b2 b3 b4 b5 b6 go
          cases b1 <;> cases b2 <;> cases b3 <;> cases b4 <;> cases b5 <;> cases b6 <;> rfl
        by_cases h2 : 0 < (i : Int)
        · have g3 : (0 : Int) ≤ wi64 ((i : Int) - 1) ∧ wi64 ((i : Int) - 1) < (x.2.2.1.length : Int) := by rw [w1]; omega
          by_cases c3 : (Ty.rd (t := RT_Lease) x.2.2.1 i).1 ≤ (Ty.rd (t := RT_Lease) x.2.2.1 (wi64 ((i : Int) - 1))).1
          · simp only [c3, h2, g3, and_self, decide_true, Bool.not_true, Bool.not_false, Bool.true_eq_false, if_true, if_false, Bool.false_and, Bool.and_self]
          · simp only [c3, h2, g3, and_self, decide_true, decide_false, if_true, Bool.and_false, Bool.not_false, Bool.true_and]
            exact rest _ _ _ _ _ _ _
        · simp only [h2, decide_false, Bool.false_eq_true, if_false, Bool.false_and, Bool.not_false, Bool.true_and]
          exact rest _ _ _ _ _ _ _
      · intro ag
        simp only [Int.lt_irrefl, decide_false, Bool.false_eq_true, if_false]
      · cases (List.range x.2.2.1.length).all (fun j => !badL x j) <;> simp
theorem s_PoolOk_is (k : Nat) (x : PoolA) (hk : 1048576 < k) (hl : x.2.2.1.length ≤ 1048576) (hl' : x.2.2.2.1.length ≤ 1048576) : s_PoolOk k (x, ()) = some (poolB x, ((), ())) := by
  unfold s_PoolOk poolB
  simp only [s_PrefixOk_is k _ _ (by omega : 40 < k), l01In_is, Option.bind_some]
  rw [show decide ((0 ≤ x.1 ∧ x.1 ≤ 4294967295) ∧ (0 ≤ x.2.1 ∧ x.2.1 ≤ 32) ∧ x.1 % 2 ^ (32 - x.2.1.toNat) = 0) = prefB x.1 x.2.1 from rfl]
  cases prefB x.1 x.2.1 with
  | false => simp
  | true =>
    by_cases h1 : 24 ≤ x.2.1 ∧ x.2.1 ≤ 30
    rotate_left
    · simp [h1]
    by_cases h6 : x.2.2.1.length ≤ 6
    rotate_left
    · have h6' : (6 : Int) < (x.2.2.1.length : Int) := by omega
      simp [h1, h6, h6']
    by_cases h4 : x.2.2.2.1.length ≤ 4
    rotate_left
    · have h6' : ¬ (6 : Int) < (x.2.2.1.length : Int) := by omega
      have h4' : (4 : Int) < (x.2.2.2.1.length : Int) := by omega
      simp [h1, h4, h6, h6', h4']
    have h6' : ¬ (6 : Int) < (x.2.2.1.length : Int) := by omega
    have h4' : ¬ (4 : Int) < (x.2.2.2.1.length : Int) := by omega
    simp only [h1, h4, h6, h6', h4', and_self, decide_true, decide_false, Bool.not_true, Bool.true_and, Bool.false_eq_true, if_true, if_false]
    refine (find_loop_opt (fun i => (x, (((i : Nat) : Int), ()))) x.2.2.2.1.length (badF x) (some (false, ((), ()))) (some ((List.range x.2.2.1.length).all (fun j => !badL x j), ((), ()))) ?_ ?_ k (by omega)).trans ?_
    · intro again i hi
      have w2 : wi64 ((i : Int) + 1) = ((i + 1 : Nat) : Int) := (w64_id _ (by omega)).trans (by omega)
      have w1 : wi64 ((i : Int) - 1) = (i : Int) - 1 := w64_id _ (by omega)
      have g1 : (0 : Int) ≤ (i : Int) ∧ (i : Int) < (x.2.2.2.1.length : Int) := by omega
      rw [show badF x i = (!(decide (1 ≤ (Ty.rd (t := RT_Fixed) x.2.2.2.1 i).1 ∧ (Ty.rd (t := RT_Fixed) x.2.2.2.1 i).1 ≤ 99) && (hostB x.1 x.2.1 (Ty.rd (t := RT_Fixed) x.2.2.2.1 i).2 && (!(decide (0 < (i : Int)) && decide ((Ty.rd (t := RT_Fixed) x.2.2.2.1 i).1 ≤ (Ty.rd (t := RT_Fixed) x.2.2.2.1 (wi64 ((i : Int) - 1))).1)) && decide (fixedB x.2.2.2.1 (Ty.rd (t := RT_Fixed) x.2.2.2.1 i).2 = (Ty.rd (t := RT_Fixed) x.2.2.2.1 i).1))))) from rfl]
      simp only [g1, Inside_is k x _ (by omega : 40 < k), l11FixedFor_is k x _ hk hl', w2, and_self, decide_true, if_true, Option.bind_some]
      have rest : ∀ b1 b2 b4 : Bool, ∀ go : Option (Bool × Unit × Unit), (if (!b1) = false then
          if (!b2) = false then
            if (!b4) = true then some (false, ((), ())) else go
          else some (false, ((), ()))
        else some (false, ((), ()))) = if (!(b1 && (b2 && b4))) = true then some (false, ((), ())) else go := by
        intro b1 b2 b4 go
        cases b1 <;> cases b2 <;> cases b4 <;> rfl
      by_cases h2 : 0 < (i : Int)
      · have g3 : (0 : Int) ≤ wi64 ((i : Int) - 1) ∧ wi64 ((i : Int) - 1) < (x.2.2.2.1.length : Int) := by rw [w1]; omega
        by_cases c3 : (Ty.rd (t := RT_Fixed) x.2.2.2.1 i).1 ≤ (Ty.rd (t := RT_Fixed) x.2.2.2.1 (wi64 ((i : Int) - 1))).1
        · simp only [c3, h2, g3, and_self, decide_true, Bool.true_eq_false, if_true, if_false]
          have q : ∀ b1 b2 b4 : Bool, ∀ go : Option (Bool × Unit × Unit), (if (!b1) = false then (if (!b2) = false then some (false, ((), ())) else some (false, ((), ()))) else some (false, ((), ()))) = if (!(b1 && (b2 && (!(true && true) && b4)))) = true then some (false, ((), ())) else go := by
            intro b1 b2 b4 go
            cases b1 <;> cases b2 <;> cases b4 <;> rfl
          exact q _ _ _ _
        · simp only [c3, h2, g3, and_self, decide_true, decide_false, if_true, Bool.and_false, Bool.not_false, Bool.true_and]
          exact rest _ _ _ _
      · simp only [h2, decide_false, Bool.false_eq_true, if_false, Bool.false_and, Bool.not_false, Bool.true_and]
        exact rest _ _ _ _
    · intro ag
      simp only [Int.lt_irrefl, decide_false, Bool.false_eq_true, if_false]
      refine (find_loop_opt (fun i => (x, (((i : Nat) : Int), ()))) x.2.2.1.length (badL x) (some (false, ((), ()))) (some (true, ((), ()))) ?_ ?_ k (by omega)).trans ?_
      · intro again i hi
        have w2 : wi64 ((i : Int) + 1) = ((i + 1 : Nat) : Int) := (w64_id _ (by omega)).trans (by omega)
        have w1 : wi64 ((i : Int) - 1) = (i : Int) - 1 := w64_id _ (by omega)
        have g1 : (0 : Int) ≤ (i : Int) ∧ (i : Int) < (x.2.2.1.length : Int) := by omega
        rw [show badL x i = (!(!(decide (0 < (i : Int)) && decide ((Ty.rd (t := RT_Lease) x.2.2.1 i).1 ≤ (Ty.rd (t := RT_Lease) x.2.2.1 (wi64 ((i : Int) - 1))).1)) && (hostB x.1 x.2.1 (Ty.rd (t := RT_Lease) x.2.2.1 i).1 && (decide (1 ≤ (Ty.rd (t := RT_Lease) x.2.2.1 i).2.1 ∧ (Ty.rd (t := RT_Lease) x.2.2.1 i).2.1 ≤ 99) && (decide (0 ≤ (Ty.rd (t := RT_Lease) x.2.2.1 i).2.2 ∧ (Ty.rd (t := RT_Lease) x.2.2.1 i).2.2 ≤ 1000000000) && ((List.range i).all (fun j => !decide ((Ty.rd (t := RT_Lease) x.2.2.1 (j : Nat)).2.1 = (Ty.rd (t := RT_Lease) x.2.2.1 i).2.1)) && (decide (fixedB x.2.2.2.1 (Ty.rd (t := RT_Lease) x.2.2.1 i).1 = 0) || decide (fixedB x.2.2.2.1 (Ty.rd (t := RT_Lease) x.2.2.1 i).1 = (Ty.rd (t := RT_Lease) x.2.2.1 i).2.1)))))))) from rfl]
        simp only [g1, jn, Inside_is k x _ (by omega : 40 < k), l11FixedFor_is k x _ hk hl', and_self, decide_true, if_true, Option.bind_some]
        have rest : ∀ b1 b2 b3 b4 b5 b6 : Bool, ∀ go W : Option (Bool × Unit × Unit), W = (if b4 = true then go else some (false, ((), ()))) → (if (!b1) = false then
            if (!b2) = false then
              if (!b3) = false then
                if (!b5) = true then
                  if (!b6) = true then some (false, ((), ())) else W
                else W
              else some (false, ((), ()))
            else some (false, ((), ()))
          else some (false, ((), ()))) = if (!(b1 && (b2 && (b3 && (b4 && (b5 || b6)))))) = true then some (false, ((), ())) else go := by
          intro b1 b2 b3 b4 b5 b6 go W hW
          subst hW
          cases b1 <;> cases b2 <;> cases b3 <;> cases b4 <;> cases b5 <;> cases b6 <;> rfl
        by_cases h2 : 0 < (i : Int)
        · have g3 : (0 : Int) ≤ wi64 ((i : Int) - 1) ∧ wi64 ((i : Int) - 1) < (x.2.2.1.length : Int) := by rw [w1]; omega
          by_cases c3 : (Ty.rd (t := RT_Lease) x.2.2.1 i).1 ≤ (Ty.rd (t := RT_Lease) x.2.2.1 (wi64 ((i : Int) - 1))).1
          · simp only [c3, h2, g3, and_self, decide_true, if_true]
            have q : ∀ b1 b2 b3 : Bool, (if (!b1) = false then (if (!b2) = false then (if (!b3) = false then some (false, ((), ())) else some (false, ((), ()))) else some (false, ((), ()))) else some (false, ((), ()))) = (some (false, ((), ())) : Option (Bool × Unit × Unit)) := by
              intro b1 b2 b3
              cases b1 <;> cases b2 <;> cases b3 <;> rfl
            exact q _ _ _
          · simp only [c3, h2, g3, and_self, decide_true, decide_false, if_true, Bool.and_false, Bool.not_false, Bool.true_and, Bool.false_eq_true, if_false]
            refine rest _ _ _ _ _ _ _ _ (find_loop_opt (R := Bool × Unit × Unit) (fun j => (x, ((i : Int), (((Ty.rd (t := RT_Lease) x.2.2.1 i).1, ((Ty.rd (t := RT_Lease) x.2.2.1 i).2.1, ((Ty.rd (t := RT_Lease) x.2.2.1 i).2.2, ()))), (((j : Nat) : Int), ()))))) i (fun j => decide ((Ty.rd (t := RT_Lease) x.2.2.1 (j : Nat)).2.1 = (Ty.rd (t := RT_Lease) x.2.2.1 i).2.1)) (some (false, ((), ()))) (again (x, (((i + 1 : Nat) : Int), ()))) ?_ ?_ k (by omega))
            · intro ag2 j hj
              have q1 : (0 : Int) ≤ (j : Int) ∧ (j : Int) < (x.2.2.1.length : Int) := by omega
              have q2 : (j : Int) < (i : Int) := by omega
              have w3 : wi64 ((j : Int) + 1) = ((j + 1 : Nat) : Int) := (w64_id _ (by omega)).trans (by omega)
              simp only [q1, q2, w3, and_self, decide_true, if_true]
            · intro ag2
              simp only [Int.lt_irrefl, decide_false, Bool.false_eq_true, if_false, w2]
        · simp only [h2, decide_false, Bool.false_eq_true, if_false, Bool.false_and, Bool.not_false, Bool.true_and]
          refine rest _ _ _ _ _ _ _ _ (find_loop_opt (R := Bool × Unit × Unit) (fun j => (x, ((i : Int), (((Ty.rd (t := RT_Lease) x.2.2.1 i).1, ((Ty.rd (t := RT_Lease) x.2.2.1 i).2.1, ((Ty.rd (t := RT_Lease) x.2.2.1 i).2.2, ()))), (((j : Nat) : Int), ()))))) i (fun j => decide ((Ty.rd (t := RT_Lease) x.2.2.1 (j : Nat)).2.1 = (Ty.rd (t := RT_Lease) x.2.2.1 i).2.1)) (some (false, ((), ()))) (again (x, (((i + 1 : Nat) : Int), ()))) ?_ ?_ k (by omega))
          · intro ag2 j hj
            have q1 : (0 : Int) ≤ (j : Int) ∧ (j : Int) < (x.2.2.1.length : Int) := by omega
            have q2 : (j : Int) < (i : Int) := by omega
            have w3 : wi64 ((j : Int) + 1) = ((j + 1 : Nat) : Int) := (w64_id _ (by omega)).trans (by omega)
            simp only [q1, q2, w3, and_self, decide_true, if_true]
          · intro ag2
            simp only [Int.lt_irrefl, decide_false, Bool.false_eq_true, if_false, w2]
      · intro ag2
        simp only [Int.lt_irrefl, decide_false, Bool.false_eq_true, if_false]
      · cases (List.range x.2.2.1.length).all (fun j => !badL x j) <;> simp
    · cases (List.range x.2.2.2.1.length).all (fun j => !badF x j) <;> simp
theorem hub_ok (p n : Int) : ∃ b, s_PoolOk 1048577 ((p, (n, ([], ([], ())))), ()) = some (b, ((), ())) ∧ i_PoolOk 1048577 ((p, (n, ([], ([], ())))), ()) = some (b, ((), ())) :=
  ⟨_, s_PoolOk_is 1048577 (p, (n, ([], ([], ())))) (by decide) (by simp) (by simp), i_PoolOk_is 1048577 (p, (n, ([], ([], ())))) (by decide) (by simp) (by simp)⟩
theorem lease_eq : w_eqLeaseS 1048577 ([], ([], ())) = some (true, ((), ((), ()))) := rfl
theorem fixed_eq : w_eqFixedS 1048577 ([], ([], ())) = some (true, ((), ((), ()))) := rfl
theorem route_eq : w_eqRouteS 1048577 ([], ([], ())) = some (true, ((), ((), ()))) := rfl
theorem user_eq : w_eqUserS 1048577 ([], ([], ())) = some (true, ((), ((), ()))) := rfl
theorem lease_held (n : Int) : w_heldLeaseS 1048577 ([], (n, ())) = some (n, ((), ((), ()))) := rfl
theorem fixed_held (n : Int) : w_heldFixedS 1048577 ([], (n, ())) = some (n, ((), ((), ()))) := rfl
theorem route_held (n : Int) : w_heldRouteS 1048577 ([], (n, ())) = some (n, ((), ((), ()))) := rfl
theorem user_held (n : Int) : w_heldUserS 1048577 ([], (n, ())) = some (n, ((), ((), ()))) := rfl
theorem lease_mark (n : Int) : w_markLeaseS 1048577 ((), (n, ())) = some (n, ((), ((), ()))) := rfl
theorem fixed_mark (n : Int) : w_markFixedS 1048577 ((), (n, ())) = some (n, ((), ((), ()))) := rfl
theorem route_mark (n : Int) : w_markRouteS 1048577 ((), (n, ())) = some (n, ((), ((), ()))) := rfl
theorem user_mark (n : Int) : w_markUserS 1048577 ((), (n, ())) = some (n, ((), ((), ()))) := rfl
theorem hub_eq (p n : Int) : w_eqHub 1048577 ((p, (n, ([], ([], ([], ([], ())))))), ((p, (n, ([], ([], ([], ([], ())))))), ())) = some (true, ((), ((), ()))) := by
  unfold w_eqHub w_eqPool w_eqPrefix
  simp [lease_eq, fixed_eq, route_eq, user_eq]
theorem hub_mark (p n m : Int) : w_markHub 1048577 ((p, (n, ((), ((), ((), ((), ())))))), (m, ())) = some (m, ((), ((), ()))) := by
  unfold w_markHub w_markPool
  simp [lease_mark, fixed_mark, route_mark, user_mark]
theorem hub_held (p n m : Int) (hm : ¬ m < 0) : w_heldHub 1048577 ((p, (n, ([], ([], ([], ([], ())))))), (m, ())) = some (m, ((), ((), ()))) := by
  unfold w_heldHub w_heldPool
  simp [lease_held, fixed_held, route_held, user_held, hm]
theorem int_eq : w_eqIntS 1048577 ([], ([], ())) = some (true, ((), ((), ()))) := rfl
theorem flight_eq : w_eqFlightS 1048577 ([], ([], ())) = some (true, ((), ((), ()))) := rfl
theorem carried_eq : w_eqCarriedS 1048577 ([], ([], ())) = some (true, ((), ((), ()))) := rfl
theorem sealing_eq : w_eqSealingS 1048577 ([], ([], ())) = some (true, ((), ((), ()))) := rfl
theorem int_held (n : Int) : w_heldIntS 1048577 ([], (n, ())) = some (n, ((), ((), ()))) := rfl
theorem flight_held (n : Int) : w_heldFlightS 1048577 ([], (n, ())) = some (n, ((), ((), ()))) := rfl
theorem carried_held (n : Int) : w_heldCarriedS 1048577 ([], (n, ())) = some (n, ((), ((), ()))) := rfl
theorem sealing_held (n : Int) : w_heldSealingS 1048577 ([], (n, ())) = some (n, ((), ((), ()))) := rfl
theorem int_mark (n : Int) : w_markIntS 1048577 ((), (n, ())) = some (n, ((), ((), ()))) := rfl
theorem flight_mark (n : Int) : w_markFlightS 1048577 ((), (n, ())) = some (n, ((), ((), ()))) := rfl
theorem carried_mark (n : Int) : w_markCarriedS 1048577 ((), (n, ())) = some (n, ((), ((), ()))) := rfl
theorem sealing_mark (n : Int) : w_markSealingS 1048577 ((), (n, ())) = some (n, ((), ((), ()))) := rfl
theorem pure_FnExactLifeNew (x : argsDen pars_FnExactLifeNew) (hx : argsWf pars_FnExactLifeNew x) : ∃ k o, w_FnExactLifeNew k (argsX pars_FnExactLifeNew x) = some (true, o) := by
  obtain ⟨⟨p, n⟩, u⟩ := x
  refine ⟨1048577, ((), ()), ?_⟩
  show w_FnExactLifeNew 1048577 ((p, (n, ())), ()) = _
  obtain ⟨b, h1, h2⟩ := hub_ok p n
  unfold w_FnExactLifeNew w_toPrefix s_LifeNew i_LifeNew s_HubNew i_HubNew w_eqLife w_markLife w_heldLife
  cases b <;> simp [h1, h2, hub_eq, hub_mark, hub_held, int_eq, int_mark, int_held, flight_eq, flight_mark, flight_held, carried_eq, carried_mark, carried_held, sealing_eq, sealing_mark, sealing_held, user_eq, user_mark, user_held]
open Go.ChangeShapes Go.WideShapes Go.ChangeAt Go.RowKit
theorem own_FnExactLifeNew : ownKnob Try.prog.godebug = none := by kernel_rfl
theorem lifted_FnExactLifeNew (os : Os) (started : os.Started) (H : Type) (enc : TypeId × Value → H) :
    ReturnsInHanded {} Try.checked os 4 .any (Rows.fnExactLifeNewSpec.pre6 enc Try.prog Try.f4 Rows.fnExactLifeNewRow.domain false) (Rows.fnExactLifeNewSpec.post enc Try.prog Try.f4 false true false false) :=
  law_lifted (C := Try.checked) (l := pars_FnExactLifeNew) (rb := 4) own_FnExactLifeNew started (by kernel_rfl) Try.func4
    (ChangeSpec.witness6 (enc := enc) (C := Try.checked) false ⟨#[], #[.agg #[.int .i64 0, .int .i64 0]], []⟩ 8 (by kernel_rfl) (by kernel_rfl) (by kernel_rfl) (by kernel_rfl))
    e_w_FnExactLifeNew rfl (by decide) pure_FnExactLifeNew (by kernel_rfl) rfl Try.underlying4 (by kernel_rfl) (by kernel_rfl) rfl
    (fun ds h => match ds, h with | [_], _ => rfl)
theorem inPlace_FnExactLifeNew : Try.prog.inPlace 4 = Rows.fnExactLifeNewRow.inPlace := by kernel_rfl
theorem unfollowed_FnExactLifeNew : Try.prog.unfollowed 4 = Rows.fnExactLifeNewRow.unfollowed := by kernel_rfl
theorem recurses_FnExactLifeNew : Try.prog.recurses 4 = Rows.fnExactLifeNewRow.recurses := by kernel_rfl
theorem named_FnExactLifeNew : Try.prog.varsNamed 4 = Rows.fnExactLifeNewRow.named := by kernel_rfl
theorem facts_FnExactLifeNew : joinedFacts Try.prog 4 Try.f4 Rows.fnExactLifeNewSpec Rows.fnExactLifeNewRow = true := by
  unfold joinedFacts
  rw [seat_laid, seat_maps, seat_heard, seat_enter, inPlace_FnExactLifeNew, unfollowed_FnExactLifeNew, recurses_FnExactLifeNew, named_FnExactLifeNew]
  kernel_rfl
theorem fnExactLifeNew_holds : Rows.FnExactLifeNewSaid :=
  OpenClaim.holds_of_wide 4 Try.f4 rfl rfl rfl rfl rfl rfl rfl ⟨rfl, rfl, rfl, rfl, rfl⟩ rfl rfl rfl rfl rfl (by kernel_rfl) Try.func4 facts_FnExactLifeNew (of_decide_eq_true (by kernel_rfl))
    (by unfold Func.isWrapper; first | (rw [if_pos (by decide +kernel)]; kernel_rfl) | (rw [if_neg (by decide +kernel)]; exact ⟨rfl, rfl⟩)) (fun os started H enc _ => lifted_FnExactLifeNew os started H enc)
#print axioms fnExactLifeNew_holds
end Go.Proofs.Ytdcfekhjhopbfaa
