import Derived.Test.YtmanaalkgemjaaaGreatDoorRows
import Derived.Test.YtmanaalkgemjaaaGreatDoorTie
import Derived.Test.YtmanaalkgemjaaaGreatDoorCards
import Derived.Test.YtmanaalkgemjaaaGreatDoorFun1
import Derived.Test.YtmanaalkgemjaaaGreatDoorBase
import Derived.Test.YtmanaalkgemjaaaGreatDoorFacts
import Derived.WalkKit
import Derived.ProofKit
import Derived.OpenShut
import Derived.ShutString
import Derived.ChangeOld
import Derived.Below
import Derived.SizedLaws
/- FnExactReadScript answers true for every input, and its arguments read behind the call as they did ahead of it. Conditions: none. -/
set_option linter.unusedVariables false
set_option linter.unusedSimpArgs false
namespace Go.Proofs.YtmanaalkgemjaaaGreatDoor
open Go Go.Eng Go.Proofs
abbrev pars_FnExactReadScript : List Par := [(false, .str)]
theorem l01In_is (k : Nat) (a b c : Int) : s_l01In k (a, (b, (c, ()))) = some (decide (b ≤ a ∧ a ≤ c), ((), ((), ((), ())))) := by
  unfold s_l01In
  by_cases h : b ≤ a <;> simp [h]
theorem within_is (k : Nat) (a b c : Int) : i_within k (a, (b, (c, ()))) = some (decide (b ≤ a ∧ a ≤ c), ((), ((), ((), ())))) := l01In_is k a b c
theorem s_AddrOk_is (k : Nat) (a : Int) : s_AddrOk k (a, ()) = some (decide (0 ≤ a ∧ a ≤ 4294967295), ((), ())) := by
  unfold s_AddrOk
  rw [l01In_is]
  rfl
theorem i_AddrOk_is (k : Nat) (a : Int) : i_AddrOk k (a, ()) = some (decide (0 ≤ a ∧ a ≤ 4294967295), ((), ())) := s_AddrOk_is k a
theorem pow_cast (n : Nat) : ((2 ^ n : Nat) : Int) = (2 : Int) ^ n := by simp
theorem l08Size_is (k : Nat) (n : Int) (h : 0 ≤ n ∧ n ≤ 32) (hk : 40 < k) : s_l08Size k (n, ()) = some ((2 : Int) ^ (32 - n.toNat), ((), ())) := by
  unfold s_l08Size
  rw [whileK_run (fun y => 32 - y.2.1.toNat) (fun y => 0 ≤ y.2.1 ∧ y.2.1 ≤ 32 ∧ 0 ≤ y.1 ∧ y.1 * 2 ^ (32 - y.2.1.toNat) ≤ 4294967296) (fun y => (y.1 * 2 ^ (32 - y.2.1.toNat), ((), ()))) ?_ k]
  · simp
  · refine ⟨h.1, h.2, by simp, ?_⟩
    show (1 : Int) * 2 ^ (32 - n.toNat) ≤ 4294967296
    have : (2 : Nat) ^ (32 - n.toNat) ≤ 2 ^ 32 := Nat.pow_le_pow_right (by decide) (by omega)
    have : ((2 ^ (32 - n.toNat) : Nat) : Int) ≤ ((2 ^ 32 : Nat) : Int) := Int.ofNat_le.2 this
    rw [Int.one_mul, ← pow_cast]
    exact this
  · show 32 - n.toNat < k
    omega
  · rintro ⟨a, i, u⟩ ⟨h1, h2, h3, h4⟩ again hg
    simp only at h1 h2 h3 h4
    by_cases hi : i < 32
    · have e : 32 - i.toNat = (32 - (i + 1).toNat) + 1 := by omega
      rw [e, Int.pow_succ] at h4
      have hp : (1 : Int) ≤ 2 ^ (32 - (i + 1).toNat) := by
        have : 0 < (2 : Nat) ^ (32 - (i + 1).toNat) := Nat.two_pow_pos _
        rw [← pow_cast]
        omega
      have ha : a ≤ a * 2 ^ (32 - (i + 1).toNat) := by
        have := Int.mul_le_mul_of_nonneg_left hp h3
        omega
      have h4' : a * 2 ^ (32 - (i + 1).toNat) * 2 ≤ 4294967296 := by rw [Int.mul_assoc]; exact h4
      have w1 : wi64 (2 * a) = 2 * a := w64_id _ (by omega)
      have w2 : wi64 (i + 1) = i + 1 := w64_id _ (by omega)
      have := hg (2 * a, (i + 1, ())) ⟨by simp only; omega, by simp only; omega, by simp only; omega, by
        show 2 * a * 2 ^ (32 - (i + 1).toNat) ≤ _
        rw [Int.mul_assoc, Int.mul_comm]
        exact h4'⟩ (by simp only; omega)
      simp only [hi, decide_true, if_true, w1, w2, this]
      rw [e, Int.pow_succ]
      congr 2
      rw [Int.mul_comm 2 a, Int.mul_assoc, Int.mul_comm 2]
    · have : i = 32 := by omega
      subst this
      simp
theorem lastBits_is (k : Nat) (n : Int) (h : 0 ≤ n ∧ n ≤ 32) : i_lastBits k (n, ()) = some ((2 : Int) ^ (32 - n.toNat) - 1, ((), ())) := by
  unfold i_lastBits
  have w : wi64 (32 - n) = 32 - n := w64_id _ (by omega)
  have hp : (2 : Nat) ^ (32 - n.toNat) ≤ 2 ^ 32 := Nat.pow_le_pow_right (by decide) (by omega)
  have hp : ((2 ^ (32 - n.toNat) : Nat) : Int) ≤ ((2 ^ 32 : Nat) : Int) := Int.ofNat_le.2 hp
  have h32 : ((2 ^ 32 : Nat) : Int) = 4294967296 := rfl
  have h0 : 0 < (2 : Nat) ^ (32 - n.toNat) := Nat.two_pow_pos _
  have h0 : (1 : Int) ≤ ((2 ^ (32 - n.toNat) : Nat) : Int) := by omega
  have e : (min (Int.toNat (32 - n)) (IntKind.bits .i64)) = 32 - n.toNat := by show min (Int.toNat (32 - n)) 64 = _; omega
  rw [pow_cast] at hp h0
  simp only [w, e]
  rw [if_neg (by omega), Int.one_mul]
  have w2 : wi64 ((2 : Int) ^ (32 - n.toNat)) = (2 : Int) ^ (32 - n.toNat) := w64_id _ (by omega)
  rw [w2]
  have w3 : wi64 ((2 : Int) ^ (32 - n.toNat) - 1) = (2 : Int) ^ (32 - n.toNat) - 1 := w64_id _ (by omega)
  rw [w3]
theorem s_PrefixOk_is (k : Nat) (a n : Int) (hk : 40 < k) : s_PrefixOk k ((a, (n, ())), ()) = some (decide ((0 ≤ a ∧ a ≤ 4294967295) ∧ (0 ≤ n ∧ n ≤ 32) ∧ a % 2 ^ (32 - n.toNat) = 0), ((), ())) := by
  unfold s_PrefixOk
  simp only [s_AddrOk_is, l01In_is, Option.bind_some]
  by_cases h : 0 ≤ a ∧ a ≤ 4294967295
  · by_cases h' : 0 ≤ n ∧ n ≤ 32
    · simp only [l08Size_is k n h' hk, Option.bind_some]
      have h0 : ¬ (2 : Int) ^ (32 - n.toNat) = 0 := by
        have h0 : 0 < (2 : Nat) ^ (32 - n.toNat) := Nat.two_pow_pos _
        rw [← pow_cast]
        omega
      rw [if_neg h0, Int.tmod_eq_emod_of_nonneg h.1]
      simp [h, h']
    · simp [h, h']
  · simp [h]
theorem i_PrefixOk_is (k : Nat) (a n : Int) : i_PrefixOk k ((a, (n, ())), ()) = some (decide ((0 ≤ a ∧ a ≤ 4294967295) ∧ (0 ≤ n ∧ n ≤ 32) ∧ a % 2 ^ (32 - n.toNat) = 0), ((), ())) := by
  unfold i_PrefixOk
  simp only [i_AddrOk_is, within_is, Option.bind_some]
  by_cases h : 0 ≤ a ∧ a ≤ 4294967295
  · by_cases h' : 0 ≤ n ∧ n ≤ 32
    · simp only [lastBits_is k n h', Option.bind_some]
      rw [and_mask _ (by omega) a h.1 (by omega)]
      simp [h, h']
    · simp [h, h']
  · simp [h]
abbrev RT_Lease : Ty := (.pair (.int .i64) (.pair (.int .i64) (.int .i64)))
abbrev RT_Fixed : Ty := (.pair (.int .i64) (.int .i64))
theorem andNot_mask (i : Nat) (hi : i ≤ 62) (x : Int) (h0 : 0 ≤ x) (h1 : x < 2 ^ 63) : bitsI .andNot .i64 x ((2 : Int) ^ i - 1) = x - x % (2 : Int) ^ i := by
  obtain ⟨a, rfl⟩ := Int.eq_ofNat_of_zero_le h0
  have ha : a < 2 ^ 63 := by exact_mod_cast h1
  have hpos : 0 < 2 ^ i := Nat.two_pow_pos i
  have hle : 2 ^ i ≤ 2 ^ 62 := Nat.pow_le_pow_right (by decide) hi
  have hc : ((2 : Int) ^ i - 1) = ((2 ^ i - 1 : Nat) : Int) := by
    rw [Int.natCast_sub hpos]; simp
  have hb : (2 ^ i - 1) % 2 ^ 64 = 2 ^ i - 1 := Nat.mod_eq_of_lt (by omega)
  have ha' : a % 2 ^ 64 = a := Nat.mod_eq_of_lt (by omega)
  have key : a &&& (2 ^ 64 - 1 - (2 ^ i - 1)) = a - a % 2 ^ i := by
    have e : a - a % 2 ^ i = 2 ^ i * (a / 2 ^ i) := by
      have := Nat.div_add_mod a (2 ^ i)
      omega
    rw [e]
    apply Nat.eq_of_testBit_eq
    intro j
    have e2 : 2 ^ 64 - 1 - (2 ^ i - 1) = 2 ^ 64 - (2 ^ i - 1 + 1) := by omega
    rw [e2, Nat.testBit_and, Nat.testBit_two_pow_sub_succ (by omega), Nat.testBit_two_pow_sub_one, Nat.testBit_two_pow_mul, Nat.testBit_div_two_pow]
    by_cases hj : i ≤ j
    · have hj' : ¬ j < i := by omega
      have hs : j - i + i = j := by omega
      by_cases h64 : j < 64
      · simp [hj, hj', h64, hs]
      · have : a.testBit j = false := Nat.testBit_lt_two_pow (Nat.lt_of_lt_of_le ha (Nat.pow_le_pow_right (by decide) (by omega)))
        simp [hj, h64, hs, this]
    · have hj' : j < i := by omega
      simp [hj, hj']
  show IntKind.i64.wrap ((BitVec.ofInt 64 (a : Int) &&& ~~~(BitVec.ofInt 64 ((2 : Int) ^ i - 1))).toNat : Int) = _
  rw [hc, BitVec.toNat_and, BitVec.toNat_not, BitVec.ofInt_natCast, BitVec.ofInt_natCast, BitVec.toNat_ofNat, BitVec.toNat_ofNat, hb, ha', key]
  have hm : a % 2 ^ i ≤ a := Nat.mod_le _ _
  rw [Int.natCast_sub hm, w64_id _ (by omega)]
  simp
theorem emod_le_self (a m : Int) (h : 0 ≤ a) (hm : 0 < m) : 0 ≤ a % m ∧ a % m ≤ a := by
  have h1 := Int.emod_nonneg a (by omega : m ≠ 0)
  have h2 := Int.mul_ediv_add_emod a m
  have h3 : 0 ≤ m * (a / m) := Int.mul_nonneg (by omega) (Int.ediv_nonneg h (by omega))
  omega
theorem pow_pos_int (n : Nat) : 0 < (2 : Int) ^ n := by
  have h0 : 0 < (2 : Nat) ^ n := Nat.two_pow_pos _
  rw [← pow_cast]
  omega
def inB (p n a : Int) : Bool := decide ((0 ≤ p ∧ p ≤ 4294967295) ∧ (0 ≤ n ∧ n ≤ 32) ∧ p % 2 ^ (32 - n.toNat) = 0) && (decide (0 ≤ a ∧ a ≤ 4294967295) && decide (a - a % (2 : Int) ^ (32 - n.toNat) = p))
theorem s_InPrefix_is (k : Nat) (p n a : Int) (hk : 40 < k) : s_InPrefix k ((p, (n, ())), (a, ())) = some (inB p n a, ((), ((), ()))) := by
  unfold s_InPrefix inB
  simp only [s_PrefixOk_is k p n hk, s_AddrOk_is, Option.bind_some]
  cases hd : decide ((0 ≤ p ∧ p ≤ 4294967295) ∧ (0 ≤ n ∧ n ≤ 32) ∧ p % 2 ^ (32 - n.toNat) = 0) with
  | false => simp
  | true =>
    have h' := (of_decide_eq_true hd).2.1
    by_cases h : 0 ≤ a ∧ a ≤ 4294967295
    · have hp := pow_pos_int (32 - n.toNat)
      have hm := emod_le_self a _ h.1 hp
      have w : wi64 (a - a % (2 : Int) ^ (32 - n.toNat)) = a - a % (2 : Int) ^ (32 - n.toNat) := w64_id _ (by omega)
      simp only [l08Size_is k n h' hk, Option.bind_some, h, and_self, decide_true, if_true, Bool.true_and]
      rw [if_neg (by omega), Int.tmod_eq_emod_of_nonneg h.1, w]
    · simp [h]
theorem i_InPrefix_is (k : Nat) (p n a : Int) : i_InPrefix k ((p, (n, ())), (a, ())) = some (inB p n a, ((), ((), ()))) := by
  unfold i_InPrefix inB
  simp only [i_PrefixOk_is, i_AddrOk_is, Option.bind_some]
  cases hd : decide ((0 ≤ p ∧ p ≤ 4294967295) ∧ (0 ≤ n ∧ n ≤ 32) ∧ p % 2 ^ (32 - n.toNat) = 0) with
  | false => simp
  | true =>
    have h' := (of_decide_eq_true hd).2.1
    by_cases h : 0 ≤ a ∧ a ≤ 4294967295
    · simp only [lastBits_is k n h', Option.bind_some, h, and_self, decide_true, if_true, Bool.true_and]
      rw [andNot_mask _ (by omega) a h.1 (by omega)]
    · simp [h]
theorem isId_is (k : Nat) (a : Int) : i_isId k (a, ()) = some (decide (1 ≤ a ∧ a ≤ 99), ((), ())) := by
  unfold i_isId
  rw [within_is]
  rfl
abbrev PoolA : Type := Int × Int × List (Int × Int × Int) × List (Int × Int) × Unit
def hostB (p n a : Int) : Bool := inB p n a && (!decide (a = p) && !decide (a = p + ((2 : Int) ^ (32 - n.toNat) - 1)))
theorem inB_in {p n a : Int} (h : inB p n a = true) : (0 ≤ p ∧ p ≤ 4294967295) ∧ (0 ≤ n ∧ n ≤ 32) ∧ p % 2 ^ (32 - n.toNat) = 0 := by
  unfold inB at h
  rw [Bool.and_eq_true] at h
  exact of_decide_eq_true h.1
theorem pow_le_32 (n : Int) : (2 : Int) ^ (32 - n.toNat) ≤ 4294967296 := by
  have h : (2 : Nat) ^ (32 - n.toNat) ≤ 2 ^ 32 := Nat.pow_le_pow_right (by decide) (by omega)
  have h : ((2 ^ (32 - n.toNat) : Nat) : Int) ≤ ((2 ^ 32 : Nat) : Int) := Int.ofNat_le.2 h
  rw [pow_cast] at h
  exact h
theorem isHost_is (k : Nat) (p n a : Int) : i_isHost k ((p, (n, ())), (a, ())) = some (hostB p n a, ((), ((), ()))) := by
  unfold i_isHost hostB
  simp only [i_InPrefix_is, Option.bind_some]
  cases hb : inB p n a with
  | false => simp
  | true =>
    obtain ⟨h1, h2, h3⟩ := inB_in hb
    have hp := pow_pos_int (32 - n.toNat)
    have hq := pow_le_32 n
    simp only [lastBits_is k n h2, Option.bind_some, if_true, Bool.true_and]
    rw [or_join (32 - n.toNat) p _ h1.1 h3 (by omega) (by omega) (by omega) (by omega)]
    by_cases e : a = p <;> simp [e]
theorem Inside_is (k : Nat) (x : PoolA) (a : Int) (hk : 40 < k) : s_l11Inside k (x, (a, ())) = some (hostB x.1 x.2.1 a, ((), ((), ()))) := by
  unfold s_l11Inside hostB
  simp only [s_InPrefix_is k _ _ _ hk, Option.bind_some]
  cases hb : inB x.1 x.2.1 a with
  | false => simp
  | true =>
    obtain ⟨h1, h2, h3⟩ := inB_in hb
    have hp := pow_pos_int (32 - x.2.1.toNat)
    have hq := pow_le_32 x.2.1
    have w1 : wi64 (x.1 + (2 : Int) ^ (32 - x.2.1.toNat)) = x.1 + (2 : Int) ^ (32 - x.2.1.toNat) := w64_id _ (by omega)
    have w2 : wi64 (x.1 + ((2 : Int) ^ (32 - x.2.1.toNat) - 1)) = x.1 + ((2 : Int) ^ (32 - x.2.1.toNat) - 1) := w64_id _ (by omega)
    have e2 : x.1 + (2 : Int) ^ (32 - x.2.1.toNat) - 1 = x.1 + ((2 : Int) ^ (32 - x.2.1.toNat) - 1) := by omega
    simp only [l08Size_is k x.2.1 h2 hk, Option.bind_some, if_true, Bool.true_and, w1, e2, w2]
    by_cases e : a = x.1 <;> simp [e]
def fixedB (q : List RT_Fixed.den) (a : Int) : Int := match (List.range q.length).find? (fun j => decide ((Ty.rd (t := RT_Fixed) q (j : Nat)).2 = a)) with | some j => (Ty.rd (t := RT_Fixed) q (j : Nat)).1 | none => 0
theorem fixedFor_is (k : Nat) (x : PoolA) (a : Int) (hk : 1048576 < k) (hl : x.2.2.2.1.length ≤ 1048576) : i_fixedFor k (x, (a, ())) = some (fixedB x.2.2.2.1 a, ((), ((), ()))) := by
  unfold i_fixedFor fixedB
  refine (loop_find (R := Int × Unit × Unit × Unit) (fun j => (a, (x.2.2.2.1, ((x.2.2.2.1.length : Int), (((j : Nat) : Int), ()))))) x.2.2.2.1.length (fun j => decide ((Ty.rd (t := RT_Fixed) x.2.2.2.1 (j : Nat)).2 = a)) (fun j => ((Ty.rd (t := RT_Fixed) x.2.2.2.1 (j : Nat)).1, ((), ((), ())))) (0, ((), ((), ()))) ?_ ?_ k (by omega)).trans ?_
  · intro ag j hj
    have q1 : (0 : Int) ≤ (j : Int) ∧ (j : Int) < (x.2.2.2.1.length : Int) := by omega
    have w3 : wi64 ((j : Int) + 1) = ((j + 1 : Nat) : Int) := (w64_id _ (by omega)).trans (by omega)
    simp only [q1, w3, and_self, decide_true, if_true]
  · intro ag
    simp only [Int.lt_irrefl, decide_false, Bool.false_eq_true, if_false]
  · cases (List.range x.2.2.2.1.length).find? (fun j => decide ((Ty.rd (t := RT_Fixed) x.2.2.2.1 (j : Nat)).2 = a)) <;> rfl
theorem l11FixedFor_is (k : Nat) (x : PoolA) (a : Int) (hk : 1048576 < k) (hl : x.2.2.2.1.length ≤ 1048576) : s_l11FixedFor k (x, (a, ())) = some (fixedB x.2.2.2.1 a, ((), ((), ()))) := by
  unfold s_l11FixedFor fixedB
  refine (loop_find (R := Int × Unit × Unit × Unit) (fun j => (a, (x, (((j : Nat) : Int), ())))) x.2.2.2.1.length (fun j => decide ((Ty.rd (t := RT_Fixed) x.2.2.2.1 (j : Nat)).2 = a)) (fun j => ((Ty.rd (t := RT_Fixed) x.2.2.2.1 (j : Nat)).1, ((), ((), ())))) (0, ((), ((), ()))) ?_ ?_ k (by omega)).trans ?_
  · intro ag j hj
    have q1 : (0 : Int) ≤ (j : Int) ∧ (j : Int) < (x.2.2.2.1.length : Int) := by omega
    have w3 : wi64 ((j : Int) + 1) = ((j + 1 : Nat) : Int) := (w64_id _ (by omega)).trans (by omega)
    simp only [q1, w3, and_self, decide_true, if_true]
  · intro ag
    simp only [Int.lt_irrefl, decide_false, Bool.false_eq_true, if_false]
  · cases (List.range x.2.2.2.1.length).find? (fun j => decide ((Ty.rd (t := RT_Fixed) x.2.2.2.1 (j : Nat)).2 = a)) <;> rfl
def badF (x : PoolA) (i : Nat) : Bool := !(decide (1 ≤ (Ty.rd (t := RT_Fixed) x.2.2.2.1 i).1 ∧ (Ty.rd (t := RT_Fixed) x.2.2.2.1 i).1 ≤ 99) && (hostB x.1 x.2.1 (Ty.rd (t := RT_Fixed) x.2.2.2.1 i).2 && (!(decide (0 < (i : Int)) && decide ((Ty.rd (t := RT_Fixed) x.2.2.2.1 i).1 ≤ (Ty.rd (t := RT_Fixed) x.2.2.2.1 (wi64 ((i : Int) - 1))).1)) && decide (fixedB x.2.2.2.1 (Ty.rd (t := RT_Fixed) x.2.2.2.1 i).2 = (Ty.rd (t := RT_Fixed) x.2.2.2.1 i).1))))
def leaseB (q : List RT_Lease.den) (w : Int) : Int := match (List.range q.length).find? (fun j => decide ((Ty.rd (t := RT_Lease) q (j : Nat)).2.1 = w)) with | some j => ((j : Nat) : Int) | none => -1
theorem leaseOf_is (k : Nat) (x : PoolA) (w : Int) (hk : 1048576 < k) (hl : x.2.2.1.length ≤ 1048576) : i_leaseOf k (x, (w, ())) = some (leaseB x.2.2.1 w, ((), ((), ()))) := by
  have h : x_slices_IndexFunc_impl_Lease_impl_Lease_of_i_leaseOf_1 k (x.2.2.1, (((w, ()), ()), ())) = some (leaseB x.2.2.1 w, ((), ((((w, ()), ()), ())))) := by
    unfold x_slices_IndexFunc_impl_Lease_impl_Lease_of_i_leaseOf_1 leaseB
    refine (loop_find (R := Int × Unit × ((Int × Unit) × Unit) × Unit) (fun j => (x.2.2.1, ((((w, ()), ())), ((x.2.2.1.length : Int), (((j : Nat) : Int), ()))))) x.2.2.1.length (fun j => decide ((Ty.rd (t := RT_Lease) x.2.2.1 (j : Nat)).2.1 = w)) (fun j => (((j : Nat) : Int), ((), ((((w, ()), ()), ()))))) (-1, ((), ((((w, ()), ()), ())))) ?_ ?_ k (by omega)).trans ?_
    · intro ag j hj
      have q1 : (0 : Int) ≤ (j : Int) ∧ (j : Int) < (x.2.2.1.length : Int) := by omega
      have w3 : wi64 ((j : Int) + 1) = ((j + 1 : Nat) : Int) := (w64_id _ (by omega)).trans (by omega)
      simp only [q1, w3, i_leaseOf_1, and_self, decide_true, if_true, Option.bind_some]
    · intro ag
      simp only [Int.lt_irrefl, decide_false, Bool.false_eq_true, if_false]
    · cases (List.range x.2.2.1.length).find? (fun j => decide ((Ty.rd (t := RT_Lease) x.2.2.1 (j : Nat)).2.1 = w)) <;> rfl
  unfold i_leaseOf
  rw [h]
  rfl
def badL (x : PoolA) (i : Nat) : Bool := !(!(decide (0 < (i : Int)) && decide ((Ty.rd (t := RT_Lease) x.2.2.1 i).1 ≤ (Ty.rd (t := RT_Lease) x.2.2.1 (wi64 ((i : Int) - 1))).1)) && (hostB x.1 x.2.1 (Ty.rd (t := RT_Lease) x.2.2.1 i).1 && (decide (1 ≤ (Ty.rd (t := RT_Lease) x.2.2.1 i).2.1 ∧ (Ty.rd (t := RT_Lease) x.2.2.1 i).2.1 ≤ 99) && (decide (0 ≤ (Ty.rd (t := RT_Lease) x.2.2.1 i).2.2 ∧ (Ty.rd (t := RT_Lease) x.2.2.1 i).2.2 ≤ 1000000000) && ((List.range i).all (fun j => !decide ((Ty.rd (t := RT_Lease) x.2.2.1 (j : Nat)).2.1 = (Ty.rd (t := RT_Lease) x.2.2.1 i).2.1)) && (decide (fixedB x.2.2.2.1 (Ty.rd (t := RT_Lease) x.2.2.1 i).1 = 0) || decide (fixedB x.2.2.2.1 (Ty.rd (t := RT_Lease) x.2.2.1 i).1 = (Ty.rd (t := RT_Lease) x.2.2.1 i).2.1)))))))
def prefB (p n : Int) : Bool := decide ((0 ≤ p ∧ p ≤ 4294967295) ∧ (0 ≤ n ∧ n ≤ 32) ∧ p % 2 ^ (32 - n.toNat) = 0)
def poolB (x : PoolA) : Bool := prefB x.1 x.2.1 && (decide (24 ≤ x.2.1 ∧ x.2.1 ≤ 30) && (decide (x.2.2.1.length ≤ 6) && (decide (x.2.2.2.1.length ≤ 4) && ((List.range x.2.2.2.1.length).all (fun j => !badF x j) && (List.range x.2.2.1.length).all (fun j => !badL x j)))))
theorem fixesOk_is (k : Nat) (x : PoolA) (hk : 1048576 < k) (hl : x.2.2.2.1.length ≤ 1048576) : i_fixesOk k (x, ()) = some (((List.range x.2.2.2.1.length).all (fun j => !badF x j) && decide (x.2.2.2.1.length ≤ 4)), ((), ())) := by
  unfold i_fixesOk
  refine (find_loop_opt (fun i => (x, (x.2.2.2.1, ((x.2.2.2.1.length : Int), (((i : Nat) : Int), ()))))) x.2.2.2.1.length (badF x) (some (false, ((), ()))) (some (decide (x.2.2.2.1.length ≤ 4), ((), ()))) ?_ ?_ k (by omega)).trans ?_
  · intro again i hi
    have w2 : wi64 ((i : Int) + 1) = ((i + 1 : Nat) : Int) := (w64_id _ (by omega)).trans (by omega)
    have w1 : wi64 ((i : Int) - 1) = (i : Int) - 1 := w64_id _ (by omega)
    have g1 : (0 : Int) ≤ (i : Int) ∧ (i : Int) < (x.2.2.2.1.length : Int) := by omega
    rw [show badF x i = (!(decide (1 ≤ (Ty.rd (t := RT_Fixed) x.2.2.2.1 i).1 ∧ (Ty.rd (t := RT_Fixed) x.2.2.2.1 i).1 ≤ 99) && (hostB x.1 x.2.1 (Ty.rd (t := RT_Fixed) x.2.2.2.1 i).2 && (!(decide (0 < (i : Int)) && decide ((Ty.rd (t := RT_Fixed) x.2.2.2.1 i).1 ≤ (Ty.rd (t := RT_Fixed) x.2.2.2.1 (wi64 ((i : Int) - 1))).1)) && decide (fixedB x.2.2.2.1 (Ty.rd (t := RT_Fixed) x.2.2.2.1 i).2 = (Ty.rd (t := RT_Fixed) x.2.2.2.1 i).1))))) from rfl]
    simp only [g1, isId_is, isHost_is, fixedFor_is k x _ hk hl, w2, and_self, decide_true, if_true, Option.bind_some]
    by_cases c1 : 1 ≤ (Ty.rd (t := RT_Fixed) x.2.2.2.1 i).1 ∧ (Ty.rd (t := RT_Fixed) x.2.2.2.1 i).1 ≤ 99
    rotate_left
    · simp only [c1, decide_false, Bool.not_false, Bool.true_eq_false, if_false, Bool.false_and, if_true]
    cases c2 : hostB x.1 x.2.1 (Ty.rd (t := RT_Fixed) x.2.2.2.1 i).2 with
    | false => simp only [c1, and_self, decide_true, Bool.not_true, Bool.not_false, Bool.true_eq_false, if_true, if_false, Bool.false_and, Bool.true_and]
    | true =>
      by_cases h2 : 0 < (i : Int)
      · have g3 : (0 : Int) ≤ wi64 ((i : Int) - 1) ∧ wi64 ((i : Int) - 1) < (x.2.2.2.1.length : Int) := by rw [w1]; omega
        by_cases c3 : (Ty.rd (t := RT_Fixed) x.2.2.2.1 i).1 ≤ (Ty.rd (t := RT_Fixed) x.2.2.2.1 (wi64 ((i : Int) - 1))).1
        · simp only [c1, c3, h2, g3, and_self, decide_true, Bool.not_true, Bool.not_false, Bool.true_eq_false, if_true, if_false, Bool.false_and, Bool.true_and]
        · by_cases c4 : fixedB x.2.2.2.1 (Ty.rd (t := RT_Fixed) x.2.2.2.1 i).2 = (Ty.rd (t := RT_Fixed) x.2.2.2.1 i).1 <;>
            simp only [c1, c3, c4, h2, g3, and_self, decide_true, decide_false, Bool.not_true, Bool.not_false, Bool.false_eq_true, if_true, if_false, Bool.and_false, Bool.true_and]
      · by_cases c4 : fixedB x.2.2.2.1 (Ty.rd (t := RT_Fixed) x.2.2.2.1 i).2 = (Ty.rd (t := RT_Fixed) x.2.2.2.1 i).1 <;>
          simp only [c1, c4, h2, and_self, decide_true, decide_false, Bool.not_true, Bool.not_false, Bool.false_eq_true, if_true, if_false, Bool.false_and, Bool.true_and]
  · intro ag
    have e : decide ((x.2.2.2.1.length : Int) ≤ 4) = decide (x.2.2.2.1.length ≤ 4) := by rw [decide_eq_decide]; omega
    simp only [Int.lt_irrefl, decide_false, Bool.false_eq_true, if_false, e]
  · cases (List.range x.2.2.2.1.length).all (fun j => !badF x j) <;> simp
theorem leaseB_at (q : List RT_Lease.den) (i : Nat) (hi : i < q.length) : (leaseB q (Ty.rd (t := RT_Lease) q i).2.1 = (i : Int)) ↔ (List.range i).all (fun j => !decide ((Ty.rd (t := RT_Lease) q (j : Nat)).2.1 = (Ty.rd (t := RT_Lease) q i).2.1)) = true := by
  have hself : (fun j : Nat => decide ((Ty.rd (t := RT_Lease) q (j : Nat)).2.1 = (Ty.rd (t := RT_Lease) q i).2.1)) i = true := by simp
  have hfa := find_at (p := fun j : Nat => decide ((Ty.rd (t := RT_Lease) q (j : Nat)).2.1 = (Ty.rd (t := RT_Lease) q i).2.1)) hi hself
  have hall : (List.range i).all (fun j => !decide ((Ty.rd (t := RT_Lease) q (j : Nat)).2.1 = (Ty.rd (t := RT_Lease) q i).2.1)) = true ↔ ∀ j, j < i → decide ((Ty.rd (t := RT_Lease) q (j : Nat)).2.1 = (Ty.rd (t := RT_Lease) q i).2.1) = false := by simp
  rw [hall, ← hfa]
  unfold leaseB
  cases hf : (List.range q.length).find? (fun j => decide ((Ty.rd (t := RT_Lease) q (j : Nat)).2.1 = (Ty.rd (t := RT_Lease) q i).2.1)) with
  | none =>
    exfalso
    have := List.find?_eq_none.1 hf i (by simpa using hi)
    exact this hself
  | some j =>
    simp only [Option.some.injEq]
    omega
theorem i_PoolOk_is (k : Nat) (x : PoolA) (hk : 1048576 < k) (hl : x.2.2.1.length ≤ 1048576) (hl' : x.2.2.2.1.length ≤ 1048576) : i_PoolOk k (x, ()) = some (poolB x, ((), ())) := by
  unfold i_PoolOk poolB
  simp only [i_PrefixOk_is, within_is, fixesOk_is k x hk hl', Option.bind_some]
  rw [show decide ((0 ≤ x.1 ∧ x.1 ≤ 4294967295) ∧ (0 ≤ x.2.1 ∧ x.2.1 ≤ 32) ∧ x.1 % 2 ^ (32 - x.2.1.toNat) = 0) = prefB x.1 x.2.1 from rfl]
  cases prefB x.1 x.2.1 with
  | false => simp
  | true =>
    by_cases h1 : 24 ≤ x.2.1 ∧ x.2.1 ≤ 30
    rotate_left
    · simp [h1]
    cases hF : (List.range x.2.2.2.1.length).all (fun j => !badF x j) with
    | false => simp [h1]
    | true =>
      by_cases h4 : x.2.2.2.1.length ≤ 4
      rotate_left
      · simp [h1, h4]
      by_cases h6 : x.2.2.1.length ≤ 6
      rotate_left
      · have h6' : (6 : Int) < (x.2.2.1.length : Int) := by omega
        simp [h1, h4, h6, h6']
      have h6' : ¬ (6 : Int) < (x.2.2.1.length : Int) := by omega
      simp only [h1, h4, h6, h6', and_self, decide_true, decide_false, Bool.not_true, Bool.and_self, Bool.true_and, Bool.false_eq_true, if_true, if_false]
      refine (find_loop_opt (fun i => (x, (x.2.2.1, ((x.2.2.1.length : Int), (((i : Nat) : Int), ()))))) x.2.2.1.length (badL x) (some (false, ((), ()))) (some (true, ((), ()))) ?_ ?_ k (by omega)).trans ?_
      · intro again i hi
        have w2 : wi64 ((i : Int) + 1) = ((i + 1 : Nat) : Int) := (w64_id _ (by omega)).trans (by omega)
        have w1 : wi64 ((i : Int) - 1) = (i : Int) - 1 := w64_id _ (by omega)
        have g1 : (0 : Int) ≤ (i : Int) ∧ (i : Int) < (x.2.2.1.length : Int) := by omega
        have hat := leaseB_at x.2.2.1 i hi
        have hu : decide (leaseB x.2.2.1 (Ty.rd (t := RT_Lease) x.2.2.1 i).2.1 = (i : Int)) = (List.range i).all (fun j => !decide ((Ty.rd (t := RT_Lease) x.2.2.1 (j : Nat)).2.1 = (Ty.rd (t := RT_Lease) x.2.2.1 i).2.1)) := by
          rw [Bool.eq_iff_iff, decide_eq_true_eq, hat]
        rw [show badL x i = (!(!(decide (0 < (i : Int)) && decide ((Ty.rd (t := RT_Lease) x.2.2.1 i).1 ≤ (Ty.rd (t := RT_Lease) x.2.2.1 (wi64 ((i : Int) - 1))).1)) && (hostB x.1 x.2.1 (Ty.rd (t := RT_Lease) x.2.2.1 i).1 && (decide (1 ≤ (Ty.rd (t := RT_Lease) x.2.2.1 i).2.1 ∧ (Ty.rd (t := RT_Lease) x.2.2.1 i).2.1 ≤ 99) && (decide (0 ≤ (Ty.rd (t := RT_Lease) x.2.2.1 i).2.2 ∧ (Ty.rd (t := RT_Lease) x.2.2.1 i).2.2 ≤ 1000000000) && ((List.range i).all (fun j => !decide ((Ty.rd (t := RT_Lease) x.2.2.1 (j : Nat)).2.1 = (Ty.rd (t := RT_Lease) x.2.2.1 i).2.1)) && (decide (fixedB x.2.2.2.1 (Ty.rd (t := RT_Lease) x.2.2.1 i).1 = 0) || decide (fixedB x.2.2.2.1 (Ty.rd (t := RT_Lease) x.2.2.1 i).1 = (Ty.rd (t := RT_Lease) x.2.2.1 i).2.1)))))))) from rfl]
        simp only [g1, isId_is, isHost_is, fixedFor_is k x _ hk hl', leaseOf_is k x _ hk hl, hu, w2, and_self, decide_true, if_true, Option.bind_some]
        have rest : ∀ b1 b2 b3 b4 b5 b6 : Bool, ∀ go : Option (Bool × Unit × Unit), (if (!b1) = false then
            if (!b2) = false then
              if (!b3) = true then some (false, ((), ()))
              else if (!b4) = false then
                if (!b5) = true then
                  if (!b6) = true then some (false, ((), ())) else go
                else go
              else some (false, ((), ()))
            else some (false, ((), ()))
          else some (false, ((), ()))) = if (!(b1 && (b2 && (b3 && (b4 && (b5 || b6)))))) = true then some (false, ((), ())) else go := by
          intro b1 b2 b3 b4 b5 b6 go
          cases b1 <;> cases b2 <;> cases b3 <;> cases b4 <;> cases b5 <;> cases b6 <;> rfl
        by_cases h2 : 0 < (i : Int)
        · have g3 : (0 : Int) ≤ wi64 ((i : Int) - 1) ∧ wi64 ((i : Int) - 1) < (x.2.2.1.length : Int) := by rw [w1]; omega
          by_cases c3 : (Ty.rd (t := RT_Lease) x.2.2.1 i).1 ≤ (Ty.rd (t := RT_Lease) x.2.2.1 (wi64 ((i : Int) - 1))).1
          · simp only [c3, h2, g3, and_self, decide_true, Bool.not_true, Bool.not_false, Bool.true_eq_false, if_true, if_false, Bool.false_and, Bool.and_self]
          · simp only [c3, h2, g3, and_self, decide_true, decide_false, if_true, Bool.and_false, Bool.not_false, Bool.true_and]
            exact rest _ _ _ _ _ _ _
        · simp only [h2, decide_false, Bool.false_eq_true, if_false, Bool.false_and, Bool.not_false, Bool.true_and]
          exact rest _ _ _ _ _ _ _
      · intro ag
        simp only [Int.lt_irrefl, decide_false, Bool.false_eq_true, if_false]
      · cases (List.range x.2.2.1.length).all (fun j => !badL x j) <;> simp
theorem s_PoolOk_is (k : Nat) (x : PoolA) (hk : 1048576 < k) (hl : x.2.2.1.length ≤ 1048576) (hl' : x.2.2.2.1.length ≤ 1048576) : s_PoolOk k (x, ()) = some (poolB x, ((), ())) := by
  unfold s_PoolOk poolB
  simp only [s_PrefixOk_is k _ _ (by omega : 40 < k), l01In_is, Option.bind_some]
  rw [show decide ((0 ≤ x.1 ∧ x.1 ≤ 4294967295) ∧ (0 ≤ x.2.1 ∧ x.2.1 ≤ 32) ∧ x.1 % 2 ^ (32 - x.2.1.toNat) = 0) = prefB x.1 x.2.1 from rfl]
  cases prefB x.1 x.2.1 with
  | false => simp
  | true =>
    by_cases h1 : 24 ≤ x.2.1 ∧ x.2.1 ≤ 30
    rotate_left
    · simp [h1]
    by_cases h6 : x.2.2.1.length ≤ 6
    rotate_left
    · have h6' : (6 : Int) < (x.2.2.1.length : Int) := by omega
      simp [h1, h6, h6']
    by_cases h4 : x.2.2.2.1.length ≤ 4
    rotate_left
    · have h6' : ¬ (6 : Int) < (x.2.2.1.length : Int) := by omega
      have h4' : (4 : Int) < (x.2.2.2.1.length : Int) := by omega
      simp [h1, h4, h6, h6', h4']
    have h6' : ¬ (6 : Int) < (x.2.2.1.length : Int) := by omega
    have h4' : ¬ (4 : Int) < (x.2.2.2.1.length : Int) := by omega
    simp only [h1, h4, h6, h6', h4', and_self, decide_true, decide_false, Bool.not_true, Bool.true_and, Bool.false_eq_true, if_true, if_false]
    refine (find_loop_opt (fun i => (x, (((i : Nat) : Int), ()))) x.2.2.2.1.length (badF x) (some (false, ((), ()))) (some ((List.range x.2.2.1.length).all (fun j => !badL x j), ((), ()))) ?_ ?_ k (by omega)).trans ?_
    · intro again i hi
      have w2 : wi64 ((i : Int) + 1) = ((i + 1 : Nat) : Int) := (w64_id _ (by omega)).trans (by omega)
      have w1 : wi64 ((i : Int) - 1) = (i : Int) - 1 := w64_id _ (by omega)
      have g1 : (0 : Int) ≤ (i : Int) ∧ (i : Int) < (x.2.2.2.1.length : Int) := by omega
      rw [show badF x i = (!(decide (1 ≤ (Ty.rd (t := RT_Fixed) x.2.2.2.1 i).1 ∧ (Ty.rd (t := RT_Fixed) x.2.2.2.1 i).1 ≤ 99) && (hostB x.1 x.2.1 (Ty.rd (t := RT_Fixed) x.2.2.2.1 i).2 && (!(decide (0 < (i : Int)) && decide ((Ty.rd (t := RT_Fixed) x.2.2.2.1 i).1 ≤ (Ty.rd (t := RT_Fixed) x.2.2.2.1 (wi64 ((i : Int) - 1))).1)) && decide (fixedB x.2.2.2.1 (Ty.rd (t := RT_Fixed) x.2.2.2.1 i).2 = (Ty.rd (t := RT_Fixed) x.2.2.2.1 i).1))))) from rfl]
      simp only [g1, Inside_is k x _ (by omega : 40 < k), l11FixedFor_is k x _ hk hl', w2, and_self, decide_true, if_true, Option.bind_some]
      have rest : ∀ b1 b2 b4 : Bool, ∀ go : Option (Bool × Unit × Unit), (if (!b1) = false then
          if (!b2) = false then
            if (!b4) = true then some (false, ((), ())) else go
          else some (false, ((), ()))
        else some (false, ((), ()))) = if (!(b1 && (b2 && b4))) = true then some (false, ((), ())) else go := by
        intro b1 b2 b4 go
        cases b1 <;> cases b2 <;> cases b4 <;> rfl
      by_cases h2 : 0 < (i : Int)
      · have g3 : (0 : Int) ≤ wi64 ((i : Int) - 1) ∧ wi64 ((i : Int) - 1) < (x.2.2.2.1.length : Int) := by rw [w1]; omega
        by_cases c3 : (Ty.rd (t := RT_Fixed) x.2.2.2.1 i).1 ≤ (Ty.rd (t := RT_Fixed) x.2.2.2.1 (wi64 ((i : Int) - 1))).1
        · simp only [c3, h2, g3, and_self, decide_true, Bool.true_eq_false, if_true, if_false]
          have q : ∀ b1 b2 b4 : Bool, ∀ go : Option (Bool × Unit × Unit), (if (!b1) = false then (if (!b2) = false then some (false, ((), ())) else some (false, ((), ()))) else some (false, ((), ()))) = if (!(b1 && (b2 && (!(true && true) && b4)))) = true then some (false, ((), ())) else go := by
            intro b1 b2 b4 go
            cases b1 <;> cases b2 <;> cases b4 <;> rfl
          exact q _ _ _ _
        · simp only [c3, h2, g3, and_self, decide_true, decide_false, if_true, Bool.and_false, Bool.not_false, Bool.true_and]
          exact rest _ _ _ _
      · simp only [h2, decide_false, Bool.false_eq_true, if_false, Bool.false_and, Bool.not_false, Bool.true_and]
        exact rest _ _ _ _
    · intro ag
      simp only [Int.lt_irrefl, decide_false, Bool.false_eq_true, if_false]
      refine (find_loop_opt (fun i => (x, (((i : Nat) : Int), ()))) x.2.2.1.length (badL x) (some (false, ((), ()))) (some (true, ((), ()))) ?_ ?_ k (by omega)).trans ?_
      · intro again i hi
        have w2 : wi64 ((i : Int) + 1) = ((i + 1 : Nat) : Int) := (w64_id _ (by omega)).trans (by omega)
        have w1 : wi64 ((i : Int) - 1) = (i : Int) - 1 := w64_id _ (by omega)
        have g1 : (0 : Int) ≤ (i : Int) ∧ (i : Int) < (x.2.2.1.length : Int) := by omega
        rw [show badL x i = (!(!(decide (0 < (i : Int)) && decide ((Ty.rd (t := RT_Lease) x.2.2.1 i).1 ≤ (Ty.rd (t := RT_Lease) x.2.2.1 (wi64 ((i : Int) - 1))).1)) && (hostB x.1 x.2.1 (Ty.rd (t := RT_Lease) x.2.2.1 i).1 && (decide (1 ≤ (Ty.rd (t := RT_Lease) x.2.2.1 i).2.1 ∧ (Ty.rd (t := RT_Lease) x.2.2.1 i).2.1 ≤ 99) && (decide (0 ≤ (Ty.rd (t := RT_Lease) x.2.2.1 i).2.2 ∧ (Ty.rd (t := RT_Lease) x.2.2.1 i).2.2 ≤ 1000000000) && ((List.range i).all (fun j => !decide ((Ty.rd (t := RT_Lease) x.2.2.1 (j : Nat)).2.1 = (Ty.rd (t := RT_Lease) x.2.2.1 i).2.1)) && (decide (fixedB x.2.2.2.1 (Ty.rd (t := RT_Lease) x.2.2.1 i).1 = 0) || decide (fixedB x.2.2.2.1 (Ty.rd (t := RT_Lease) x.2.2.1 i).1 = (Ty.rd (t := RT_Lease) x.2.2.1 i).2.1)))))))) from rfl]
        simp only [g1, jn, Inside_is k x _ (by omega : 40 < k), l11FixedFor_is k x _ hk hl', and_self, decide_true, if_true, Option.bind_some]
        have rest : ∀ b1 b2 b3 b4 b5 b6 : Bool, ∀ go W : Option (Bool × Unit × Unit), W = (if b4 = true then go else some (false, ((), ()))) → (if (!b1) = false then
            if (!b2) = false then
              if (!b3) = false then
                if (!b5) = true then
                  if (!b6) = true then some (false, ((), ())) else W
                else W
              else some (false, ((), ()))
            else some (false, ((), ()))
          else some (false, ((), ()))) = if (!(b1 && (b2 && (b3 && (b4 && (b5 || b6)))))) = true then some (false, ((), ())) else go := by
          intro b1 b2 b3 b4 b5 b6 go W hW
          subst hW
          cases b1 <;> cases b2 <;> cases b3 <;> cases b4 <;> cases b5 <;> cases b6 <;> rfl
        by_cases h2 : 0 < (i : Int)
        · have g3 : (0 : Int) ≤ wi64 ((i : Int) - 1) ∧ wi64 ((i : Int) - 1) < (x.2.2.1.length : Int) := by rw [w1]; omega
          by_cases c3 : (Ty.rd (t := RT_Lease) x.2.2.1 i).1 ≤ (Ty.rd (t := RT_Lease) x.2.2.1 (wi64 ((i : Int) - 1))).1
          · simp only [c3, h2, g3, and_self, decide_true, if_true]
            have q : ∀ b1 b2 b3 : Bool, (if (!b1) = false then (if (!b2) = false then (if (!b3) = false then some (false, ((), ())) else some (false, ((), ()))) else some (false, ((), ()))) else some (false, ((), ()))) = (some (false, ((), ())) : Option (Bool × Unit × Unit)) := by
              intro b1 b2 b3
              cases b1 <;> cases b2 <;> cases b3 <;> rfl
            exact q _ _ _
          · simp only [c3, h2, g3, and_self, decide_true, decide_false, if_true, Bool.and_false, Bool.not_false, Bool.true_and, Bool.false_eq_true, if_false]
            refine rest _ _ _ _ _ _ _ _ (find_loop_opt (R := Bool × Unit × Unit) (fun j => (x, ((i : Int), (((Ty.rd (t := RT_Lease) x.2.2.1 i).1, ((Ty.rd (t := RT_Lease) x.2.2.1 i).2.1, ((Ty.rd (t := RT_Lease) x.2.2.1 i).2.2, ()))), (((j : Nat) : Int), ()))))) i (fun j => decide ((Ty.rd (t := RT_Lease) x.2.2.1 (j : Nat)).2.1 = (Ty.rd (t := RT_Lease) x.2.2.1 i).2.1)) (some (false, ((), ()))) (again (x, (((i + 1 : Nat) : Int), ()))) ?_ ?_ k (by omega))
            · intro ag2 j hj
              have q1 : (0 : Int) ≤ (j : Int) ∧ (j : Int) < (x.2.2.1.length : Int) := by omega
              have q2 : (j : Int) < (i : Int) := by omega
              have w3 : wi64 ((j : Int) + 1) = ((j + 1 : Nat) : Int) := (w64_id _ (by omega)).trans (by omega)
              simp only [q1, q2, w3, and_self, decide_true, if_true]
            · intro ag2
              simp only [Int.lt_irrefl, decide_false, Bool.false_eq_true, if_false, w2]
        · simp only [h2, decide_false, Bool.false_eq_true, if_false, Bool.false_and, Bool.not_false, Bool.true_and]
          refine rest _ _ _ _ _ _ _ _ (find_loop_opt (R := Bool × Unit × Unit) (fun j => (x, ((i : Int), (((Ty.rd (t := RT_Lease) x.2.2.1 i).1, ((Ty.rd (t := RT_Lease) x.2.2.1 i).2.1, ((Ty.rd (t := RT_Lease) x.2.2.1 i).2.2, ()))), (((j : Nat) : Int), ()))))) i (fun j => decide ((Ty.rd (t := RT_Lease) x.2.2.1 (j : Nat)).2.1 = (Ty.rd (t := RT_Lease) x.2.2.1 i).2.1)) (some (false, ((), ()))) (again (x, (((i + 1 : Nat) : Int), ()))) ?_ ?_ k (by omega))
          · intro ag2 j hj
            have q1 : (0 : Int) ≤ (j : Int) ∧ (j : Int) < (x.2.2.1.length : Int) := by omega
            have q2 : (j : Int) < (i : Int) := by omega
            have w3 : wi64 ((j : Int) + 1) = ((j + 1 : Nat) : Int) := (w64_id _ (by omega)).trans (by omega)
            simp only [q1, q2, w3, and_self, decide_true, if_true]
          · intro ag2
            simp only [Int.lt_irrefl, decide_false, Bool.false_eq_true, if_false, w2]
      · intro ag2
        simp only [Int.lt_irrefl, decide_false, Bool.false_eq_true, if_false]
      · cases (List.range x.2.2.1.length).all (fun j => !badL x j) <;> simp
    · cases (List.range x.2.2.2.1.length).all (fun j => !badF x j) <;> simp
theorem getD_some' {A : Type} {l : List A} {n : Nat} {r d : A} (h : l[n]? = some r) : l.getD n d = r := by simp [List.getD, h]
theorem getD_set' {A : Type} {l : List A} {n : Nat} {x d : A} (h : n < l.length) : (l.set n x).getD n d = x := by simp [List.getD, h]
theorem set_set' {A : Type} (l : List A) (n : Nat) (x y : A) : (l.set n x).set n y = l.set n y := by simp
/-- Marks are laid row by row, and found again. -/
theorem loop_MH {A R R' : Type} {step : (List A × Int × Int × Unit → Option R) → List A × Int × Int × Unit → Option R} {hstep : (List A × Int × Int × Unit → Option R') → List A × Int × Int × Unit → Option R'} (fin : List A → Int → R) (hfin : Int → R') (c N : Int) (hc : 0 ≤ c) (P : A → Prop)
    (hs : ∀ (r : A), P r → ∀ n : Int, 0 ≤ n → n + c ≤ N → ∃ (r' : A) (n' : Int), n ≤ n' ∧ n' ≤ n + c ∧ (∀ again (out : List A) (i : Int), 0 ≤ i → i < out.length → i ≤ 1048576 → out[i.toNat]? = some r → step again (out, (n, (i, ()))) = again (out.set i.toNat r', (n', (i + 1, ())))) ∧
      (∀ again (out : List A) (i : Int), 0 ≤ i → i < out.length → i ≤ 1048576 → out[i.toNat]? = some r' → hstep again (out, (n, (i, ()))) = again (out, (n', (i + 1, ())))))
    (he : ∀ again (out : List A) (n i : Int), (out.length : Int) ≤ i → step again (out, (n, (i, ()))) = some (fin out n))
    (hhe : ∀ again (out : List A) (n i : Int), (out.length : Int) ≤ i → hstep again (out, (n, (i, ()))) = some (hfin n))
    (a : List A) (ha : ∀ r ∈ a, P r) (hal : a.length ≤ 1048576) (n : Int) (hn : 0 ≤ n) (C : Int) (hC : C = c * (a.length : Nat)) (hN : n + C ≤ N) (k : Nat) (hk : 1048576 < k) :
    ∃ (a' : List A) (n' : Int), a'.length = a.length ∧ n ≤ n' ∧ n' ≤ n + C ∧ whileK step k (a, (n, (0, ()))) = some (fin a' n') ∧ whileK hstep k (a', (n, (0, ()))) = some (hfin n') := by
  subst hC
  have key : ∀ (s p : List A) (n : Int) (k : Nat), (∀ r ∈ s, P r) → p.length + s.length ≤ 1048576 → 0 ≤ n → n + c * (s.length : Nat) ≤ N → s.length < k →
      ∃ (s' : List A) (n' : Int), s'.length = s.length ∧ n ≤ n' ∧ n' ≤ n + c * (s.length : Nat) ∧ whileK step k (p ++ s, (n, ((p.length : Int), ()))) = some (fin (p ++ s') n') ∧ whileK hstep k (p ++ s', (n, ((p.length : Int), ()))) = some (hfin n') := by
    intro s
    induction s with
    | nil =>
      intro p n k _ _ _ _ hk
      obtain ⟨k, rfl⟩ : ∃ k', k = k' + 1 := ⟨k - 1, by omega⟩
      exact ⟨[], n, rfl, by omega, by simp, he _ _ _ _ (by simp), hhe _ _ _ _ (by simp)⟩
    | cons r s ih =>
      intro p n k hP hl hn hN hk
      obtain ⟨k, rfl⟩ : ∃ k', k = k' + 1 := ⟨k - 1, by omega⟩
      simp only [List.length_cons] at hl hN hk
      have e : c * ((s.length + 1 : Nat) : Int) = c * (s.length : Nat) + c := by rw [Int.natCast_add, Int.mul_add]; simp
      have hpos : 0 ≤ c * ((s.length : Nat) : Int) := Int.mul_nonneg hc (by omega)
      rw [e] at hN
      obtain ⟨r', n1, h1, h2, h3, h4⟩ := hs r (hP r (by simp)) n hn (by omega)
      obtain ⟨s', n', g1, g2, g3, g4, g5⟩ := ih (p ++ [r']) n1 k (fun x hx => hP x (List.mem_cons_of_mem _ hx)) (by simp; omega) (by omega) (by omega) (by omega)
      have ep : ((p ++ [r']).length : Int) = (p.length : Int) + 1 := by simp
      rw [ep, List.append_assoc, List.append_assoc] at g4
      rw [ep, List.append_assoc] at g5
      refine ⟨r' :: s', n', by simp [g1], by omega, by simp only [List.length_cons]; rw [e]; omega, ?_, ?_⟩
      · show step (whileK step k) _ = _
        rw [h3 _ _ _ (by omega) (by simp; omega) (by omega) (by simp)]
        have : (p ++ r :: s).set ((p.length : Int)).toNat r' = p ++ ([r'] ++ s) := by simp
        rw [this]
        exact g4
      · show hstep (whileK hstep k) _ = _
        rw [h4 _ _ _ (by omega) (by simp; omega) (by omega) (by simp)]
        exact g5
  have := key a [] n k ha (by simpa using hal) hn hN (by omega)
  simpa using this
theorem markText_ends (k : Nat) (n : Int) (hn : n < 4611686018427387904) (hk : n < k) : ∃ r, w_markText k (n, ()) = some (r, ((), ())) := by
  unfold w_markText
  by_cases h0 : n ≤ 0
  · simp only [h0, decide_true, if_true]
    exact ⟨_, rfl⟩
  · simp only [h0, decide_false]
    have hm : maxStr = 9223372036854775807 := rfl
    have h1 : (⟨#[109]⟩ : ByteArray).size = 1 := rfl
    refine (whileK_some (g := fun t : ByteArray => (t, ((), ()))) (fun y : Int × ByteArray × Unit => y.1.toNat) (fun y : Int × ByteArray × Unit => 0 ≤ y.1 ∧ y.1 + (y.2.1.size : Int) < 4611686018427387905) (fun _ _ => True) ?_ k (n, ((⟨#[]⟩ : ByteArray), ())) ⟨by simp only; omega, by simp only; have : (⟨#[]⟩ : ByteArray).size = 0 := rfl; omega⟩ (by simp only; omega)).imp fun t h => h.1
    · rintro ⟨a, s, u⟩ ⟨g1, g2⟩ again hg
      simp only at g1 g2
      have hsz : ∀ c : Int, (strOf [c]).size = 1 := fun c => by simp [strOf, ByteArray.size]
      by_cases ha : 0 < a
      · have hq : Int.tdiv a 10 = a / 10 := Int.tdiv_eq_ediv_of_nonneg g1
        have hw : wi64 (a / 10) = a / 10 := w64_id _ (by omega)
        simp only [ha, decide_true, if_true, hsz, hq, hw]
        rw [if_pos (by omega)]
        exact hg _ ⟨by simp only; omega, by simp only [ByteArray.size_append, hsz]; omega⟩ (by simp only; omega)
      · simp only [ha, decide_false]
        have : ((⟨#[109]⟩ : ByteArray).size + s.size ≤ maxStr) := by omega
        simp only [this, if_true]
        exact ⟨_, rfl, trivial⟩
theorem rd_at {t : Ty} (xs : List t.den) (i : Nat) (h : i < xs.length) : Ty.rd (t := t) xs (i : Int) = xs[i] := by
  rw [rd_get (t := t) xs _ (by simpa using h)]
  simp
def dec (n : Nat) : ByteArray := ⟨(Lib.decDigits n).toArray⟩
theorem decDigits_lt {n : Nat} (h : n < 10) : Lib.decDigits n = [UInt8.ofNat (48 + n)] := by
  rw [Lib.decDigits, dif_pos h]
theorem decDigits_ge {n : Nat} (h : ¬ n < 10) : Lib.decDigits n = Lib.decDigits (n / 10) ++ [UInt8.ofNat (48 + n % 10)] := by
  rw [Lib.decDigits, dif_neg h]
theorem dec_lt {n : Nat} (h : n < 10) : dec n = strOf [48 + (n : Int)] := by
  unfold dec strOf
  rw [decDigits_lt h]
  have : (48 + (n : Int)).toNat = 48 + n := by omega
  simp [this]
theorem dec_ge {n : Nat} (h : ¬ n < 10) : dec n = dec (n / 10) ++ strOf [48 + (n : Int) % 10] := by
  unfold dec strOf
  rw [decDigits_ge h]
  have : (48 + (n : Int) % 10).toNat = 48 + n % 10 := by omega
  apply ByteArray.ext
  simp [this, ByteArray.data_append]
theorem figure_is (k : Nat) (n : Int) (h : 0 ≤ n ∧ n < 10) : s_l01Figure k (n, ()) = some (48 + n, ((), ())) := by
  unfold s_l01Figure
  have w : wi64 (48 + n) = 48 + n := w64_id _ (by omega)
  have w2 : wu8 (48 + n) = 48 + n := by rw [wu8, w8_mod]; omega
  simp only [h.2, decide_true, if_true, w, w2]
theorem s_Decimal_is (k : Nat) (n : Int) (h : 0 ≤ n ∧ n ≤ 4294967295) (hk : 4294967297 < k) : s_Decimal k (n, ()) = some (dec n.toNat, ((), ())) := by
  have hmx : maxStr = 9223372036854775807 := rfl
  unfold s_Decimal
  by_cases h0 : n = 0
  · subst h0
    simp only [decide_true, if_true]
    rw [show (0 : Int).toNat = 0 from rfl, dec_lt (by omega)]
    rfl
  simp only [h0, decide_false, Bool.false_eq_true, if_false]
  have hneg : ¬ n < 0 := by omega
  refine Eq.trans (whileK_run (X := Int × Bool × ByteArray × Unit) (R := ByteArray × Unit × Unit) (fun y => y.1.toNat) (fun y => 0 ≤ y.1 ∧ y.1 ≤ 4294967295 ∧ y.2.1 = false ∧ y.2.2.1.size + y.1.toNat ≤ 4294967296)
    (fun y => ((if y.1 = 0 then y.2.2.1 else dec y.1.toNat ++ y.2.2.1), ((), ()))) ?_ k (n, (decide (n < 0), ((⟨#[]⟩ : ByteArray), ()))) ⟨h.1, h.2, by simp [hneg], by simp [ByteArray.size]; omega⟩ (by show n.toNat < k; omega)) ?_
  rotate_left
  · simp only [h0, if_false]
    have : dec n.toNat ++ (⟨#[]⟩ : ByteArray) = dec n.toNat := by apply ByteArray.ext; simp [ByteArray.data_append]
    rw [this]
  · rintro ⟨m, b, t, ⟨⟩⟩ ⟨m0, m1, hb, hs⟩ again hag
    simp only at m0 m1 hb hs hag
    subst hb
    by_cases hm : m = 0
    · simp only [hm, decide_true, Bool.not_true, Bool.false_eq_true, if_false, if_true]
    · have t1 : Int.tmod m 10 = m % 10 := Int.tmod_eq_emod_of_nonneg m0
      have t2 : wi64 (Int.tdiv m 10) = m / 10 := by rw [Int.tdiv_eq_ediv_of_nonneg m0]; exact w64_id _ (by omega)
      have t3 : ¬ m % 10 < 0 := by omega
      have f1 := figure_is k (m % 10) (by omega)
      have e1 : (strOf [48 + m % 10]).size = 1 := by simp [strOf, ByteArray.size]
      have hc : 1 + t.size ≤ maxStr := by omega
      have hg := hag (m / 10, (false, (strOf [48 + m % 10] ++ t, ()))) ⟨by show 0 ≤ m / 10; omega, by show m / 10 ≤ 4294967295; omega, rfl, by show (strOf [48 + m % 10] ++ t).size + (m / 10).toNat ≤ 4294967296; rw [ByteArray.size_append, e1]; omega⟩ (by show (m / 10).toNat < m.toNat; omega)
      simp only [hm, t1, t2, t3, f1, e1, hc, decide_false, Bool.not_false, Bool.false_eq_true, if_true, if_false, Option.bind_some]
      rw [hg]
      congr 2
      by_cases hl : m / 10 = 0
      · have : m.toNat < 10 := by omega
        simp only [hl, if_true]
        rw [dec_lt this]
        have : ((m.toNat : Nat) : Int) = m := by omega
        rw [this]
        have : m % 10 = m := by omega
        rw [this]
      · have hge : ¬ m.toNat < 10 := by omega
        simp only [hl, if_false]
        rw [dec_ge hge]
        have e2 : (m / 10).toNat = m.toNat / 10 := by omega
        have e3 : ((m.toNat : Nat) : Int) = m := by omega
        rw [e2, e3]
        apply ByteArray.ext
        simp [ByteArray.data_append]
theorem HappenOk_both (k : Nat) (hk : 40 < k) (kd id at' dst : Int) (t : ByteArray) (a n : Int) : ∃ r : Bool, s_HappenOk k ((kd, (id, (at', (dst, (t, (a, (n, ()))))))), ()) = some (r, ((), ())) ∧ i_HappenOk k ((kd, (id, (at', (dst, (t, (a, (n, ()))))))), ()) = some (r, ((), ())) := by
  unfold s_HappenOk i_HappenOk
  simp only [l01In_is, within_is, s_AddrOk_is, i_AddrOk_is, s_PrefixOk_is k a n hk, i_PrefixOk_is, Option.bind_some]
  generalize decide ((0 ≤ a ∧ a ≤ 4294967295) ∧ (0 ≤ n ∧ n ≤ 32) ∧ a % 2 ^ (32 - n.toNat) = 0) = P
  generalize decide ((t.size : Int) ≤ 100) = L
  generalize decide (t = (⟨#[]⟩ : ByteArray)) = E
  by_cases h1 : 1 ≤ kd ∧ kd ≤ 9
  · by_cases h2 : 1 ≤ id ∧ id ≤ 98
    · by_cases h3 : at' < 0
      · simp [h1, h2, h3]
      · by_cases h4 : kd = 3
        · subst h4
          by_cases h5 : dst = 0
          · subst h5
            cases L <;> simp [h2, h3]
          · by_cases h6 : 0 ≤ dst ∧ dst ≤ 4294967295 <;> cases L <;> simp [h2, h3, h5, h6]
        · by_cases h5 : kd = 9
          · subst h5
            by_cases h6 : dst = 0 <;> cases P <;> cases E <;> simp [h2, h3, h6]
          · by_cases h6 : dst = 0 <;> cases E <;> simp [h1, h2, h3, h4, h5, h6]
    · simp [h1, h2]
  · simp [h1]
theorem decFrom_app : ∀ (l : List UInt8) (acc : Nat) (b : UInt8), Lib.decFrom acc (l ++ [b]) = (Lib.decFrom acc l).bind fun m => (Lib.digitVal b).map fun d => m * 10 + d
  | [], acc, b => by
    simp only [List.nil_append, Lib.decFrom, Option.bind_some]
    cases Lib.digitVal b <;> rfl
  | a :: l, acc, b => by
    simp only [List.cons_append, Lib.decFrom]
    cases Lib.digitVal a with
    | none => rfl
    | some d => exact decFrom_app l _ b
theorem digitVal_of {d : Nat} (h : d < 10) : Lib.digitVal (UInt8.ofNat (48 + d)) = some d := by
  have e : (UInt8.ofNat (48 + d)).toNat = 48 + d := by
    rw [UInt8.toNat_ofNat']
    omega
  unfold Lib.digitVal
  rw [e, if_pos (by omega)]
  congr 1
  omega
theorem dec_val (n : Nat) : Lib.decFrom 0 (Lib.decDigits n) = some n := by
  induction n using Nat.strongRecOn with
  | _ n ih =>
    by_cases h : n < 10
    · rw [decDigits_lt h]
      simp only [Lib.decFrom, digitVal_of h]
      congr 1
      omega
    · rw [decDigits_ge h, decFrom_app, ih (n / 10) (by omega), Option.bind_some, digitVal_of (by omega)]
      simp only [Option.map_some]
      congr 1
      omega
theorem dec_len : ∀ (j n : Nat), n < 10 ^ (j + 1) → (Lib.decDigits n).length ≤ j + 1
  | 0, n, h => by
    rw [decDigits_lt (by omega)]
    simp
  | j + 1, n, h => by
    by_cases c : n < 10
    · rw [decDigits_lt c]; simp
    · rw [decDigits_ge c, List.length_append]
      have := dec_len j (n / 10) (by rw [Nat.pow_succ] at h; omega)
      simp only [List.length_cons, List.length_nil]
      omega
/-- What ReadDecimal answers, by the number that the text spells. -/
def readB (s : ByteArray) : Int × Bool := match Lib.decFrom 0 s.data.toList with
  | some n => if n ≤ 1000000000 ∧ dec n = s then ((n : Int), true) else (0, false)
  | none => (0, false)
theorem dec_data {n : Nat} {s : ByteArray} (h : dec n = s) : s.data.toList = Lib.decDigits n := by
  subst h
  simp [dec]
theorem dec_short {n : Nat} {s : ByteArray} (h : dec n = s) (hn : n ≤ 1000000000) : s.data.toList.length ≤ 10 := by
  rw [dec_data h]
  exact dec_len 9 n (by omega)
theorem atoi_dec {s : ByteArray} {n : Nat} (hn : n ≤ 1000000000) (hd : dec n = s) : Lib.atoiAll s.data.toList = .ok (n : Int) := by
  have hl := dec_short hd hn
  have hv := dec_val n
  rw [Lib.atoiAll_short _ (by omega)]
  rw [dec_data hd] at hl ⊢
  generalize hL : Lib.decDigits n = L at hv hl
  cases L with
  | nil => 
    exfalso
    have := Lib.nDigits_pos n
    have e := Lib.decDigits_length n
    rw [hL] at e
    simp at e
    omega
  | cons b r =>
    obtain ⟨d, hb⟩ := Lib.digit_of_decFrom _ _ _ hv 0 b rfl
    obtain ⟨b1, b2, _⟩ := Lib.digitVal_eq hb
    have c1 : (b == 45) = false := beq_eq_false_iff_ne.2 fun e => by subst e; simp at b1
    have c2 : (b == 43) = false := beq_eq_false_iff_ne.2 fun e => by subst e; simp at b1
    unfold Lib.atoi
    simp only [c1, c2, Bool.false_eq_true, if_false]
    unfold Lib.decNat
    simp only [List.isEmpty_cons, Bool.false_eq_true, if_false, hv, Option.map_some]
    rfl
theorem readF_is (s : ByteArray) : readF 1000000000 s = readB s := by
  unfold readB
  cases hd : Lib.decFrom 0 s.data.toList with
  | none =>
    unfold readF
    cases ha : Lib.atoiAll s.data.toList
    · rename_i v
      dsimp only
      split
      · rename_i h
        obtain ⟨h0, _, h2⟩ := h
        exfalso
        have e : s.data.toList = Lib.decDigits v.toNat := by
          rw [← h2]
          unfold Lib.itoa
          rw [if_neg (by omega)]
        rw [e, dec_val] at hd
        cases hd
      · rfl
    · rfl
    · rfl
  | some n =>
    dsimp only
    by_cases c : n ≤ 1000000000 ∧ dec n = s
    · rw [if_pos c]
      unfold readF
      rw [atoi_dec c.1 c.2]
      dsimp only
      have e : (⟨(Lib.itoa (n : Int)).toArray⟩ : ByteArray) = s := by
        rw [← c.2]
        unfold Lib.itoa dec
        rw [if_neg (by omega), Int.toNat_natCast]
      rw [if_pos ⟨by omega, by omega, e⟩]
    · rw [if_neg c]
      unfold readF
      cases ha : Lib.atoiAll s.data.toList
      · rename_i v
        dsimp only
        split
        · rename_i h
          obtain ⟨h0, h1, h2⟩ := h
          exfalso
          have e : s.data.toList = Lib.decDigits v.toNat := by
            rw [← h2]
            unfold Lib.itoa
            rw [if_neg (by omega)]
          rw [e, dec_val] at hd
          injection hd with hd
          refine c ⟨by omega, ?_⟩
          rw [← hd, ← h2]
          unfold Lib.itoa dec
          rw [if_neg (by omega)]
        · rfl
      · rfl
      · rfl
theorem i_ReadDecimal_is (k : Nat) (s : ByteArray) (hs : s.size ≤ 1048576) : i_ReadDecimal k (s, ()) = some (((readB s).1, ((readB s).2, ())), ((), ())) := by
  unfold i_ReadDecimal readDecF
  rw [if_pos (by show s.size ≤ 281474976710656; omega), readF_is]
theorem readB_le (s : ByteArray) : 0 ≤ (readB s).1 ∧ (readB s).1 ≤ 1000000000 := by
  unfold readB
  split
  · split
    · rename_i h
      exact ⟨by dsimp only; omega, by dsimp only; omega⟩
    · exact ⟨by decide, by decide⟩
  · exact ⟨by decide, by decide⟩
theorem bt_at (s : ByteArray) (i : Nat) (h : i < s.data.toList.length) : bt s (i : Int) = ((s.data.toList[i]).toNat : Int) := by
  have hs : i < s.size := by
    show i < s.data.size
    rw [← Array.length_toList]
    exact h
  unfold bt
  rw [dif_pos (by rw [Int.toNat_natCast]; exact hs)]
  rfl
theorem s_ReadDecimal_is (k : Nat) (s : ByteArray) (hk : 4294967297 < k) : s_ReadDecimal k (s, ()) = some (((readB s).1, ((readB s).2, ())), ((), ())) := by
  have hsz : s.data.toList.length = s.size := Array.length_toList
  unfold s_ReadDecimal
  by_cases h10 : (10 : Int) < (s.size : Int)
  · simp only [h10, decide_true, if_true]
    have : readB s = (0, false) := by
      unfold readB
      split
      · rw [if_neg]
        intro h
        have := dec_short h.2 h.1
        omega
      · rfl
    rw [this]
  simp only [h10, decide_false, Bool.false_eq_true, if_false]
  refine (whileK_run (X := ByteArray × Int × Int × Unit) (R := (Int × Bool × Unit) × Unit × Unit) (fun y => s.size - y.2.2.1.toNat) (fun y => y.1 = s ∧ 0 ≤ y.2.2.1 ∧ y.2.2.1 ≤ s.size ∧ 0 ≤ y.2.1 ∧ y.2.1 < 10 ^ y.2.2.1.toNat)
    (fun y => match Lib.decFrom y.2.1.toNat (s.data.toList.drop y.2.2.1.toNat) with | some n => (if n ≤ 1000000000 ∧ dec n = s then ((n : Int), (true, ())) else (0, (false, ())), ((), ())) | none => ((0, (false, ())), ((), ()))) ?_ k (s, (0, (0, ()))) ⟨rfl, by simp, by simp, by simp, by simp⟩ (by simp only; omega)).trans ?_
  · rintro ⟨t, n, i, ⟨⟩⟩ ⟨rfl, i0, i1, n0, n1⟩ again hag
    dsimp only at i0 i1 n0 n1 hag h10 hsz ⊢
    obtain ⟨i, rfl⟩ := Int.eq_ofNat_of_zero_le i0
    obtain ⟨n, rfl⟩ := Int.eq_ofNat_of_zero_le n0
    simp only [Int.toNat_natCast] at n1 hag ⊢
    have p10 : (10 : Int) ^ i ≤ 10 ^ 10 := by
      have : (10 : Nat) ^ i ≤ 10 ^ 10 := Nat.pow_le_pow_right (by decide) (by omega)
      exact_mod_cast this
    have p10 : (10 : Int) ^ i ≤ 10000000000 := p10
    by_cases hi : (i : Int) < (t.size : Int)
    · have hi' : i < t.data.toList.length := by omega
      have hb := bt_at t i hi'
      have hlt : (t.data.toList[i]).toNat < 256 := (t.data.toList[i]).toNat_lt
      have hdr : t.data.toList.drop i = t.data.toList[i] :: t.data.toList.drop (i + 1) := List.drop_eq_getElem_cons hi'
      rw [hdr]
      generalize t.data.toList[i] = b at hb hlt
      have w1 : wi64 ((i : Int) + 1) = ((i + 1 : Nat) : Int) := (w64_id _ (by omega)).trans (by omega)
      have w2 : wi64 (10 * (n : Int)) = 10 * n := w64_id _ (by omega)
      have w3 : wi64 (bt t (i : Int)) = bt t i := w64_id _ (by rw [hb]; omega)
      simp only [hi, i0, and_self, decide_true, if_true]
      by_cases c1 : bt t (i : Int) < 48
      · have : Lib.digitVal b = none := by unfold Lib.digitVal; rw [if_neg (by omega)]
        simp only [c1, decide_true, Bool.true_eq_false, if_false, Lib.decFrom, this]
      · simp only [c1, decide_false, if_true]
        by_cases c2 : 57 < bt t (i : Int)
        · have : Lib.digitVal b = none := by unfold Lib.digitVal; rw [if_neg (by omega)]
          simp only [c2, decide_true, if_true, Lib.decFrom, this]
        · have hdv : Lib.digitVal b = some (b.toNat - 48) := by unfold Lib.digitVal; rw [if_pos (by omega)]
          have w4 : wi64 (10 * (n : Int) + bt t i) = 10 * n + bt t i := w64_id _ (by rw [hb]; omega)
          have w5 : wi64 (10 * (n : Int) + bt t i - 48) = ((n * 10 + (b.toNat - 48) : Nat) : Int) := (w64_id _ (by rw [hb]; omega)).trans (by rw [hb]; omega)
          simp only [c2, decide_false, Bool.false_eq_true, if_false, Lib.decFrom, hdv, w1, w2, w3, w4, w5]
          refine (hag (t, (((n * 10 + (b.toNat - 48) : Nat) : Int), (((i + 1 : Nat) : Int), ()))) ⟨rfl, by simp only; omega, by simp only; omega, by simp only; omega, ?_⟩ (by simp only; omega)).trans ?_
          · simp only [Int.toNat_natCast]
            have e : (10 : Int) ^ (i + 1) = 10 ^ i * 10 := Int.pow_succ ..
            rw [e]
            omega
          · simp only [Int.toNat_natCast]
    · have hi' : t.data.toList.drop i = [] := List.drop_eq_nil_of_le (by omega)
      simp only [hi, decide_false, Bool.false_eq_true, if_false, hi', Lib.decFrom]
      by_cases c1 : (1000000000 : Int) < (n : Int)
      · have : ¬ (n ≤ 1000000000 ∧ dec n = t) := fun h => by omega
        simp only [c1, this, decide_true, Bool.true_eq_false, if_false]
      · have hd := s_Decimal_is k (n : Int) (by omega) hk
        rw [Int.toNat_natCast] at hd
        have c1' : n ≤ 1000000000 := by omega
        simp only [c1, decide_false, if_true, hd, Option.bind_some]
        by_cases c2 : dec n = t
        · simp only [c2, c1', decide_true, and_self, Bool.not_true, Bool.false_eq_true, if_false, if_true]
        · simp only [c2, decide_false, and_false, Bool.not_false, if_true, if_false]
  · dsimp only
    unfold readB
    simp only [Int.toNat_zero, List.drop_zero]
    cases Lib.decFrom 0 s.data.toList with
    | none => rfl
    | some n =>
      dsimp only
      split <;> rfl
def mkB (l : List UInt8) : ByteArray := ⟨l.toArray⟩
theorem mkB_data (s : ByteArray) : mkB s.data.toList = s := by
  unfold mkB
  apply ByteArray.ext
  simp
theorem data_mkB (l : List UInt8) : (mkB l).data.toList = l := by simp [mkB]
theorem mkB_size (l : List UInt8) : (mkB l).size = l.length := by simp [mkB, ByteArray.size]
theorem size_list (s : ByteArray) : s.data.toList.length = s.size := Array.length_toList
def addH (p : List UInt8) : List (List UInt8) → List (List UInt8)
  | [] => [p]
  | x :: xs => (p ++ x) :: xs
/-- The pieces of a list between the places of a byte. -/
def pl (c : UInt8) : List UInt8 → List (List UInt8)
  | [] => [[]]
  | b :: l => if b = c then [] :: pl c l else addH [b] (pl c l)
theorem pl_ne (c : UInt8) (l : List UInt8) : pl c l ≠ [] := by
  cases l with
  | nil => simp [pl]
  | cons b l =>
    unfold pl
    split
    · simp
    · cases pl c l <;> simp [addH]
theorem addH_nil {L : List (List UInt8)} (h : L ≠ []) : addH [] L = L := by
  cases L with
  | nil => exact absurd rfl h
  | cons x L => rfl
theorem addH_addH (p q : List UInt8) (L : List (List UInt8)) : addH p (addH q L) = addH (p ++ q) L := by
  cases L with
  | nil => simp [addH]
  | cons x L => simp [addH]
theorem pl_free {c : UInt8} : ∀ {l : List UInt8}, c ∉ l → pl c l = [l]
  | [], _ => rfl
  | b :: l, h => by
    have h1 : b ≠ c := fun e => h (by simp [e])
    have h2 : c ∉ l := fun e => h (List.mem_cons_of_mem _ e)
    unfold pl
    rw [if_neg h1, pl_free h2]
    rfl
theorem pl_at {c : UInt8} {q : List UInt8} : ∀ {p : List UInt8}, c ∉ p → pl c (p ++ c :: q) = p :: pl c q
  | [], _ => by simp [pl]
  | b :: p, h => by
    have h1 : b ≠ c := fun e => h (by simp [e])
    have h2 : c ∉ p := fun e => h (List.mem_cons_of_mem _ e)
    rw [List.cons_append]
    conv => lhs; unfold pl
    rw [if_neg h1, pl_at h2]
    rfl
theorem pl_len (c : UInt8) : ∀ l : List UInt8, (pl c l).length ≤ l.length + 1 ∧ ∀ x ∈ pl c l, x.length ≤ l.length
  | [] => by simp [pl]
  | b :: l => by
    obtain ⟨h1, h2⟩ := pl_len c l
    unfold pl
    split
    · refine ⟨by simp only [List.length_cons]; omega, fun x hx => ?_⟩
      rcases List.mem_cons.1 hx with rfl | hx
      · simp
      · have := h2 x hx
        simp only [List.length_cons]
        omega
    · cases hp : pl c l with
      | nil => exact absurd hp (pl_ne c l)
      | cons y r =>
        rw [hp] at h1 h2
        refine ⟨by simp only [addH, List.length_cons] at h1 ⊢; omega, fun x hx => ?_⟩
        simp only [addH, List.mem_cons] at hx
        rcases hx with rfl | hx
        · have := h2 y (List.mem_cons_self ..)
          simp only [List.singleton_append, List.length_cons]
          omega
        · have := h2 x (List.mem_cons_of_mem _ hx)
          simp only [List.length_cons]
          omega
theorem index_one (c : UInt8) : ∀ l : List UInt8, (Lib.index l [c] = -1 ∧ c ∉ l) ∨ ∃ i : Nat, Lib.index l [c] = (i : Int) ∧ i < l.length ∧ l = l.take i ++ c :: l.drop (i + 1) ∧ c ∉ l.take i
  | [] => .inl ⟨by simp [Lib.index], by simp⟩
  | b :: l => by
    by_cases e : c = b
    · subst e
      refine .inr ⟨0, ?_, by simp, by simp, by simp⟩
      unfold Lib.index
      simp
    · have hp : ([c].isPrefixOf (b :: l)) = false := by simp [List.isPrefixOf, e]
      rcases index_one c l with ⟨h1, h2⟩ | ⟨i, h1, h2, h3, h4⟩
      · refine .inl ⟨?_, fun h => ?_⟩
        · unfold Lib.index
          simp [hp, h1]
        · rcases List.mem_cons.1 h with h | h
          · exact e h
          · exact h2 h
      · refine .inr ⟨i + 1, ?_, by simp; omega, ?_, ?_⟩
        · have : ¬ ((i : Int) == -1) = true := fun h => by have := beq_iff_eq.1 h; omega
          unfold Lib.index
          simp [hp, h1, this]
        · simp only [List.take_succ_cons, List.drop_succ_cons, List.cons_append]
          rw [← h3]
        · simp only [List.take_succ_cons, List.mem_cons, not_or]
          exact ⟨e, h4⟩
theorem split_one (c : UInt8) : ∀ (n : Nat) (l : List UInt8), l.length ≤ n → Lib.splitK [c] 0 (Lib.count l [c]) l = pl c l := by
  intro n
  induction n with
  | zero =>
    intro l hl
    have : l = [] := List.eq_nil_of_length_eq_zero (by omega)
    subst this
    rw [Lib.count_miss (by simp [Lib.index])]
    rfl
  | succ n ih =>
    intro l hl
    rcases index_one c l with ⟨h1, h2⟩ | ⟨i, h1, h2, h3, h4⟩
    · rw [Lib.count_miss h1, pl_free h2]
      rfl
    · rw [Lib.count_hit (by simp) h1, Nat.add_comm]
      have hm : ¬ ((i : Int) == -1) = true := fun h => by have := beq_iff_eq.1 h; omega
      unfold Lib.splitK
      rw [h1, if_neg hm, Int.toNat_natCast, Nat.add_zero]
      show l.take i :: Lib.splitK [c] 0 (Lib.count (l.drop (i + 1)) [c]) (l.drop (i + 1)) = _
      rw [ih (l.drop (i + 1)) (by rw [List.length_drop]; omega)]
      conv => rhs; rw [h3]
      rw [pl_at h4]
def pieces (c : UInt8) (s : ByteArray) : List ByteArray := (pl c s.data.toList).map mkB
theorem splitB_pieces (c : UInt8) (s : ByteArray) : Lib.splitB ⟨#[c]⟩ 0 (Lib.countB s ⟨#[c]⟩) s = pieces c s := by
  have h := Lib.splitB_data ⟨#[c]⟩ 0 (Lib.countB s ⟨#[c]⟩) s
  have e : Lib.splitK (⟨#[c]⟩ : ByteArray).data.toList 0 (Lib.countB s ⟨#[c]⟩) s.data.toList = pl c s.data.toList := split_one c _ _ (Nat.le_refl _)
  rw [e] at h
  unfold pieces
  rw [← h, List.map_map]
  conv => lhs; rw [← List.map_id (Lib.splitB ⟨#[c]⟩ 0 (Lib.countB s ⟨#[c]⟩) s)]
  exact List.map_congr_left fun x _ => (mkB_data x).symm
theorem pieces_ne (c : UInt8) (s : ByteArray) : pieces c s ≠ [] := by
  unfold pieces
  simp [pl_ne]
theorem pieces_len (c : UInt8) (s : ByteArray) : (pieces c s).length ≤ s.size + 1 ∧ ∀ x ∈ pieces c s, x.size ≤ s.size := by
  obtain ⟨h1, h2⟩ := pl_len c s.data.toList
  rw [size_list] at h1 h2
  unfold pieces
  refine ⟨by rw [List.length_map]; exact h1, fun x hx => ?_⟩
  obtain ⟨y, hy, rfl⟩ := List.mem_map.1 hx
  rw [mkB_size]
  exact h2 y hy
theorem Split_is (k : Nat) (c : UInt8) (s : ByteArray) (hs : s.size ≤ 1048576) : x_strings_Split k (s, ((⟨#[c]⟩ : ByteArray), ())) = some (pieces c s, ((), ((), ()))) := by
  unfold x_strings_Split splitF
  rw [if_pos ⟨by show s.size < 4294967281; omega, by show 1 ≤ (⟨#[c]⟩ : ByteArray).size; exact Nat.le_refl 1⟩]
  simp only [splitB_pieces]
theorem Split_f (k : Nat) (c : UInt8) (s : ByteArray) (hs : s.size ≤ 1048576) : x_strings_Split_f k (s, ((⟨#[c]⟩ : ByteArray), ())) = some (pieces c s, ((), ((), ()))) := Split_is k c s hs
/-- What lies between two places. -/
def sg (s : ByteArray) (b i : Nat) : List UInt8 := (s.data.toList.drop b).take (i - b)
theorem sg_is (s : ByteArray) (b i : Nat) : mkB (sg s b i) = s.extract b i := by
  unfold mkB sg
  apply ByteArray.ext
  rw [ByteArray.data_extract]
  apply Array.toList_inj.1
  simp
theorem sg_step {s : ByteArray} {b i : Nat} (hb : b ≤ i) (hi : i < s.data.toList.length) : sg s b (i + 1) = sg s b i ++ [s.data.toList[i]] := by
  unfold sg
  rw [show i + 1 - b = (i - b) + 1 by omega, List.take_add_one, List.getElem?_drop, show b + (i - b) = i by omega, List.getElem?_eq_getElem hi]
  rfl
theorem sg_self (s : ByteArray) (i : Nat) : sg s i i = [] := by simp [sg]
/-- The pieces, from the place on at which one stands. -/
def restP (s : ByteArray) (c : UInt8) (b i : Nat) : List ByteArray := (addH (sg s b i) (pl c (s.data.toList.drop i))).map mkB
theorem rest_end {s : ByteArray} {c : UInt8} {b i : Nat} (hi : s.size ≤ i) : restP s c b i = [s.extract b i] := by
  unfold restP
  rw [List.drop_eq_nil_of_le (by rw [size_list]; exact hi)]
  simp only [pl, addH, List.append_nil, List.map_cons, List.map_nil, sg_is]
theorem rest_hit {s : ByteArray} {c : UInt8} {b i : Nat} (hi : i < s.data.toList.length) (h : s.data.toList[i] = c) : restP s c b i = s.extract b i :: restP s c (i + 1) (i + 1) := by
  unfold restP
  rw [List.drop_eq_getElem_cons hi, h, sg_self, addH_nil (pl_ne _ _)]
  conv => lhs; unfold pl
  rw [if_pos rfl]
  simp only [addH, List.append_nil, List.map_cons, sg_is]
theorem rest_miss {s : ByteArray} {c : UInt8} {b i : Nat} (hb : b ≤ i) (hi : i < s.data.toList.length) (h : s.data.toList[i] ≠ c) : restP s c b i = restP s c b (i + 1) := by
  unfold restP
  rw [List.drop_eq_getElem_cons hi, sg_step hb hi]
  conv => lhs; unfold pl
  rw [if_neg h, addH_addH]
theorem rest_start (s : ByteArray) (c : UInt8) : restP s c 0 0 = pieces c s := by
  unfold restP pieces
  rw [sg_self, List.drop_zero, addH_nil (pl_ne _ _)]
theorem byte_is {s : ByteArray} {c : UInt8} {i : Nat} (hi : i < s.data.toList.length) : bt s (i : Int) = (c.toNat : Int) ↔ s.data.toList[i] = c := by
  rw [bt_at s i hi]
  constructor
  · intro h
    exact UInt8.toNat.inj (by omega)
  · intro h
    rw [h]
theorem l08Split_is (k : Nat) (c : UInt8) (z : Int) (hz : z = (c.toNat : Int)) (s : ByteArray) (hs : s.size ≤ 1048576) (hk : 1048578 < k) : s_l08Split k (s, (z, ())) = some (pieces c s, ((), ((), ()))) := by
  have hcap : capMax = 274877906944 := rfl
  unfold s_l08Split
  refine (whileK_run (X := ByteArray × Int × List ByteArray × Int × Int × Unit) (R := List ByteArray × Unit × Unit × Unit) (fun y => s.size + 1 - y.2.2.2.2.1.toNat) (fun y => y.1 = s ∧ y.2.1 = z ∧ 0 ≤ y.2.2.2.1 ∧ y.2.2.2.1 ≤ y.2.2.2.2.1 ∧ y.2.2.2.2.1 ≤ s.size + 1 ∧ y.2.2.1.length ≤ y.2.2.2.2.1.toNat)
    (fun y => (y.2.2.1 ++ (if y.2.2.2.2.1 ≤ (s.size : Int) then restP s c y.2.2.2.1.toNat y.2.2.2.2.1.toNat else []), ((), ((), ())))) ?_ k (s, (z, ([], (0, (0, ()))))) ⟨rfl, rfl, by simp, by simp, by simp only; omega, by simp⟩ (by simp only; omega)).trans ?_
  · rintro ⟨t, z', out, b, i, ⟨⟩⟩ ⟨h1, h2, b0, bi, i1, ho⟩ again hag
    dsimp only at h1 h2 b0 bi i1 ho hag ⊢
    subst h1 h2
    obtain ⟨b, rfl⟩ := Int.eq_ofNat_of_zero_le b0
    obtain ⟨i, rfl⟩ := Int.eq_ofNat_of_zero_le (show 0 ≤ i by omega)
    simp only [Int.toNat_natCast] at ho hag ⊢
    have hsz := size_list t
    have w1 : wi64 ((i : Int) + 1) = ((i + 1 : Nat) : Int) := (w64_id _ (by omega)).trans (by omega)
    have hc1 : out.length + 1 ≤ capMax := by omega
    by_cases hi : (i : Int) ≤ (t.size : Int)
    · have i0 : (0 : Int) ≤ (i : Int) := by omega
      simp only [hi, decide_true, if_true]
      by_cases he : (i : Int) = (t.size : Int)
      · have g := hag (t, (z', (out ++ [t.extract b t.size], (((i + 1 : Nat) : Int), (((i + 1 : Nat) : Int), ()))))) ⟨rfl, rfl, by simp only; omega, by simp only; omega, by simp only; omega, by simp only [List.length_append, List.length_cons, List.length_nil, Int.toNat_natCast]; omega⟩ (by simp only [Int.toNat_natCast]; omega)
        have e : i = t.size := by omega
        subst e
        have n1 : ¬ ((t.size + 1 : Nat) : Int) ≤ (t.size : Int) := by omega
        simp only [n1, if_false, List.append_nil] at g
        simp only [he, b0, bi, w1, hc1, Int.le_refl, i0, and_self, decide_true, Bool.true_eq_false, if_false, if_true, List.length_cons, List.length_nil, Nat.zero_add, Int.toNat_natCast, g, rest_end (Nat.le_refl t.size)]
      · have hlt : (i : Int) < (t.size : Int) := by omega
        have hi' : i < t.data.toList.length := by omega
        have hle : ((i + 1 : Nat) : Int) ≤ (t.size : Int) := by omega
        simp only [he, hlt, i0, and_self, decide_false, if_true]
        by_cases hb : bt t (i : Int) = z'
        · have hb' := (byte_is (c := c) hi').1 (hb.trans hz)
          have g := hag (t, (z', (out ++ [t.extract b i], (((i + 1 : Nat) : Int), (((i + 1 : Nat) : Int), ()))))) ⟨rfl, rfl, by simp only; omega, by simp only; omega, by simp only; omega, by simp only [List.length_append, List.length_cons, List.length_nil, Int.toNat_natCast]; omega⟩ (by simp only [Int.toNat_natCast]; omega)
          simp only [hle, if_true, Int.toNat_natCast, List.append_assoc, List.singleton_append] at g
          simp only [hb, b0, bi, hi, w1, hc1, i0, and_self, decide_true, if_true, List.length_cons, List.length_nil, Nat.zero_add, Int.toNat_natCast, g, rest_hit hi' hb']
        · have hb' : t.data.toList[i] ≠ c := fun e => hb (((byte_is hi').2 e).trans hz.symm)
          have g := hag (t, (z', (out, ((b : Int), (((i + 1 : Nat) : Int), ()))))) ⟨rfl, rfl, by simp only; omega, by simp only; omega, by simp only; omega, by simp only [Int.toNat_natCast]; omega⟩ (by simp only [Int.toNat_natCast]; omega)
          simp only [hle, if_true, Int.toNat_natCast] at g
          simp only [hb, decide_false, Bool.false_eq_true, if_false, w1, g, rest_miss (show b ≤ i by omega) hi' hb']
    · simp only [hi, decide_false, Bool.false_eq_true, if_false, List.append_nil]
  · have : (0 : Int) ≤ (s.size : Int) := by omega
    simp only [this, if_true, Int.toNat_zero, List.nil_append, rest_start]
/-- Lines: an empty last one is none. -/
def dl : List ByteArray → List ByteArray
  | [] => []
  | [x] => if x.size = 0 then [] else [x]
  | x :: y :: r => x :: dl (y :: r)
theorem dl_cons {x : ByteArray} {r : List ByteArray} (h : r ≠ []) : dl (x :: r) = x :: dl r := by
  cases r with
  | nil => exact absurd rfl h
  | cons y r => rfl
theorem rest_ne (s : ByteArray) (c : UInt8) (b i : Nat) : restP s c b i ≠ [] := by
  unfold restP
  have := pl_ne c (s.data.toList.drop i)
  cases hp : pl c (s.data.toList.drop i) with
  | nil => exact absurd hp this
  | cons x r => simp [addH]
theorem dl_last : ∀ {ps : List ByteArray}, ps ≠ [] → dl ps = if (ps.getD (ps.length - 1) ⟨#[]⟩).size = 0 then ps.take (ps.length - 1) else ps
  | [], h => absurd rfl h
  | [x], _ => by
    simp only [dl, List.length_cons, List.length_nil, List.getD, List.getElem?_cons_zero, Option.getD_some, Nat.zero_add, Nat.sub_self, List.take_zero]
  | x :: y :: r, _ => by
    have := dl_last (ps := y :: r) (by simp)
    show x :: dl (y :: r) = _
    rw [this]
    simp only [List.length_cons, Nat.add_sub_cancel]
    have e : (x :: y :: r).getD (r.length + 1) ⟨#[]⟩ = (y :: r).getD r.length ⟨#[]⟩ := by simp [List.getD]
    rw [e]
    split <;> simp
def linesB (s : ByteArray) : List ByteArray := dl (pieces 10 s)
theorem dl_len : ∀ (ps : List ByteArray), (dl ps).length ≤ ps.length ∧ ∀ x ∈ dl ps, x ∈ ps
  | [] => by simp [dl]
  | [x] => by
    unfold dl
    split
    · simp
    · exact ⟨by simp, fun y hy => hy⟩
  | x :: y :: r => by
    obtain ⟨h1, h2⟩ := dl_len (y :: r)
    show (x :: dl (y :: r)).length ≤ _ ∧ ∀ z ∈ x :: dl (y :: r), z ∈ _
    refine ⟨by simp only [List.length_cons] at h1 ⊢; omega, fun z hz => ?_⟩
    rcases List.mem_cons.1 hz with rfl | hz
    · exact List.mem_cons_self ..
    · exact List.mem_cons_of_mem _ (h2 z hz)
theorem lines_len (s : ByteArray) : (linesB s).length ≤ s.size + 1 ∧ ∀ x ∈ linesB s, x.size ≤ s.size := by
  obtain ⟨h1, h2⟩ := dl_len (pieces 10 s)
  obtain ⟨g1, g2⟩ := pieces_len 10 s
  exact ⟨by unfold linesB; omega, fun x hx => g2 x (h2 x hx)⟩
theorem ext_size (s : ByteArray) (b i : Nat) (hi : i ≤ s.size) : (s.extract b i).size = i - b := by
  rw [ByteArray.size_extract, Nat.min_eq_left hi]
theorem l25Lines_is (k : Nat) (s : ByteArray) (hs : s.size ≤ 1048576) (hk : 1048578 < k) : s_l25Lines k (s, ()) = some (linesB s, ((), ())) := by
  have hcap : capMax = 274877906944 := rfl
  unfold s_l25Lines
  refine (whileK_run (X := ByteArray × List ByteArray × Int × Int × Unit) (R := List ByteArray × Unit × Unit) (fun y => s.size + 1 - y.2.2.2.1.toNat) (fun y => y.1 = s ∧ 0 ≤ y.2.2.1 ∧ y.2.2.1 ≤ y.2.2.2.1 ∧ y.2.2.2.1 ≤ s.size ∧ y.2.1.length ≤ y.2.2.2.1.toNat)
    (fun y => (y.2.1 ++ dl (restP s 10 y.2.2.1.toNat y.2.2.2.1.toNat), ((), ()))) ?_ k (s, ([], (0, (0, ())))) ⟨rfl, by simp, by simp, by simp, by simp⟩ (by simp only; omega)).trans ?_
  · rintro ⟨t, out, b, i, ⟨⟩⟩ ⟨h1, b0, bi, i1, ho⟩ again hag
    dsimp only at h1 b0 bi i1 ho hag ⊢
    subst h1
    obtain ⟨b, rfl⟩ := Int.eq_ofNat_of_zero_le b0
    obtain ⟨i, rfl⟩ := Int.eq_ofNat_of_zero_le (show 0 ≤ i by omega)
    simp only [Int.toNat_natCast] at ho hag ⊢
    have hsz := size_list t
    have w1 : wi64 ((i : Int) + 1) = ((i + 1 : Nat) : Int) := (w64_id _ (by omega)).trans (by omega)
    have hc1 : out.length + 1 ≤ capMax := by omega
    have i0 : (0 : Int) ≤ (i : Int) := by omega
    by_cases hlt : (i : Int) < (t.size : Int)
    · have hi' : i < t.data.toList.length := by omega
      simp only [hlt, i0, i1, b0, bi, and_self, decide_true, if_true]
      by_cases hb : bt t (i : Int) = 10
      · have hb' := (byte_is (c := 10) hi').1 hb
        have g := hag (t, (out ++ [t.extract b i], (((i + 1 : Nat) : Int), (((i + 1 : Nat) : Int), ())))) ⟨rfl, by simp only; omega, by simp only; omega, by simp only; omega, by simp only [List.length_append, List.length_cons, List.length_nil, Int.toNat_natCast]; omega⟩ (by simp only [Int.toNat_natCast]; omega)
        simp only [Int.toNat_natCast, List.append_assoc, List.singleton_append] at g
        simp only [hb, w1, hc1, decide_true, if_true, List.length_cons, List.length_nil, Nat.zero_add, g, rest_hit hi' hb', dl_cons (rest_ne _ _ _ _)]
      · have hb' : t.data.toList[i] ≠ 10 := fun e => hb ((byte_is (c := 10) hi').2 e)
        have g := hag (t, (out, ((b : Int), (((i + 1 : Nat) : Int), ())))) ⟨rfl, by simp only; omega, by simp only; omega, by simp only; omega, by simp only [Int.toNat_natCast]; omega⟩ (by simp only [Int.toNat_natCast]; omega)
        simp only [Int.toNat_natCast] at g
        simp only [hb, decide_false, Bool.false_eq_true, if_false, w1, g, rest_miss (show b ≤ i by omega) hi' hb']
    · have e : i = t.size := by omega
      subst e
      simp only [hlt, decide_false, Bool.false_eq_true, if_false, rest_end (Nat.le_refl t.size)]
      have hes := ext_size t b t.size (Nat.le_refl _)
      by_cases hb : (b : Int) < (t.size : Int)
      · have : ¬ (t.extract b t.size).size = 0 := by omega
        simp only [hb, b0, bi, hc1, and_self, decide_true, if_true, List.length_cons, List.length_nil, Nat.zero_add, dl, this, if_false]
      · have : (t.extract b t.size).size = 0 := by omega
        simp only [hb, decide_false, Bool.false_eq_true, if_false, dl, this, if_true, List.append_nil]
  · simp only [Int.toNat_zero, List.nil_append, rest_start]
    rfl
def okByte (b : UInt8) : Bool := decide (32 ≤ b.toNat ∧ b.toNat ≤ 126)
def notE (x : ByteArray) : Bool := !decide (x = (⟨#[]⟩ : ByteArray))
def endB (out : List ByteArray) : List ByteArray × Bool × Unit := if 10 < out.length then ([], (false, ())) else (out, (true, ()))
/-- The parts of a line. -/
def partsB (s : ByteArray) : List ByteArray × Bool × Unit := if 600 < s.size then ([], (false, ())) else if s.data.toList.all okByte = true then endB ((pieces 32 s).filter notE) else ([], (false, ()))
theorem notE_iff (x : ByteArray) : notE x = true ↔ x.size ≠ 0 := by
  unfold notE
  simp only [Bool.not_eq_true', decide_eq_false_iff_not]
  constructor
  · intro h e
    refine h (ByteArray.ext ?_)
    exact Array.eq_empty_of_size_eq_zero e
  · intro h e
    subst e
    exact h rfl
theorem s_PartsOf_is (k : Nat) (s : ByteArray) (hk : 1048578 < k) : s_PartsOf k (s, ()) = some (partsB s, ((), ())) := by
  have hcap : capMax = 274877906944 := rfl
  unfold s_PartsOf partsB
  by_cases h6 : (600 : Int) < (s.size : Int)
  · have : 600 < s.size := by omega
    simp only [h6, this, decide_true, if_true]
  have h6' : ¬ 600 < s.size := by omega
  simp only [h6, h6', decide_false, Bool.false_eq_true, if_false]
  refine (whileK_run (X := ByteArray × List ByteArray × Int × Int × Unit) (R := (List ByteArray × Bool × Unit) × Unit × Unit) (fun y => s.size + 1 - y.2.2.2.1.toNat) (fun y => y.1 = s ∧ 0 ≤ y.2.2.1 ∧ y.2.2.1 ≤ y.2.2.2.1 ∧ y.2.2.2.1 ≤ s.size + 1 ∧ y.2.1.length ≤ y.2.2.2.1.toNat)
    (fun y => (if (s.data.toList.drop y.2.2.2.1.toNat).all okByte = true then endB (y.2.1 ++ (if y.2.2.2.1 ≤ (s.size : Int) then (restP s 32 y.2.2.1.toNat y.2.2.2.1.toNat).filter notE else [])) else ([], (false, ())), ((), ()))) ?_ k (s, ([], (0, (0, ())))) ⟨rfl, by simp, by simp, by simp only; omega, by simp⟩ (by simp only; omega)).trans ?_
  · rintro ⟨t, out, b, i, ⟨⟩⟩ ⟨h1, b0, bi, i1, ho⟩ again hag
    dsimp only at h1 b0 bi i1 ho hag ⊢
    subst h1
    obtain ⟨b, rfl⟩ := Int.eq_ofNat_of_zero_le b0
    obtain ⟨i, rfl⟩ := Int.eq_ofNat_of_zero_le (show 0 ≤ i by omega)
    simp only [Int.toNat_natCast] at ho hag ⊢
    have hsz := size_list t
    have w1 : wi64 ((i : Int) + 1) = ((i + 1 : Nat) : Int) := (w64_id _ (by omega)).trans (by omega)
    have hc1 : out.length + 1 ≤ capMax := by omega
    have i0 : (0 : Int) ≤ (i : Int) := by omega
    by_cases hlt : (i : Int) < (t.size : Int)
    · have hi' : i < t.data.toList.length := by omega
      have hle : (i : Int) ≤ (t.size : Int) := by omega
      have hle1 : ((i + 1 : Nat) : Int) ≤ (t.size : Int) := by omega
      have hbt := bt_at t i hi'
      have hdr : (t.data.toList.drop i).all okByte = (okByte t.data.toList[i] && (t.data.toList.drop (i + 1)).all okByte) := by
        rw [List.drop_eq_getElem_cons hi', List.all_cons]
      have hbe := byte_is (c := 32) hi'
      have rh := fun h => rest_hit (b := b) (c := 32) hi' h
      have rm := fun h => rest_miss (b := b) (c := 32) (show b ≤ i by omega) hi' h
      generalize t.data.toList[i] = bb at hbt hdr hbe rh rm
      have hbe : bt t (i : Int) = 32 ↔ bb = 32 := hbe
      simp only [jn, hlt, hle, i0, i1, b0, bi, w1, hdr, and_self, decide_true, if_true]
      by_cases c1 : bt t (i : Int) < 32
      · have : okByte bb = false := by unfold okByte; rw [decide_eq_false_iff_not]; omega
        simp only [c1, this, decide_true, Bool.true_eq_false, if_false, Bool.false_and, Bool.false_eq_true]
      · by_cases c2 : 126 < bt t (i : Int)
        · have : okByte bb = false := by unfold okByte; rw [decide_eq_false_iff_not]; omega
          simp only [c1, c2, this, decide_true, decide_false, if_true, if_false, Bool.false_and, Bool.false_eq_true]
        · have hok : okByte bb = true := by unfold okByte; rw [decide_eq_true_eq]; omega
          simp only [c1, c2, hok, decide_false, if_true, if_false, Bool.true_and, Bool.false_eq_true]
          by_cases hb : bt t (i : Int) = 32
          · have hr := rh (hbe.1 hb)
            have hes := ext_size t b i (by omega)
            simp only [hb, decide_true, Bool.not_true, Bool.false_eq_true, if_false, hr, List.filter_cons]
            by_cases hlt2 : (b : Int) < (i : Int)
            · have hn : notE (t.extract b i) = true := (notE_iff _).2 (by omega)
              have g := hag (t, (out ++ [t.extract b i], (((i + 1 : Nat) : Int), (((i + 1 : Nat) : Int), ())))) ⟨rfl, by simp only; omega, by simp only; omega, by simp only; omega, by simp only [List.length_append, List.length_cons, List.length_nil, Int.toNat_natCast]; omega⟩ (by simp only [Int.toNat_natCast]; omega)
              simp only [hle1, if_true, Int.toNat_natCast, List.append_assoc, List.singleton_append] at g
              simp only [hlt2, hn, hc1, decide_true, if_true, List.length_cons, List.length_nil, Nat.zero_add, g]
            · have hn : notE (t.extract b i) = false := by
                cases hq : notE (t.extract b i) with
                | false => rfl
                | true => have := (notE_iff _).1 hq; omega
              have g := hag (t, (out, (((i + 1 : Nat) : Int), (((i + 1 : Nat) : Int), ())))) ⟨rfl, by simp only; omega, by simp only; omega, by simp only; omega, by simp only [Int.toNat_natCast]; omega⟩ (by simp only [Int.toNat_natCast]; omega)
              simp only [hle1, if_true, Int.toNat_natCast] at g
              simp only [hlt2, hn, decide_false, Bool.false_eq_true, if_false, g]
          · have hr := rm fun e => hb (hbe.2 e)
            have g := hag (t, (out, ((b : Int), (((i + 1 : Nat) : Int), ())))) ⟨rfl, by simp only; omega, by simp only; omega, by simp only; omega, by simp only [Int.toNat_natCast]; omega⟩ (by simp only [Int.toNat_natCast]; omega)
            simp only [hle1, if_true, Int.toNat_natCast] at g
            simp only [hb, decide_false, Bool.not_false, if_true, hr, g]
    · have hdn : t.data.toList.drop i = [] := List.drop_eq_nil_of_le (by omega)
      by_cases he : i = t.size
      · subst he
        have n1 : ¬ ((t.size + 1 : Nat) : Int) ≤ (t.size : Int) := by omega
        have hd1 : t.data.toList.drop (t.size + 1) = [] := List.drop_eq_nil_of_le (by omega)
        have hes := ext_size t b t.size (Nat.le_refl _)
        simp only [jn, hlt, i0, b0, bi, w1, hdn, Int.le_refl, and_self, decide_true, decide_false, if_true, Bool.false_eq_true, if_false, List.all_nil, rest_end (Nat.le_refl t.size), List.filter_cons, List.filter_nil]
        by_cases hlt2 : (b : Int) < (t.size : Int)
        · have hn : notE (t.extract b t.size) = true := (notE_iff _).2 (by omega)
          have g := hag (t, (out ++ [t.extract b t.size], (((t.size + 1 : Nat) : Int), (((t.size + 1 : Nat) : Int), ())))) ⟨rfl, by simp only; omega, by simp only; omega, by simp only; omega, by simp only [List.length_append, List.length_cons, List.length_nil, Int.toNat_natCast]; omega⟩ (by simp only [Int.toNat_natCast]; omega)
          simp only [n1, if_false, Int.toNat_natCast, hd1, List.all_nil, if_true, List.append_nil] at g
          simp only [hlt2, hn, hc1, decide_true, if_true, List.length_cons, List.length_nil, Nat.zero_add, g]
        · have hn : notE (t.extract b t.size) = false := by
            cases hq : notE (t.extract b t.size) with
            | false => rfl
            | true => have := (notE_iff _).1 hq; omega
          have g := hag (t, (out, (((t.size + 1 : Nat) : Int), (((t.size + 1 : Nat) : Int), ())))) ⟨rfl, by simp only; omega, by simp only; omega, by simp only; omega, by simp only [Int.toNat_natCast]; omega⟩ (by simp only [Int.toNat_natCast]; omega)
          simp only [n1, if_false, Int.toNat_natCast, hd1, List.all_nil, if_true, List.append_nil] at g
          simp only [hlt2, hn, decide_false, Bool.false_eq_true, if_false, g, List.append_nil]
      · have n1 : ¬ (i : Int) ≤ (t.size : Int) := by omega
        simp only [n1, hdn, decide_false, Bool.false_eq_true, if_false, List.all_nil, if_true, List.append_nil]
        unfold endB
        by_cases hl : 10 < out.length
        · have : (10 : Int) < (out.length : Int) := by omega
          simp only [hl, this, decide_true, if_true]
        · have : ¬ (10 : Int) < (out.length : Int) := by omega
          simp only [hl, this, decide_false, Bool.false_eq_true, if_false]
  · have : (0 : Int) ≤ (s.size : Int) := by omega
    simp only [this, if_true, Int.toNat_zero, List.drop_zero, List.nil_append, rest_start]
theorem i_PartsOf_is (k : Nat) (s : ByteArray) (hk : 1048578 < k) : i_PartsOf k (s, ()) = some (partsB s, ((), ())) := by
  have hcap : capMax = 274877906944 := rfl
  unfold i_PartsOf partsB
  by_cases h6 : (600 : Int) < (s.size : Int)
  · have : 600 < s.size := by omega
    simp only [h6, this, decide_true, if_true]
  have h6' : ¬ 600 < s.size := by omega
  simp only [h6, h6', decide_false, Bool.false_eq_true, if_false]
  refine (whileK_run (X := ByteArray × List ByteArray × Int × Unit) (R := (List ByteArray × Bool × Unit) × Unit × Unit) (fun y => s.size - y.2.2.1.toNat) (fun y => y.1 = s ∧ y.2.1 = [] ∧ 0 ≤ y.2.2.1 ∧ y.2.2.1 ≤ s.size)
    (fun y => (if (s.data.toList.drop y.2.2.1.toNat).all okByte = true then endB ((pieces 32 s).filter notE) else ([], (false, ())), ((), ()))) ?_ k (s, ([], (0, ()))) ⟨rfl, rfl, by simp, by simp⟩ (by simp only; omega)).trans ?_
  · rintro ⟨t, out, i, ⟨⟩⟩ ⟨h1, h2, i0, i1⟩ again hag
    dsimp only at h1 h2 i0 i1 hag ⊢
    subst h1 h2
    obtain ⟨i, rfl⟩ := Int.eq_ofNat_of_zero_le i0
    simp only [Int.toNat_natCast] at hag ⊢
    have hsz := size_list t
    have w1 : wi64 ((i : Int) + 1) = ((i + 1 : Nat) : Int) := (w64_id _ (by omega)).trans (by omega)
    by_cases hlt : (i : Int) < (t.size : Int)
    · have hi' : i < t.data.toList.length := by omega
      have hbt := bt_at t i hi'
      have hdr : (t.data.toList.drop i).all okByte = (okByte t.data.toList[i] && (t.data.toList.drop (i + 1)).all okByte) := by
        rw [List.drop_eq_getElem_cons hi', List.all_cons]
      have w2 : wi64 (bt t (i : Int)) = bt t i := w64_id _ (by have := bt_ge t i; have := bt_le t i; omega)
      have hokb : decide (32 ≤ bt t (i : Int) ∧ bt t (i : Int) ≤ 126) = okByte t.data.toList[i] := by
        unfold okByte
        rw [hbt, decide_eq_decide]
        omega
      simp only [hlt, i0, w1, w2, within_is, hokb, hdr, and_self, decide_true, if_true, Option.bind_some]
      cases okByte t.data.toList[i] with
      | false => simp only [Bool.not_false, if_true, Bool.false_and, Bool.false_eq_true, if_false]
      | true =>
        have g := hag (t, ([], (((i + 1 : Nat) : Int), ()))) ⟨rfl, rfl, by simp only; omega, by simp only; omega⟩ (by simp only [Int.toNat_natCast]; omega)
        simp only [Int.toNat_natCast] at g
        simp only [Bool.not_true, Bool.false_eq_true, if_false, Bool.true_and, g]
    · have hdn : t.data.toList.drop i = [] := List.drop_eq_nil_of_le (by omega)
      simp only [hlt, decide_false, Bool.false_eq_true, if_false, Split_is k 32 t (by omega), Option.bind_some, hdn, List.all_nil, if_true]
      have hpl := (pieces_len 32 t).1
      generalize pieces 32 t = L at hpl
      refine (whileK_run (X := List ByteArray × List ByteArray × Int × Int × Unit) (R := (List ByteArray × Bool × Unit) × Unit × Unit) (fun y => L.length - y.2.2.2.1.toNat) (fun y => y.2.1 = L ∧ y.2.2.1 = (L.length : Int) ∧ 0 ≤ y.2.2.2.1 ∧ y.2.2.2.1 ≤ L.length ∧ y.1.length ≤ y.2.2.2.1.toNat)
        (fun y => (endB (y.1 ++ (L.drop y.2.2.2.1.toNat).filter notE), ((), ()))) ?_ k ([], (L, ((L.length : Int), (0, ())))) ⟨rfl, rfl, by simp, by simp, by simp⟩ (by simp only; omega)).trans ?_
      · rintro ⟨out, L', n, j, ⟨⟩⟩ ⟨h1, h2, j0, j1, ho⟩ ag hg
        dsimp only at h1 h2 j0 j1 ho hg ⊢
        subst h1 h2
        obtain ⟨j, rfl⟩ := Int.eq_ofNat_of_zero_le j0
        simp only [Int.toNat_natCast] at hg ho ⊢
        have w3 : wi64 ((j : Int) + 1) = ((j + 1 : Nat) : Int) := (w64_id _ (by omega)).trans (by omega)
        have hc1 : out.length + 1 ≤ capMax := by omega
        by_cases hj : (j : Int) < (L'.length : Int)
        · have hj' : j < L'.length := by omega
          have hrd : Ty.rd (t := .str) L' (j : Int) = L'[j] := rd_at (t := .str) L' j hj'
          rw [List.drop_eq_getElem_cons hj', List.filter_cons]
          simp only [hj, j0, w3, hrd, and_self, decide_true, if_true]
          by_cases hn : L'[j] = (⟨#[]⟩ : ByteArray)
          · have hn' : notE L'[j] = false := by unfold notE; simp [hn]
            have g := hg (out, (L', ((L'.length : Int), (((j + 1 : Nat) : Int), ())))) ⟨rfl, rfl, by simp only; omega, by simp only; omega, by simp only [Int.toNat_natCast]; omega⟩ (by simp only [Int.toNat_natCast]; omega)
            simp only [Int.toNat_natCast] at g
            simp only [hn'] 
            simp only [hn, decide_true, Bool.not_true, Bool.false_eq_true, if_false, g]
          · have hn' : notE L'[j] = true := by unfold notE; simp [hn]
            have g := hg (out ++ [L'[j]], (L', ((L'.length : Int), (((j + 1 : Nat) : Int), ())))) ⟨rfl, rfl, by simp only; omega, by simp only; omega, by simp only [List.length_append, List.length_cons, List.length_nil, Int.toNat_natCast]; omega⟩ (by simp only [Int.toNat_natCast]; omega)
            simp only [Int.toNat_natCast, List.append_assoc, List.singleton_append] at g
            simp only [hn, hn', hc1, decide_false, Bool.not_false, if_true, List.length_cons, List.length_nil, Nat.zero_add, g]
        · have hdn : L'.drop j = [] := List.drop_eq_nil_of_le (by omega)
          simp only [hj, decide_false, Bool.false_eq_true, if_false, hdn, List.filter_nil, List.append_nil]
          unfold endB
          by_cases hl : 10 < out.length
          · have : (10 : Int) < (out.length : Int) := by omega
            simp only [hl, this, decide_true, if_true]
          · have : ¬ (10 : Int) < (out.length : Int) := by omega
            simp only [hl, this, decide_false, Bool.false_eq_true, if_false]
      · simp only [Int.toNat_zero, List.drop_zero, List.nil_append]
  · simp only [Int.toNat_zero, List.drop_zero]
/-- The address that four numbers make. -/
def adr4 (a : Int) : List ByteArray → Int × Bool
  | [] => (a, true)
  | x :: r => if (readB x).2 = true ∧ (readB x).1 ≤ 255 then adr4 (256 * a + (readB x).1) r else (0, false)
def addrB (s : ByteArray) : Int × Bool := if (pieces 46 s).length = 4 then adr4 0 (pieces 46 s) else (0, false)
theorem pow256 {i : Nat} (h : i ≤ 3) : (256 : Int) ^ i ≤ 16777216 := by
  rcases (by omega : i = 0 ∨ i = 1 ∨ i = 2 ∨ i = 3) with rfl | rfl | rfl | rfl <;> decide
theorem s_ReadAddr_is (k : Nat) (s : ByteArray) (hs : s.size ≤ 1048576) (hk : 4294967297 < k) : s_ReadAddr k (s, ()) = some (((addrB s).1, ((addrB s).2, ())), ((), ())) := by
  unfold s_ReadAddr addrB
  rw [l08Split_is k 46 46 rfl s hs (by omega)]
  simp only [Option.bind_some]
  have hpl := (pieces_len 46 s).1
  generalize pieces 46 s = P at hpl
  by_cases h4 : P.length = 4
  rotate_left
  · have : ¬ (P.length : Int) = 4 := by omega
    simp only [h4, this, decide_false, Bool.not_false, if_true, if_false]
  have h4' : (P.length : Int) = 4 := by omega
  simp only [h4, h4', decide_true, Bool.not_true, Bool.false_eq_true, if_true, if_false]
  refine (whileK_run (X := List ByteArray × Int × Int × Unit) (R := (Int × Bool × Unit) × Unit × Unit) (fun y => 4 - y.2.2.1.toNat) (fun y => y.1 = P ∧ 0 ≤ y.2.2.1 ∧ y.2.2.1 ≤ 4 ∧ 0 ≤ y.2.1 ∧ y.2.1 < 256 ^ y.2.2.1.toNat)
    (fun y => (((adr4 y.2.1 (P.drop y.2.2.1.toNat)).1, ((adr4 y.2.1 (P.drop y.2.2.1.toNat)).2, ())), ((), ()))) ?_ k (P, (0, (0, ()))) ⟨rfl, by simp, by simp, by simp, by simp⟩ (by simp only; omega)).trans ?_
  · rintro ⟨P', a, i, ⟨⟩⟩ ⟨h1, i0, i1, a0, a1⟩ again hag
    dsimp only at h1 i0 i1 a0 a1 hag ⊢
    subst h1
    obtain ⟨i, rfl⟩ := Int.eq_ofNat_of_zero_le i0
    simp only [Int.toNat_natCast] at a1 hag ⊢
    by_cases hi : (i : Int) < 4
    · have hi' : i < P'.length := by omega
      have hrd : Ty.rd (t := .str) P' (i : Int) = P'[i] := rd_at (t := .str) P' i hi'
      have hlt : (i : Int) < (P'.length : Int) := by omega
      rw [List.drop_eq_getElem_cons hi']
      unfold adr4
      simp only [hi, hlt, i0, hrd, and_self, decide_true, if_true, s_ReadDecimal_is k _ hk, Option.bind_some]
      have hr := readB_le P'[i]
      generalize readB P'[i] = r at hr ⊢
      obtain ⟨n, ok⟩ := r
      dsimp only at hr ⊢
      cases ok with
      | false => simp only [Bool.not_false, Bool.true_eq_false, if_false, Bool.false_eq_true, false_and]
      | true =>
        by_cases hn : (255 : Int) < n
        · have : ¬ n ≤ 255 := by omega
          simp only [Bool.not_true, if_true, hn, this, decide_true, and_false, if_false]
        · have hn' : n ≤ 255 := by omega
          have hp := pow256 (show i ≤ 3 by omega)
          have w1 : wi64 ((i : Int) + 1) = ((i + 1 : Nat) : Int) := (w64_id _ (by omega)).trans (by omega)
          have w2 : wi64 (256 * a) = 256 * a := w64_id _ (by omega)
          have w3 : wi64 (256 * a + n) = 256 * a + n := w64_id _ (by omega)
          have g := hag (P', (256 * a + n, (((i + 1 : Nat) : Int), ()))) ⟨rfl, by simp only; omega, by simp only; omega, by simp only; omega, by simp only [Int.toNat_natCast]; rw [Int.pow_succ]; omega⟩ (by simp only [Int.toNat_natCast]; omega)
          simp only [Int.toNat_natCast] at g
          simp only [Bool.not_true, if_true, hn, decide_false, Bool.false_eq_true, if_false]
          rw [if_pos ⟨trivial, hn'⟩, w2, w3, w1]
          exact g
    · have hdn : P'.drop i = [] := List.drop_eq_nil_of_le (by omega)
      simp only [hi, decide_false, Bool.false_eq_true, if_false, hdn, adr4]
  · simp only [Int.toNat_zero, List.drop_zero]
theorem i_ReadAddr_is (k : Nat) (s : ByteArray) (hs : s.size ≤ 1048576) (hk : 4294967297 < k) : i_ReadAddr k (s, ()) = some (((addrB s).1, ((addrB s).2, ())), ((), ())) := by
  unfold i_ReadAddr addrB
  rw [Split_f k 46 s hs]
  simp only [Option.bind_some]
  have hpl := pieces_len 46 s
  have hne := pieces_ne 46 s
  generalize pieces 46 s = P at hpl hne
  have hpos : 0 < P.length := List.length_pos_iff.2 hne
  refine (whileK_run (X := List ByteArray × Int × List ByteArray × Int × Int × Unit) (R := (Int × Bool × Unit) × Unit × Unit) (fun y => P.length - y.2.2.2.2.1.toNat) (fun y => y.1 = P ∧ y.2.2.1 = P ∧ y.2.2.2.1 = (P.length : Int) ∧ 0 ≤ y.2.2.2.2.1 ∧ y.2.2.2.2.1 ≤ (P.length : Int) ∧ 0 ≤ y.2.1 ∧ y.2.1 < 256 ^ y.2.2.2.2.1.toNat ∧ (P.length ≠ 4 → y.2.2.2.2.1 = 0))
    (fun y => if P.length = 4 then (((adr4 y.2.1 (P.drop y.2.2.2.2.1.toNat)).1, ((adr4 y.2.1 (P.drop y.2.2.2.2.1.toNat)).2, ())), ((), ())) else ((0, (false, ())), ((), ()))) ?_ k (P, (0, (P, ((P.length : Int), (0, ()))))) ⟨rfl, rfl, rfl, by simp, by simp, by simp, by simp, fun _ => rfl⟩ (by simp only; omega)).trans ?_
  · rintro ⟨P', a, Q, n', i, ⟨⟩⟩ ⟨h1, h2, h3, i0, i1, a0, a1, h4⟩ again hag
    dsimp only at h1 h2 h3 i0 i1 a0 a1 h4 hag ⊢
    subst h1 h2 h3
    obtain ⟨i, rfl⟩ := Int.eq_ofNat_of_zero_le i0
    simp only [Int.toNat_natCast] at a1 hag ⊢
    by_cases hi : (i : Int) < (Q.length : Int)
    · have hi' : i < Q.length := by omega
      have hrd : Ty.rd (t := .str) Q (i : Int) = Q[i] := rd_at (t := .str) Q i hi'
      have hq := hpl.2 Q[i] (List.getElem_mem hi')
      rw [List.drop_eq_getElem_cons hi']
      unfold adr4
      simp only [hi, i0, hrd, and_self, decide_true, if_true, i_ReadDecimal_is k Q[i] (by omega), Option.bind_some]
      have hr := readB_le Q[i]
      generalize readB Q[i] = r at hr ⊢
      obtain ⟨n, ok⟩ := r
      dsimp only at hr ⊢
      cases ok with
      | false => 
        simp only [Bool.not_false, Bool.true_eq_false, if_false, Bool.false_eq_true, false_and]
        split <;> rfl
      | true =>
        by_cases hn : (255 : Int) < n
        · have : ¬ n ≤ 255 := by omega
          simp only [Bool.not_true, if_true, hn, this, decide_true, Bool.true_eq_false, and_false, if_false]
          split <;> rfl
        · have hn' : n ≤ 255 := by omega
          by_cases hl : Q.length = 4
          · have hl' : (Q.length : Int) = 4 := by omega
            have hp := pow256 (show i ≤ 3 by omega)
            have w1 : wi64 ((i : Int) + 1) = ((i + 1 : Nat) : Int) := (w64_id _ (by omega)).trans (by omega)
            have w2 : wi64 (a * 2 ^ (min (Int.toNat 8) (IntKind.bits .i64))) = 256 * a := by
              rw [show (2 : Int) ^ (min (Int.toNat 8) (IntKind.bits .i64)) = 256 from rfl]
              exact (w64_id _ (by omega)).trans (by omega)
            have w3 : bitsI .or .i64 (256 * a) n = 256 * a + n := or_join 8 (256 * a) n (by omega) (by omega) (by omega) (by omega) (by omega) (by omega)
            have g := hag (Q, (256 * a + n, (Q, ((Q.length : Int), (((i + 1 : Nat) : Int), ()))))) ⟨rfl, rfl, rfl, by simp only; omega, by simp only; omega, by simp only; omega, by simp only [Int.toNat_natCast]; rw [Int.pow_succ]; omega, fun h => absurd hl h⟩ (by simp only [Int.toNat_natCast]; omega)
            simp only [Int.toNat_natCast] at g
            rw [if_pos hl] at g
            simp only [Bool.not_true, if_true, hn, hl', decide_true, decide_false, Bool.false_eq_true, if_false]
            rw [if_pos hl, if_pos ⟨trivial, hn'⟩, w2, w3, w1]
            rw [hl'] at g
            exact g
          · have hl' : ¬ (Q.length : Int) = 4 := by omega
            simp only [Bool.not_true, if_true, hn, hl, hl', decide_false, Bool.not_false, if_false]
    · have hl : Q.length = 4 := Decidable.byContradiction fun h => by have := h4 h; omega
      have hdn : Q.drop i = [] := List.drop_eq_nil_of_le (by omega)
      rw [if_pos hl]
      simp only [hi, decide_false, Bool.false_eq_true, if_false, hdn, adr4]
  · simp only [Int.toNat_zero, List.drop_zero]
    split <;> rfl
def okP (p n : Int) : Bool := decide ((0 ≤ p ∧ p ≤ 4294967295) ∧ (0 ≤ n ∧ n ≤ 32) ∧ p % 2 ^ (32 - n.toNat) = 0)
def zeroP : (Int × Int × Unit) × Bool × Unit := ((0, (0, ())), (false, ()))
/-- What two parts make. -/
def preOf (a s : ByteArray) : (Int × Int × Unit) × Bool × Unit := if (addrB a).2 = true ∧ (readB s).2 = true ∧ okP (addrB a).1 (readB s).1 = true then (((addrB a).1, ((readB s).1, ())), (true, ())) else zeroP
def preB : List ByteArray → (Int × Int × Unit) × Bool × Unit
  | [a, s] => preOf a s
  | _ => zeroP
theorem preOf_walk (a s : ByteArray) : (if (!(addrB a).2) = false then (if (!(readB s).2) = false then (if (!okP (addrB a).1 (readB s).1) = true then some (zeroP, ((), ())) else some ((((addrB a).1, ((readB s).1, ())), (true, ())), ((), ()))) else some (zeroP, ((), ()))) else some (zeroP, ((), ()))) = some (preOf a s, ((), ())) := by
  unfold preOf
  cases (addrB a).2
  · simp
  · cases (readB s).2
    · simp
    · cases okP (addrB a).1 (readB s).1 <;> simp
theorem s_ReadPrefix_is (k : Nat) (s : ByteArray) (hs : s.size ≤ 1048576) (hk : 4294967297 < k) : s_ReadPrefix k (s, ()) = some (preB (pieces 47 s), ((), ())) := by
  unfold s_ReadPrefix
  rw [l08Split_is k 47 47 rfl s hs (by omega)]
  simp only [Option.bind_some]
  have hpl := pieces_len 47 s
  generalize pieces 47 s = P at hpl
  by_cases h2 : P.length = 2
  rotate_left
  · have : ¬ (P.length : Int) = 2 := by omega
    simp only [this, decide_false, Bool.not_false, if_true]
    match P, h2 with
    | [], _ => rfl
    | [_], _ => rfl
    | [_, _], h => exact absurd rfl h
    | _ :: _ :: _ :: _, _ => rfl
  · match P, h2 with
    | [a, b], _ =>
      have ha := hpl.2 a (by simp)
      have hb := hpl.2 b (by simp)
      have e1 : Ty.rd (t := .str) [a, b] (0 : Int) = a := rfl
      have e2 : Ty.rd (t := .str) [a, b] (1 : Int) = b := rfl
      have e3 := s_ReadAddr_is k a (by omega) hk
      have e4 := s_ReadDecimal_is k b hk
      have e5 : s_PrefixOk k (((addrB a).1, ((readB b).1, ())), ()) = some (okP (addrB a).1 (readB b).1, ((), ())) := s_PrefixOk_is k _ _ (by omega)
      have n2 : ((([a, b] : List ByteArray).length : Nat) : Int) = 2 := rfl
      simp only [n2, e1, e2, e3, e4, e5, decide_true, Bool.not_true, Bool.false_eq_true, if_false, Option.bind_some]
      rw [if_pos (by decide), if_pos (by decide)]
      exact preOf_walk a b
theorem readB_bad {s : ByteArray} {b : UInt8} (hb : b ∈ s.data.toList) (h : Lib.digitVal b = none) : readB s = (0, false) := by
  unfold readB
  cases hd : Lib.decFrom 0 s.data.toList with
  | none => rfl
  | some n =>
    obtain ⟨i, hi, rfl⟩ := List.getElem_of_mem hb
    obtain ⟨d, hv⟩ := Lib.digit_of_decFrom _ _ _ hd i _ (List.getElem?_eq_getElem hi)
    rw [hv] at h
    cases h
theorem readB_nil : readB (mkB []) = (0, false) := by
  unfold readB
  rw [data_mkB]
  show (if 0 ≤ 1000000000 ∧ dec 0 = mkB [] then ((0 : Int), true) else (0, false)) = _
  rw [if_neg]
  intro h
  have := congrArg (fun s : ByteArray => s.data.toList.length) h.2
  have e := Lib.decDigits_length 0
  have e2 := Lib.nDigits_pos 0
  simp [dec, mkB] at this
  rw [this] at e
  simp at e
  omega
theorem preOf_bad {a s : ByteArray} (h : readB s = (0, false)) : preOf a s = zeroP := by
  unfold preOf
  rw [h]
  simp
theorem cut_pieces (s : ByteArray) : preOf (mkB (Lib.cut s.data.toList [47]).1) (mkB (Lib.cut s.data.toList [47]).2.1) = preB (pieces 47 s) := by
  unfold pieces
  rcases index_one 47 s.data.toList with ⟨h1, h2⟩ | ⟨i, h1, h2, h3, h4⟩
  · rw [pl_free h2]
    unfold Lib.cut
    rw [h1, if_neg (by decide)]
    exact preOf_bad readB_nil
  · unfold Lib.cut
    rw [h1, if_pos (by omega), Int.toNat_natCast]
    show preOf (mkB (s.data.toList.take i)) (mkB (s.data.toList.drop (i + 1))) = _
    have e : pl 47 s.data.toList = s.data.toList.take i :: pl 47 (s.data.toList.drop (i + 1)) := by
      conv => lhs; rw [h3]
      exact pl_at h4
    rw [e]
    generalize s.data.toList.drop (i + 1) = q
    by_cases hq : (47 : UInt8) ∈ q
    · rw [preOf_bad (readB_bad (b := 47) (by rw [data_mkB]; exact hq) rfl)]
      rcases index_one 47 q with ⟨_, g2⟩ | ⟨j, _, _, g3, g4⟩
      · exact absurd hq g2
      · rw [g3, pl_at g4]
        have := pl_ne 47 (q.drop (j + 1))
        cases hp : pl 47 (q.drop (j + 1)) with
        | nil => exact absurd hp this
        | cons x r => rfl
    · rw [pl_free hq]
      rfl
theorem i_ReadPrefix_is (k : Nat) (s : ByteArray) (hs : s.size ≤ 1048576) (hk : 4294967297 < k) : i_ReadPrefix k (s, ()) = some (preB (pieces 47 s), ((), ())) := by
  have hc : x_strings_Cut k (s, ((⟨#[47]⟩ : ByteArray), ())) = some ((mkB (Lib.cut s.data.toList [47]).1, (mkB (Lib.cut s.data.toList [47]).2.1, ((Lib.cut s.data.toList [47]).2.2, ()))), ((), ((), ()))) := by
    unfold x_strings_Cut cutF
    rw [if_pos (by show s.size < 4294967281; omega)]
    rfl
  have hcl : (Lib.cut s.data.toList [47]).1.length ≤ s.size ∧ (Lib.cut s.data.toList [47]).2.1.length ≤ s.size := by
    have := size_list s
    unfold Lib.cut
    split
    · simp only [List.length_take, List.length_drop]
      omega
    · simp only [List.length_nil]
      omega
  rw [← cut_pieces]
  unfold i_ReadPrefix
  rw [hc]
  simp only [Option.bind_some]
  generalize Lib.cut s.data.toList [47] = C at hcl
  obtain ⟨a, b, f⟩ := C
  dsimp only at hcl ⊢
  have e3 := i_ReadAddr_is k (mkB a) (by rw [mkB_size]; omega) hk
  have e4 := i_ReadDecimal_is k (mkB b) (by rw [mkB_size]; omega)
  have e5 : i_PrefixOk k (((addrB (mkB a)).1, ((readB (mkB b)).1, ())), ()) = some (okP (addrB (mkB a)).1 (readB (mkB b)).1, ((), ())) := i_PrefixOk_is k _ _
  simp only [e3, e4, e5, Option.bind_some]
  exact preOf_walk (mkB a) (mkB b)
def netOk (p n : Int) : Bool := poolB (p, (n, ([], ([], ()))))
theorem s_LifeNew_is (k : Nat) (p n : Int) (hk : 1048576 < k) : ∃ x, s_LifeNew k ((p, (n, ())), ()) = some ((x, (netOk p n, ())), ((), ())) := by
  unfold s_LifeNew s_HubNew
  simp only [s_PoolOk_is k (p, (n, ([], ([], ())))) hk (by simp) (by simp), Option.bind_some]
  rw [show poolB (p, (n, ([], ([], ())))) = netOk p n from rfl]
  cases netOk p n
  · exact ⟨_, rfl⟩
  · exact ⟨_, rfl⟩
theorem i_LifeNew_is (k : Nat) (p n : Int) (hk : 1048576 < k) : ∃ x, i_LifeNew k ((p, (n, ())), ()) = some ((x, (netOk p n, ())), ((), ())) := by
  unfold i_LifeNew i_HubNew
  simp only [i_PoolOk_is k (p, (n, ([], ([], ())))) hk (by simp) (by simp), Option.bind_some]
  rw [show poolB (p, (n, ([], ([], ())))) = netOk p n from rfl]
  cases netOk p n
  · exact ⟨_, rfl⟩
  · exact ⟨_, rfl⟩
abbrev HapA : Type := Int × Int × Int × Int × ByteArray × Int × Int × Unit
def hap (kd id at' dst : Int) (t : ByteArray) (p n : Int) : HapA := (kd, (id, (at', (dst, (t, (p, (n, ())))))))
def noT : ByteArray := ⟨#[]⟩
/-- Kinds whose one part is an Id, and those whose one part is an At. -/
def kindI (w : ByteArray) : Option Int := if w = ⟨#[106, 111, 105, 110]⟩ then some 1 else if w = ⟨#[108, 101, 97, 118, 101]⟩ then some 2 else if w = ⟨#[114, 101, 107, 101, 121, 104, 117, 98]⟩ then some 7 else if w = ⟨#[114, 101, 107, 101, 121, 117, 115, 101, 114]⟩ then some 8 else none
def kindA (w : ByteArray) : Option Int := if w = ⟨#[116, 97, 107, 101]⟩ then some 4 else if w = ⟨#[108, 111, 115, 101]⟩ then some 5 else if w = ⟨#[116, 119, 105, 99, 101]⟩ then some 6 else none
def sayW : ByteArray := ⟨#[115, 97, 121]⟩
def behW : ByteArray := ⟨#[98, 101, 104, 105, 110, 100]⟩
/-- The event of a line's parts, where all parts are read right. -/
def evB : List ByteArray → Option HapA
  | [w, x] => match kindI w with
    | some c => if (readB x).2 = true then some (hap c (readB x).1 0 0 noT 0 0) else none
    | none => match kindA w with
      | some c => if (readB x).2 = true then some (hap c 1 (readB x).1 0 noT 0 0) else none
      | none => none
  | [w, x, y] => if w = behW ∧ (readB x).2 = true ∧ (preB (pieces 47 y)).2.1 = true then some (hap 9 (readB x).1 0 0 noT (preB (pieces 47 y)).1.1 (preB (pieces 47 y)).1.2.1) else none
  | [w, x, y, z] => if w = sayW ∧ (readB x).2 = true ∧ (addrB y).2 = true then some (hap 3 (readB x).1 0 (addrB y).1 z 0 0) else none
  | _ => none
theorem while_end {X R : Type} {step : (X → Option R) → X → Option R} {s : X} {r : Option R} {k : Nat} (h : ∀ again, step again s = r) (hk : 0 < k) : whileK step k s = r := by
  obtain ⟨k, rfl⟩ : ∃ k', k = k' + 1 := ⟨k - 1, by omega⟩
  exact h _
theorem while_next {X R : Type} {step : (X → Option R) → X → Option R} {s : X} {r : Option R} {k : Nat} (s' : X) (h : ∀ again, step again s = again s') (hk : 0 < k) (h' : whileK step (k - 1) s' = r) : whileK step k s = r := by
  obtain ⟨k, rfl⟩ : ∃ k', k = k' + 1 := ⟨k - 1, by omega⟩
  exact (h _).trans h'
theorem form_cases (k : Nat) (w : ByteArray) :
    (∃ c, kindI w = some c ∧ c ≠ 0 ∧ w ≠ sayW ∧ w ≠ behW ∧ ¬ (4 ≤ c ∧ c ≤ 6) ∧ i_form k (w, ()) = some ((c, ((⟨#[105]⟩ : ByteArray), ())), ((), ()))) ∨
    (∃ c, kindI w = none ∧ kindA w = some c ∧ c ≠ 0 ∧ w ≠ sayW ∧ w ≠ behW ∧ (4 ≤ c ∧ c ≤ 6) ∧ i_form k (w, ()) = some ((c, ((⟨#[97]⟩ : ByteArray), ())), ((), ()))) ∨
    (w = sayW ∧ i_form k (w, ()) = some ((3, ((⟨#[105, 100, 116]⟩ : ByteArray), ())), ((), ()))) ∨
    (w = behW ∧ i_form k (w, ()) = some ((9, ((⟨#[105, 112]⟩ : ByteArray), ())), ((), ()))) ∨
    (kindI w = none ∧ kindA w = none ∧ w ≠ sayW ∧ w ≠ behW ∧ i_form k (w, ()) = some ((0, ((⟨#[]⟩ : ByteArray), ())), ((), ()))) := by
  unfold i_form
  by_cases h1 : w = (⟨#[106, 111, 105, 110]⟩ : ByteArray)
  · subst h1
    exact .inl ⟨1, by decide, by decide, by decide, by decide, by decide, by simp only [decide_true, if_true]⟩
  by_cases h2 : w = (⟨#[108, 101, 97, 118, 101]⟩ : ByteArray)
  · subst h2
    exact .inl ⟨2, by decide, by decide, by decide, by decide, by decide, by simp only [h1, decide_true, decide_false, Bool.false_eq_true, if_true, if_false]⟩
  by_cases h3 : w = (⟨#[115, 97, 121]⟩ : ByteArray)
  · subst h3
    exact .inr (.inr (.inl ⟨rfl, by simp only [h1, h2, decide_true, decide_false, Bool.false_eq_true, if_true, if_false]⟩))
  by_cases h4 : w = (⟨#[116, 97, 107, 101]⟩ : ByteArray)
  · subst h4
    exact .inr (.inl ⟨4, by decide, by decide, by decide, by decide, by decide, by decide, by simp only [h1, h2, h3, decide_true, decide_false, Bool.false_eq_true, if_true, if_false]⟩)
  by_cases h5 : w = (⟨#[108, 111, 115, 101]⟩ : ByteArray)
  · subst h5
    exact .inr (.inl ⟨5, by decide, by decide, by decide, by decide, by decide, by decide, by simp only [h1, h2, h3, h4, decide_true, decide_false, Bool.false_eq_true, if_true, if_false]⟩)
  by_cases h6 : w = (⟨#[116, 119, 105, 99, 101]⟩ : ByteArray)
  · subst h6
    exact .inr (.inl ⟨6, by decide, by decide, by decide, by decide, by decide, by decide, by simp only [h1, h2, h3, h4, h5, decide_true, decide_false, Bool.false_eq_true, if_true, if_false]⟩)
  by_cases h7 : w = (⟨#[114, 101, 107, 101, 121, 104, 117, 98]⟩ : ByteArray)
  · subst h7
    exact .inl ⟨7, by decide, by decide, by decide, by decide, by decide, by simp only [h1, h2, h3, h4, h5, h6, decide_true, decide_false, Bool.false_eq_true, if_true, if_false]⟩
  by_cases h8 : w = (⟨#[114, 101, 107, 101, 121, 117, 115, 101, 114]⟩ : ByteArray)
  · subst h8
    exact .inl ⟨8, by decide, by decide, by decide, by decide, by decide, by simp only [h1, h2, h3, h4, h5, h6, h7, decide_true, decide_false, Bool.false_eq_true, if_true, if_false]⟩
  by_cases h9 : w = (⟨#[98, 101, 104, 105, 110, 100]⟩ : ByteArray)
  · subst h9
    exact .inr (.inr (.inr (.inl ⟨rfl, by simp only [h1, h2, h3, h4, h5, h6, h7, h8, decide_true, decide_false, Bool.false_eq_true, if_true, if_false]⟩)))
  · refine .inr (.inr (.inr (.inr ⟨?_, ?_, h3, h9, by simp only [h1, h2, h3, h4, h5, h6, h7, h8, h9, decide_false, Bool.false_eq_true, if_false]⟩)))
    · unfold kindI
      rw [if_neg h1, if_neg h2, if_neg h7, if_neg h8]
    · unfold kindA
      rw [if_neg h4, if_neg h5, if_neg h6]
/-- What an event's reading answers, by the event that the parts are. -/
def EvIs (k : Nat) (P : List ByteArray) (e : HapA) (ok : Bool) : Prop := (evB P = none → ok = false) ∧ ∀ h, evB P = some h → ∀ r, i_HappenOk k (h, ()) = some (r, ((), ())) → e = h ∧ ok = r
theorem ev2 (w x : ByteArray) : evB [w, x] = (match kindI w with
    | some c => if (readB x).2 = true then some (hap c (readB x).1 0 0 noT 0 0) else none
    | none => match kindA w with
      | some c => if (readB x).2 = true then some (hap c 1 (readB x).1 0 noT 0 0) else none
      | none => none) := rfl
theorem ev3 (w x y : ByteArray) : evB [w, x, y] = if w = behW ∧ (readB x).2 = true ∧ (preB (pieces 47 y)).2.1 = true then some (hap 9 (readB x).1 0 0 noT (preB (pieces 47 y)).1.1 (preB (pieces 47 y)).1.2.1) else none := rfl
theorem ev4 (w x y z : ByteArray) : evB [w, x, y, z] = if w = sayW ∧ (readB x).2 = true ∧ (addrB y).2 = true then some (hap 3 (readB x).1 0 (addrB y).1 z 0 0) else none := rfl
theorem EvIs.no {k : Nat} {P : List ByteArray} {e : HapA} (h : evB P = none) : EvIs k P e false := ⟨fun _ => rfl, fun x hx => by rw [h] at hx; cases hx⟩
theorem EvIs.yes {k : Nat} {P : List ByteArray} {h : HapA} {q : Bool} (he : evB P = some h) (hq : i_HappenOk k (h, ()) = some (q, ((), ()))) : EvIs k P h q := ⟨fun x => (by rw [he] at x; cases x), fun x hx r hr => by
  rw [he] at hx
  injection hx with hx
  subst hx
  rw [hq] at hr
  injection hr with hr
  exact ⟨rfl, (Prod.mk.inj hr).1⟩⟩
theorem ev_len {w : ByteArray} {r : List ByteArray} : (r.length ≠ 1 → (w ≠ behW ∨ r.length ≠ 2) → (w ≠ sayW ∨ r.length ≠ 3) → evB (w :: r) = none) := by
  intro h1 h2 h3
  match r with
  | [] => rfl
  | [x] => exact absurd rfl h1
  | [x, y] =>
    rcases h2 with h | h
    · rw [ev3, if_neg fun q => h q.1]
    · exact absurd rfl h
  | [x, y, z] =>
    rcases h3 with h | h
    · rw [ev4, if_neg fun q => h q.1]
    · exact absurd rfl h
  | _ :: _ :: _ :: _ :: _ => rfl
theorem ev_len1 {w x : ByteArray} (h1 : kindI w = none) (h2 : kindA w = none) : evB [w, x] = none := by
  rw [ev2, h1, h2]
theorem i_readEvent_is (k : Nat) (w : ByteArray) (r : List ByteArray) (hP : ∀ x ∈ r, x.size ≤ 1048576) (hl : r.length ≤ 1048576) (hk : 4294967297 < k) : ∃ (e : HapA) (ok : Bool), i_readEvent k (w :: r, ()) = some ((e, (ok, ())), ((), ())) ∧ EvIs k (w :: r) e ok := by
  have e0 : Ty.rd (t := .str) (w :: r) (0 : Int) = w := rfl
  have el : (((w :: r).length : Nat) : Int) = (r.length : Int) + 1 := by simp
  have g0 : (0 : Int) ≤ 0 ∧ (0 : Int) < (r.length : Int) + 1 := by omega
  have g1 : (0 : Int) ≤ 1 ∧ (1 : Int) ≤ (r.length : Int) + 1 := by omega
  have dr : List.drop (Int.toNat 1) (List.take (Int.toNat ((r.length : Int) + 1)) (w :: r)) = r := by
    have : Int.toNat ((r.length : Int) + 1) = r.length + 1 := by omega
    rw [this]
    show List.drop 1 (List.take (r.length + 1) (w :: r)) = r
    simp
  have i1 : wi64 ((0 : Int) + 1) = 1 := rfl
  have i2 : wi64 ((1 : Int) + 1) = 2 := rfl
  have i3 : wi64 ((2 : Int) + 1) = 3 := rfl
  have i4 : wi64 ((3 : Int) + 1) = 4 := rfl
  have q0 : (0 : Int) ≤ 1 := by decide
  have q1 : (0 : Int) < 1 := by decide
  have q2 : (0 : Int) < 2 := by decide
  have q3 : (1 : Int) < 2 := by decide
  have q4 : (0 : Int) < 3 := by decide
  have q5 : (1 : Int) < 3 := by decide
  have q6 : (2 : Int) < 3 := by decide
  have q7 : (0 : Int) ≤ 2 := by decide
  unfold i_readEvent
  simp only [e0, el, g0, g1, dr, and_self, if_true]
  rcases form_cases k w with ⟨c, f1, f2, f3, f4, f5, hf⟩ | ⟨c, f0, f1, f2, f3, f4, f5, hf⟩ | ⟨rfl, hf⟩ | ⟨rfl, hf⟩ | ⟨f1, f2, f3, f4, hf⟩
  · have s1 : (((⟨#[105]⟩ : ByteArray).size : Nat) : Int) = 1 := rfl
    simp only [hf, f2, s1, i2, decide_false, if_true, Option.bind_some]
    by_cases h2 : r.length = 1
    rotate_left
    · have : ¬ (r.length : Int) + 1 = 2 := by omega
      simp only [this, decide_false, Bool.not_false, if_true]
      exact ⟨_, _, rfl, EvIs.no (ev_len h2 (.inl f4) (.inl f3))⟩
    · match r, h2 with
      | [x], _ =>
        have e1 : Ty.rd (t := .str) [x] (0 : Int) = x := rfl
        have b1 : bt (⟨#[105]⟩ : ByteArray) 0 = 105 := rfl
        have n1 : ((([x] : List ByteArray).length : Nat) : Int) = 1 := rfl
        have n2 : (1 : Int) + 1 = 2 := rfl
        have er := i_ReadDecimal_is k x (hP x (by simp))
        simp only [n1, n2, decide_true, Bool.not_true, Bool.false_eq_true, if_false]
        cases hr : (readB x).2 with
        | false =>
          refine ⟨(c, ((readB x).1, (0, (0, ((⟨#[]⟩ : ByteArray), (0, (0, ()))))))), false, ?_, EvIs.no (by rw [ev2, f1]; simp [hr])⟩
          refine while_end (fun again => ?_) (by omega)
          simp only [n1, s1, e1, b1, er, hr, q1, Option.bind_some, decide_true, if_true, Bool.not_false, Int.le_refl, and_self]
        | true =>
          obtain ⟨q, _, hq⟩ := HappenOk_both k (by omega) c (readB x).1 0 0 noT 0 0
          refine ⟨hap c (readB x).1 0 0 noT 0 0, q, ?_, EvIs.yes (by rw [ev2, f1]; simp [hr]) hq⟩
          refine while_next ((0, (0, (0, (0, ((⟨#[]⟩ : ByteArray), (0, (0, ()))))))), ((⟨#[105]⟩ : ByteArray), ((c, ((readB x).1, (0, (0, ((⟨#[]⟩ : ByteArray), (0, (0, ()))))))), ([x], (1, (1, ())))))) (fun again => ?_) (by omega) (while_end (fun again => ?_) (by omega))
          · simp only [n1, s1, e1, b1, i1, er, hr, q1, Option.bind_some, decide_true, if_true, Bool.not_true, Bool.false_eq_true, if_false, Int.le_refl, and_self]
          · simp only [Int.lt_irrefl, decide_false, Bool.false_eq_true, if_false]
            have hq : i_HappenOk k ((c, ((readB x).1, (0, (0, ((⟨#[]⟩ : ByteArray), (0, (0, ()))))))), ()) = some (q, ((), ())) := hq
            simp only [hq, Option.bind_some]
            rfl
  · have s1 : (((⟨#[97]⟩ : ByteArray).size : Nat) : Int) = 1 := rfl
    simp only [hf, f2, s1, i2, decide_false, if_true, Option.bind_some]
    by_cases h2 : r.length = 1
    rotate_left
    · have : ¬ (r.length : Int) + 1 = 2 := by omega
      simp only [this, decide_false, Bool.not_false, if_true]
      exact ⟨_, _, rfl, EvIs.no (ev_len h2 (.inl f4) (.inl f3))⟩
    · match r, h2 with
      | [x], _ =>
        have e1 : Ty.rd (t := .str) [x] (0 : Int) = x := rfl
        have b1 : bt (⟨#[97]⟩ : ByteArray) 0 = 97 := rfl
        have n1 : ((([x] : List ByteArray).length : Nat) : Int) = 1 := rfl
        have n2 : (1 : Int) + 1 = 2 := rfl
        have c1 : ¬ (97 : Int) = 105 := by decide
        have er := i_ReadDecimal_is k x (hP x (by simp))
        simp only [n1, n2, decide_true, Bool.not_true, Bool.false_eq_true, if_false]
        cases hr : (readB x).2 with
        | false =>
          refine ⟨(c, (1, ((readB x).1, (0, ((⟨#[]⟩ : ByteArray), (0, (0, ()))))))), false, ?_, EvIs.no (by rw [ev2, f0, f1]; simp [hr])⟩
          refine while_end (fun again => ?_) (by omega)
          simp only [n1, s1, e1, b1, c1, er, hr, q1, Option.bind_some, decide_true, decide_false, Bool.false_eq_true, if_false, if_true, Bool.not_false, Int.le_refl, and_self]
        | true =>
          obtain ⟨q, _, hq⟩ := HappenOk_both k (by omega) c 1 (readB x).1 0 noT 0 0
          refine ⟨hap c 1 (readB x).1 0 noT 0 0, q, ?_, EvIs.yes (by rw [ev2, f0, f1]; simp [hr]) hq⟩
          refine while_next ((0, (0, (0, (0, ((⟨#[]⟩ : ByteArray), (0, (0, ()))))))), ((⟨#[97]⟩ : ByteArray), ((c, (1, ((readB x).1, (0, ((⟨#[]⟩ : ByteArray), (0, (0, ()))))))), ([x], (1, (1, ())))))) (fun again => ?_) (by omega) (while_end (fun again => ?_) (by omega))
          · simp only [n1, s1, e1, b1, c1, i1, er, hr, q1, Option.bind_some, decide_true, decide_false, if_true, Bool.not_true, Bool.false_eq_true, if_false, Int.le_refl, and_self]
          · simp only [Int.lt_irrefl, decide_false, Bool.false_eq_true, if_false]
            have hq : i_HappenOk k ((c, (1, ((readB x).1, (0, ((⟨#[]⟩ : ByteArray), (0, (0, ()))))))), ()) = some (q, ((), ())) := hq
            simp only [hq, Option.bind_some]
            rfl
  · have s1 : (((⟨#[105, 100, 116]⟩ : ByteArray).size : Nat) : Int) = 3 := rfl
    have f2 : ¬ (3 : Int) = 0 := by decide
    simp only [hf, f2, s1, i4, decide_false, if_true, Option.bind_some]
    by_cases h2 : r.length = 3
    rotate_left
    · have : ¬ (r.length : Int) + 1 = 4 := by omega
      simp only [this, decide_false, Bool.not_false, if_true]
      refine ⟨_, _, rfl, EvIs.no ?_⟩
      match r, h2 with
      | [], _ => rfl
      | [x], _ => exact ev_len1 (by decide) (by decide)
      | [x, y], _ => rw [ev3, if_neg fun q => absurd q.1 (by decide)]
      | [x, y, z], h => exact absurd rfl h
      | _ :: _ :: _ :: _ :: _, _ => rfl
    · match r, h2 with
      | [x, y, z], _ =>
        have e1 : Ty.rd (t := .str) [x, y, z] (0 : Int) = x := rfl
        have e2 : Ty.rd (t := .str) [x, y, z] (1 : Int) = y := rfl
        have e3 : Ty.rd (t := .str) [x, y, z] (2 : Int) = z := rfl
        have b1 : bt (⟨#[105, 100, 116]⟩ : ByteArray) 0 = 105 := rfl
        have b2 : bt (⟨#[105, 100, 116]⟩ : ByteArray) 1 = 100 := rfl
        have b3 : bt (⟨#[105, 100, 116]⟩ : ByteArray) 2 = 116 := rfl
        have n1 : ((([x, y, z] : List ByteArray).length : Nat) : Int) = 3 := rfl
        have n2 : (3 : Int) + 1 = 4 := rfl
        have c1 : ¬ (100 : Int) = 105 := by decide
        have c2 : ¬ (100 : Int) = 97 := by decide
        have c3 : ¬ (116 : Int) = 105 := by decide
        have c4 : ¬ (116 : Int) = 97 := by decide
        have c5 : ¬ (116 : Int) = 100 := by decide
        have c6 : ¬ (116 : Int) = 112 := by decide
        have er := i_ReadDecimal_is k x (hP x (by simp))
        have er2 := i_ReadDecimal_is k y (hP y (by simp))
        have er3 := i_ReadDecimal_is k z (hP z (by simp))
        have ea := i_ReadAddr_is k y (hP y (by simp)) hk
        simp only [n1, n2, decide_true, Bool.not_true, Bool.false_eq_true, if_false]
        cases hr : (readB x).2 with
        | false =>
          refine ⟨(3, ((readB x).1, (0, (0, ((⟨#[]⟩ : ByteArray), (0, (0, ()))))))), false, ?_, EvIs.no (by rw [ev4]; simp [hr])⟩
          refine while_end (fun again => ?_) (by omega)
          simp only [n1, s1, e1, b1, er, hr, q4, Option.bind_some, decide_true, if_true, Bool.not_false, Int.le_refl, and_self]
        | true =>
          cases ha : (addrB y).2 with
          | false =>
            refine ⟨(3, ((readB x).1, (0, ((addrB y).1, ((⟨#[]⟩ : ByteArray), (0, (0, ()))))))), false, ?_, EvIs.no (by rw [ev4]; simp [ha])⟩
            refine while_next ((0, (0, (0, (0, ((⟨#[]⟩ : ByteArray), (0, (0, ()))))))), ((⟨#[105, 100, 116]⟩ : ByteArray), ((3, ((readB x).1, (0, (0, ((⟨#[]⟩ : ByteArray), (0, (0, ()))))))), ([x, y, z], (3, (1, ())))))) (fun again => ?_) (by omega) (while_end (fun again => ?_) (by omega))
            · simp only [n1, s1, e1, b1, i1, er, hr, q4, Option.bind_some, decide_true, if_true, Bool.not_true, Bool.false_eq_true, if_false, Int.le_refl, and_self]
            · simp only [n1, s1, e2, b2, c1, c2, er2, ea, ha, q0, q5, Option.bind_some, decide_true, decide_false, if_true, Bool.not_false, Bool.false_eq_true, if_false, and_self]
          | true =>
            obtain ⟨q, _, hq⟩ := HappenOk_both k (by omega) 3 (readB x).1 0 (addrB y).1 z 0 0
            refine ⟨hap 3 (readB x).1 0 (addrB y).1 z 0 0, q, ?_, EvIs.yes (by rw [ev4]; simp [hr, ha]) hq⟩
            refine while_next ((0, (0, (0, (0, ((⟨#[]⟩ : ByteArray), (0, (0, ()))))))), ((⟨#[105, 100, 116]⟩ : ByteArray), ((3, ((readB x).1, (0, (0, ((⟨#[]⟩ : ByteArray), (0, (0, ()))))))), ([x, y, z], (3, (1, ())))))) (fun again => ?_) (by omega)
              (while_next ((0, (0, (0, (0, ((⟨#[]⟩ : ByteArray), (0, (0, ()))))))), ((⟨#[105, 100, 116]⟩ : ByteArray), ((3, ((readB x).1, (0, ((addrB y).1, ((⟨#[]⟩ : ByteArray), (0, (0, ()))))))), ([x, y, z], (3, (2, ())))))) (fun again => ?_) (by omega)
              (while_next ((0, (0, (0, (0, ((⟨#[]⟩ : ByteArray), (0, (0, ()))))))), ((⟨#[105, 100, 116]⟩ : ByteArray), ((3, ((readB x).1, (0, ((addrB y).1, (z, (0, (0, ()))))))), ([x, y, z], (3, (3, ())))))) (fun again => ?_) (by omega) (while_end (fun again => ?_) (by omega))))
            · simp only [n1, s1, e1, b1, i1, er, hr, q4, Option.bind_some, decide_true, if_true, Bool.not_true, Bool.false_eq_true, if_false, Int.le_refl, and_self]
            · simp only [n1, s1, e2, b2, c1, c2, i2, er2, ea, ha, q0, q5, Option.bind_some, decide_true, decide_false, if_true, Bool.not_true, Bool.false_eq_true, if_false, and_self]
            · simp only [n1, s1, e3, b3, c3, c4, c5, c6, i3, er3, q7, q6, Option.bind_some, decide_true, decide_false, if_true, Bool.not_true, Bool.false_eq_true, if_false, and_self]
            · simp only [Int.lt_irrefl, decide_false, Bool.false_eq_true, if_false]
              have hq : i_HappenOk k ((3, ((readB x).1, (0, ((addrB y).1, (z, (0, (0, ()))))))), ()) = some (q, ((), ())) := hq
              simp only [hq, Option.bind_some]
              rfl
  · have s1 : (((⟨#[105, 112]⟩ : ByteArray).size : Nat) : Int) = 2 := rfl
    have f2 : ¬ (9 : Int) = 0 := by decide
    simp only [hf, f2, s1, i3, decide_false, if_true, Option.bind_some]
    by_cases h2 : r.length = 2
    rotate_left
    · have : ¬ (r.length : Int) + 1 = 3 := by omega
      simp only [this, decide_false, Bool.not_false, if_true]
      refine ⟨_, _, rfl, EvIs.no ?_⟩
      match r, h2 with
      | [], _ => rfl
      | [x], _ => exact ev_len1 (by decide) (by decide)
      | [x, y], h => exact absurd rfl h
      | [x, y, z], _ => rw [ev4, if_neg fun q => absurd q.1 (by decide)]
      | _ :: _ :: _ :: _ :: _, _ => rfl
    · match r, h2 with
      | [x, y], _ =>
        have e1 : Ty.rd (t := .str) [x, y] (0 : Int) = x := rfl
        have e2 : Ty.rd (t := .str) [x, y] (1 : Int) = y := rfl
        have b1 : bt (⟨#[105, 112]⟩ : ByteArray) 0 = 105 := rfl
        have b2 : bt (⟨#[105, 112]⟩ : ByteArray) 1 = 112 := rfl
        have n1 : ((([x, y] : List ByteArray).length : Nat) : Int) = 2 := rfl
        have n2 : (2 : Int) + 1 = 3 := rfl
        have c1 : ¬ (112 : Int) = 105 := by decide
        have c2 : ¬ (112 : Int) = 97 := by decide
        have c3 : ¬ (112 : Int) = 100 := by decide
        have er := i_ReadDecimal_is k x (hP x (by simp))
        have er2 := i_ReadDecimal_is k y (hP y (by simp))
        have ea := i_ReadPrefix_is k y (hP y (by simp)) hk
        simp only [n1, n2, decide_true, Bool.not_true, Bool.false_eq_true, if_false]
        cases hr : (readB x).2 with
        | false =>
          refine ⟨(9, ((readB x).1, (0, (0, ((⟨#[]⟩ : ByteArray), (0, (0, ()))))))), false, ?_, EvIs.no (by rw [ev3]; simp [hr])⟩
          refine while_end (fun again => ?_) (by omega)
          simp only [n1, s1, e1, b1, er, hr, q2, Option.bind_some, decide_true, if_true, Bool.not_false, Int.le_refl, and_self]
        | true =>
          generalize hpr : preB (pieces 47 y) = pr at ea
          obtain ⟨⟨p, n, ⟨⟩⟩, ok, ⟨⟩⟩ := pr
          cases ok with
          | false =>
            refine ⟨(9, ((readB x).1, (0, (0, ((⟨#[]⟩ : ByteArray), (p, (n, ()))))))), false, ?_, EvIs.no (by rw [ev3, hpr]; simp)⟩
            refine while_next ((0, (0, (0, (0, ((⟨#[]⟩ : ByteArray), (0, (0, ()))))))), ((⟨#[105, 112]⟩ : ByteArray), ((9, ((readB x).1, (0, (0, ((⟨#[]⟩ : ByteArray), (0, (0, ()))))))), ([x, y], (2, (1, ())))))) (fun again => ?_) (by omega) (while_end (fun again => ?_) (by omega))
            · simp only [n1, s1, e1, b1, i1, er, hr, q2, Option.bind_some, decide_true, if_true, Bool.not_true, Bool.false_eq_true, if_false, Int.le_refl, and_self]
            · simp only [n1, s1, e2, b2, c1, c2, c3, er2, ea, q0, q3, Option.bind_some, decide_true, decide_false, if_true, Bool.not_false, Bool.false_eq_true, if_false, and_self]
          | true =>
            obtain ⟨q, _, hq⟩ := HappenOk_both k (by omega) 9 (readB x).1 0 0 noT p n
            refine ⟨hap 9 (readB x).1 0 0 noT p n, q, ?_, EvIs.yes (by rw [ev3, hpr]; simp [hr]) hq⟩
            refine while_next ((0, (0, (0, (0, ((⟨#[]⟩ : ByteArray), (0, (0, ()))))))), ((⟨#[105, 112]⟩ : ByteArray), ((9, ((readB x).1, (0, (0, ((⟨#[]⟩ : ByteArray), (0, (0, ()))))))), ([x, y], (2, (1, ())))))) (fun again => ?_) (by omega)
              (while_next ((0, (0, (0, (0, ((⟨#[]⟩ : ByteArray), (0, (0, ()))))))), ((⟨#[105, 112]⟩ : ByteArray), ((9, ((readB x).1, (0, (0, ((⟨#[]⟩ : ByteArray), (p, (n, ()))))))), ([x, y], (2, (2, ())))))) (fun again => ?_) (by omega) (while_end (fun again => ?_) (by omega)))
            · simp only [n1, s1, e1, b1, i1, er, hr, q2, Option.bind_some, decide_true, if_true, Bool.not_true, Bool.false_eq_true, if_false, Int.le_refl, and_self]
            · simp only [n1, s1, e2, b2, c1, c2, c3, i2, er2, ea, q0, q3, Option.bind_some, decide_true, decide_false, if_true, Bool.not_true, Bool.false_eq_true, if_false, and_self]
            · simp only [Int.lt_irrefl, decide_false, Bool.false_eq_true, if_false]
              have hq : i_HappenOk k ((9, ((readB x).1, (0, (0, ((⟨#[]⟩ : ByteArray), (p, (n, ()))))))), ()) = some (q, ((), ())) := hq
              simp only [hq, Option.bind_some]
              rfl
  · simp only [hf, decide_true, Bool.true_eq_false, if_false, Option.bind_some]
    refine ⟨_, _, rfl, EvIs.no ?_⟩
    match r with
    | [x] => exact ev_len1 f1 f2
    | [] => rfl
    | [x, y] => rw [ev3, if_neg fun q => f4 q.1]
    | [x, y, z] => rw [ev4, if_neg fun q => f3 q.1]
    | _ :: _ :: _ :: _ :: _ => rfl
def zeroE : HapA := (0, (0, (0, (0, ((⟨#[]⟩ : ByteArray), (0, (0, ())))))))
def W7 : List ByteArray := [(⟨#[106, 111, 105, 110]⟩ : ByteArray), (⟨#[108, 101, 97, 118, 101]⟩ : ByteArray), (⟨#[116, 97, 107, 101]⟩ : ByteArray), (⟨#[108, 111, 115, 101]⟩ : ByteArray), (⟨#[116, 119, 105, 99, 101]⟩ : ByteArray), (⟨#[114, 101, 107, 101, 121, 104, 117, 98]⟩ : ByteArray), (⟨#[114, 101, 107, 101, 121, 117, 115, 101, 114]⟩ : ByteArray)]
def K7 : List Int := [1, 2, 4, 5, 6, 7, 8]
def wk7 : List (ByteArray × Int) := W7.zip K7
def evtOf (c n : Int) : HapA := if 4 ≤ c ∧ c ≤ 6 then hap c 1 n 0 noT 0 0 else hap c n 0 0 noT 0 0
def plF (w : ByteArray) (r : List ByteArray) : List (ByteArray × Int) → HapA × Bool
  | [] => (zeroE, false)
  | p :: t => if w = p.1 ∧ r.length = 1 then (evtOf p.2 (readB (r.getD 0 noT)).1, (readB (r.getD 0 noT)).2) else plF w r t
theorem l25Plain_is (k : Nat) (w : ByteArray) (r : List ByteArray) (hk : 4294967297 < k) : s_l25Plain k (w :: r, ()) = some (((plF w r wk7).1, ((plF w r wk7).2, ())), ((), ())) := by
  unfold s_l25Plain
  refine (whileK_run (X := List ByteArray × HapA × List ByteArray × List Int × Int × Unit) (R := (HapA × Bool × Unit) × Unit × Unit) (fun y => 7 - y.2.2.2.2.1.toNat) (fun y => y.1 = w :: r ∧ y.2.1 = zeroE ∧ y.2.2.1 = W7 ∧ y.2.2.2.1 = K7 ∧ 0 ≤ y.2.2.2.2.1 ∧ y.2.2.2.2.1 ≤ 7)
    (fun y => (((plF w r (wk7.drop y.2.2.2.2.1.toNat)).1, ((plF w r (wk7.drop y.2.2.2.2.1.toNat)).2, ())), ((), ()))) ?_ k (w :: r, (zeroE, (W7, (K7, (0, ()))))) ⟨rfl, rfl, rfl, rfl, by simp, by simp⟩ (by simp only; omega)).trans ?_
  · rintro ⟨P, z, Wd, Kd, i, ⟨⟩⟩ ⟨h1, h2, h3, h4, i0, i1⟩ again hag
    dsimp only at h1 h2 h3 h4 i0 i1 hag ⊢
    subst h1 h2 h3 h4
    obtain ⟨i, rfl⟩ := Int.eq_ofNat_of_zero_le i0
    simp only [Int.toNat_natCast] at hag ⊢
    have lw : ((W7.length : Nat) : Int) = 7 := rfl
    have lk : ((K7.length : Nat) : Int) = 7 := rfl
    have lp : (((w :: r).length : Nat) : Int) = (r.length : Int) + 1 := by simp
    have e0 : Ty.rd (t := .str) (w :: r) (0 : Int) = w := rfl
    have g0 : (0 : Int) ≤ 0 ∧ (0 : Int) < (r.length : Int) + 1 := by omega
    have w1 : wi64 ((i : Int) + 1) = ((i + 1 : Nat) : Int) := (w64_id _ (by omega)).trans (by omega)
    by_cases hi : (i : Int) < 7
    · obtain ⟨p, hd, hw, hkk⟩ : ∃ p : ByteArray × Int, wk7.drop i = p :: wk7.drop (i + 1) ∧ Ty.rd (t := .str) W7 (i : Int) = p.1 ∧ Ty.rd (t := (.int .i64)) K7 (i : Int) = p.2 := by
        rcases (by omega : i = 0 ∨ i = 1 ∨ i = 2 ∨ i = 3 ∨ i = 4 ∨ i = 5 ∨ i = 6) with rfl | rfl | rfl | rfl | rfl | rfl | rfl <;> exact ⟨_, rfl, rfl, rfl⟩
      have gi : (0 : Int) ≤ (i : Int) ∧ (i : Int) < 7 := ⟨i0, hi⟩
      have g := hag (w :: r, (zeroE, (W7, (K7, (((i + 1 : Nat) : Int), ()))))) ⟨rfl, rfl, rfl, rfl, by simp only; omega, by simp only; omega⟩ (by simp only [Int.toNat_natCast]; omega)
      simp only [Int.toNat_natCast] at g
      rw [hd]
      unfold plF
      simp only [lw, lk, lp, hi, gi, g0, e0, hw, hkk, w1, and_self, decide_true, if_true]
      by_cases c1 : w = p.1
      · by_cases c2 : r.length = 1
        · match r, c2 with
          | [x], _ =>
            have e1 : Ty.rd (t := .str) [w, x] (1 : Int) = x := rfl
            have n2 : ((([x] : List ByteArray).length : Nat) : Int) + 1 = 2 := rfl
            have n3 : ([x] : List ByteArray).getD 0 noT = x := rfl
            have n4 : ([x] : List ByteArray).length = 1 := rfl
            have g1 : (0 : Int) ≤ 1 ∧ (1 : Int) < 2 := by decide
            simp only [c1.symm, n2, n3, n4, g1, e1, l01In_is, s_ReadDecimal_is k x hk, and_self, decide_true, Bool.not_true, if_true, Bool.false_eq_true, if_false, Option.bind_some]
            unfold evtOf
            by_cases c3 : 4 ≤ p.2 ∧ p.2 ≤ 6
            · simp only [c3, and_self, decide_true, if_true]
              rfl
            · simp only [c3, decide_false, Bool.false_eq_true, if_false]
              rfl
        · have n2 : ¬ (r.length : Int) + 1 = 2 := by omega
          have n3 : ¬ (w = p.1 ∧ r.length = 1) := fun h => c2 h.2
          rw [if_neg n3]
          simp only [c1.symm, n2, decide_true, decide_false, Bool.not_true, Bool.not_false, if_true]
          exact g
      · have n3 : ¬ (w = p.1 ∧ r.length = 1) := fun h => c1 h.1
        rw [if_neg n3]
        simp only [c1, decide_false, Bool.not_false, Bool.true_eq_false, if_false]
        exact g
    · have : i = 7 := by omega
      subst this
      simp only [lw, hi, decide_false, Bool.false_eq_true, if_false]
      rfl
  · simp only [Int.toNat_zero, List.drop_zero]
/-- What the reference's reading of an event answers, by the event that the parts are. -/
def SvIs (P : List ByteArray) (e : HapA) (ok : Bool) : Prop := (evB P = none → ok = false) ∧ ∀ h, evB P = some h → e = h ∧ ok = true
theorem plF_long {w : ByteArray} {r : List ByteArray} (h : r.length ≠ 1) : ∀ t, plF w r t = (zeroE, false)
  | [] => rfl
  | p :: t => by
    unfold plF
    rw [if_neg fun q => h q.2]
    exact plF_long h t
theorem plF_ev (w x : ByteArray) : SvIs [w, x] (plF w [x] wk7).1 (plF w [x] wk7).2 := by
  have n4 : ([x] : List ByteArray).length = 1 := rfl
  have n3 : ([x] : List ByteArray).getD 0 noT = x := rfl
  have hE : plF w [x] wk7 = match kindI w with
      | some c => (hap c (readB x).1 0 0 noT 0 0, (readB x).2)
      | none => match kindA w with
        | some c => (hap c 1 (readB x).1 0 noT 0 0, (readB x).2)
        | none => (zeroE, false) := by
    unfold wk7 W7 K7
    simp only [List.zip_cons_cons, List.zip_nil_left, plF, n3, n4, and_true]
    by_cases h1 : w = (⟨#[106, 111, 105, 110]⟩ : ByteArray)
    · subst h1; rfl
    by_cases h2 : w = (⟨#[108, 101, 97, 118, 101]⟩ : ByteArray)
    · subst h2; rfl
    by_cases h4 : w = (⟨#[116, 97, 107, 101]⟩ : ByteArray)
    · subst h4; rfl
    by_cases h5 : w = (⟨#[108, 111, 115, 101]⟩ : ByteArray)
    · subst h5; rfl
    by_cases h6 : w = (⟨#[116, 119, 105, 99, 101]⟩ : ByteArray)
    · subst h6; rfl
    by_cases h7 : w = (⟨#[114, 101, 107, 101, 121, 104, 117, 98]⟩ : ByteArray)
    · subst h7; rfl
    by_cases h8 : w = (⟨#[114, 101, 107, 101, 121, 117, 115, 101, 114]⟩ : ByteArray)
    · subst h8; rfl
    unfold kindI kindA
    simp only [h1, h2, h4, h5, h6, h7, h8, if_false]
  rw [hE]
  unfold SvIs
  rw [ev2]
  cases kindI w with
  | some c =>
    dsimp only
    cases (readB x).2
    · simp
    · simp
  | none =>
    dsimp only
    cases kindA w with
    | some c =>
      dsimp only
      cases (readB x).2
      · simp
      · simp
    | none =>
      dsimp only
      simp
theorem SvIs.no {P : List ByteArray} {e : HapA} (h : evB P = none) : SvIs P e false := ⟨fun _ => rfl, fun x hx => by rw [h] at hx; cases hx⟩
theorem SvIs.yes {P : List ByteArray} {h : HapA} (he : evB P = some h) : SvIs P h true := ⟨fun x => (by rw [he] at x; cases x), fun x hx => (by rw [he] at hx; injection hx with hx; exact ⟨hx, rfl⟩)⟩
theorem l25Event_is (k : Nat) (w : ByteArray) (r : List ByteArray) (hP : ∀ x ∈ r, x.size ≤ 1048576) (hk : 4294967297 < k) : ∃ (e : HapA) (ok : Bool), s_l25Event k (w :: r, ()) = some ((e, (ok, ())), ((), ())) ∧ SvIs (w :: r) e ok := by
  have lp : (((w :: r).length : Nat) : Int) = (r.length : Int) + 1 := by simp
  have e0 : Ty.rd (t := .str) (w :: r) (0 : Int) = w := rfl
  have g0 : (0 : Int) ≤ 0 ∧ (0 : Int) < (r.length : Int) + 1 := by omega
  have ep := l25Plain_is k w r hk
  unfold s_l25Event
  simp only [jn, lp, e0, g0, and_self, if_true]
  by_cases h1 : w = sayW ∧ r.length = 3
  · obtain ⟨rfl, h2⟩ := h1
    match r, h2 with
    | [x, y, z], _ =>
      have e1 : Ty.rd (t := .str) [sayW, x, y, z] (1 : Int) = x := rfl
      have e2 : Ty.rd (t := .str) [sayW, x, y, z] (2 : Int) = y := rfl
      have e3 : Ty.rd (t := .str) [sayW, x, y, z] (3 : Int) = z := rfl
      have n2 : ((([x, y, z] : List ByteArray).length : Nat) : Int) + 1 = 4 := rfl
      have hs : sayW = (⟨#[115, 97, 121]⟩ : ByteArray) := rfl
      have q1 : (0 : Int) ≤ 1 ∧ (1 : Int) < 4 := by decide
      have q2 : (0 : Int) ≤ 2 ∧ (2 : Int) < 4 := by decide
      have q3 : (0 : Int) ≤ 3 ∧ (3 : Int) < 4 := by decide
      rw [← hs]
      simp only [n2, q1, q2, q3, e1, e2, e3, s_ReadDecimal_is k x hk, s_ReadAddr_is k y (hP y (by simp)) hk, and_self, decide_true, if_true, Option.bind_some]
      cases hr : (readB x).2 with
      | false => exact ⟨_, _, by simp only [Bool.false_eq_true, if_false]; rfl, SvIs.no (by rw [ev4]; simp [hr])⟩
      | true =>
        cases ha : (addrB y).2 with
        | false => exact ⟨_, _, by simp only [if_true]; rfl, SvIs.no (by rw [ev4]; simp [ha])⟩
        | true => exact ⟨hap 3 (readB x).1 0 (addrB y).1 z 0 0, true, by simp only [if_true]; rfl, SvIs.yes (by rw [ev4]; simp [hr, ha])⟩
  · have h1' : (if decide (w = (⟨#[115, 97, 121]⟩ : ByteArray)) = true then (if decide ((r.length : Int) + 1 = 4) = true then true else false) else false) = false := by
      by_cases a : w = (⟨#[115, 97, 121]⟩ : ByteArray)
      · have : ¬ (r.length : Int) + 1 = 4 := fun h => h1 ⟨a, by omega⟩
        simp [a, this]
      · simp [a]
    by_cases h2 : w = behW ∧ r.length = 2
    · obtain ⟨rfl, h2⟩ := h2
      match r, h2 with
      | [x, y], _ =>
        have e1 : Ty.rd (t := .str) [behW, x, y] (1 : Int) = x := rfl
        have e2 : Ty.rd (t := .str) [behW, x, y] (2 : Int) = y := rfl
        have n2 : ((([x, y] : List ByteArray).length : Nat) : Int) + 1 = 3 := rfl
        have hs : behW = (⟨#[98, 101, 104, 105, 110, 100]⟩ : ByteArray) := rfl
        have c1 : ¬ behW = (⟨#[115, 97, 121]⟩ : ByteArray) := by decide
        have q1 : (0 : Int) ≤ 1 ∧ (1 : Int) < 3 := by decide
        have q2 : (0 : Int) ≤ 2 ∧ (2 : Int) < 3 := by decide
        have ea := s_ReadPrefix_is k y (hP y (by simp)) hk
        generalize hpr : preB (pieces 47 y) = pr at ea
        obtain ⟨⟨p, n, ⟨⟩⟩, ok, ⟨⟩⟩ := pr
        rw [← hs]
        simp only [n2, c1, q1, q2, e1, e2, ea, s_ReadDecimal_is k x hk, and_self, decide_true, decide_false, Bool.false_eq_true, if_false, if_true, Option.bind_some]
        cases hr : (readB x).2 with
        | false => exact ⟨_, _, by simp only [Bool.false_eq_true, if_false]; rfl, SvIs.no (by rw [ev3]; simp [hr])⟩
        | true =>
          cases ok with
          | false => exact ⟨_, _, by simp only [if_true]; rfl, SvIs.no (by rw [ev3, hpr]; simp)⟩
          | true => exact ⟨hap 9 (readB x).1 0 0 noT p n, true, by simp only [if_true]; rfl, SvIs.yes (by rw [ev3, hpr]; simp [hr])⟩
    · refine ⟨(plF w r wk7).1, (plF w r wk7).2, ?_, ?_⟩
      · by_cases a : w = (⟨#[115, 97, 121]⟩ : ByteArray)
        · have n1 : ¬ (r.length : Int) + 1 = 4 := fun h => h1 ⟨a, by omega⟩
          have n2 : ¬ w = (⟨#[98, 101, 104, 105, 110, 100]⟩ : ByteArray) := by rw [a]; decide
          simp only [n2, decide_false, Bool.false_eq_true, if_false, ep, Option.bind_some]
          simp only [a, n1, decide_true, decide_false, Bool.false_eq_true, if_true, if_false]
        · by_cases b : w = (⟨#[98, 101, 104, 105, 110, 100]⟩ : ByteArray)
          · have n1 : ¬ (r.length : Int) + 1 = 3 := fun h => h2 ⟨b, by omega⟩
            simp only [a, n1, decide_false, Bool.false_eq_true, if_false, ep, Option.bind_some]
            simp only [b, decide_true, if_true]
          · simp only [a, b, decide_false, Bool.false_eq_true, if_false, ep, Option.bind_some]
      · by_cases c : r.length = 1
        · match r, c with
          | [x], _ => exact plF_ev w x
        · rw [plF_long c]
          refine SvIs.no (ev_len c ?_ ?_)
          · by_cases b : w = behW
            · exact .inr fun h => h2 ⟨b, h⟩
            · exact .inl b
          · by_cases b : w = sayW
            · exact .inr fun h => h1 ⟨b, h⟩
            · exact .inl b
abbrev HapR : Type := Int × Int × Int × Int × ByteArray × Int × Int
def hapR (e : HapA) : HapR := (e.1, (e.2.1, (e.2.2.1, (e.2.2.2.1, (e.2.2.2.2.1, (e.2.2.2.2.2.1, e.2.2.2.2.2.2.1))))))
def happ (k : Nat) (h : HapA) : Bool := match s_HappenOk k (h, ()) with
  | some r => r.1
  | none => false
theorem happ_both (k : Nat) (hk : 40 < k) (h : HapA) : s_HappenOk k (h, ()) = some (happ k h, ((), ())) ∧ i_HappenOk k (h, ()) = some (happ k h, ((), ())) := by
  obtain ⟨a, b, c, d, t, p, n, ⟨⟩⟩ := h
  obtain ⟨r, h1, h2⟩ := HappenOk_both k hk a b c d t p n
  have : happ k (a, (b, (c, (d, (t, (p, (n, ()))))))) = r := by
    unfold happ
    rw [h1]
  rw [this]
  exact ⟨h1, h2⟩
abbrev NetA : Type := Int × Int × Unit
abbrev ScrS : Type := NetA × Bool × List HapR
abbrev ScrR : Type := NetA × List HapR × Int × Unit
def netW : ByteArray := ⟨#[110, 101, 116]⟩
def netB : List ByteArray → Option NetA
  | [w, x] => if w = netW ∧ (preB (pieces 47 x)).2.1 = true ∧ netOk (preB (pieces 47 x)).1.1 (preB (pieces 47 x)).1.2.1 = true then some (preB (pieces 47 x)).1 else none
  | _ => none
/-- What a line makes of what is read so far; none: a fault. -/
def lineB (H : HapA → Bool) (st : ScrS) (l : ByteArray) : Option ScrS := match partsB l with
  | (ps, (false, _)) => none
  | ([], (true, _)) => some st
  | (w :: r, (true, _)) => if bt w 0 = 35 then some st else
    if st.2.1 = false then (match netB (w :: r) with | some p => some (p, (true, st.2.2)) | none => none)
    else match evB (w :: r) with
      | some h => if H h = true ∧ st.2.2.length ≠ 80 then some (st.1, (st.2.1, st.2.2 ++ [hapR h])) else none
      | none => none
def zN : NetA := (0, (0, ()))
def faultB (i : Nat) : ScrR := (zN, ([], (((i + 1 : Nat) : Int), ())))
def doneB (st : ScrS) : ScrR := if st.2.1 = true then (st.1, (st.2.2, (0, ()))) else (zN, ([], (1, ())))
def scrB (H : HapA → Bool) : List ByteArray → Nat → ScrS → ScrR
  | [], _, st => doneB st
  | l :: r, i, st => match lineB H st l with
    | none => faultB i
    | some st' => scrB H r (i + 1) st'
theorem line_len {H : HapA → Bool} {st st' : ScrS} {l : ByteArray} (h : lineB H st l = some st') : st'.2.2.length ≤ st.2.2.length + 1 := by
  unfold lineB at h
  split at h
  · cases h
  · cases h; omega
  · split at h
    · cases h; omega
    · split at h
      · split at h
        · cases h; exact Nat.le_succ _
        · cases h
      · split at h
        · split at h
          · cases h
            simp
          · cases h
        · cases h
theorem script_loop {X R : Type} {step : (X → Option R) → X → Option R} (sx : ScrS → Nat → X) (L : List ByteArray) (fin : ScrR → R) (H : HapA → Bool)
    (hs : ∀ again i (s : ScrS) (hi : i < L.length), s.2.2.length ≤ i → step again (sx s i) = match lineB H s L[i] with | none => some (fin (faultB i)) | some s' => again (sx s' (i + 1)))
    (he : ∀ again (s : ScrS), step again (sx s L.length) = some (fin (doneB s))) : ∀ k s, L.length < k → s.2.2.length = 0 → whileK step k (sx s 0) = some (fin (scrB H L 0 s)) := by
  have key : ∀ m i k (s : ScrS), i + m = L.length → m < k → s.2.2.length ≤ i → whileK step k (sx s i) = some (fin (scrB H (L.drop i) i s)) := by
    intro m
    induction m with
    | zero =>
      intro i k s hi hk _
      obtain ⟨k, rfl⟩ : ∃ k', k = k' + 1 := ⟨k - 1, by omega⟩
      have : i = L.length := by omega
      subst this
      rw [List.drop_length]
      exact he _ s
    | succ m ih =>
      intro i k s hi hk hl
      obtain ⟨k, rfl⟩ : ∃ k', k = k' + 1 := ⟨k - 1, by omega⟩
      have hi' : i < L.length := by omega
      rw [List.drop_eq_getElem_cons hi']
      refine (hs (whileK step k) i s hi' hl).trans ?_
      unfold scrB
      cases hb : lineB H s L[i] with
      | none => rfl
      | some s' =>
        have := line_len hb
        exact ih (i + 1) k s' (by omega) (by omega) (by omega)
  intro k s hk hs0
  have := key L.length 0 k s (by omega) hk (by omega)
  simpa using this
theorem parts_ok {l : ByteArray} {ps : List ByteArray} {ok : Bool} {u : Unit} (hl : l.size ≤ 1048576) (h : partsB l = (ps, (ok, u))) : ps.length ≤ 1048577 ∧ ∀ x ∈ ps, x.size ≠ 0 ∧ x.size ≤ 1048576 := by
  unfold partsB at h
  split at h
  · cases h; exact ⟨by simp, fun x hx => by cases hx⟩
  · split at h
    · unfold endB at h
      split at h
      · cases h; exact ⟨by simp, fun x hx => by cases hx⟩
      · cases h
        obtain ⟨g1, g2⟩ := pieces_len 32 l
        refine ⟨Nat.le_trans (List.length_filter_le _ _) (by omega), fun x hx => ?_⟩
        obtain ⟨h1, h2⟩ := List.mem_filter.1 hx
        exact ⟨(notE_iff x).1 h2, by have := g2 x h1; omega⟩
    · cases h; exact ⟨by simp, fun x hx => by cases hx⟩
/-- What reading the net's line answers. -/
def NvIs (P : List ByteArray) (p : NetA) (ok : Bool) : Prop := (netB P = none → ok = false) ∧ ∀ q, netB P = some q → p = q ∧ ok = true
theorem net_two (w x : ByteArray) : netB [w, x] = if w = netW ∧ (preB (pieces 47 x)).2.1 = true ∧ netOk (preB (pieces 47 x)).1.1 (preB (pieces 47 x)).1.2.1 = true then some (preB (pieces 47 x)).1 else none := rfl
theorem net_len {w : ByteArray} {r : List ByteArray} (h : r.length ≠ 1) : netB (w :: r) = none := by
  match r, h with
  | [], _ => rfl
  | [x], h => exact absurd rfl h
  | _ :: _ :: _, _ => rfl
theorem NvIs.no {P : List ByteArray} {e : NetA} (h : netB P = none) : NvIs P e false := ⟨fun _ => rfl, fun x hx => by rw [h] at hx; cases hx⟩
theorem NvIs.yes {P : List ByteArray} {h : NetA} (he : netB P = some h) : NvIs P h true := ⟨fun x => (by rw [he] at x; cases x), fun x hx => (by rw [he] at hx; injection hx with hx; exact ⟨hx, rfl⟩)⟩
theorem i_readNet_is (k : Nat) (w : ByteArray) (r : List ByteArray) (hP : ∀ x ∈ r, x.size ≤ 1048576) (hk : 4294967297 < k) : ∃ (p : NetA) (ok : Bool), i_readNet k (w :: r, ()) = some ((p, (ok, ())), ((), ())) ∧ NvIs (w :: r) p ok := by
  have lp : (((w :: r).length : Nat) : Int) = (r.length : Int) + 1 := by simp
  have e0 : Ty.rd (t := .str) (w :: r) (0 : Int) = w := rfl
  have g0 : (0 : Int) ≤ 0 ∧ (0 : Int) < (r.length : Int) + 1 := by omega
  unfold i_readNet
  simp only [lp, e0, g0, and_self, if_true]
  by_cases c1 : w = (⟨#[110, 101, 116]⟩ : ByteArray)
  rotate_left
  · simp only [c1, decide_false, Bool.not_false, Bool.true_eq_false, if_false]
    refine ⟨_, _, rfl, NvIs.no ?_⟩
    match r with
    | [x] => rw [net_two, if_neg fun q => c1 q.1]
    | [] => rfl
    | _ :: _ :: _ => rfl
  · by_cases c2 : r.length = 1
    rotate_left
    · have : ¬ (r.length : Int) + 1 = 2 := by omega
      simp only [c1, this, decide_true, decide_false, Bool.not_true, Bool.not_false, if_true]
      exact ⟨_, _, rfl, NvIs.no (net_len c2)⟩
    · match r, c2 with
      | [x], _ =>
        have e1 : Ty.rd (t := .str) [w, x] (1 : Int) = x := rfl
        have n2 : ((([x] : List ByteArray).length : Nat) : Int) + 1 = 2 := rfl
        have q1 : (0 : Int) ≤ 1 ∧ (1 : Int) < 2 := by decide
        have ea := i_ReadPrefix_is k x (hP x (by simp)) hk
        obtain ⟨lx, el⟩ := i_LifeNew_is k (preB (pieces 47 x)).1.1 (preB (pieces 47 x)).1.2.1 (by omega)
        have hn := net_two w x
        generalize preB (pieces 47 x) = pr at ea el hn
        obtain ⟨⟨p, n, ⟨⟩⟩, ok, ⟨⟩⟩ := pr
        dsimp only at ea el hn
        simp only [c1, n2, q1, ea, el, and_self, decide_true, Bool.not_true, Bool.false_eq_true, if_false, if_true, Option.bind_some]
        simp only [← c1, e1, ea, el, Option.bind_some]
        cases ok with
        | false =>
          simp only [Bool.false_eq_true, if_false]
          exact ⟨_, _, rfl, NvIs.no (by rw [hn]; simp)⟩
        | true =>
          simp only [if_true]
          cases ho : netOk p n with
          | false => exact ⟨_, _, rfl, NvIs.no (by rw [hn, ho]; simp)⟩
          | true => exact ⟨_, _, rfl, NvIs.yes (by rw [hn, ho]; simp [netW, c1])⟩
def scriptB (H : HapA → Bool) (s : ByteArray) : ScrR := if 3000 < s.size ∨ 100 < (linesB s).length then (zN, ([], (-1, ()))) else scrB H (linesB s) 0 (zN, (false, []))
theorem s_ReadScript_is (k : Nat) (s : ByteArray) (hs : s.size ≤ 1048576) (hk : 4294967297 < k) : s_ReadScript k (s, ()) = some (scriptB (happ k) s, ((), ())) := by
  have hcap : capMax = 274877906944 := rfl
  have el := l25Lines_is k s hs (by omega)
  obtain ⟨ll, ls⟩ := lines_len s
  unfold s_ReadScript scriptB
  simp only [el, Option.bind_some]
  by_cases h3 : (3000 : Int) < (s.size : Int)
  · have : 3000 < s.size := by omega
    simp only [h3, this, decide_true, Bool.true_eq_false, if_false, true_or, if_true]
    rfl
  have h3' : ¬ 3000 < s.size := by omega
  simp only [h3, decide_false, if_true]
  generalize linesB s = L at ll ls
  by_cases h1 : (100 : Int) < (L.length : Int)
  · have : 100 < L.length := by omega
    simp only [h1, this, decide_true, if_true, or_true]
    rfl
  have h1' : ¬ 100 < L.length := by omega
  simp only [h1, decide_false, Bool.false_eq_true, if_false, h3', h1', or_self]
  refine script_loop (fun st i => (zN, (([] : List HapR), (L, (st.1, (st.2.1, (st.2.2, (((i : Nat) : Int), ())))))))) L (fun r => (r, ((), ()))) (happ k) (fun again i st hi hl => ?_) (fun again st => ?_) k (zN, (false, [])) (by omega) rfl
  · obtain ⟨⟨p, n, ⟨⟩⟩, has, evs⟩ := st
    dsimp only at hl ⊢
    have hli := ls L[i] (List.getElem_mem hi)
    have hrd : Ty.rd (t := .str) L (i : Int) = L[i] := rd_at (t := .str) L i hi
    have w1 : wi64 ((i : Int) + 1) = ((i + 1 : Nat) : Int) := (w64_id _ (by omega)).trans (by omega)
    have hlt : (i : Int) < (L.length : Int) := by omega
    have i0 : (0 : Int) ≤ (i : Int) := by omega
    have hc1 : evs.length + 1 ≤ capMax := by omega
    simp only [hlt, i0, hrd, and_self, decide_true, if_true, s_PartsOf_is k _ (by omega : 1048578 < k), Option.bind_some, jn, w1]
    unfold lineB
    have hpo := fun ps ok u => parts_ok (l := L[i]) (ps := ps) (ok := ok) (u := u) (by omega)
    generalize partsB L[i] = P at hpo
    obtain ⟨ps, ok, ⟨⟩⟩ := P
    obtain ⟨pl1, pl2⟩ := hpo ps ok () rfl
    dsimp only
    cases ok with
    | false => 
      simp only [Bool.false_eq_true, if_false, Bool.not_false, if_true]
      rfl
    | true =>
      simp only [if_true, Bool.not_true, Bool.false_eq_true, if_false]
      match ps, pl1, pl2 with
      | [], _, _ => rfl
      | w :: r, pl1, pl2 =>
        have lp : (((w :: r).length : Nat) : Int) = (r.length : Int) + 1 := by simp
        have e0 : Ty.rd (t := .str) (w :: r) (0 : Int) = w := rfl
        have g0 : (0 : Int) ≤ 0 ∧ (0 : Int) < (r.length : Int) + 1 := by omega
        have hw := (pl2 w (List.mem_cons_self ..)).1
        have g2 : (0 : Int) ≤ 0 ∧ (0 : Int) < (w.size : Int) := by omega
        have n0 : ¬ (r.length : Int) + 1 = 0 := by omega
        have hr : ∀ x ∈ r, x.size ≤ 1048576 := fun x hx => (pl2 x (List.mem_cons_of_mem _ hx)).2
        simp only [lp, e0, g0, g2, n0, and_self, decide_false, if_true]
        by_cases c35 : bt w 0 = 35
        · simp only [c35, decide_true, if_true]
        · simp only [c35, decide_false, Bool.false_eq_true, if_false]
          cases has with
          | false =>
            simp only [Bool.not_false, if_true]
            by_cases c2 : r.length = 1
            rotate_left
            · have : ¬ (r.length : Int) + 1 = 2 := by omega
              simp only [this, decide_false, Bool.not_false, Bool.true_eq_false, if_false, net_len c2]
              rfl
            · match r, c2, hr with
              | [x], _, hr =>
                have e1 : Ty.rd (t := .str) [w, x] (1 : Int) = x := rfl
                have n2 : ((([x] : List ByteArray).length : Nat) : Int) + 1 = 2 := rfl
                have q1 : (0 : Int) ≤ 1 ∧ (1 : Int) < 2 := by decide
                have q0 : (0 : Int) ≤ 0 ∧ (0 : Int) < 2 := by decide
                have ea := s_ReadPrefix_is k x (hr x (by simp)) hk
                obtain ⟨lx, el⟩ := s_LifeNew_is k (preB (pieces 47 x)).1.1 (preB (pieces 47 x)).1.2.1 (by omega)
                have hn := net_two w x
                generalize preB (pieces 47 x) = pr at ea el hn
                obtain ⟨⟨p', n', ⟨⟩⟩, ok, ⟨⟩⟩ := pr
                dsimp only at ea el hn
                simp only [n2, q1, q0, e1, ea, el, and_self, decide_true, Bool.not_true, if_true, Option.bind_some]
                by_cases c1 : w = (⟨#[110, 101, 116]⟩ : ByteArray)
                rotate_left
                · have : netB [w, x] = none := by rw [hn, if_neg fun q => c1 q.1]
                  simp only [c1, this, decide_false, Bool.not_false, if_true]
                  rfl
                · have hd : decide (w = (⟨#[110, 101, 116]⟩ : ByteArray)) = true := by rw [decide_eq_true_eq]; exact c1
                  simp only [hd, Bool.not_true, Bool.false_eq_true, if_false]
                  cases ok with
                  | false =>
                    have : netB [w, x] = none := by rw [hn]; simp
                    simp only [this, Bool.not_false, Bool.true_eq_false, if_false]
                    rfl
                  | true =>
                    cases ho : netOk p' n' with
                    | false =>
                      have : netB [w, x] = none := by rw [hn, ho]; simp
                      simp only [this, Bool.not_true, Bool.not_false, if_true]
                      rfl
                    | true =>
                      have : netB [w, x] = some (p', (n', ())) := by rw [hn, ho]; simp [netW, c1]
                      simp only [this, Bool.not_true, if_true, Bool.false_eq_true, if_false]
          | true =>
            simp only [Bool.not_true, Bool.false_eq_true, if_false, Bool.true_eq_false]
            obtain ⟨e, ok, ee, hv1, hv2⟩ := l25Event_is k w r hr hk
            simp only [ee, Option.bind_some]
            cases hev : evB (w :: r) with
            | none =>
              rw [hv1 hev]
              simp only [Bool.not_false, Bool.true_eq_false, if_false]
              rfl
            | some h =>
              obtain ⟨rfl, rfl⟩ := hv2 h hev
              obtain ⟨a, b, c, d, t, p', n', ⟨⟩⟩ := e
              have hh := (happ_both k (by omega) (a, (b, (c, (d, (t, (p', (n', ())))))))).1
              simp only [Bool.not_true, if_true, hh, Option.bind_some]
              cases hq : happ k (a, (b, (c, (d, (t, (p', (n', ()))))))) with
              | false =>
                simp only [Bool.not_false, Bool.true_eq_false, if_false, Bool.false_eq_true, false_and]
                rfl
              | true =>
                by_cases c80 : evs.length = 80
                · have : (evs.length : Int) = 80 := by omega
                  simp only [Bool.not_true, if_true, c80, this, decide_true, ne_eq, not_true_eq_false, and_false, if_false]
                  rfl
                · have : ¬ (evs.length : Int) = 80 := by omega
                  have h1 : evs.length + ([(a, (b, (c, (d, (t, (p', n'))))))] : List HapR).length ≤ capMax := hc1
                  simp only [Bool.not_true, if_true, c80, this, decide_false, Bool.false_eq_true, if_false, ne_eq, not_false_eq_true, and_self, h1, hapR]
  · obtain ⟨⟨p, n, ⟨⟩⟩, has, evs⟩ := st
    simp only [Int.lt_irrefl, decide_false, Bool.false_eq_true, if_false]
    cases has with
    | false => rfl
    | true => rfl
/-- A loop that looks at each place, and gives up at the first that is not as it should be. -/
theorem all_loop {X R : Type} {step : (X → Option R) → X → Option R} (st : Nat → X) (n : Nat) (p : Nat → Bool) (no fin : Option R)
    (hs : ∀ again i, i < n → step again (st i) = if p i = true then again (st (i + 1)) else no) (he : ∀ again, step again (st n) = fin) (k : Nat) (hk : n < k) :
    whileK step k (st 0) = if (List.range n).all p = true then fin else no := by
  rw [find_loop_opt st n (fun i => !p i) no fin (fun again i hi => by rw [hs again i hi]; cases p i <;> simp) he k hk]
  simp
theorem str_empty (x : ByteArray) : x = (⟨#[]⟩ : ByteArray) ↔ x.size = 0 := by
  have := notE_iff x
  unfold notE at this
  constructor
  · intro h
    subst h
    rfl
  · intro h
    refine Decidable.byContradiction fun hn => ?_
    simp [hn, h] at this
theorem i_ReadScript_is (k : Nat) (s : ByteArray) (hs : s.size ≤ 1048576) (hk : 4294967297 < k) : i_ReadScript k (s, ()) = some (scriptB (happ k) s, ((), ())) := by
  have hcap : capMax = 274877906944 := rfl
  obtain ⟨ll, ls⟩ := lines_len s
  have hne := pieces_ne 10 s
  have hdl := dl_last hne
  obtain ⟨g1, g2⟩ := pieces_len 10 s
  have hsp := Split_is k 10 s hs
  unfold i_ReadScript
  rw [hsp]
  simp only [Option.bind_some]
  generalize hW : whileK (R := ScrR × Unit × Unit) (X := NetA × NetA × Bool × List HapR × List ByteArray × Int × Int × Unit) _ = W
  have key : ∀ L : List ByteArray, L.length ≤ 1048578 → (∀ x ∈ L, x.size ≤ s.size) → W k (zN, (zN, (false, ([], (L, ((L.length : Int), (0, ()))))))) = some (scrB (happ k) L 0 (zN, (false, [])), ((), ())) := by
    intro L ll ls
    rw [← hW]
    refine script_loop (fun st i => (zN, (st.1, (st.2.1, (st.2.2, (L, ((L.length : Int), (((i : Nat) : Int), ())))))))) L (fun r => (r, ((), ()))) (happ k) (fun again i st hi hl => ?_) (fun again st => ?_) k (zN, (false, [])) (by omega) rfl
    · obtain ⟨⟨p, n, ⟨⟩⟩, has, evs⟩ := st
      dsimp only at hl ⊢
      have hli := ls L[i] (List.getElem_mem hi)
      have hrd : Ty.rd (t := .str) L (i : Int) = L[i] := rd_at (t := .str) L i hi
      have w1 : wi64 ((i : Int) + 1) = ((i + 1 : Nat) : Int) := (w64_id _ (by omega)).trans (by omega)
      have hlt : (i : Int) < (L.length : Int) := by omega
      have i0 : (0 : Int) ≤ (i : Int) := by omega
      have hc1 : evs.length + 1 ≤ capMax := by omega
      simp only [hlt, i0, hrd, and_self, decide_true, if_true, i_PartsOf_is k _ (by omega : 1048578 < k), Option.bind_some, jn, w1]
      unfold lineB
      have hpo := fun ps ok u => parts_ok (l := L[i]) (ps := ps) (ok := ok) (u := u) (by omega)
      generalize partsB L[i] = P at hpo
      obtain ⟨ps, ok, ⟨⟩⟩ := P
      obtain ⟨pl1, pl2⟩ := hpo ps ok () rfl
      dsimp only
      cases ok with
      | false => 
        simp only [Bool.false_eq_true, if_false, Bool.not_false, if_true]
        rfl
      | true =>
        simp only [if_true, Bool.not_true, Bool.false_eq_true, if_false]
        match ps, pl1, pl2 with
        | [], _, _ => rfl
        | w :: r, pl1, pl2 =>
          have lp : (((w :: r).length : Nat) : Int) = (r.length : Int) + 1 := by simp
          have e0 : Ty.rd (t := .str) (w :: r) (0 : Int) = w := rfl
          have g0 : (0 : Int) ≤ 0 ∧ (0 : Int) < (r.length : Int) + 1 := by omega
          have hw := (pl2 w (List.mem_cons_self ..)).1
          have g2 : (0 : Int) ≤ 0 ∧ (0 : Int) < (w.size : Int) := by omega
          have n0 : ¬ (r.length : Int) + 1 = 0 := by omega
          have hr : ∀ x ∈ r, x.size ≤ 1048576 := fun x hx => (pl2 x (List.mem_cons_of_mem _ hx)).2
          have hrl : r.length ≤ 1048576 := by simp only [List.length_cons] at pl1; omega
          simp only [lp, e0, g0, g2, n0, and_self, decide_false, if_true]
          by_cases c35 : bt w 0 = 35
          · simp only [c35, decide_true, if_true]
          · simp only [c35, decide_false, Bool.false_eq_true, if_false]
            cases has with
            | false =>
              simp only [Bool.not_false, if_true]
              obtain ⟨q, ok, ee, hv1, hv2⟩ := i_readNet_is k w r hr hk
              simp only [ee, Option.bind_some]
              cases hev : netB (w :: r) with
              | none =>
                rw [hv1 hev]
                simp only [Bool.not_false, if_true]
                rfl
              | some h =>
                obtain ⟨rfl, rfl⟩ := hv2 h hev
                simp only [Bool.not_true, Bool.false_eq_true, if_false]
            | true =>
              simp only [Bool.not_true, Bool.false_eq_true, if_false, Bool.true_eq_false]
              obtain ⟨e, ok, ee, hv1, hv2⟩ := i_readEvent_is k w r hr hrl hk
              simp only [ee, Option.bind_some]
              cases hev : evB (w :: r) with
              | none =>
                rw [hv1 hev]
                simp only [Bool.not_false, Bool.true_eq_false, if_false]
                rfl
              | some h =>
                obtain ⟨rfl, rfl⟩ := hv2 h hev _ (happ_both k (by omega) h).2
                obtain ⟨a, b, c, d, t, p', n', ⟨⟩⟩ := e
                cases hq : happ k (a, (b, (c, (d, (t, (p', (n', ()))))))) with
                | false =>
                  simp only [hq, Bool.not_false, Bool.true_eq_false, if_false, Bool.false_eq_true, false_and]
                  rfl
                | true =>
                  by_cases c80 : evs.length = 80
                  · have : (evs.length : Int) = 80 := by omega
                    simp only [hq, Bool.not_true, if_true, c80, this, decide_true, ne_eq, not_true_eq_false, and_false, if_false]
                    rfl
                  · have : ¬ (evs.length : Int) = 80 := by omega
                    have h1 : evs.length + ([(a, (b, (c, (d, (t, (p', n'))))))] : List HapR).length ≤ capMax := hc1
                    simp only [hq, Bool.not_true, if_true, c80, this, decide_false, Bool.false_eq_true, if_false, ne_eq, not_false_eq_true, and_self, h1, hapR]
    · obtain ⟨⟨p, n, ⟨⟩⟩, has, evs⟩ := st
      simp only [Int.lt_irrefl, decide_false, Bool.false_eq_true, if_false]
      cases has with
      | false => rfl
      | true => rfl
  clear hW
  have hP : linesB s = dl (pieces 10 s) := rfl
  unfold scriptB
  rw [hP] at ll ls ⊢
  generalize pieces 10 s = Q at hne hdl g1 g2 ll ls
  have hpos : 0 < Q.length := List.length_pos_iff.2 hne
  have w0 : wi64 ((Q.length : Int) - 1) = ((Q.length - 1 : Nat) : Int) := (w64_id _ (by omega)).trans (by omega)
  have c0 : (0 : Int) ≤ ((Q.length - 1 : Nat) : Int) ∧ ((Q.length - 1 : Nat) : Int) < (Q.length : Int) := by omega
  have c1 : (0 : Int) ≤ ((Q.length - 1 : Nat) : Int) ∧ ((Q.length - 1 : Nat) : Int) ≤ (Q.length : Int) := by omega
  have hrd : Ty.rd (t := .str) Q ((Q.length - 1 : Nat) : Int) = Q[Q.length - 1] := rd_at (t := .str) Q (Q.length - 1) (by omega)
  have hgd : Q.getD (Q.length - 1) ⟨#[]⟩ = Q[Q.length - 1] := by
    rw [List.getD_eq_getElem?_getD, List.getElem?_eq_getElem (by omega)]
    rfl
  rw [hgd] at hdl
  simp only [w0, c0, c1, hrd, and_self, if_true, Int.sub_zero]
  by_cases hz : (Q[Q.length - 1]).size = 0
  · have hz' := (str_empty _).2 hz
    rw [if_pos hz] at hdl
    have hlen : (Q.take (Q.length - 1)).length = Q.length - 1 := by rw [List.length_take]; omega
    rw [hdl] at ls ⊢
    have ky := key (Q.take (Q.length - 1)) (by omega) ls
    rw [hlen] at ky ⊢
    simp only [hz', decide_true, if_true]
    by_cases h3 : (3000 : Int) < (s.size : Int)
    · have : 3000 < s.size := by omega
      simp only [h3, this, decide_true, Bool.true_eq_false, if_false, true_or, if_true]
      rfl
    have h3' : ¬ 3000 < s.size := by omega
    simp only [h3, decide_false, if_true]
    by_cases h1 : (100 : Int) < ((Q.length - 1 : Nat) : Int)
    · have : 100 < Q.length - 1 := by omega
      simp only [h1, this, decide_true, if_true, or_true]
      rfl
    have h1' : ¬ 100 < Q.length - 1 := by omega
    simp only [h1, decide_false, Bool.false_eq_true, if_false, h3', h1', or_self, Int.toNat_natCast, Int.toNat_zero, List.drop_zero]
    exact ky
  · have hz' : ¬ Q[Q.length - 1] = (⟨#[]⟩ : ByteArray) := fun h => hz ((str_empty _).1 h)
    rw [if_neg hz] at hdl
    rw [hdl]
    have ky := key Q (by omega) g2
    simp only [hz', decide_false, Bool.false_eq_true, if_false]
    by_cases h3 : (3000 : Int) < (s.size : Int)
    · have : 3000 < s.size := by omega
      simp only [h3, this, decide_true, Bool.true_eq_false, if_false, true_or, if_true]
      rfl
    have h3' : ¬ 3000 < s.size := by omega
    simp only [h3, decide_false, if_true]
    by_cases h1 : (100 : Int) < (Q.length : Int)
    · have : 100 < Q.length := by omega
      simp only [h1, this, decide_true, if_true, or_true]
      rfl
    have h1' : ¬ 100 < Q.length := by omega
    simp only [h1, decide_false, Bool.false_eq_true, if_false, h3', h1', or_self]
    exact ky
theorem script_evs (H : HapA → Bool) : ∀ (L : List ByteArray) (i : Nat) (st : ScrS), (scrB H L i st).2.1.length ≤ st.2.2.length + L.length
  | [], i, st => by
    unfold scrB doneB
    split
    · exact Nat.le_refl _
    · exact Nat.zero_le _
  | l :: r, i, st => by
    unfold scrB
    cases hb : lineB H st l with
    | none => exact Nat.zero_le _
    | some st' =>
      have h1 := line_len hb
      have h2 := script_evs H r (i + 1) st'
      simp only [List.length_cons]
      omega
theorem scriptB_len (H : HapA → Bool) (s : ByteArray) (hs : s.size ≤ 1048576) : (scriptB H s).2.1.length ≤ 1048576 := by
  unfold scriptB
  split
  · exact Nat.zero_le _
  · rename_i h
    have := script_evs H (linesB s) 0 (zN, (false, []))
    simp only [List.length_nil] at this
    omega
theorem eqHappenS_self (k : Nat) (L : List HapR) (hl : L.length ≤ 1048576) (hk : 1048576 < k) : w_eqHappenS k (L, (L, ())) = some (true, ((), ((), ()))) := by
  unfold w_eqHappenS
  simp only [decide_true, Bool.not_true, Bool.false_eq_true, if_false]
  refine (all_loop (fun i => (L, (L, (((i : Nat) : Int), ())))) L.length (fun _ => true) (some (false, ((), ((), ())))) (some (true, ((), ((), ())))) (fun again i hi => ?_) (fun again => ?_) k (by omega)).trans ?_
  · have w2 : wi64 ((i : Int) + 1) = ((i + 1 : Nat) : Int) := (w64_id _ (by omega)).trans (by omega)
    have g1 : (0 : Int) ≤ (i : Int) ∧ (i : Int) < (L.length : Int) := by omega
    have he : ∀ p : HapR, w_eqHappen k ((p.1, (p.2.1, (p.2.2.1, (p.2.2.2.1, (p.2.2.2.2.1, (p.2.2.2.2.2.1, (p.2.2.2.2.2.2, ()))))))), ((p.1, (p.2.1, (p.2.2.1, (p.2.2.2.1, (p.2.2.2.2.1, (p.2.2.2.2.2.1, (p.2.2.2.2.2.2, ()))))))), ())) = some (true, ((), ((), ()))) := fun p => by
      unfold w_eqHappen w_eqPrefix
      simp only [decide_true, Bool.not_true, Bool.false_eq_true, if_false, Option.bind_some]
    simp only [g1, w2, he, and_self, decide_true, if_true, Option.bind_some, Bool.not_true, Bool.false_eq_true, if_false]
  · simp
  · simp
theorem MH_HappenS (k : Nat) (a : List HapR) (n : Int) (hn : 0 ≤ n) (hN : n + 7 * a.length < 4611686018427387000) (hk : 4611686018427387904 < k) (hl : a.length ≤ 1048576) :
    ∃ (a' : List HapR) (n' : Int), a'.length = a.length ∧ n ≤ n' ∧ n' ≤ n + 7 * a.length ∧ w_markHappenS k (a, (n, ())) = some (n', (a', ((), ()))) ∧ w_heldHappenS k (a', (n, ())) = some (n', ((), ((), ()))) := by
  unfold w_markHappenS w_heldHappenS
  refine loop_MH (A := HapR) (fun out n => (n, (out, ((), ())))) (fun n => (n, ((), ((), ())))) 7 4611686018427387000 (by decide) (fun _ => True) ?_ ?_ ?_ a (fun _ _ => trivial) hl n hn (7 * a.length : Int) (by omega) (by omega) k (by omega)
  · rintro ⟨r1, r2, r3, r4, r5, r6, r7⟩ _ n hn hN
    have w1 : wi64 (n + 1) = n + 1 := w64_id _ (by omega)
    have w2 : wi64 (n + 1 + 1) = n + 1 + 1 := w64_id _ (by omega)
    have w3 : wi64 (n + 1 + 1 + 1) = n + 1 + 1 + 1 := w64_id _ (by omega)
    have w4 : wi64 (n + 1 + 1 + 1 + 1) = n + 1 + 1 + 1 + 1 := w64_id _ (by omega)
    have w5 : wi64 (n + 1 + 1 + 1 + 1 + 1) = n + 1 + 1 + 1 + 1 + 1 := w64_id _ (by omega)
    have w6 : wi64 (n + 1 + 1 + 1 + 1 + 1 + 1) = n + 1 + 1 + 1 + 1 + 1 + 1 := w64_id _ (by omega)
    have w7 : wi64 (n + 1 + 1 + 1 + 1 + 1 + 1 + 1) = n + 1 + 1 + 1 + 1 + 1 + 1 + 1 := w64_id _ (by omega)
    obtain ⟨tx, ht⟩ := markText_ends k (n + 1 + 1 + 1 + 1) (by omega) (by omega)
    refine ⟨(n, (n + 1, (n + 1 + 1, (n + 1 + 1 + 1, (tx, (n + 1 + 1 + 1 + 1 + 1, n + 1 + 1 + 1 + 1 + 1 + 1)))))), n + 1 + 1 + 1 + 1 + 1 + 1 + 1, by omega, by omega, fun again out i h0 h1 h2 hr => ?_, fun again out i h0 h1 h2 hr => ?_⟩
    · have w' : wi64 (i + 1) = i + 1 := w64_id _ (by omega)
      have hlt : i.toNat < out.length := by omega
      simp only [jn, Ty.rd, getD_some' hr, List.length_set, set_set', h0, h1, hlt, w1, w2, w3, w4, w5, w6, w7, w', ht, Option.bind_some, decide_true, and_self, if_true, getD_set']
    · have w' : wi64 (i + 1) = i + 1 := w64_id _ (by omega)
      simp only [Ty.rd, getD_some' hr, h0, h1, w1, w2, w3, w4, w5, w6, w7, w', ht, Option.bind_some, decide_true, decide_false, and_self, if_true, Bool.not_true, Bool.false_eq_true, if_false]
  · intro again out n i hi
    have : ¬ i < (out.length : Int) := by omega
    simp [this]
  · intro again out n i hi
    have : ¬ i < (out.length : Int) := by omega
    simp [this]
theorem read_law (k : Nat) (hk : 4611686018427387904 < k) (s : ByteArray) : w_FnExactReadScript k (s, ()) = some (true, ((), ())) := by
  unfold w_FnExactReadScript
  by_cases hs : (1048576 : Int) < (s.size : Int)
  · simp only [hs, decide_true, if_true]
  have hs' : s.size ≤ 1048576 := by omega
  have e1 := s_ReadScript_is k s hs' (by omega)
  have e2 := i_ReadScript_is k s hs' (by omega)
  have hl := scriptB_len (happ k) s hs'
  generalize scriptB (happ k) s = R at e1 e2 hl
  obtain ⟨⟨p, n, ⟨⟩⟩, evs, f, ⟨⟩⟩ := R
  dsimp only at hl
  have e3 := eqHappenS_self k evs hl (by omega)
  have e4 : w_eqPrefix k ((p, (n, ())), ((p, (n, ())), ())) = some (true, ((), ((), ()))) := by
    unfold w_eqPrefix
    simp only [decide_true, Bool.not_true, Bool.false_eq_true, if_false]
  obtain ⟨a', n', _, h2, _, h4, h5⟩ := MH_HappenS k evs 1 (by omega) (by omega) hk hl
  have c1 : ¬ n' < 0 := by omega
  simp only [hs, decide_false, decide_true, Bool.false_eq_true, if_false, if_true, e1, e2, e3, e4, h4, h5, c1, Option.bind_some, Bool.not_true]
theorem pure_FnExactReadScript (x : argsDen pars_FnExactReadScript) (hx : argsWf pars_FnExactReadScript x) : ∃ k o, w_FnExactReadScript k (argsX pars_FnExactReadScript x) = some (true, o) := by
  obtain ⟨s, u⟩ := x
  exact ⟨4611686018427387905, ((), ()), read_law 4611686018427387905 (by decide) s⟩
open Go.ChangeShapes Go.WideShapes Go.ChangeAt Go.RowKit
theorem own_FnExactReadScript : ownKnob Tryz.prog.godebug = none := by kernel_rfl
theorem laid_tab {W : World} (h : laidMetH Tryz.prog Rows.fnExactReadScriptRow.laid W) : Lib.TabIs Tryz.prog W "internal/strconv.uint64pow10" .u64 Lib.pow10Tab := by
  rw [MakeChecks.laidMetH_plain _ _ _ (by kernel_rfl)] at h
  exact tabIs_third' (g := 5) (t := 132) (e := 113) (n := 20) (by kernel_rfl) (by kernel_rfl) (by kernel_rfl) (by kernel_rfl) (by kernel_rfl) (by kernel_rfl) h
theorem laid_gen {W : World} (hsh : W.ShapedOpen Tryz.prog) (h : laidMetH Tryz.prog Rows.fnExactReadScriptRow.laid W) : ReadGen Tryz.prog 0 3 4 W := by
  have ht := laid_tab h
  rw [MakeChecks.laidMetH_plain _ _ _ (by kernel_rfl)] at h
  exact ⟨ht, cell_of_shapedOpen_int (g := 0) (t := 3) (zero := #[.int .i64 0]) hsh (of_decide_eq_true (by kernel_rfl)) (by kernel_rfl) rfl (by kernel_rfl) (by kernel_rfl)  Tryz.underlying3, laid_iface (g := 3) (ti := 81) (laidMet.tail (laidMet.tail (laidMet.tail (laidMet.tail (laidMet.tail (h)))))) (by kernel_rfl) (by kernel_rfl) Tryz.underlying81, laid_iface (g := 4) (ti := 81) (laidMet.tail (laidMet.tail (laidMet.tail (laidMet.tail (h))))) (by kernel_rfl) (by kernel_rfl) Tryz.underlying81⟩
theorem lifted_FnExactReadScript (os : Os) (started : os.Started) (H : Type) (enc : TypeId × Value → H) :
    ReturnsInHanded {} Tryz.checked os 3 .any (fun w args => (Rows.fnExactReadScriptSpec.pre enc Tryz.prog Tryz.f3 [] false w args ∧ laidMetH Tryz.prog Rows.fnExactReadScriptRow.laid w) ∧ sizedMet enc Tryz.prog Tryz.f3 (OpenSpec.ofChange Rows.fnExactReadScriptSpec) false w args) (Rows.fnExactReadScriptSpec.post enc Tryz.prog Tryz.f3 false true false false) :=
  law_lifted_shaped (C := Tryz.checked) (l := pars_FnExactReadScript) (rb := 4) own_FnExactReadScript started (by kernel_rfl) Tryz.func3
    (ChangeSpec.witness_shaped (enc := enc) (C := Tryz.checked) (os := os) (X := fun w _ => laidMetH Tryz.prog Rows.fnExactReadScriptRow.laid w) false (World.laidAll Tryz.prog os Rows.fnExactReadScriptRow.laid) #[.string ByteArray.empty] 8 (World.laidAll_os _ _ _) (World.shaped_of_ZipB (by kernel_rfl) (by kernel_rfl)) (by kernel_rfl) (by kernel_rfl) (by kernel_rfl) (by rw [MakeChecks.laidMetH_plain _ _ _ (by kernel_rfl)]; exact laidMet_laidAll _ (by kernel_rfl) (by kernel_rfl)))
    e_w_FnExactReadScript rfl (by decide) pure_FnExactReadScript (by kernel_rfl) rfl Tryz.underlying4 (by kernel_rfl) (by kernel_rfl) rfl (fun W hsh h => ⟨readGen_lt (laid_gen hsh h), laid_gen hsh h⟩)
    (fun ds h => match ds, h with | [_], _ => rfl)
theorem inPlace_FnExactReadScript : Tryz.prog.inPlace 3 = Rows.fnExactReadScriptRow.inPlace := by kernel_rfl
theorem unfollowed_FnExactReadScript : Tryz.prog.unfollowed 3 = Rows.fnExactReadScriptRow.unfollowed := by kernel_rfl
theorem recurses_FnExactReadScript : Tryz.prog.recurses 3 = Rows.fnExactReadScriptRow.recurses := by kernel_rfl
theorem named_FnExactReadScript : Tryz.prog.varsNamed 3 = Rows.fnExactReadScriptRow.named := by kernel_rfl
theorem facts_FnExactReadScript : joinedFacts Tryz.prog 3 Tryz.f3 Rows.fnExactReadScriptSpec Rows.fnExactReadScriptRow = true := by
  unfold joinedFacts
  rw [seat_laid, seat_maps, seat_heard, seat_enter, inPlace_FnExactReadScript, unfollowed_FnExactReadScript, recurses_FnExactReadScript, named_FnExactReadScript]
  kernel_rfl
theorem fnExactReadScript_holds : Rows.FnExactReadScriptSaid :=
  OpenClaim.holds_of_wide 3 Tryz.f3 rfl rfl rfl rfl rfl rfl rfl ⟨rfl, rfl, rfl, rfl, rfl⟩ rfl rfl rfl rfl rfl (by kernel_rfl) Tryz.func3 facts_FnExactReadScript (of_decide_eq_true (by kernel_rfl))
    (by unfold Func.isWrapper; first | (rw [if_pos (by decide +kernel)]; kernel_rfl) | (rw [if_neg (by decide +kernel)]; exact ⟨rfl, rfl⟩)) (fun os started H enc _ => lifted_FnExactReadScript os started H enc)
theorem fnExactReadScriptCard_holds : Rows.FnExactReadScriptCardSaid :=
  Claim7.holds_tied_plain_at .later [] [.data, .data, .data, .data, .sentinel, .sentinel, .pinned] true (true, "7f3b546a5cc5b168c1f6f8abae95c067b0e94365c3c1c5235781d36d098bac99") true
    fnExactReadScript_holds (fun _ h => by cases h) (by kernel_rfl) (fun _ h => by cases h) fnExactReadScript_row_tie rfl ⟨rfl, rfl⟩ (by kernel_rfl) rfl
    (fun f fn hf hfn => by
      obtain rfl : f = 3 := Option.some.inj ((show Tryz.prog.funcNamed "loop.example/g00193/laws.FnExactReadScript" = some 3 by kernel_rfl).symm.trans hf) |>.symm
      obtain rfl : fn = Tryz.f3 := (Option.some.inj (Tryz.func3.symm.trans hfn)).symm
      exact ⟨by kernel_rfl, fun j t ht => by
        rw [show Tryz.f3.params = #[9] by kernel_rfl] at ht
        have hm : t ∈ [9] := by simpa using Array.mem_of_getElem? ht
        have hall : ([9].all fun u => !Tryz.prog.wantsStandIn u) = true := by kernel_rfl
        exact (show Tryz.prog.wantsStandIn t = false by simpa using List.all_eq_true.1 hall t hm)⟩)
    (by kernel_rfl)
#print axioms fnExactReadScriptCard_holds
end Go.Proofs.YtmanaalkgemjaaaGreatDoor
