import Derived.Test.YtnfllchbpechlaaGreatRows
import Derived.Test.YtnfllchbpechlaaGreatFun3
import Derived.Test.YtnfllchbpechlaaGreatBase
import Derived.Test.YtnfllchbpechlaaGreatFacts
import Derived.WalkKit
import Derived.ProofKit
import Derived.OpenShut
import Derived.ShutString
import Derived.ChangeOld
import Derived.Below
import Derived.SizedLaws
/- FnExactSendInner answers true for every input, and its arguments read behind the call as they did ahead of it. Conditions: none. -/
set_option linter.unusedVariables false
namespace Go.Proofs.YtnfllchbpechlaaGreat
open Go Go.Eng Go.Proofs
abbrev pars_FnExactSendInner : List Par := [(true, (.pair (.int .i64) (.pair (.int .i64) (.pair (.pair (.pair (.int .i64) (.pair .str (.pair .str (.pair (.int .i64) (.pair (.list (.int .i64)) (.int .i64)))))) (.pair (.int .i64) (.pair .str (.pair .str (.pair (.int .i64) (.pair (.list (.int .i64)) (.int .i64))))))) (.pair (.list (.pair (.int .i64) (.pair (.int .i64) (.pair (.int .i64) (.pair (.list .str) (.pair (.list .bool) (.int .i64))))))) (.int .i64)))))), (false, (.int .i64)), (false, (.int .i64)), (true, (.pair (.int .i64) (.pair (.int .i64) .str)))]
theorem l01In_is (k : Nat) (a b c : Int) : s_l01In k (a, (b, (c, ()))) = some (decide (b ≤ a ∧ a ≤ c), ((), ((), ((), ())))) := by
  unfold s_l01In
  by_cases h : b ≤ a <;> simp [h]
theorem within_is (k : Nat) (a b c : Int) : i_within k (a, (b, (c, ()))) = some (decide (b ≤ a ∧ a ≤ c), ((), ((), ((), ())))) := l01In_is k a b c
theorem s_AddrOk_is (k : Nat) (a : Int) : s_AddrOk k (a, ()) = some (decide (0 ≤ a ∧ a ≤ 4294967295), ((), ())) := by
  unfold s_AddrOk
  rw [l01In_is]
  rfl
theorem i_ReadNumber_is (k : Nat) (s : ByteArray) : i_ReadNumber k (s, ()) = some ((if s.size = 4 then (bt s 0 * 16777216 + bt s 1 * 65536 + bt s 2 * 256 + bt s 3, (true, ())) else (0, (false, ()))), ((), ())) := by
  unfold i_ReadNumber
  by_cases h : s.size = 4
  · have h' : (s.size : Int) = 4 := by omega
    have a0 := bt_ge s 0; have a1 := bt_ge s 1; have a2 := bt_ge s 2; have a3 := bt_ge s 3
    have b0 := bt_le s 0; have b1 := bt_le s 1; have b2 := bt_le s 2; have b3 := bt_le s 3
    simp only [h]
    have p24 : (2 : Int) ^ (min (Int.toNat (24 : Int)) (IntKind.bits .i64)) = 16777216 := by decide
    have p16 : (2 : Int) ^ (min (Int.toNat (16 : Int)) (IntKind.bits .i64)) = 65536 := by decide
    have p8 : (2 : Int) ^ (min (Int.toNat (8 : Int)) (IntKind.bits .i64)) = 256 := by decide
    have e0 : wi64 (wi64 (bt s 0) * 2 ^ (min (Int.toNat (24 : Int)) (IntKind.bits .i64))) = bt s 0 * 16777216 := by rw [p24]; simp only [wi64, IntKind.wrap_i64]; omega
    have e1 : wi64 (wi64 (bt s 1) * 2 ^ (min (Int.toNat (16 : Int)) (IntKind.bits .i64))) = bt s 1 * 65536 := by rw [p16]; simp only [wi64, IntKind.wrap_i64]; omega
    have e2 : wi64 (wi64 (bt s 2) * 2 ^ (min (Int.toNat (8 : Int)) (IntKind.bits .i64))) = bt s 2 * 256 := by rw [p8]; simp only [wi64, IntKind.wrap_i64]; omega
    have e3 : wi64 (bt s 3) = bt s 3 := by simp only [wi64, IntKind.wrap_i64]; omega
    have e : bitsI .or .i64 (bitsI .or .i64 (bitsI .or .i64 (bt s 0 * 16777216) (bt s 1 * 65536)) (bt s 2 * 256)) (bt s 3) = bt s 0 * 16777216 + bt s 1 * 65536 + bt s 2 * 256 + bt s 3 := by
      rw [or_join 24 (bt s 0 * 16777216) (bt s 1 * 65536), or_join 16 _ (bt s 2 * 256), or_join 8 _ (bt s 3)] <;> omega
    rw [e0, e1, e2, e3, e]
    simp
  · have h' : ¬ (s.size : Int) = 4 := by omega
    simp [h, h']
/-- Bytes as whole numbers. -/
def isB (l : List Int) : Prop := ∀ x ∈ l, 0 ≤ x ∧ x < 256
theorem bytesOf_len (s : ByteArray) : (bytesOf s).length = s.size := by
  unfold bytesOf
  rw [List.length_map, Array.length_toList]
  rfl
theorem strOf_len (l : List Int) : (strOf l).size = l.length := by simp [strOf, ByteArray.size]
theorem bytesOf_isB (s : ByteArray) : isB (bytesOf s) := by
  intro x hx
  unfold bytesOf at hx
  obtain ⟨b, _, rfl⟩ := List.mem_map.1 hx
  have := b.toNat_lt
  exact ⟨by omega, by omega⟩
theorem isB_nil : isB [] := by intro x hx; cases hx
theorem isB_cons {x : Int} {l : List Int} : isB (x :: l) ↔ (0 ≤ x ∧ x < 256) ∧ isB l := by simp [isB]
theorem isB_append {a b : List Int} : isB (a ++ b) ↔ isB a ∧ isB b := by
  simp only [isB, List.mem_append]
  exact ⟨fun h => ⟨fun x hx => h x (.inl hx), fun x hx => h x (.inr hx)⟩, fun h x hx => hx.elim (h.1 x) (h.2 x)⟩
theorem isB_drop {l : List Int} (h : isB l) (n : Nat) : isB (l.drop n) := fun x hx => h x (List.mem_of_mem_drop hx)
theorem isB_take {l : List Int} (h : isB l) (n : Nat) : isB (l.take n) := fun x hx => h x (List.mem_of_mem_take hx)
theorem bytesOf_strOf {l : List Int} (h : isB l) : bytesOf (strOf l) = l := by
  unfold bytesOf strOf
  rw [List.map_map]
  have : ∀ m : List Int, isB m → m.map ((fun b : UInt8 => ((b.toNat : Nat) : Int)) ∘ fun x => UInt8.ofNat x.toNat) = m := by
    intro m
    induction m with
    | nil => intro _; rfl
    | cons a m ih =>
      intro hm
      obtain ⟨h1, h2⟩ := isB_cons.1 hm
      rw [List.map_cons, ih h2]
      congr 1
      simp only [Function.comp, UInt8.toNat_ofNat']
      omega
  simpa using this l h
theorem strOf_bytes (s : ByteArray) : strOf (bytesOf s) = s := by
  have e : (fun x : Int => UInt8.ofNat x.toNat) ∘ (fun b : UInt8 => ((b.toNat : Nat) : Int)) = id := by
    funext b
    simp
  apply ByteArray.ext
  simp only [strOf, bytesOf, List.map_map, e, List.map_id]
theorem bytesOf_inj {s t : ByteArray} (h : bytesOf s = bytesOf t) : s = t := by rw [← strOf_bytes s, h, strOf_bytes]
theorem bytesOf_append (a b : ByteArray) : bytesOf (a ++ b) = bytesOf a ++ bytesOf b := by
  simp [bytesOf, ByteArray.data_append]
theorem strOf_append (a b : List Int) : strOf (a ++ b) = strOf a ++ strOf b := by
  apply ByteArray.ext
  simp [strOf, ByteArray.data_append]
theorem bytesOf_extract (s : ByteArray) (a b : Nat) : bytesOf (s.extract a b) = ((bytesOf s).take b).drop a := by
  simp [bytesOf, ByteArray.data_extract, List.map_drop, List.map_take, List.drop_take]
theorem bt_get (s : ByteArray) (i : Nat) (h : i < s.size) : bt s (i : Int) = (bytesOf s)[i]'(by rw [bytesOf_len]; exact h) := by
  unfold bt
  rw [dif_pos (by simpa using h)]
  simp [bytesOf, ByteArray.getElem_eq_getElem_data]
theorem cap_ok (n m : Nat) (h : n + m ≤ 4194304) : n + m ≤ capMax := by
  have : capMax = 274877906944 := rfl
  omega
theorem max_ok (n m : Nat) (h : n + m ≤ 4194304) : n + m ≤ maxStr := by
  have : maxStr = 9223372036854775807 := rfl
  omega
/-- A loop that counts up to n and turns its state each round. -/
def iterN {A : Type} (g : Nat → A → A) : Nat → Nat → A → A
  | 0, _, a => a
  | m + 1, i, a => iterN g m (i + 1) (g i a)
theorem run_loop {X R A : Type} {step : (X → Option R) → X → Option R} (st : Nat → A → X) (n : Nat) (g : Nat → A → A) (fin : A → Option R) (Inv : Nat → A → Prop)
    (hs : ∀ again i a, i < n → Inv i a → step again (st i a) = again (st (i + 1) (g i a)) ∧ Inv (i + 1) (g i a)) (he : ∀ again a, Inv n a → step again (st n a) = fin a) :
    ∀ m i a k, i + m = n → Inv i a → m < k → whileK step k (st i a) = fin (iterN g m i a) := by
  intro m
  induction m with
  | zero =>
    intro i a k h hI hk
    obtain ⟨k, rfl⟩ : ∃ k', k = k' + 1 := ⟨k - 1, by omega⟩
    have : i = n := by omega
    subst this
    exact he _ _ hI
  | succ m ih =>
    intro i a k h hI hk
    obtain ⟨k, rfl⟩ : ∃ k', k = k' + 1 := ⟨k - 1, by omega⟩
    obtain ⟨h1, h2⟩ := hs (whileK step k) i a (by omega) hI
    show step _ _ = _
    rw [h1]
    exact ih (i + 1) _ k (by omega) h2 (by omega)
theorem iterN_inv {A : Type} (g : Nat → A → A) (Inv : Nat → A → Prop) (n : Nat) (hs : ∀ i a, i < n → Inv i a → Inv (i + 1) (g i a)) : ∀ m i a, i + m = n → Inv i a → Inv n (iterN g m i a) := by
  intro m
  induction m with
  | zero => intro i a h hI; have : i = n := by omega
            subst this; exact hI
  | succ m ih => intro i a h hI; exact ih (i + 1) _ (by omega) (hs i a (by omega) hI)
/-- Four bytes, the highest first. -/
def four (n : Int) : List Int := [n / 16777216 % 256, n / 65536 % 256, n / 256 % 256, n % 256]
theorem four_isB (n : Int) : isB (four n) := by
  unfold four
  simp only [isB_cons]
  refine ⟨by omega, by omega, by omega, by omega, isB_nil⟩
def W32 (x : Int) : Prop := 0 ≤ x ∧ x < 4294967296
def allW (l : List Int) : Prop := ∀ x ∈ l, W32 x
def xr (a b : Int) : Int := ((a.toNat ^^^ b.toNat : Nat) : Int)
def an (a b : Int) : Int := ((a.toNat &&& b.toNat : Nat) : Int)
theorem toNat_lt32 {a : Int} (h : W32 a) : a.toNat < 2 ^ 32 := by obtain ⟨h1, h2⟩ := h; omega
theorem xr_W {a b : Int} (ha : W32 a) (hb : W32 b) : W32 (xr a b) := by
  have := Nat.xor_lt_two_pow (toNat_lt32 ha) (toNat_lt32 hb)
  unfold xr W32
  omega
theorem an_W {a b : Int} (ha : W32 a) : W32 (an a b) := by
  have := Nat.and_le_left (n := a.toNat) (m := b.toNat)
  have := toNat_lt32 ha
  unfold an W32
  omega
theorem ofInt_toNat {n : Nat} {a : Int} (hn : 32 ≤ n) (h : W32 a) : (BitVec.ofInt n a).toNat = a.toNat := by
  rw [BitVec.toNat_ofInt]
  obtain ⟨h1, h2⟩ := h
  have hp : (2 : Nat) ^ 32 ≤ 2 ^ n := Nat.pow_le_pow_right (by omega) hn
  have : (2 : Nat) ^ 32 = 4294967296 := by decide
  rw [Int.emod_eq_of_lt h1 (by omega)]
theorem xor32_is {a b : Int} (ha : W32 a) (hb : W32 b) : bitsI .xor .u32 a b = xr a b := by
  have h := xr_W ha hb
  unfold bitsI
  simp only [BitVec.toNat_xor, ofInt_toNat (show 32 ≤ IntKind.bits .u32 by decide) ha, ofInt_toNat (show 32 ≤ IntKind.bits .u32 by decide) hb]
  show IntKind.u32.wrap (xr a b) = xr a b
  obtain ⟨h1, h2⟩ := h
  rw [IntKind.wrap_u32]
  omega
theorem xor64_is {a b : Int} (ha : W32 a) (hb : W32 b) : bitsI .xor .i64 a b = xr a b := by
  have h := xr_W ha hb
  unfold bitsI
  simp only [BitVec.toNat_xor, ofInt_toNat (show 32 ≤ IntKind.bits .i64 by decide) ha, ofInt_toNat (show 32 ≤ IntKind.bits .i64 by decide) hb]
  obtain ⟨h1, h2⟩ := h
  exact w64_id (xr a b) (by omega)
theorem and32_is {a b : Int} (ha : W32 a) (hb : W32 b) : bitsI .and .u32 a b = an a b := by
  have h := an_W (b := b) ha
  unfold bitsI
  simp only [BitVec.toNat_and, ofInt_toNat (show 32 ≤ IntKind.bits .u32 by decide) ha, ofInt_toNat (show 32 ≤ IntKind.bits .u32 by decide) hb]
  show IntKind.u32.wrap (an a b) = an a b
  obtain ⟨h1, h2⟩ := h
  rw [IntKind.wrap_u32]
  omega
theorem and64_is {a b : Int} (ha : W32 a) (hb : W32 b) : bitsI .and .i64 a b = an a b := by
  have h := an_W (b := b) ha
  unfold bitsI
  simp only [BitVec.toNat_and, ofInt_toNat (show 32 ≤ IntKind.bits .i64 by decide) ha, ofInt_toNat (show 32 ≤ IntKind.bits .i64 by decide) hb]
  obtain ⟨h1, h2⟩ := h
  exact w64_id (an a b) (by omega)
/-- All bits turned. -/
theorem flip_is {e : Int} (h : W32 e) : xr 4294967295 e = 4294967295 - e := by
  have hl := toNat_lt32 h
  have : (4294967295 ^^^ e.toNat : Nat) = 2 ^ 32 - (e.toNat + 1) := by
    apply Nat.eq_of_testBit_eq
    intro i
    rw [Nat.testBit_xor, Nat.testBit_two_pow_sub_succ hl, show (4294967295 : Nat) = 2 ^ 32 - 1 by decide, Nat.testBit_two_pow_sub_one]
    by_cases hi : i < 32
    · simp [hi]
    · have : e.toNat.testBit i = false := Nat.testBit_lt_two_pow (Nat.lt_of_lt_of_le hl (Nat.pow_le_pow_right (by omega) (by omega)))
      simp [hi, this]
  obtain ⟨h1, h2⟩ := h
  unfold xr
  rw [show Int.toNat 4294967295 = 4294967295 by rfl, this]
  omega
/-- A word that is turned right. -/
def rt (x : Int) (n : Nat) : Int := x / 2 ^ n + x % 2 ^ n * 2 ^ (32 - n)
theorem rt_nat {x n : Nat} (hn : n ≤ 32) (hx : x < 2 ^ 32) : x / 2 ^ n < 2 ^ (32 - n) ∧ x / 2 ^ n + x % 2 ^ n * 2 ^ (32 - n) < 2 ^ 32 := by
  have hp : 2 ^ n * 2 ^ (32 - n) = 2 ^ 32 := by rw [← Nat.pow_add]; congr 1; omega
  have h1 : x / 2 ^ n < 2 ^ (32 - n) := Nat.div_lt_of_lt_mul (by rw [hp]; exact hx)
  refine ⟨h1, ?_⟩
  have h2 : x % 2 ^ n + 1 ≤ 2 ^ n := Nat.mod_lt _ (Nat.two_pow_pos n)
  have h3 : (x % 2 ^ n + 1) * 2 ^ (32 - n) ≤ 2 ^ 32 := by rw [← hp]; exact Nat.mul_le_mul_right _ h2
  rw [Nat.add_mul] at h3
  omega
theorem rt_cast (x n : Nat) : rt (x : Int) n = ((x / 2 ^ n + x % 2 ^ n * 2 ^ (32 - n) : Nat) : Int) := by
  unfold rt
  push_cast
  rfl
theorem W32_nat {n : Nat} (h : n < 2 ^ 32) : W32 (n : Int) := by
  have p32 : (2 : Nat) ^ 32 = 4294967296 := by decide
  exact ⟨by omega, by omega⟩
theorem rt_W {x : Int} {n : Nat} (hn : n ≤ 32) (h : W32 x) : W32 (rt x n) := by
  obtain ⟨m, rfl⟩ := Int.eq_ofNat_of_zero_le h.1
  have := (rt_nat hn (toNat_lt32 h)).2
  simp only [Int.toNat_natCast] at this
  rw [rt_cast]
  exact W32_nat this
theorem rot_or {x n : Nat} (hn : n ≤ 32) (hx : x < 2 ^ 32) : (x / 2 ^ n ||| x * 2 ^ (32 - n)) % 2 ^ 32 = x / 2 ^ n + x % 2 ^ n * 2 ^ (32 - n) := by
  have hp : 2 ^ n * 2 ^ (32 - n) = 2 ^ 32 := by rw [← Nat.pow_add]; congr 1; omega
  obtain ⟨h1, h2⟩ := rt_nat hn hx
  rw [Nat.or_mod_two_pow, Nat.mod_eq_of_lt (Nat.lt_of_le_of_lt (Nat.div_le_self _ _) hx)]
  have e : x * 2 ^ (32 - n) % 2 ^ 32 = 2 ^ (32 - n) * (x % 2 ^ n) := by rw [← hp, Nat.mul_mod_mul_right, Nat.mul_comm]
  rw [e, Nat.or_comm, ← Nat.two_pow_add_eq_or_of_lt h1, Nat.mul_comm, Nat.add_comm]
theorem turnRight_is (k : Nat) {x : Int} {n : Nat} (hn : 2 ≤ n ∧ n ≤ 31) (h : W32 x) : i_turnRight k (x, ((n : Int), ())) = some (rt x n, ((), ((), ()))) := by
  obtain ⟨m, rfl⟩ := Int.eq_ofNat_of_zero_le h.1
  have hm : m < 2 ^ 32 := by have := toNat_lt32 h; simpa using this
  unfold i_turnRight
  have w : wi64 ((32 : Int) - (n : Int)) = ((32 - n : Nat) : Int) := (w64_id _ (by omega)).trans (by omega)
  have c1 : ¬ (n : Int) < 0 := by omega
  have c2 : ¬ ((32 - n : Nat) : Int) < 0 := by omega
  have m1 : min (Int.toNat (n : Int)) (IntKind.bits .i64) = n := by show min n 64 = n; omega
  have m2 : min (Int.toNat ((32 - n : Nat) : Int)) (IntKind.bits .i64) = 32 - n := by show min (32 - n) 64 = _; omega
  have hy : m * 2 ^ (32 - n) < 2 ^ 62 := by
    have a1 : 2 ^ (32 - n) ≤ 2 ^ 30 := Nat.pow_le_pow_right (by omega) (by omega)
    calc m * 2 ^ (32 - n) ≤ m * 2 ^ 30 := Nat.mul_le_mul_left _ a1
      _ < 2 ^ 32 * 2 ^ 30 := Nat.mul_lt_mul_of_pos_right hm (by decide)
      _ = 2 ^ 62 := by decide
  have hz : m / 2 ^ n < 2 ^ 32 := Nat.lt_of_le_of_lt (Nat.div_le_self _ _) hm
  have p62 : (2 : Nat) ^ 62 = 4611686018427387904 := by decide
  have p32 : (2 : Nat) ^ 32 = 4294967296 := by decide
  have e1 : Int.fdiv (m : Int) (2 ^ n) = ((m / 2 ^ n : Nat) : Int) := by
    have : ((2 : Int) ^ n) = ((2 ^ n : Nat) : Int) := by push_cast; rfl
    rw [this, Int.fdiv_eq_ediv_of_nonneg _ (Int.natCast_nonneg _)]
    rfl
  have e2 : wi64 ((m : Int) * 2 ^ (32 - n)) = ((m * 2 ^ (32 - n) : Nat) : Int) := by
    have : ((m : Int) * 2 ^ (32 - n)) = ((m * 2 ^ (32 - n) : Nat) : Int) := by rw [Int.natCast_mul, Int.natCast_pow]; rfl
    rw [this]
    exact w64_id _ (by omega)
  have e3 : bitsI .or .i64 ((m / 2 ^ n : Nat) : Int) ((m * 2 ^ (32 - n) : Nat) : Int) = ((m / 2 ^ n ||| m * 2 ^ (32 - n) : Nat) : Int) := (bits_nat .i64 63 (by decide) wraps_i64 _ _ (by omega) (by omega)).2
  have ho : m / 2 ^ n ||| m * 2 ^ (32 - n) < 2 ^ 62 := Nat.or_lt_two_pow (by omega) hy
  have e4 : bitsI .and .i64 ((m / 2 ^ n ||| m * 2 ^ (32 - n) : Nat) : Int) 4294967295 = (((m / 2 ^ n ||| m * 2 ^ (32 - n)) % 2 ^ 32 : Nat) : Int) := by
    have := and_mask 32 (by omega) ((m / 2 ^ n ||| m * 2 ^ (32 - n) : Nat) : Int) (by omega) (by omega)
    rw [show ((2 : Int) ^ 32 - 1) = 4294967295 by decide] at this
    rw [this]
    rfl
  simp only [w, c1, c2, m1, m2, e1, e2, e3, e4, if_false]
  rw [rot_or (by omega) hm, rt_cast]
theorem W32_four {n : Int} (h : W32 n) : n / 16777216 % 256 * 16777216 + n / 65536 % 256 * 65536 + n / 256 % 256 * 256 + n % 256 = n := by
  obtain ⟨h1, h2⟩ := h
  omega
def wd : List Int → List Int
  | a :: b :: c :: d :: r => (a * 16777216 + b * 65536 + c * 256 + d) :: wd r
  | _ => []
theorem wd_W : ∀ {l : List Int}, isB l → allW (wd l)
  | a :: b :: c :: d :: r, h => by
    simp only [isB_cons] at h
    obtain ⟨h1, h2, h3, h4, h5⟩ := h
    intro x hx
    rw [wd, List.mem_cons] at hx
    rcases hx with rfl | hx
    · unfold W32; omega
    · exact wd_W h5 x hx
  | [], _ => by simp [wd, allW]
  | [_], _ => by simp [wd, allW]
  | [_, _], _ => by simp [wd, allW]
  | [_, _, _], _ => by simp [wd, allW]
theorem wd_len : ∀ (l : List Int), (wd l).length = l.length / 4
  | a :: b :: c :: d :: r => by simp only [wd, List.length_cons, wd_len r]; omega
  | [] => by simp [wd]
  | [_] => by simp [wd]
  | [_, _] => by simp [wd]
  | [_, _, _] => by simp [wd]
theorem allW_cons {x : Int} {l : List Int} : allW (x :: l) ↔ W32 x ∧ allW l := by simp [allW]
theorem allW_append {a b : List Int} : allW (a ++ b) ↔ allW a ∧ allW b := by
  simp only [allW, List.mem_append]
  exact ⟨fun h => ⟨fun x hx => h x (.inl hx), fun x hx => h x (.inr hx)⟩, fun h x hx => hx.elim (h.1 x) (h.2 x)⟩
/-- A list's place. -/
def rdI (l : List Int) (i : Int) : Int := l.getD i.toNat 0
theorem rdI_is (k : IntKind) (l : List Int) (i : Int) : Ty.rd (t := .int k) l i = rdI l i := rfl
theorem rdI_get (l : List Int) (i : Nat) (h : i < l.length) : rdI l (i : Int) = l[i] := by simp [rdI, List.getD, h]
/-- The bytes of words. -/
def fl (l : List Int) : List Int := l.flatMap four
theorem fl_cons (x : Int) (l : List Int) : fl (x :: l) = four x ++ fl l := List.flatMap_cons ..
theorem fl_isB (l : List Int) : isB (fl l) := by
  induction l with
  | nil => exact isB_nil
  | cons x l ih => rw [fl_cons, isB_append]; exact ⟨four_isB x, ih⟩
theorem fl_len (l : List Int) : (fl l).length = 4 * l.length := by
  induction l with
  | nil => rfl
  | cons x l ih => rw [fl_cons, List.length_append, ih, List.length_cons]; simp only [four, List.length_cons, List.length_nil]; omega
theorem wd_fl : ∀ {l : List Int}, allW l → wd (fl l) = l
  | [], _ => rfl
  | x :: l, h => by
    obtain ⟨h1, h2⟩ := allW_cons.1 h
    rw [fl_cons]
    unfold four
    simp only [List.cons_append, List.nil_append, wd, wd_fl h2, W32_four h1]
theorem drop_four (s : ByteArray) (i : Nat) (h : i + 4 ≤ s.size) : (bytesOf s).drop i = bt s (i : Int) :: bt s ((i + 1 : Nat) : Int) :: bt s ((i + 2 : Nat) : Int) :: bt s ((i + 3 : Nat) : Int) :: (bytesOf s).drop (i + 4) := by
  have hl := bytesOf_len s
  rw [List.drop_eq_getElem_cons (by omega), List.drop_eq_getElem_cons (by omega), List.drop_eq_getElem_cons (by omega), List.drop_eq_getElem_cons (by omega), bt_get s i (by omega), bt_get s (i + 1) (by omega), bt_get s (i + 2) (by omega), bt_get s (i + 3) (by omega)]
/-- The loop over words. -/
theorem words_loop {R : Type} {step : (ByteArray × List Int × Int × Unit → Option R) → ByteArray × List Int × Int × Unit → Option R} (s : ByteArray) (fin : List Int → Option R) (hs : s.size ≤ 2097152)
    (h1 : ∀ again (out : List Int) (i : Nat), i + 4 ≤ s.size → out.length ≤ 2097152 → step again (s, (out, ((i : Int), ()))) = again (s, (out ++ [bt s (i : Int) * 16777216 + bt s ((i + 1 : Nat) : Int) * 65536 + bt s ((i + 2 : Nat) : Int) * 256 + bt s ((i + 3 : Nat) : Int)], (((i + 4 : Nat) : Int), ()))))
    (h2 : ∀ again (out : List Int) (i : Nat), ¬ i + 4 ≤ s.size → i ≤ s.size → step again (s, (out, ((i : Int), ()))) = fin out) :
    ∀ (n i : Nat) (out : List Int) (k : Nat), i ≤ s.size → s.size - i = n → out.length ≤ i → n < k → whileK step k (s, (out, ((i : Int), ()))) = fin (out ++ wd ((bytesOf s).drop i)) := by
  intro n
  induction n using Nat.strongRecOn with
  | ind n ih =>
    intro i out k hi hn ho hk
    obtain ⟨k, rfl⟩ : ∃ k', k = k' + 1 := ⟨k - 1, by omega⟩
    show step _ _ = _
    by_cases c : i + 4 ≤ s.size
    · rw [h1 _ _ _ c (by omega), ih (s.size - (i + 4)) (by omega) (i + 4) _ k c rfl (by simp; omega) (by omega), drop_four s i c, wd, List.append_assoc]
      rfl
    · rw [h2 _ _ _ c hi]
      have hl : ((bytesOf s).drop i).length < 4 := by rw [List.length_drop, bytesOf_len]; omega
      have : wd ((bytesOf s).drop i) = [] := List.eq_nil_of_length_eq_zero (by rw [wd_len]; omega)
      rw [this, List.append_nil]
theorem bt_extract (s : ByteArray) (a b j : Nat) (h : b ≤ s.size) (hj : a + j < b) : bt (s.extract a b) (j : Int) = bt s ((a + j : Nat) : Int) := by
  have hsz : (s.extract a b).size = b - a := by rw [ByteArray.size_extract]; omega
  rw [bt_get _ j (by omega), bt_get s (a + j) (by omega)]
  have : (bytesOf (s.extract a b))[j]? = (bytesOf s)[a + j]? := by
    rw [bytesOf_extract, List.getElem?_drop, List.getElem?_take]
    simp [hj]
  rw [List.getElem?_eq_getElem (by rw [bytesOf_len]; omega), List.getElem?_eq_getElem (by rw [bytesOf_len]; omega)] at this
  exact Option.some.inj this
theorem i_wordsOf_is (k : Nat) (s : ByteArray) (hs : s.size ≤ 2097152) (hk : s.size < k) : i_wordsOf k (s, ()) = some (wd (bytesOf s), ((), ())) := by
  unfold i_wordsOf
  refine (words_loop s (fun l => (some (l, ((), ())) : Option (List Int × Unit × Unit))) hs ?_ ?_ s.size 0 [] k (by omega) (by omega) (by simp) hk).trans ?_
  · intro again out i hi ho
    have w : wi64 ((i : Int) + 4) = ((i + 4 : Nat) : Int) := (w64_id _ (by omega)).trans (by omega)
    have c1 : ((i + 4 : Nat) : Int) ≤ (s.size : Int) := by omega
    have c2 : (0 : Int) ≤ ((i + 4 : Nat) : Int) ∧ ((i + 4 : Nat) : Int) ≤ (s.size : Int) := by omega
    have c3 : (0 : Int) ≤ (i : Int) ∧ (i : Int) ≤ ((i + 4 : Nat) : Int) := by omega
    have hsz : (s.extract i (i + 4)).size = 4 := by rw [ByteArray.size_extract]; omega
    have hc : out.length + 1 ≤ capMax := cap_ok _ _ (by omega)
    have b0 := bt_extract s i (i + 4) 0 (by omega) (by omega)
    have b1 := bt_extract s i (i + 4) 1 (by omega) (by omega)
    have b2 := bt_extract s i (i + 4) 2 (by omega) (by omega)
    have b3 := bt_extract s i (i + 4) 3 (by omega) (by omega)
    simp only [Nat.add_zero] at b0 b1 b2 b3
    have b0' : bt (s.extract i (i + 4)) 0 = bt s (i : Int) := b0
    have b1' : bt (s.extract i (i + 4)) 1 = bt s ((i + 1 : Nat) : Int) := b1
    have b2' : bt (s.extract i (i + 4)) 2 = bt s ((i + 2 : Nat) : Int) := b2
    have b3' : bt (s.extract i (i + 4)) 3 = bt s ((i + 3 : Nat) : Int) := b3
    simp only [w, c1, c2, c3, Int.toNat_natCast, i_ReadNumber_is, hsz, hc, b0', b1', b2', b3', and_self, decide_true, if_true, Option.bind_some, List.length_singleton]
  · intro again out i hi hi2
    have w : wi64 ((i : Int) + 4) = ((i + 4 : Nat) : Int) := (w64_id _ (by omega)).trans (by omega)
    have c1 : ¬ ((i + 4 : Nat) : Int) ≤ (s.size : Int) := by omega
    simp only [w, c1, decide_false, Bool.false_eq_true, if_false]
  · rfl
theorem l04Word_is (k : Nat) (s : ByteArray) (i : Nat) (hs : s.size ≤ 2097152) (h : i + 4 ≤ s.size) : s_l04Word k (s, ((i : Int), ())) = some (bt s (i : Int) * 16777216 + bt s ((i + 1 : Nat) : Int) * 65536 + bt s ((i + 2 : Nat) : Int) * 256 + bt s ((i + 3 : Nat) : Int), ((), ((), ()))) := by
  unfold s_l04Word
  have w1 : wi64 ((i : Int) + 1) = ((i + 1 : Nat) : Int) := (w64_id _ (by omega)).trans (by omega)
  have w2 : wi64 ((i : Int) + 2) = ((i + 2 : Nat) : Int) := (w64_id _ (by omega)).trans (by omega)
  have w3 : wi64 ((i : Int) + 3) = ((i + 3 : Nat) : Int) := (w64_id _ (by omega)).trans (by omega)
  have c0 : (0 : Int) ≤ (i : Int) ∧ (i : Int) < (s.size : Int) := by omega
  have c1 : (0 : Int) ≤ ((i + 1 : Nat) : Int) ∧ ((i + 1 : Nat) : Int) < (s.size : Int) := by omega
  have c2 : (0 : Int) ≤ ((i + 2 : Nat) : Int) ∧ ((i + 2 : Nat) : Int) < (s.size : Int) := by omega
  have c3 : (0 : Int) ≤ ((i + 3 : Nat) : Int) ∧ ((i + 3 : Nat) : Int) < (s.size : Int) := by omega
  simp only [w1, w2, w3, c0, c1, c2, c3, and_self, if_true]
  have a0 := bt_ge s (i : Int); have a1 := bt_ge s ((i + 1 : Nat) : Int); have a2 := bt_ge s ((i + 2 : Nat) : Int); have a3 := bt_ge s ((i + 3 : Nat) : Int)
  have b0 := bt_le s (i : Int); have b1 := bt_le s ((i + 1 : Nat) : Int); have b2 := bt_le s ((i + 2 : Nat) : Int); have b3 := bt_le s ((i + 3 : Nat) : Int)
  generalize bt s (i : Int) = q0 at *
  generalize bt s ((i + 1 : Nat) : Int) = q1 at *
  generalize bt s ((i + 2 : Nat) : Int) = q2 at *
  generalize bt s ((i + 3 : Nat) : Int) = q3 at *
  congr 2
  simp only [wu32, IntKind.wrap_u32]
  omega
theorem l04Words_is (k : Nat) (s : ByteArray) (hs : s.size ≤ 2097152) (hk : s.size < k) : s_l04Words k (s, ()) = some (wd (bytesOf s), ((), ())) := by
  unfold s_l04Words
  refine (words_loop s (fun l => (some (l, ((), ())) : Option (List Int × Unit × Unit))) hs ?_ ?_ s.size 0 [] k (by omega) (by omega) (by simp) hk).trans ?_
  · intro again out i hi ho
    have w : wi64 ((i : Int) + 4) = ((i + 4 : Nat) : Int) := (w64_id _ (by omega)).trans (by omega)
    have c1 : ((i + 4 : Nat) : Int) ≤ (s.size : Int) := by omega
    have hc : out.length + 1 ≤ capMax := cap_ok _ _ (by omega)
    simp only [w, c1, l04Word_is k s i hs hi, hc, decide_true, if_true, Option.bind_some, List.length_singleton]
  · intro again out i hi hi2
    have w : wi64 ((i : Int) + 4) = ((i + 4 : Nat) : Int) := (w64_id _ (by omega)).trans (by omega)
    have c1 : ¬ ((i + 4 : Nat) : Int) ≤ (s.size : Int) := by omega
    simp only [w, c1, decide_false, Bool.false_eq_true, if_false]
  · rfl
/-- A word's bytes. -/
theorem NumberText_is (k : Nat) {n : Int} (h : W32 n) : i_NumberText k (n, ()) = some (strOf (four n), ((), ())) := by
  obtain ⟨h0, h1⟩ := h
  unfold i_NumberText four
  have c : (0 : Int) ≤ n ∧ n ≤ 4294967295 := by omega
  have e24 : Int.fdiv n (2 ^ (min (Int.toNat (24 : Int)) (IntKind.bits .i64))) = n / 16777216 := by rw [Int.fdiv_eq_ediv_of_nonneg _ (by decide)]; rfl
  have e16 : Int.fdiv n (2 ^ (min (Int.toNat (16 : Int)) (IntKind.bits .i64))) = n / 65536 := by rw [Int.fdiv_eq_ediv_of_nonneg _ (by decide)]; rfl
  have e8 : Int.fdiv n (2 ^ (min (Int.toNat (8 : Int)) (IntKind.bits .i64))) = n / 256 := by rw [Int.fdiv_eq_ediv_of_nonneg _ (by decide)]; rfl
  have a8 : ∀ m : Int, 0 ≤ m → m < 4294967296 → wu8 (bitsI .and .i64 m 255) = m % 256 := fun m h0 h1 => by
    have := and_mask 8 (by omega) m h0 (by omega)
    rw [show ((2 : Int) ^ 8 - 1) = 255 by decide, show ((2 : Int) ^ 8) = 256 by decide] at this
    rw [this]
    exact (w8_mod _).trans (by omega)
  simp only [within_is, c, e24, e16, e8, and_self, decide_true, Bool.not_true, Bool.false_eq_true, if_false, Option.bind_some]
  rw [a8 n (by omega) (by omega), a8 (n / 256) (by omega) (by omega), a8 (n / 65536) (by omega) (by omega), a8 (n / 16777216) (by omega) (by omega)]
theorem fl_append (a b : List Int) : fl (a ++ b) = fl a ++ fl b := by simp [fl]
theorem fl_take_succ (l : List Int) (i : Nat) (h : i < l.length) : fl (l.take (i + 1)) = fl (l.take i) ++ four (rdI l (i : Int)) := by
  rw [List.take_succ_eq_append_getElem h, fl_append, rdI_get l i h]
  simp [fl]
theorem i_wordsText_is (k : Nat) (l : List Int) (hl : l.length ≤ 1000) (hw : allW l) (hk : l.length < k) : i_wordsText k (l, ()) = some (strOf (fl l), ((), ())) := by
  unfold i_wordsText
  refine (run_loop (A := Unit) (fun i _ => (strOf (fl (l.take i)), (l, ((l.length : Int), ((i : Int), ()))))) l.length (fun _ _ => ()) (fun _ => some (strOf (fl l), ((), ()))) (fun _ _ => True) ?_ ?_ l.length 0 () k (by omega) trivial hk).trans rfl
  · intro again i _ hi _
    have c1 : (i : Int) < (l.length : Int) := by omega
    have c2 : (0 : Int) ≤ (i : Int) := by omega
    have w1 : wi64 ((i : Int) + 1) = ((i + 1 : Nat) : Int) := (w64_id _ (by omega)).trans (by omega)
    have hW : W32 (rdI l (i : Int)) := by rw [rdI_get l i hi]; exact hw _ (List.getElem_mem _)
    have hsz : (strOf (fl (l.take i))).size + (strOf (four (rdI l (i : Int)))).size ≤ maxStr := max_ok _ _ (by rw [strOf_len, strOf_len, fl_len, List.length_take]; simp only [four, List.length_cons, List.length_nil]; omega)
    refine ⟨?_, trivial⟩
    simp only [c1, c2, w1, rdI_is, NumberText_is k hW, hsz, fl_take_succ l i hi, strOf_append, and_self, decide_true, if_true, Option.bind_some]
  · intro again _ _
    simp [List.take_of_length_le]
theorem l04Bytes_is (k : Nat) (l : List Int) (hl : l.length ≤ 1000) (hw : allW l) (hk : l.length < k) : s_l04Bytes k (l, ()) = some (strOf (fl l), ((), ())) := by
  unfold s_l04Bytes
  refine (run_loop (A := Unit) (fun i _ => (l, (fl (l.take i), ((i : Int), ())))) l.length (fun _ _ => ()) (fun _ => some (strOf (fl l), ((), ()))) (fun _ _ => True) ?_ ?_ l.length 0 () k (by omega) trivial hk).trans rfl
  · intro again i _ hi _
    have c1 : (i : Int) < (l.length : Int) := by omega
    have c2 : (0 : Int) ≤ (i : Int) := by omega
    have w1 : wi64 ((i : Int) + 1) = ((i + 1 : Nat) : Int) := (w64_id _ (by omega)).trans (by omega)
    have hW : W32 (rdI l (i : Int)) := by rw [rdI_get l i hi]; exact hw _ (List.getElem_mem _)
    obtain ⟨g0, g1⟩ := hW
    have e : [(wu8 ((wu32 (Int.tdiv (rdI l (i : Int)) (16777216 : Int))))), (wu8 ((Int.tmod (wu32 (Int.tdiv (rdI l (i : Int)) (65536 : Int))) (256 : Int)))), (wu8 ((Int.tmod (wu32 (Int.tdiv (rdI l (i : Int)) (256 : Int))) (256 : Int)))), (wu8 ((Int.tmod (rdI l (i : Int)) (256 : Int))))] = four (rdI l (i : Int)) := by
      have u : ∀ m : Int, 0 ≤ m → m < 4294967296 → wu32 m = m := fun m a b => by show IntKind.u32.wrap m = m; rw [IntKind.wrap_u32]; omega
      rw [Int.tdiv_eq_ediv_of_nonneg g0, Int.tdiv_eq_ediv_of_nonneg g0, Int.tdiv_eq_ediv_of_nonneg g0, u _ (by omega) (by omega), u _ (by omega) (by omega), u _ (by omega) (by omega), Int.tmod_eq_emod_of_nonneg (by omega), Int.tmod_eq_emod_of_nonneg (by omega), Int.tmod_eq_emod_of_nonneg (by omega)]
      unfold four
      simp only [wu8, w8_mod, Int.emod_emod]
    have hsz : (fl (l.take i)).length + (four (rdI l (i : Int))).length ≤ capMax := cap_ok _ _ (by rw [fl_len, List.length_take]; simp only [four, List.length_cons, List.length_nil]; omega)
    refine ⟨?_, trivial⟩
    simp only [c1, c2, w1, rdI_is, e, hsz, fl_take_succ l i hi, and_self, decide_true, if_true]
  · intro again _ _
    simp [List.take_of_length_le]
def sg (a b : Nat) (c : Int) (x : Int) : Int := xr (xr (rt x a) (rt x b)) (x / c)
def bs (a b c : Nat) (x : Int) : Int := xr (xr (rt x a) (rt x b)) (rt x c)
def chI (e f g : Int) : Int := xr (an e f) (an (4294967295 - e) g)
def mjI (a b c : Int) : Int := xr (xr (an a b) (an a c)) (an b c)
theorem div_W {x c : Int} (h : W32 x) (hc : 0 < c) : W32 (x / c) := by
  obtain ⟨h0, h1⟩ := h
  exact ⟨Int.ediv_nonneg h0 (by omega), Int.lt_of_le_of_lt (Int.ediv_le_self _ h0) h1⟩
theorem sg_W {a b : Nat} {c x : Int} (ha : a ≤ 32) (hb : b ≤ 32) (hc : 0 < c) (h : W32 x) : W32 (sg a b c x) := xr_W (xr_W (rt_W ha h) (rt_W hb h)) (div_W h hc)
theorem bs_W {a b c : Nat} {x : Int} (ha : a ≤ 32) (hb : b ≤ 32) (hc : c ≤ 32) (h : W32 x) : W32 (bs a b c x) := xr_W (xr_W (rt_W ha h) (rt_W hb h)) (rt_W hc h)
theorem flip_W {e : Int} (h : W32 e) : W32 (4294967295 - e) := by obtain ⟨h0, h1⟩ := h; exact ⟨by omega, by omega⟩
theorem ch_W {e f g : Int} (he : W32 e) : W32 (chI e f g) := xr_W (an_W he) (an_W (flip_W he))
theorem mj_W {a b c : Int} (ha : W32 a) (hb : W32 b) : W32 (mjI a b c) := xr_W (xr_W (an_W ha) (an_W ha)) (an_W hb)
theorem mod_W (x : Int) : W32 (x % 4294967296) := ⟨by omega, by omega⟩
theorem u32_is (n : Int) : wu32 n = n % 4294967296 := IntKind.wrap_u32 n
theorem mask_is {n : Int} (h0 : 0 ≤ n) (h1 : n < 9223372036854775808) : bitsI .and .i64 n 4294967295 = n % 4294967296 := by
  have := and_mask 32 (by omega) n h0 (by omega)
  rw [show ((2 : Int) ^ 32 - 1) = 4294967295 by decide, show ((2 : Int) ^ 32) = 4294967296 by decide] at this
  exact this
theorem l04Right_is (k : Nat) {x lo hi : Int} {n : Nat} (hn : n ≤ 32) (hlo : lo = 2 ^ n) (hhi : hi = 2 ^ (32 - n)) (h : W32 x) : s_l04Right k (x, (lo, (hi, ()))) = some (rt x n, ((), ((), ((), ())))) := by
  have hW := rt_W hn h
  obtain ⟨m, rfl⟩ := Int.eq_ofNat_of_zero_le h.1
  have hm : m < 2 ^ 32 := by have := toNat_lt32 h; simpa using this
  obtain ⟨q1, q2⟩ := rt_nat hn hm
  have p32 : (2 : Nat) ^ 32 = 4294967296 := by decide
  have hlo' : lo = ((2 ^ n : Nat) : Int) := by rw [hlo, Int.natCast_pow]; rfl
  have hhi' : hi = ((2 ^ (32 - n) : Nat) : Int) := by rw [hhi, Int.natCast_pow]; rfl
  have hpos := Nat.two_pow_pos n
  have c : ¬ lo = 0 := by omega
  have e1 : Int.tdiv (m : Int) lo = ((m / 2 ^ n : Nat) : Int) := by rw [Int.tdiv_eq_ediv_of_nonneg (by omega), hlo']; rfl
  have e2 : Int.tmod (m : Int) lo * hi = ((m % 2 ^ n * 2 ^ (32 - n) : Nat) : Int) := by rw [Int.tmod_eq_emod_of_nonneg (by omega), hlo', hhi', Int.natCast_mul]; rfl
  unfold s_l04Right
  simp only [c, e1, e2, u32_is, if_false]
  rw [rt_cast]
  generalize m / 2 ^ n = A at *
  generalize m % 2 ^ n * 2 ^ (32 - n) = B at *
  congr 2
  omega
theorem sgS_is (k : Nat) {x lo1 lo2 c : Int} {a b : Nat} (ha : a ≤ 31 ∧ 1 ≤ a) (hb : b ≤ 31 ∧ 1 ≤ b) (h1 : lo1 = 2 ^ a) (h2 : lo2 = 2 ^ b) (h3 : wu32 (wu32 (Int.tdiv 2147483648 lo1) * 2) = 2 ^ (32 - a)) (h4 : wu32 (wu32 (Int.tdiv 2147483648 lo2) * 2) = 2 ^ (32 - b)) (hc : 0 < c) (h : W32 x) :
    s_l04S k (x, (lo1, (lo2, (c, (true, ()))))) = some (sg a b c x, ((), ((), ((), ((), ((), ())))))) := by
  have p1 : ¬ lo1 = 0 := by rw [h1]; have := Int.pow_pos (n := 2) (m := a) (by decide); omega
  have p2 : ¬ lo2 = 0 := by rw [h2]; have := Int.pow_pos (n := 2) (m := b) (by decide); omega
  have p3 : ¬ c = 0 := by omega
  have e : wu32 (Int.tdiv x c) = x / c := by
    have := div_W h hc
    obtain ⟨q1, q2⟩ := this
    rw [Int.tdiv_eq_ediv_of_nonneg h.1, u32_is]
    omega
  unfold s_l04S
  simp only [p1, p2, p3, h3, h4, l04Right_is k (by omega) h1 rfl h, l04Right_is k (by omega) h2 rfl h, e, Bool.not_true, Bool.false_eq_true, if_false, Option.bind_some]
  rw [xor32_is (rt_W (by omega) h) (rt_W (by omega) h), xor32_is (xr_W (rt_W (by omega) h) (rt_W (by omega) h)) (div_W h hc)]
  rfl
theorem bsS_is (k : Nat) {x lo1 lo2 lo3 : Int} {a b c : Nat} (ha : a ≤ 31 ∧ 1 ≤ a) (hb : b ≤ 31 ∧ 1 ≤ b) (hc : c ≤ 31 ∧ 1 ≤ c) (h1 : lo1 = 2 ^ a) (h2 : lo2 = 2 ^ b) (h3 : lo3 = 2 ^ c) (h4 : wu32 (wu32 (Int.tdiv 2147483648 lo1) * 2) = 2 ^ (32 - a)) (h5 : wu32 (wu32 (Int.tdiv 2147483648 lo2) * 2) = 2 ^ (32 - b))
    (h6 : wu32 (wu32 (Int.tdiv 2147483648 lo3) * 2) = 2 ^ (32 - c)) (h : W32 x) :
    s_l04S k (x, (lo1, (lo2, (lo3, (false, ()))))) = some (bs a b c x, ((), ((), ((), ((), ((), ())))))) := by
  have p1 : ¬ lo1 = 0 := by rw [h1]; have := Int.pow_pos (n := 2) (m := a) (by decide); omega
  have p2 : ¬ lo2 = 0 := by rw [h2]; have := Int.pow_pos (n := 2) (m := b) (by decide); omega
  have p3 : ¬ lo3 = 0 := by rw [h3]; have := Int.pow_pos (n := 2) (m := c) (by decide); omega
  unfold s_l04S
  simp only [p1, p2, p3, h4, h5, h6, l04Right_is k (by omega) h1 rfl h, l04Right_is k (by omega) h2 rfl h, l04Right_is k (by omega) h3 rfl h, Bool.not_false, if_true, if_false, Option.bind_some]
  rw [xor32_is (rt_W (by omega) h) (rt_W (by omega) h), xor32_is (xr_W (rt_W (by omega) h) (rt_W (by omega) h)) (rt_W (by omega) h)]
  rfl
/-- The next word of a block. -/
def exW (w : List Int) (t : Nat) : Int := (sg 17 19 1024 (rdI w ((t - 2 : Nat) : Int)) + rdI w ((t - 7 : Nat) : Int) + sg 7 18 8 (rdI w ((t - 15 : Nat) : Int)) + rdI w ((t - 16 : Nat) : Int)) % 4294967296
def exG (t : Nat) (w : List Int) : List Int := w ++ [exW w t]
def exL (w : List Int) : List Int := iterN exG 48 16 w
theorem rdI_W {l : List Int} (h : allW l) {i : Nat} (hi : i < l.length) : W32 (rdI l (i : Int)) := by rw [rdI_get l i hi]; exact h _ (List.getElem_mem _)
theorem exG_inv {t : Nat} {w : List Int} (h : w.length = t ∧ allW w) : (exG t w).length = t + 1 ∧ allW (exG t w) := by
  refine ⟨by simp [exG, h.1], ?_⟩
  unfold exG
  rw [allW_append]
  exact ⟨h.2, allW_cons.2 ⟨mod_W _, by intro x hx; cases hx⟩⟩
theorem exL_inv {w : List Int} (h : w.length = 16 ∧ allW w) : (exL w).length = 64 ∧ allW (exL w) :=
  iterN_inv exG (fun t w => w.length = t ∧ allW w) 64 (fun _ _ _ h => exG_inv h) 48 16 w (by omega) h
theorem ex_step {w : List Int} {t : Nat} (ht : 16 ≤ t ∧ t < 64) (h : w.length = t ∧ allW w) : W32 (rdI w ((t - 2 : Nat) : Int)) ∧ W32 (rdI w ((t - 7 : Nat) : Int)) ∧ W32 (rdI w ((t - 15 : Nat) : Int)) ∧ W32 (rdI w ((t - 16 : Nat) : Int)) ∧
    wi64 ((t : Int) - 2) = ((t - 2 : Nat) : Int) ∧ wi64 ((t : Int) - 7) = ((t - 7 : Nat) : Int) ∧ wi64 ((t : Int) - 15) = ((t - 15 : Nat) : Int) ∧ wi64 ((t : Int) - 16) = ((t - 16 : Nat) : Int) ∧ wi64 ((t : Int) + 1) = ((t + 1 : Nat) : Int) ∧
    (((t - 2 : Nat) : Int) < (w.length : Int) ∧ ((t - 7 : Nat) : Int) < (w.length : Int) ∧ ((t - 15 : Nat) : Int) < (w.length : Int) ∧ ((t - 16 : Nat) : Int) < (w.length : Int)) :=
  ⟨rdI_W h.2 (by omega), rdI_W h.2 (by omega), rdI_W h.2 (by omega), rdI_W h.2 (by omega), (w64_id _ (by omega)).trans (by omega), (w64_id _ (by omega)).trans (by omega), (w64_id _ (by omega)).trans (by omega), (w64_id _ (by omega)).trans (by omega), (w64_id _ (by omega)).trans (by omega), by omega, by omega, by omega, by omega⟩
theorem sgI_is {a b : Nat} {c x : Int} (ha : a ≤ 32) (hb : b ≤ 32) (hc : 0 < c) (h : W32 x) : bitsI .xor .i64 (bitsI .xor .i64 (rt x a) (rt x b)) (x / c) = sg a b c x := by
  rw [xor64_is (rt_W ha h) (rt_W hb h), xor64_is (xr_W (rt_W ha h) (rt_W hb h)) (div_W h hc)]
  rfl
theorem bsI_is {a b c : Nat} {x : Int} (ha : a ≤ 32) (hb : b ≤ 32) (hc : c ≤ 32) (h : W32 x) : bitsI .xor .i64 (bitsI .xor .i64 (rt x a) (rt x b)) (rt x c) = bs a b c x := by
  rw [xor64_is (rt_W ha h) (rt_W hb h), xor64_is (xr_W (rt_W ha h) (rt_W hb h)) (rt_W hc h)]
  rfl
theorem expanded_is (k : Nat) (s : ByteArray) (hs : s.size = 64) (hk : 1048576 < k) : i_expanded k (s, ()) = some (exL (wd (bytesOf s)), ((), ())) := by
  unfold i_expanded
  simp only [i_wordsOf_is k s (by omega) (by omega), Option.bind_some]
  have h0 : (wd (bytesOf s)).length = 16 ∧ allW (wd (bytesOf s)) := ⟨by rw [wd_len, bytesOf_len, hs], wd_W (bytesOf_isB s)⟩
  refine (run_loop (A := List Int) (fun i w => (w, ((i : Int), ()))) 64 exG (fun w => some (w, ((), ()))) (fun t w => 16 ≤ t ∧ w.length = t ∧ allW w) ?_ ?_ 48 16 _ k (by omega) ⟨by omega, h0⟩ (by omega)).trans rfl
  · intro again t w ht hw
    obtain ⟨g2, g7, g15, g16, e2, e7, e15, e16, e1, c2, c7, c15, c16⟩ := ex_step ⟨hw.1, ht⟩ hw.2
    have c : (t : Int) < 64 := by omega
    refine ⟨?_, by omega, exG_inv hw.2⟩
    have hc : w.length + 1 ≤ capMax := cap_ok _ _ (by omega)
    have nn : ∀ m : Nat, (0 : Int) ≤ (m : Int) := fun m => Int.natCast_nonneg m
    have t7 : i_turnRight k (rdI w ((t - 15 : Nat) : Int), ((7 : Int), ())) = _ := turnRight_is k (n := 7) (by omega) g15
    have t18 : i_turnRight k (rdI w ((t - 15 : Nat) : Int), ((18 : Int), ())) = _ := turnRight_is k (n := 18) (by omega) g15
    have t17 : i_turnRight k (rdI w ((t - 2 : Nat) : Int), ((17 : Int), ())) = _ := turnRight_is k (n := 17) (by omega) g2
    have t19 : i_turnRight k (rdI w ((t - 2 : Nat) : Int), ((19 : Int), ())) = _ := turnRight_is k (n := 19) (by omega) g2
    have f3 : ∀ x : Int, Int.fdiv x (2 ^ (min (Int.toNat (3 : Int)) (IntKind.bits .i64))) = x / 8 := fun x => by rw [Int.fdiv_eq_ediv_of_nonneg _ (by decide)]; rfl
    have f10 : ∀ x : Int, Int.fdiv x (2 ^ (min (Int.toNat (10 : Int)) (IntKind.bits .i64))) = x / 1024 := fun x => by rw [Int.fdiv_eq_ediv_of_nonneg _ (by decide)]; rfl
    have s0 := sgI_is (a := 7) (b := 18) (c := 8) (by omega) (by omega) (by omega) g15
    have s1 := sgI_is (a := 17) (b := 19) (c := 1024) (by omega) (by omega) (by omega) g2
    obtain ⟨x0, x1⟩ := sg_W (a := 7) (b := 18) (c := 8) (by omega) (by omega) (by omega) g15
    obtain ⟨y0, y1⟩ := sg_W (a := 17) (b := 19) (c := 1024) (by omega) (by omega) (by omega) g2
    obtain ⟨u0, u1⟩ := g7
    obtain ⟨v0, v1⟩ := g16
    have hm : bitsI .and .i64 (wi64 (wi64 (wi64 (sg 17 19 1024 (rdI w ((t - 2 : Nat) : Int)) + rdI w ((t - 7 : Nat) : Int)) + sg 7 18 8 (rdI w ((t - 15 : Nat) : Int))) + rdI w ((t - 16 : Nat) : Int))) 4294967295 = exW w t := by
      rw [show wi64 (sg 17 19 1024 (rdI w ((t - 2 : Nat) : Int)) + rdI w ((t - 7 : Nat) : Int)) = _ from w64_id _ (by omega), show wi64 (sg 17 19 1024 (rdI w ((t - 2 : Nat) : Int)) + rdI w ((t - 7 : Nat) : Int) + sg 7 18 8 (rdI w ((t - 15 : Nat) : Int))) = _ from w64_id _ (by omega),
        show wi64 (sg 17 19 1024 (rdI w ((t - 2 : Nat) : Int)) + rdI w ((t - 7 : Nat) : Int) + sg 7 18 8 (rdI w ((t - 15 : Nat) : Int)) + rdI w ((t - 16 : Nat) : Int)) = _ from w64_id _ (by omega), mask_is (by omega) (by omega)]
      rfl
    simp only [c, e1, e2, e7, e15, e16, c2, c7, c15, c16, nn, rdI_is, t7, t18, t17, t19, f3, f10, s0, s1, hm, hc, and_self, decide_true, if_true, Option.bind_some, List.length_singleton]
    rfl
  · intro again w hw
    simp
/-- The state in the rounds. -/
abbrev St8 := Int × Int × Int × Int × Int × Int × Int × Int
def allS (s : St8) : Prop := W32 s.1 ∧ W32 s.2.1 ∧ W32 s.2.2.1 ∧ W32 s.2.2.2.1 ∧ W32 s.2.2.2.2.1 ∧ W32 s.2.2.2.2.2.1 ∧ W32 s.2.2.2.2.2.2.1 ∧ W32 s.2.2.2.2.2.2.2
def T1 (kt wt : Int) (s : St8) : Int := s.2.2.2.2.2.2.2 + bs 6 11 25 s.2.2.2.2.1 + chI s.2.2.2.2.1 s.2.2.2.2.2.1 s.2.2.2.2.2.2.1 + kt + wt
def T2 (s : St8) : Int := bs 2 13 22 s.1 + mjI s.1 s.2.1 s.2.2.1
def rdG (kl wl : List Int) (t : Nat) (s : St8) : St8 :=
  ((T1 (rdI kl (t : Int)) (rdI wl (t : Int)) s + T2 s) % 4294967296, s.1, s.2.1, s.2.2.1, (s.2.2.2.1 + T1 (rdI kl (t : Int)) (rdI wl (t : Int)) s) % 4294967296, s.2.2.2.2.1, s.2.2.2.2.2.1, s.2.2.2.2.2.2.1)
theorem rdG_W {kl wl : List Int} {t : Nat} {s : St8} (h : allS s) : allS (rdG kl wl t s) := by
  obtain ⟨h1, h2, h3, h4, h5, h6, h7, h8⟩ := h
  exact ⟨mod_W _, h1, h2, h3, mod_W _, h5, h6, h7⟩
def KL : List Int := [1116352408, 1899447441, 3049323471, 3921009573, 961987163, 1508970993, 2453635748, 2870763221, 3624381080, 310598401, 607225278, 1426881987, 1925078388, 2162078206, 2614888103, 3248222580, 3835390401, 4022224774, 264347078, 604807628, 770255983, 1249150122, 1555081692, 1996064986, 2554220882, 2821834349, 2952996808, 3210313671, 3336571891, 3584528711, 113926993, 338241895, 666307205, 773529912, 1294757372, 1396182291, 1695183700, 1986661051, 2177026350, 2456956037, 2730485921, 2820302411, 3259730800, 3345764771, 3516065817, 3600352804, 4094571909, 275423344, 430227734, 506948616, 659060556, 883997877, 958139571, 1322822218, 1537002063, 1747873779, 1955562222, 2024104815, 2227730452, 2361852424, 2428436474, 2756734187, 3204031479, 3329325298]
theorem KL_len : KL.length = 64 := rfl
theorem KL_W : allW KL := by
  have : KL.all (fun x => decide (0 ≤ x ∧ x < 4294967296)) = true := by decide
  intro x hx
  have := List.all_eq_true.1 this x hx
  simpa [W32] using this
theorem l04K_is (k : Nat) : s_l04K k () = some (KL, ()) := rfl
def rds (kl wl : List Int) (s : St8) : St8 := iterN (rdG kl wl) 64 0 s
def toL (s : St8) : List Int := [s.1, s.2.1, s.2.2.1, s.2.2.2.1, s.2.2.2.2.1, s.2.2.2.2.2.1, s.2.2.2.2.2.2.1, s.2.2.2.2.2.2.2]
def ofL (l : List Int) : St8 := (rdI l 0, rdI l 1, rdI l 2, rdI l 3, rdI l 4, rdI l 5, rdI l 6, rdI l 7)
/-- What a block makes of a state. -/
def blk (st : List Int) (b : ByteArray) : List Int := List.zipWith (fun x y => (x + y) % 4294967296) st (toL (rds KL (exL (wd (bytesOf b))) (ofL st)))
theorem blk_inv {st : List Int} {b : ByteArray} (h : st.length = 8) : (blk st b).length = 8 ∧ allW (blk st b) := by
  refine ⟨by simp [blk, h, toL], ?_⟩
  intro x hx
  unfold blk at hx
  obtain ⟨i, hi, rfl⟩ := List.mem_iff_getElem.1 hx
  rw [List.getElem_zipWith]
  exact mod_W _
theorem chI64 {e f g : Int} (he : W32 e) (hf : W32 f) (hg : W32 g) : bitsI .xor .i64 (bitsI .and .i64 e f) (bitsI .and .i64 (bitsI .xor .i64 4294967295 e) g) = chI e f g := by
  have hm : W32 4294967295 := ⟨by decide, by decide⟩
  rw [xor64_is hm he, flip_is he, and64_is he hf, and64_is (flip_W he) hg, xor64_is (an_W he) (an_W (flip_W he))]
  rfl
theorem mjI64 {a b c : Int} (ha : W32 a) (hb : W32 b) (hc : W32 c) : bitsI .xor .i64 (bitsI .xor .i64 (bitsI .and .i64 a b) (bitsI .and .i64 a c)) (bitsI .and .i64 b c) = mjI a b c := by
  rw [and64_is ha hb, and64_is ha hc, and64_is hb hc, xor64_is (an_W ha) (an_W ha), xor64_is (xr_W (an_W ha) (an_W ha)) (an_W hb)]
  rfl
theorem chI32 {e f g : Int} (he : W32 e) (hf : W32 f) (hg : W32 g) : bitsI .xor .u32 (bitsI .and .u32 e f) (bitsI .and .u32 (wu32 (4294967295 - e)) g) = chI e f g := by
  have : wu32 (4294967295 - e) = 4294967295 - e := by obtain ⟨h0, h1⟩ := he; rw [u32_is]; omega
  rw [this, and32_is he hf, and32_is (flip_W he) hg, xor32_is (an_W he) (an_W (flip_W he))]
  rfl
theorem mjI32 {a b c : Int} (ha : W32 a) (hb : W32 b) (hc : W32 c) : bitsI .xor .u32 (bitsI .xor .u32 (bitsI .and .u32 a b) (bitsI .and .u32 a c)) (bitsI .and .u32 b c) = mjI a b c := by
  rw [and32_is ha hb, and32_is ha hc, and32_is hb hc, xor32_is (an_W ha) (an_W ha), xor32_is (xr_W (an_W ha) (an_W ha)) (an_W hb)]
  rfl
/-- A list is turned place by place, by another one of its length. -/
theorem loop_zip {R : Type} {step : (List Int × List Int × Int × Int × Unit → Option R) → List Int × List Int × Int × Int × Unit → Option R} (g : Int → Int → Int) (V L : List Int) (n : Int) (fin : List Int → Option R) (hl : V.length = L.length)
    (hs : ∀ again (W : List Int) (i : Nat), i < L.length → W.length = L.length → rdI W (i : Int) = rdI V (i : Int) → step again (W, (L, (n, ((i : Int), ())))) = again (W.set i (g (rdI W (i : Int)) (rdI L (i : Int))), (L, (n, (((i + 1 : Nat) : Int), ())))))
    (he : ∀ again, step again (List.zipWith g V L, (L, (n, ((L.length : Int), ())))) = fin (List.zipWith g V L)) (k : Nat) (hk : L.length < k) : whileK step k (V, (L, (n, ((0 : Nat) : Int), ()))) = fin (List.zipWith g V L) := by
  have key : ∀ m i k, i + m = L.length → m < k → whileK step k ((List.zipWith g V L).take i ++ V.drop i, (L, (n, ((i : Int), ())))) = fin (List.zipWith g V L) := by
    intro m
    induction m with
    | zero =>
      intro i k h hk
      obtain ⟨k, rfl⟩ : ∃ k', k = k' + 1 := ⟨k - 1, by omega⟩
      have : i = L.length := by omega
      subst this
      show step _ _ = _
      rw [List.take_of_length_le (by rw [List.length_zipWith]; omega), List.drop_eq_nil_of_le (by omega), List.append_nil, he]
    | succ m ih =>
      intro i k h hk
      obtain ⟨k, rfl⟩ : ∃ k', k = k' + 1 := ⟨k - 1, by omega⟩
      have hz : (List.zipWith g V L).length = L.length := by rw [List.length_zipWith]; omega
      have ht : ((List.zipWith g V L).take i).length = i := by rw [List.length_take]; omega
      show step _ _ = _
      have hi : i < V.length := by omega
      have e1 : rdI ((List.zipWith g V L).take i ++ V.drop i) (i : Int) = V[i] := by
        rw [rdI_get _ i (by rw [List.length_append, ht, List.length_drop]; omega), List.getElem_append_right (by omega), List.getElem_drop]
        congr 1
        omega
      rw [hs _ _ i (by omega) (by rw [List.length_append, ht, List.length_drop]; omega) (by rw [e1, rdI_get V i hi])]
      have e2 : ((List.zipWith g V L).take i ++ V.drop i).set i (g V[i] L[i]) = (List.zipWith g V L).take (i + 1) ++ V.drop (i + 1) := by
        rw [List.set_append_right _ _ (by omega), ht, Nat.sub_self, List.drop_eq_getElem_cons hi, List.set_cons_zero, List.take_succ_eq_append_getElem (by omega), List.getElem_zipWith, List.append_assoc]
        rfl
      rw [e1, rdI_get L i (by omega), e2]
      exact ih (i + 1) k (by omega) (by omega)
  have := key L.length 0 k (by omega) hk
  simpa using this
theorem loop_outs {R : Type} {step : (List Int × List Int × List Int × Int × Unit → Option R) → List Int × List Int × List Int × Int × Unit → Option R} (g : Int → Int → Int) (V L : List Int) (fin : List Int → Option R) (hl : V.length = L.length)
    (hs : ∀ again (out : List Int) (i : Nat), i < L.length → out.length = i → step again (V, (L, (out, ((i : Int), ())))) = again (V, (L, (out ++ [g (rdI V (i : Int)) (rdI L (i : Int))], (((i + 1 : Nat) : Int), ())))))
    (he : ∀ again (W : List Int), step again (V, (L, (W, ((L.length : Int), ())))) = fin W) (k : Nat) (hk : L.length < k) : whileK step k (V, (L, (([] : List Int), ((0 : Nat) : Int), ()))) = fin (List.zipWith g V L) := by
  have key : ∀ m i k, i + m = L.length → m < k → whileK step k (V, (L, ((List.zipWith g V L).take i, ((i : Int), ())))) = fin (List.zipWith g V L) := by
    intro m
    induction m with
    | zero =>
      intro i k h hk
      obtain ⟨k, rfl⟩ : ∃ k', k = k' + 1 := ⟨k - 1, by omega⟩
      have : i = L.length := by omega
      subst this
      show step _ _ = _
      rw [he, List.take_of_length_le (by rw [List.length_zipWith]; omega)]
    | succ m ih =>
      intro i k h hk
      obtain ⟨k, rfl⟩ : ∃ k', k = k' + 1 := ⟨k - 1, by omega⟩
      have hz : (List.zipWith g V L).length = L.length := by rw [List.length_zipWith]; omega
      show step _ _ = _
      rw [hs _ _ i (by omega) (by rw [List.length_take]; omega)]
      rw [rdI_get V i (by omega), rdI_get L i (by omega), ← List.getElem_zipWith (f := g) (l := V) (l' := L) (i := i) (h := by omega), ← List.take_succ_eq_append_getElem (by omega)]
      exact ih (i + 1) k (by omega) (by omega)
  have := key L.length 0 k (by omega) hk
  simpa using this
theorem zip_W (V L : List Int) : allW (List.zipWith (fun x y => (x + y) % 4294967296) V L) := by
  intro x hx
  obtain ⟨i, hi, rfl⟩ := List.mem_iff_getElem.1 hx
  rw [List.getElem_zipWith]
  exact mod_W _
theorem T_bd {kt wt : Int} {s : St8} (hk : W32 kt) (hw : W32 wt) (h : allS s) : (0 ≤ T1 kt wt s ∧ T1 kt wt s < 21474836480) ∧ (0 ≤ T2 s ∧ T2 s < 8589934592) := by
  obtain ⟨ha, hb, hc, hd, he, hf, hg, hh⟩ := h
  obtain ⟨x0, x1⟩ := bs_W (a := 6) (b := 11) (c := 25) (by omega) (by omega) (by omega) he
  obtain ⟨y0, y1⟩ := ch_W (f := s.2.2.2.2.2.1) (g := s.2.2.2.2.2.2.1) he
  obtain ⟨z0, z1⟩ := bs_W (a := 2) (b := 13) (c := 22) (by omega) (by omega) (by omega) ha
  obtain ⟨u0, u1⟩ := mj_W (c := s.2.2.1) ha hb
  obtain ⟨k0, k1⟩ := hk
  obtain ⟨w0, w1⟩ := hw
  obtain ⟨h0, h1⟩ := hh
  unfold T1 T2
  omega
theorem i_round_is (k : Nat) (st b : ByteArray) (hst : st.size = 32) (hb : b.size = 64) (hk : 1048576 < k) : i_round k (st, (b, ())) = some (strOf (fl (blk (wd (bytesOf st)) b)), ((), ((), ()))) := by
  unfold i_round
  simp only [expanded_is k b hb hk, i_wordsOf_is k st (by omega) (by omega), Option.bind_some]
  have hV : (wd (bytesOf st)).length = 8 := by rw [wd_len, bytesOf_len, hst]
  have hVW := wd_W (bytesOf_isB st)
  have hw := exL_inv (w := wd (bytesOf b)) ⟨by rw [wd_len, bytesOf_len, hb], wd_W (bytesOf_isB b)⟩
  unfold blk
  generalize exL (wd (bytesOf b)) = W at *
  generalize wd (bytesOf st) = V at *
  unfold i_constants
  simp only [Option.bind_some]
  have g : ∀ i : Nat, i < 8 → ((i : Nat) : Int) < (V.length : Int) := fun i hi => by omega
  have g0 : (0 : Int) < (V.length : Int) := by omega
  have g1 : (1 : Int) < (V.length : Int) := by omega
  have g2 : (2 : Int) < (V.length : Int) := by omega
  have g3 : (3 : Int) < (V.length : Int) := by omega
  have g4 : (4 : Int) < (V.length : Int) := by omega
  have g5 : (5 : Int) < (V.length : Int) := by omega
  have g6 : (6 : Int) < (V.length : Int) := by omega
  have g7 : (7 : Int) < (V.length : Int) := by omega
  rw [if_pos ⟨by decide, g0⟩, if_pos ⟨by decide, g1⟩, if_pos ⟨by decide, g2⟩, if_pos ⟨by decide, g3⟩, if_pos ⟨by decide, g4⟩, if_pos ⟨by decide, g5⟩, if_pos ⟨by decide, g6⟩, if_pos ⟨by decide, g7⟩]
  simp only [rdI_is]
  have hS : allS (ofL V) := ⟨rdI_W (i := 0) hVW (by omega), rdI_W (i := 1) hVW (by omega), rdI_W (i := 2) hVW (by omega), rdI_W (i := 3) hVW (by omega), rdI_W (i := 4) hVW (by omega), rdI_W (i := 5) hVW (by omega), rdI_W (i := 6) hVW (by omega), rdI_W (i := 7) hVW (by omega)⟩
  generalize hC : ((1116352408 : Int), ((1899447441 : Int), ((3049323471 : Int), ((3921009573 : Int), ((961987163 : Int), ((1508970993 : Int), ((2453635748 : Int), ((2870763221 : Int), ((3624381080 : Int), ((310598401 : Int), ((607225278 : Int), ((1426881987 : Int), ((1925078388 : Int), ((2162078206 : Int), ((2614888103 : Int), ((3248222580 : Int), ((3835390401 : Int), ((4022224774 : Int), ((264347078 : Int), ((604807628 : Int), ((770255983 : Int), ((1249150122 : Int), ((1555081692 : Int), ((1996064986 : Int), ((2554220882 : Int), ((2821834349 : Int), ((2952996808 : Int), ((3210313671 : Int), ((3336571891 : Int), ((3584528711 : Int), ((113926993 : Int), ((338241895 : Int), ((666307205 : Int), ((773529912 : Int), ((1294757372 : Int), ((1396182291 : Int), ((1695183700 : Int), ((1986661051 : Int), ((2177026350 : Int), ((2456956037 : Int), ((2730485921 : Int), ((2820302411 : Int), ((3259730800 : Int), ((3345764771 : Int), ((3516065817 : Int), ((3600352804 : Int), ((4094571909 : Int), ((275423344 : Int), ((430227734 : Int), ((506948616 : Int), ((659060556 : Int), ((883997877 : Int), ((958139571 : Int), ((1322822218 : Int), ((1537002063 : Int), ((1747873779 : Int), ((1955562222 : Int), ((2024104815 : Int), ((2227730452 : Int), ((2361852424 : Int), ((2428436474 : Int), ((2756734187 : Int), ((3204031479 : Int), ((3329325298 : Int), ())))))))))))))))))))))))))))))))))))))))))))))))))))))))))))))))) = C
  have hKL : [C.1, C.2.1, C.2.2.1, C.2.2.2.1, C.2.2.2.2.1, C.2.2.2.2.2.1, C.2.2.2.2.2.2.1, C.2.2.2.2.2.2.2.1, C.2.2.2.2.2.2.2.2.1, C.2.2.2.2.2.2.2.2.2.1, C.2.2.2.2.2.2.2.2.2.2.1, C.2.2.2.2.2.2.2.2.2.2.2.1, C.2.2.2.2.2.2.2.2.2.2.2.2.1, C.2.2.2.2.2.2.2.2.2.2.2.2.2.1, C.2.2.2.2.2.2.2.2.2.2.2.2.2.2.1, C.2.2.2.2.2.2.2.2.2.2.2.2.2.2.2.1, C.2.2.2.2.2.2.2.2.2.2.2.2.2.2.2.2.1, C.2.2.2.2.2.2.2.2.2.2.2.2.2.2.2.2.2.1, C.2.2.2.2.2.2.2.2.2.2.2.2.2.2.2.2.2.2.1, C.2.2.2.2.2.2.2.2.2.2.2.2.2.2.2.2.2.2.2.1, C.2.2.2.2.2.2.2.2.2.2.2.2.2.2.2.2.2.2.2.2.1, C.2.2.2.2.2.2.2.2.2.2.2.2.2.2.2.2.2.2.2.2.2.1, C.2.2.2.2.2.2.2.2.2.2.2.2.2.2.2.2.2.2.2.2.2.2.1, C.2.2.2.2.2.2.2.2.2.2.2.2.2.2.2.2.2.2.2.2.2.2.2.1, C.2.2.2.2.2.2.2.2.2.2.2.2.2.2.2.2.2.2.2.2.2.2.2.2.1, C.2.2.2.2.2.2.2.2.2.2.2.2.2.2.2.2.2.2.2.2.2.2.2.2.2.1, C.2.2.2.2.2.2.2.2.2.2.2.2.2.2.2.2.2.2.2.2.2.2.2.2.2.2.1, C.2.2.2.2.2.2.2.2.2.2.2.2.2.2.2.2.2.2.2.2.2.2.2.2.2.2.2.1, C.2.2.2.2.2.2.2.2.2.2.2.2.2.2.2.2.2.2.2.2.2.2.2.2.2.2.2.2.1, C.2.2.2.2.2.2.2.2.2.2.2.2.2.2.2.2.2.2.2.2.2.2.2.2.2.2.2.2.2.1, C.2.2.2.2.2.2.2.2.2.2.2.2.2.2.2.2.2.2.2.2.2.2.2.2.2.2.2.2.2.2.1, C.2.2.2.2.2.2.2.2.2.2.2.2.2.2.2.2.2.2.2.2.2.2.2.2.2.2.2.2.2.2.2.1, C.2.2.2.2.2.2.2.2.2.2.2.2.2.2.2.2.2.2.2.2.2.2.2.2.2.2.2.2.2.2.2.2.1, C.2.2.2.2.2.2.2.2.2.2.2.2.2.2.2.2.2.2.2.2.2.2.2.2.2.2.2.2.2.2.2.2.2.1, C.2.2.2.2.2.2.2.2.2.2.2.2.2.2.2.2.2.2.2.2.2.2.2.2.2.2.2.2.2.2.2.2.2.2.1, C.2.2.2.2.2.2.2.2.2.2.2.2.2.2.2.2.2.2.2.2.2.2.2.2.2.2.2.2.2.2.2.2.2.2.2.1, C.2.2.2.2.2.2.2.2.2.2.2.2.2.2.2.2.2.2.2.2.2.2.2.2.2.2.2.2.2.2.2.2.2.2.2.2.1, C.2.2.2.2.2.2.2.2.2.2.2.2.2.2.2.2.2.2.2.2.2.2.2.2.2.2.2.2.2.2.2.2.2.2.2.2.2.1, C.2.2.2.2.2.2.2.2.2.2.2.2.2.2.2.2.2.2.2.2.2.2.2.2.2.2.2.2.2.2.2.2.2.2.2.2.2.2.1, C.2.2.2.2.2.2.2.2.2.2.2.2.2.2.2.2.2.2.2.2.2.2.2.2.2.2.2.2.2.2.2.2.2.2.2.2.2.2.2.1, C.2.2.2.2.2.2.2.2.2.2.2.2.2.2.2.2.2.2.2.2.2.2.2.2.2.2.2.2.2.2.2.2.2.2.2.2.2.2.2.2.1, C.2.2.2.2.2.2.2.2.2.2.2.2.2.2.2.2.2.2.2.2.2.2.2.2.2.2.2.2.2.2.2.2.2.2.2.2.2.2.2.2.2.1, C.2.2.2.2.2.2.2.2.2.2.2.2.2.2.2.2.2.2.2.2.2.2.2.2.2.2.2.2.2.2.2.2.2.2.2.2.2.2.2.2.2.2.1, C.2.2.2.2.2.2.2.2.2.2.2.2.2.2.2.2.2.2.2.2.2.2.2.2.2.2.2.2.2.2.2.2.2.2.2.2.2.2.2.2.2.2.2.1, C.2.2.2.2.2.2.2.2.2.2.2.2.2.2.2.2.2.2.2.2.2.2.2.2.2.2.2.2.2.2.2.2.2.2.2.2.2.2.2.2.2.2.2.2.1, C.2.2.2.2.2.2.2.2.2.2.2.2.2.2.2.2.2.2.2.2.2.2.2.2.2.2.2.2.2.2.2.2.2.2.2.2.2.2.2.2.2.2.2.2.2.1, C.2.2.2.2.2.2.2.2.2.2.2.2.2.2.2.2.2.2.2.2.2.2.2.2.2.2.2.2.2.2.2.2.2.2.2.2.2.2.2.2.2.2.2.2.2.2.1, C.2.2.2.2.2.2.2.2.2.2.2.2.2.2.2.2.2.2.2.2.2.2.2.2.2.2.2.2.2.2.2.2.2.2.2.2.2.2.2.2.2.2.2.2.2.2.2.1, C.2.2.2.2.2.2.2.2.2.2.2.2.2.2.2.2.2.2.2.2.2.2.2.2.2.2.2.2.2.2.2.2.2.2.2.2.2.2.2.2.2.2.2.2.2.2.2.2.1, C.2.2.2.2.2.2.2.2.2.2.2.2.2.2.2.2.2.2.2.2.2.2.2.2.2.2.2.2.2.2.2.2.2.2.2.2.2.2.2.2.2.2.2.2.2.2.2.2.2.1, C.2.2.2.2.2.2.2.2.2.2.2.2.2.2.2.2.2.2.2.2.2.2.2.2.2.2.2.2.2.2.2.2.2.2.2.2.2.2.2.2.2.2.2.2.2.2.2.2.2.2.1, C.2.2.2.2.2.2.2.2.2.2.2.2.2.2.2.2.2.2.2.2.2.2.2.2.2.2.2.2.2.2.2.2.2.2.2.2.2.2.2.2.2.2.2.2.2.2.2.2.2.2.2.1, C.2.2.2.2.2.2.2.2.2.2.2.2.2.2.2.2.2.2.2.2.2.2.2.2.2.2.2.2.2.2.2.2.2.2.2.2.2.2.2.2.2.2.2.2.2.2.2.2.2.2.2.2.1, C.2.2.2.2.2.2.2.2.2.2.2.2.2.2.2.2.2.2.2.2.2.2.2.2.2.2.2.2.2.2.2.2.2.2.2.2.2.2.2.2.2.2.2.2.2.2.2.2.2.2.2.2.2.1, C.2.2.2.2.2.2.2.2.2.2.2.2.2.2.2.2.2.2.2.2.2.2.2.2.2.2.2.2.2.2.2.2.2.2.2.2.2.2.2.2.2.2.2.2.2.2.2.2.2.2.2.2.2.2.1, C.2.2.2.2.2.2.2.2.2.2.2.2.2.2.2.2.2.2.2.2.2.2.2.2.2.2.2.2.2.2.2.2.2.2.2.2.2.2.2.2.2.2.2.2.2.2.2.2.2.2.2.2.2.2.2.1, C.2.2.2.2.2.2.2.2.2.2.2.2.2.2.2.2.2.2.2.2.2.2.2.2.2.2.2.2.2.2.2.2.2.2.2.2.2.2.2.2.2.2.2.2.2.2.2.2.2.2.2.2.2.2.2.2.1, C.2.2.2.2.2.2.2.2.2.2.2.2.2.2.2.2.2.2.2.2.2.2.2.2.2.2.2.2.2.2.2.2.2.2.2.2.2.2.2.2.2.2.2.2.2.2.2.2.2.2.2.2.2.2.2.2.2.1, C.2.2.2.2.2.2.2.2.2.2.2.2.2.2.2.2.2.2.2.2.2.2.2.2.2.2.2.2.2.2.2.2.2.2.2.2.2.2.2.2.2.2.2.2.2.2.2.2.2.2.2.2.2.2.2.2.2.2.1, C.2.2.2.2.2.2.2.2.2.2.2.2.2.2.2.2.2.2.2.2.2.2.2.2.2.2.2.2.2.2.2.2.2.2.2.2.2.2.2.2.2.2.2.2.2.2.2.2.2.2.2.2.2.2.2.2.2.2.2.1, C.2.2.2.2.2.2.2.2.2.2.2.2.2.2.2.2.2.2.2.2.2.2.2.2.2.2.2.2.2.2.2.2.2.2.2.2.2.2.2.2.2.2.2.2.2.2.2.2.2.2.2.2.2.2.2.2.2.2.2.2.1, C.2.2.2.2.2.2.2.2.2.2.2.2.2.2.2.2.2.2.2.2.2.2.2.2.2.2.2.2.2.2.2.2.2.2.2.2.2.2.2.2.2.2.2.2.2.2.2.2.2.2.2.2.2.2.2.2.2.2.2.2.2.1, C.2.2.2.2.2.2.2.2.2.2.2.2.2.2.2.2.2.2.2.2.2.2.2.2.2.2.2.2.2.2.2.2.2.2.2.2.2.2.2.2.2.2.2.2.2.2.2.2.2.2.2.2.2.2.2.2.2.2.2.2.2.2.1, C.2.2.2.2.2.2.2.2.2.2.2.2.2.2.2.2.2.2.2.2.2.2.2.2.2.2.2.2.2.2.2.2.2.2.2.2.2.2.2.2.2.2.2.2.2.2.2.2.2.2.2.2.2.2.2.2.2.2.2.2.2.2.2.1] = KL := by subst hC; rfl
  clear hC
  refine (run_loop (A := St8) (fun t s => (C, (W, (V, (s.1, (s.2.1, (s.2.2.1, (s.2.2.2.1, (s.2.2.2.2.1, (s.2.2.2.2.2.1, (s.2.2.2.2.2.2.1, (s.2.2.2.2.2.2.2, ((t : Int), ()))))))))))))) 64 (rdG KL W) (fun s => some (strOf (fl (List.zipWith (fun x y => (x + y) % 4294967296) V (toL s))), ((), ((), ())))) (fun _ s => allS s) ?_ ?_ 64 0 (ofL V) k (by omega) hS (by omega)).trans rfl
  · intro again t s ht hs
    refine ⟨?_, rdG_W hs⟩
    obtain ⟨a, b, c, d, e, f, g, h⟩ := s
    obtain ⟨ha, hb, hc, hd, he, hf, hg, hh⟩ := hs
    simp only at ha hb hc hd he hf hg hh
    have c1 : (t : Int) < 64 := by omega
    have c2 : (0 : Int) ≤ (t : Int) := by omega
    have c3 : (t : Int) < (KL.length : Int) := by rw [KL_len]; omega
    have c4 : (t : Int) < (W.length : Int) := by omega
    have w1 : wi64 ((t : Int) + 1) = ((t + 1 : Nat) : Int) := (w64_id _ (by omega)).trans (by omega)
    have r6 : i_turnRight k (e, ((6 : Int), ())) = _ := turnRight_is k (n := 6) (by omega) he
    have r11 : i_turnRight k (e, ((11 : Int), ())) = _ := turnRight_is k (n := 11) (by omega) he
    have r25 : i_turnRight k (e, ((25 : Int), ())) = _ := turnRight_is k (n := 25) (by omega) he
    have r2 : i_turnRight k (a, ((2 : Int), ())) = _ := turnRight_is k (n := 2) (by omega) ha
    have r13 : i_turnRight k (a, ((13 : Int), ())) = _ := turnRight_is k (n := 13) (by omega) ha
    have r22 : i_turnRight k (a, ((22 : Int), ())) = _ := turnRight_is k (n := 22) (by omega) ha
    have hkt : W32 (rdI KL (t : Int)) := rdI_W KL_W (by rw [KL_len]; omega)
    have hwt : W32 (rdI W (t : Int)) := rdI_W hw.2 (by omega)
    have b1 := bsI_is (a := 6) (b := 11) (c := 25) (by omega) (by omega) (by omega) he
    have b0 := bsI_is (a := 2) (b := 13) (c := 22) (by omega) (by omega) (by omega) ha
    obtain ⟨⟨q0, q1⟩, ⟨q2, q3⟩⟩ := T_bd (s := (a, b, c, d, e, f, g, h)) hkt hwt ⟨ha, hb, hc, hd, he, hf, hg, hh⟩
    have hT1 : wi64 (wi64 (wi64 (wi64 (h + bs 6 11 25 e) + chI e f g) + rdI KL (t : Int)) + rdI W (t : Int)) = T1 (rdI KL (t : Int)) (rdI W (t : Int)) (a, b, c, d, e, f, g, h) := by
      obtain ⟨x0, x1⟩ := bs_W (a := 6) (b := 11) (c := 25) (by omega) (by omega) (by omega) he
      obtain ⟨y0, y1⟩ := ch_W (f := f) (g := g) he
      obtain ⟨k0, k1⟩ := hkt
      obtain ⟨v0, v1⟩ := hwt
      obtain ⟨h0, h1⟩ := hh
      rw [show wi64 (h + bs 6 11 25 e) = _ from w64_id _ (by omega), show wi64 (h + bs 6 11 25 e + chI e f g) = _ from w64_id _ (by omega), show wi64 (h + bs 6 11 25 e + chI e f g + rdI KL (t : Int)) = _ from w64_id _ (by omega)]
      exact w64_id _ (by omega)
    have hT2 : wi64 (bs 2 13 22 a + mjI a b c) = T2 (a, b, c, d, e, f, g, h) := w64_id _ (by simp only [T2] at q2 q3; omega)
    have m1 : bitsI .and .i64 (wi64 (T1 (rdI KL (t : Int)) (rdI W (t : Int)) (a, b, c, d, e, f, g, h) + T2 (a, b, c, d, e, f, g, h))) 4294967295 = (T1 (rdI KL (t : Int)) (rdI W (t : Int)) (a, b, c, d, e, f, g, h) + T2 (a, b, c, d, e, f, g, h)) % 4294967296 := by
      rw [show wi64 (T1 (rdI KL (t : Int)) (rdI W (t : Int)) (a, b, c, d, e, f, g, h) + T2 (a, b, c, d, e, f, g, h)) = _ from w64_id _ (by omega)]
      exact mask_is (by omega) (by omega)
    have m2 : bitsI .and .i64 (wi64 (d + T1 (rdI KL (t : Int)) (rdI W (t : Int)) (a, b, c, d, e, f, g, h))) 4294967295 = (d + T1 (rdI KL (t : Int)) (rdI W (t : Int)) (a, b, c, d, e, f, g, h)) % 4294967296 := by
      obtain ⟨d0, d1⟩ := hd
      rw [show wi64 (d + T1 (rdI KL (t : Int)) (rdI W (t : Int)) (a, b, c, d, e, f, g, h)) = _ from w64_id _ (by omega)]
      exact mask_is (by omega) (by omega)
    simp only [c1, c2, c4, hKL, c3, w1, r6, r11, r25, r2, r13, r22, b1, b0, chI64 he hf hg, mjI64 ha hb hc, hT1, hT2, m1, m2, and_self, decide_true, if_true, Option.bind_some]
    rfl
  · intro again s hs
    obtain ⟨a, b, c, d, e, f, g, h⟩ := s
    have c64 : ¬ ((64 : Nat) : Int) < 64 := by decide
    simp only [c64, decide_false, Bool.false_eq_true, if_false]
    have hLW : allW [a, b, c, d, e, f, g, h] := by
      obtain ⟨ha, hb, hc, hd, he, hf, hg, hh⟩ := hs
      simp only [allW_cons]
      exact ⟨ha, hb, hc, hd, he, hf, hg, hh, by intro x hx; cases hx⟩
    have hL : [a, b, c, d, e, f, g, h].length = 8 := rfl
    show _ = some (strOf (fl (List.zipWith (fun x y => (x + y) % 4294967296) V [a, b, c, d, e, f, g, h])), ((), ((), ())))
    generalize [a, b, c, d, e, f, g, h] = L at *
    refine (loop_zip (fun x y => (x + y) % 4294967296) V L (L.length : Int) (fun l => some (strOf (fl l), ((), ((), ())))) (by omega) ?_ ?_ k (by omega)).trans rfl
    · intro again U i hi hU hUi
      have c1 : (i : Int) < (L.length : Int) := by omega
      have c2 : (0 : Int) ≤ (i : Int) := by omega
      have c3 : (i : Int) < (U.length : Int) := by omega
      have w1 : wi64 ((i : Int) + 1) = ((i + 1 : Nat) : Int) := (w64_id _ (by omega)).trans (by omega)
      obtain ⟨x0, x1⟩ := rdI_W hVW (i := i) (by omega)
      obtain ⟨y0, y1⟩ := rdI_W hLW (i := i) (by omega)
      have m : bitsI .and .i64 (wi64 (rdI U (i : Int) + rdI L (i : Int))) 4294967295 = (rdI U (i : Int) + rdI L (i : Int)) % 4294967296 := by
        rw [hUi, show wi64 (rdI V (i : Int) + rdI L (i : Int)) = _ from w64_id _ (by omega)]
        exact mask_is (by omega) (by omega)
      simp only [c1, c2, c3, w1, rdI_is, m, Int.toNat_natCast, and_self, decide_true, if_true]
    · intro again
      have c : ¬ (L.length : Int) < (L.length : Int) := by omega
      simp only [c, decide_false, Bool.false_eq_true, if_false, i_wordsText_is k _ (show (List.zipWith (fun x y => (x + y) % 4294967296) V L).length ≤ 1000 by rw [List.length_zipWith]; omega) (zip_W V L) (by rw [List.length_zipWith]; omega), Option.bind_some]
def shG (j : Nat) (v : List Int) : List Int := v.set (7 - j) (rdI v ((7 - j - 1 : Nat) : Int))
theorem shG_len {j : Nat} {v : List Int} (h : v.length = 8) : (shG j v).length = 8 := by simp [shG, h]
theorem s_round_is (k : Nat) (st : List Int) (b : ByteArray) (hst : st.length = 8) (hsW : allW st) (hb : b.size = 64) (hk : 1048576 < k) : s_l04Round k (st, (KL, (b, ()))) = some (blk st b, ((), ((), ((), ())))) := by
  unfold s_l04Round
  simp only [l04Words_is k b (by omega) (by omega), Option.bind_some]
  have h0 : (wd (bytesOf b)).length = 16 ∧ allW (wd (bytesOf b)) := ⟨by rw [wd_len, bytesOf_len, hb], wd_W (bytesOf_isB b)⟩
  have hw := exL_inv h0
  refine (run_loop (A := List Int) (fun i w => (st, (KL, (w, ((i : Int), ()))))) 64 exG (fun w => some (List.zipWith (fun x y => (x + y) % 4294967296) st (toL (rds KL w (ofL st))), ((), ((), ((), ()))))) (fun t w => 16 ≤ t ∧ w.length = t ∧ allW w) ?_ ?_ 48 16 (wd (bytesOf b)) k (by omega) ⟨by omega, h0⟩ (by omega)).trans rfl
  · intro again t w ht hw
    obtain ⟨g2, g7, g15, g16, e2, e7, e15, e16, e1, c2, c7, c15, c16⟩ := ex_step ⟨hw.1, ht⟩ hw.2
    have c : (t : Int) < 64 := by omega
    refine ⟨?_, by omega, exG_inv hw.2⟩
    have hc : w.length + 1 ≤ capMax := cap_ok _ _ (by omega)
    have nn : ∀ m : Nat, (0 : Int) ≤ (m : Int) := fun m => Int.natCast_nonneg m
    have s1 := sgS_is k (lo1 := 131072) (lo2 := 524288) (c := 1024) (a := 17) (b := 19) (by omega) (by omega) (by decide) (by decide) (by decide) (by decide) (by decide) g2
    have s0 := sgS_is k (lo1 := 128) (lo2 := 262144) (c := 8) (a := 7) (b := 18) (by omega) (by omega) (by decide) (by decide) (by decide) (by decide) (by decide) g15
    have hm : wu32 (wu32 (wu32 (sg 17 19 1024 (rdI w ((t - 2 : Nat) : Int)) + rdI w ((t - 7 : Nat) : Int)) + sg 7 18 8 (rdI w ((t - 15 : Nat) : Int))) + rdI w ((t - 16 : Nat) : Int)) = exW w t := by
      simp only [u32_is, exW]
      omega
    simp only [c, e1, e2, e7, e15, e16, c2, c7, c15, c16, nn, rdI_is, s1, s0, hm, hc, and_self, decide_true, if_true, Option.bind_some, List.length_singleton]
    rfl
  · intro again w hw
    obtain ⟨_, hwl, hwW⟩ := hw
    have c64 : ¬ ((64 : Nat) : Int) < 64 := by decide
    have hcap : ([] : List Int).length + st.length ≤ capMax := cap_ok _ _ (by rw [hst]; simp)
    simp only [c64, hcap, decide_false, Bool.false_eq_true, if_false, if_true, List.nil_append]
    obtain ⟨s8, hs8⟩ : ∃ s8 : St8, toL s8 = st ∧ allS s8 ∧ ofL st = s8 := by
      match st, hst, hsW with
      | [a, b, c, d, e, f, g, h], _, hW =>
        simp only [allW_cons] at hW
        obtain ⟨ha, hb, hc, hd, he, hf, hg, hh, _⟩ := hW
        exact ⟨(a, b, c, d, e, f, g, h), rfl, ⟨ha, hb, hc, hd, he, hf, hg, hh⟩, rfl⟩
    obtain ⟨e8, hS, eo⟩ := hs8
    subst e8
    rw [eo]
    clear eo
    refine (run_loop (A := St8) (fun t s => (toL s8, (KL, (w, (toL s, ((t : Int), ())))))) 64 (rdG KL w) (fun s => some (List.zipWith (fun x y => (x + y) % 4294967296) (toL s8) (toL s), ((), ((), ((), ()))))) (fun _ s => allS s) ?_ ?_ 64 0 s8 k (by omega) hS (by omega)).trans rfl
    · intro again t s ht hs
      refine ⟨?_, rdG_W hs⟩
      obtain ⟨a, b, c, d, e, f, g, h⟩ := s
      obtain ⟨ha, hb, hc, hd, he, hf, hg, hh⟩ := hs
      simp only at ha hb hc hd he hf hg hh
      have c1 : (t : Int) < 64 := by omega
      have c2 : (0 : Int) ≤ (t : Int) := by omega
      have c3 : (t : Int) < (KL.length : Int) := by rw [KL_len]; omega
      have c4 : (t : Int) < (w.length : Int) := by omega
      have w1 : wi64 ((t : Int) + 1) = ((t + 1 : Nat) : Int) := (w64_id _ (by omega)).trans (by omega)
      have b1 := bsS_is k (lo1 := 64) (lo2 := 2048) (lo3 := 33554432) (a := 6) (b := 11) (c := 25) (by omega) (by omega) (by omega) (by decide) (by decide) (by decide) (by decide) (by decide) (by decide) he
      have b0 := bsS_is k (lo1 := 4) (lo2 := 8192) (lo3 := 4194304) (a := 2) (b := 13) (c := 22) (by omega) (by omega) (by omega) (by decide) (by decide) (by decide) (by decide) (by decide) (by decide) ha
      have l8 : (toL (a, b, c, d, e, f, g, h)).length = 8 := rfl
      have i0 : (0 : Int) < ((8 : Nat) : Int) := by decide
      have i1 : (1 : Int) < ((8 : Nat) : Int) := by decide
      have i2 : (2 : Int) < ((8 : Nat) : Int) := by decide
      have i4 : (4 : Int) < ((8 : Nat) : Int) := by decide
      have i5 : (5 : Int) < ((8 : Nat) : Int) := by decide
      have i6 : (6 : Int) < ((8 : Nat) : Int) := by decide
      have i7 : (7 : Int) < ((8 : Nat) : Int) := by decide
      have j0 : (0 : Int) ≤ 0 := by decide
      have j1 : (0 : Int) ≤ 1 := by decide
      have j2 : (0 : Int) ≤ 2 := by decide
      have j4 : (0 : Int) ≤ 4 := by decide
      have j5 : (0 : Int) ≤ 5 := by decide
      have j6 : (0 : Int) ≤ 6 := by decide
      have j7 : (0 : Int) ≤ 7 := by decide
      have d0 : rdI (toL (a, b, c, d, e, f, g, h)) 0 = a := rfl
      have d1 : rdI (toL (a, b, c, d, e, f, g, h)) 1 = b := rfl
      have d2 : rdI (toL (a, b, c, d, e, f, g, h)) 2 = c := rfl
      have d4 : rdI (toL (a, b, c, d, e, f, g, h)) 4 = e := rfl
      have d5 : rdI (toL (a, b, c, d, e, f, g, h)) 5 = f := rfl
      have d6 : rdI (toL (a, b, c, d, e, f, g, h)) 6 = g := rfl
      have d7 : rdI (toL (a, b, c, d, e, f, g, h)) 7 = h := rfl
      simp only [c1, c2, c3, c4, l8, i0, i1, i2, i4, i5, i6, i7, j0, j1, j2, j4, j5, j6, j7, rdI_is, d0, d1, d2, d4, d5, d6, d7, b1, b0, chI32 he hf hg, mjI32 ha hb hc, and_self, decide_true, if_true, Option.bind_some]
      have hT1 : wu32 (wu32 (wu32 (wu32 (h + bs 6 11 25 e) + chI e f g) + rdI KL (t : Int)) + rdI w (t : Int)) = T1 (rdI KL (t : Int)) (rdI w (t : Int)) (a, b, c, d, e, f, g, h) % 4294967296 := by
        simp only [u32_is, T1]
        omega
      have hT2 : wu32 (bs 2 13 22 a + mjI a b c) = T2 (a, b, c, d, e, f, g, h) % 4294967296 := by
        simp only [u32_is, T2]
      rw [hT1, hT2]
      generalize hA : T1 (rdI KL (t : Int)) (rdI w (t : Int)) (a, b, c, d, e, f, g, h) = A1
      generalize hB : T2 (a, b, c, d, e, f, g, h) = A2
      refine (run_loop (A := List Int) (fun j v => (toL s8, (KL, (w, (v, ((t : Int), (A1 % 4294967296, (A2 % 4294967296, (((7 - j : Nat) : Int), ()))))))))) 7 shG (fun v => again (toL s8, (KL, (w, ((v.set 4 (wu32 (rdI v 4 + A1 % 4294967296))).set 0 (wu32 (A1 % 4294967296 + A2 % 4294967296)), (((t + 1 : Nat) : Int), ())))))) (fun _ v => v.length = 8) ?_ ?_ 7 0 _ k (by omega) l8 (by omega)).trans ?_
      · intro again2 j v hj hv
        refine ⟨?_, shG_len hv⟩
        have q1 : (0 : Int) < ((7 - j : Nat) : Int) := by omega
        have q2 : wi64 (((7 - j : Nat) : Int) - 1) = ((7 - (j + 1) : Nat) : Int) := (w64_id _ (by omega)).trans (by omega)
        have q3 : (0 : Int) ≤ ((7 - (j + 1) : Nat) : Int) ∧ ((7 - (j + 1) : Nat) : Int) < (v.length : Int) := by omega
        have q4 : (0 : Int) ≤ ((7 - j : Nat) : Int) ∧ ((7 - j : Nat) : Int) < (v.length : Int) := by omega
        simp only [q1, q2, q3, q4, rdI_is, Int.toNat_natCast, and_self, decide_true, if_true]
        rfl
      · intro again2 v hv
        have q1 : ¬ (0 : Int) < ((7 - 7 : Nat) : Int) := by decide
        have q2 : (0 : Int) ≤ 4 ∧ (4 : Int) < (v.length : Int) := by omega
        have q3 : (0 : Int) ≤ 0 ∧ (0 : Int) < (((v.set (Int.toNat 4) (wu32 (rdI v 4 + A1 % 4294967296))).length : Nat) : Int) := by rw [List.length_set]; omega
        simp only [q1, q2, q3, w1, rdI_is, and_self, decide_false, Bool.false_eq_true, if_true, if_false]
        rfl
      · have e1 : wu32 (d + A1 % 4294967296) = (d + A1) % 4294967296 := by rw [u32_is]; omega
        have e2 : wu32 (A1 % 4294967296 + A2 % 4294967296) = (A1 + A2) % 4294967296 := by rw [u32_is]; omega
        show again (toL s8, (KL, (w, ([wu32 (A1 % 4294967296 + A2 % 4294967296), a, b, c, wu32 (d + A1 % 4294967296), e, f, g], (((t + 1 : Nat) : Int), ()))))) = again (toL s8, (KL, (w, (toL (rdG KL w t (a, b, c, d, e, f, g, h)), (((t + 1 : Nat) : Int), ())))))
        rw [e1, e2]
        unfold rdG
        simp only [hA, hB]
        rfl
    · intro again s hs
      have c64' : ¬ ((64 : Nat) : Int) < 64 := by decide
      simp only [c64', decide_false, Bool.false_eq_true, if_false]
      have l1 : (toL s8).length = 8 := rfl
      have l2 : (toL s).length = 8 := rfl
      generalize toL s8 = V at *
      generalize toL s = L at *
      refine (loop_outs (fun x y => (x + y) % 4294967296) V L (fun l => some (l, ((), ((), ((), ()))))) (by omega) ?_ ?_ k (by omega)).trans rfl
      · intro again2 out i hi ho
        have c1 : (i : Int) < 8 := by omega
        have c2 : (0 : Int) ≤ (i : Int) := by omega
        have c3 : (i : Int) < (V.length : Int) := by omega
        have c4 : (i : Int) < (L.length : Int) := by omega
        have w1 : wi64 ((i : Int) + 1) = ((i + 1 : Nat) : Int) := (w64_id _ (by omega)).trans (by omega)
        have hc : out.length + 1 ≤ capMax := cap_ok _ _ (by omega)
        simp only [c1, c2, c3, c4, w1, rdI_is, u32_is, hc, and_self, decide_true, if_true, List.length_singleton]
      · intro again2 U
        have c : ¬ (L.length : Int) < 8 := by omega
        simp only [c, decide_false, Bool.false_eq_true, if_false]
def runD : Nat → List Int → List Int → List Int × List Int
  | 0, st, l => (st, l)
  | n + 1, st, l => if 64 ≤ l.length then runD n (blk st (strOf (l.take 64))) (l.drop 64) else (st, l)
theorem runD_short {n : Nat} {st l : List Int} (h : l.length < 64) : runD n st l = (st, l) := by
  cases n with
  | zero => rfl
  | succ n => rw [runD, if_neg (by omega)]
theorem runD_fuel : ∀ {n m : Nat} {st l : List Int}, l.length / 64 ≤ n → l.length / 64 ≤ m → runD n st l = runD m st l
  | 0, m, st, l, h, _ => by rw [runD_short (by omega), runD_short (by omega)]
  | n + 1, 0, st, l, _, h => by rw [runD_short (by omega), runD_short (by omega)]
  | n + 1, m + 1, st, l, h, h' => by
    rw [runD, runD]
    split
    · exact runD_fuel (by rw [List.length_drop]; omega) (by rw [List.length_drop]; omega)
    · rfl
theorem runD_inv : ∀ {n : Nat} {st l : List Int}, st.length = 8 → allW st → l.length / 64 ≤ n → (runD n st l).1.length = 8 ∧ allW (runD n st l).1 ∧ (runD n st l).2.length = l.length % 64
  | 0, st, l, h, hw, hn => by rw [runD_short (by omega)]; exact ⟨h, hw, by show l.length = _; omega⟩
  | n + 1, st, l, h, hw, hn => by
    rw [runD]
    split
    · obtain ⟨b1, b2⟩ := blk_inv (b := strOf (l.take 64)) h
      obtain ⟨c1, c2, c3⟩ := runD_inv (n := n) (l := l.drop 64) b1 b2 (by rw [List.length_drop]; omega)
      refine ⟨c1, c2, ?_⟩
      rw [c3, List.length_drop]
      omega
    · exact ⟨h, hw, by show l.length = _; omega⟩
theorem runD_isB : ∀ {n : Nat} {st l : List Int}, isB l → isB (runD n st l).2
  | 0, st, l, h => h
  | n + 1, st, l, h => by
    rw [runD]
    split
    · exact runD_isB (isB_drop h 64)
    · exact h
theorem runD_append : ∀ {n m : Nat} {st a b : List Int}, a.length / 64 ≤ n → (a ++ b).length / 64 ≤ m → runD m st (a ++ b) = runD m (runD n st a).1 ((runD n st a).2 ++ b)
  | 0, m, st, a, b, h, _ => rfl
  | n + 1, m, st, a, b, h, hm => by
    rw [show runD (n + 1) st a = if 64 ≤ a.length then runD n (blk st (strOf (a.take 64))) (a.drop 64) else (st, a) from rfl]
    split
    · rename_i h64
      rw [List.length_append] at hm
      obtain ⟨m, rfl⟩ : ∃ m', m = m' + 1 := ⟨m - 1, by omega⟩
      rw [show runD (m + 1) st (a ++ b) = if 64 ≤ (a ++ b).length then runD m (blk st (strOf ((a ++ b).take 64))) ((a ++ b).drop 64) else (st, a ++ b) from rfl, if_pos (by rw [List.length_append]; omega), List.take_append_of_le_length h64, List.drop_append_of_le_length h64]
      have := runD_append (n := n) (m := m) (st := blk st (strOf (a.take 64))) (a := a.drop 64) (b := b) (by rw [List.length_drop]; omega) (by rw [List.length_append, List.length_drop]; omega)
      rw [this]
      have hl : (runD n (blk st (strOf (a.take 64))) (a.drop 64)).2.length ≤ a.length - 64 := by
        have : ∀ {n : Nat} {st l : List Int}, (runD n st l).2.length ≤ l.length := by
          intro n
          induction n with
          | zero => intro st l; exact Nat.le_refl _
          | succ n ih =>
            intro st l
            rw [runD]
            split
            · exact Nat.le_trans ih (by rw [List.length_drop]; omega)
            · exact Nat.le_refl _
        exact Nat.le_trans this (by rw [List.length_drop]; omega)
      exact runD_fuel (by rw [List.length_append]; omega) (by rw [List.length_append]; omega)
    · rfl
def H0 : List Int := [1779033703, 3144134277, 1013904242, 2773480762, 1359893119, 2600822924, 528734635, 1541459225]
theorem H0_W : allW H0 := by
  have : H0.all (fun x => decide (0 ≤ x ∧ x < 4294967296)) = true := by decide
  intro x hx
  have := List.all_eq_true.1 this x hx
  simpa [W32] using this
def padL (n : Nat) : List Int := 128 :: (List.replicate ((119 - n % 64) % 64) 0 ++ (four ((8 * n / 4294967296 : Nat) : Int) ++ four ((8 * n % 4294967296 : Nat) : Int)))
theorem padL_len (n : Nat) : (padL n).length = (119 - n % 64) % 64 + 9 := by simp only [padL, List.length_cons, List.length_append, List.length_replicate, four, List.length_nil]
theorem padL_isB (n : Nat) : isB (padL n) := by
  unfold padL
  rw [isB_cons, isB_append, isB_append]
  refine ⟨by omega, ?_, four_isB _, four_isB _⟩
  intro x hx
  have := List.eq_of_mem_replicate hx
  omega
def digL (l : List Int) : List Int := (runD (l.length + 200) H0 (l ++ padL l.length)).1
def dg (s : ByteArray) : ByteArray := strOf (fl (digL (bytesOf s)))
theorem digL_inv (l : List Int) : (digL l).length = 8 ∧ allW (digL l) := by
  have := runD_inv (n := l.length + 200) (st := H0) (l := l ++ padL l.length) rfl H0_W (by rw [List.length_append, padL_len]; omega)
  exact ⟨this.1, this.2.1⟩
theorem dg_size (s : ByteArray) : (dg s).size = 32 := by rw [dg, strOf_len, fl_len, (digL_inv _).1]
theorem bytesOf_repeat (c : Nat) : bytesOf (⟨(Lib.repeatL (⟨#[0]⟩ : ByteArray).data.toList c).toArray⟩ : ByteArray) = List.replicate c 0 := by
  show (Lib.repeatL [0] c).map _ = _
  induction c with
  | zero => rfl
  | succ c ih => rw [Lib.repeatL, List.map_append, ih, List.replicate_succ]; rfl
theorem padding_is (k c : Nat) (hc : c ≤ 1073741824) : i_padding k ((c : Int), ()) = some (strOf (padL c), ((), ())) := by
  unfold i_padding x_strings_Repeat repF
  have e1 : Int.tmod (wi64 ((119 : Int) - (Int.tmod (c : Int) (64 : Int)))) (64 : Int) = (((119 - c % 64) % 64 : Nat) : Int) := by
    have i1 : Int.tmod (c : Int) 64 = (c : Int) % 64 := Int.tmod_eq_emod_of_nonneg (by omega)
    rw [i1, show wi64 ((119 : Int) - (c : Int) % 64) = (119 : Int) - (c : Int) % 64 from w64_id _ (by omega), Int.tmod_eq_emod_of_nonneg (by omega)]
    omega
  have e2 : wi64 ((8 : Int) * (c : Int)) = ((8 * c : Nat) : Int) := (w64_id _ (by omega)).trans (by omega)
  have e3 : Int.fdiv ((8 * c : Nat) : Int) (2 ^ (min (Int.toNat (32 : Int)) (IntKind.bits .i64))) = ((8 * c / 4294967296 : Nat) : Int) := by rw [Int.fdiv_eq_ediv_of_nonneg _ (by decide)]; rfl
  have e4 : bitsI .and .i64 ((8 * c : Nat) : Int) 4294967295 = ((8 * c % 4294967296 : Nat) : Int) := by rw [mask_is (by omega) (by omega)]; omega
  have hz : (119 - c % 64) % 64 < 64 := Nat.mod_lt _ (by omega)
  have cond : (0 : Int) ≤ (((119 - c % 64) % 64 : Nat) : Int) ∧ (((119 - c % 64) % 64 : Nat) : Int) ≤ 9223372036854775807 ∧ (⟨#[0]⟩ : ByteArray).size * (((119 - c % 64) % 64 : Nat) : Int).toNat ≤ 140737488355328 := by
    refine ⟨by omega, by omega, ?_⟩
    rw [Int.toNat_natCast]
    show 1 * _ ≤ _
    omega
  have W1 : W32 ((8 * c / 4294967296 : Nat) : Int) := ⟨by omega, by omega⟩
  have W2 : W32 ((8 * c % 4294967296 : Nat) : Int) := ⟨by omega, by omega⟩
  simp only [e1, e2, e3, e4, NumberText_is k W1, NumberText_is k W2, Option.bind_some]
  rw [if_pos cond]
  simp only [Option.bind_some, Int.toNat_natCast]
  have hrep : (⟨(Lib.repeatL (⟨#[0]⟩ : ByteArray).data.toList ((119 - c % 64) % 64)).toArray⟩ : ByteArray) = strOf (List.replicate ((119 - c % 64) % 64) 0) := by rw [← bytesOf_repeat, strOf_bytes]
  have h1 : (⟨#[128]⟩ : ByteArray) = strOf [128] := rfl
  rw [hrep, h1]
  have sz : ∀ l : List Int, (strOf l).size = l.length := strOf_len
  simp only [← strOf_append, sz]
  have f4 : ∀ n, (four n).length = 4 := fun n => rfl
  rw [if_pos (max_ok _ _ (by simp; omega)), if_pos (max_ok _ _ (by rw [f4]; simp; omega)), if_pos (max_ok _ _ (by rw [List.length_append, f4, f4]; simp; omega))]
  simp [padL]
theorem firstState_is (k : Nat) (hk : 1048576 < k) : i_firstState k () = some (strOf (fl H0), ()) := by
  unfold i_firstState
  have := i_wordsText_is k H0 (by decide) H0_W (by show 8 < k; omega)
  unfold H0 at this
  simp only [this, Option.bind_some]
  rfl
theorem extract_strOf (s : ByteArray) (a b : Nat) : s.extract a b = strOf (((bytesOf s).take b).drop a) := by rw [← bytesOf_extract, strOf_bytes]
theorem rounds_is (k : Nat) (hk : 1048576 < k) : ∀ (n : Nat) (st : List Int) (s : ByteArray), st.length = 8 → allW st → s.size ≤ 2097152 → s.size / 64 ≤ n → n < k →
    i_rounds k (strOf (fl st), (s, ())) = some ((strOf (fl (runD n st (bytesOf s)).1), (strOf (runD n st (bytesOf s)).2, ())), ((), ((), ()))) := by
  have key : ∀ (n : Nat) (st : List Int) (s : ByteArray) (k2 : Nat), st.length = 8 → allW st → s.size ≤ 2097152 → s.size / 64 ≤ n → n < k2 →
    (whileK (fun (rec0 : (ByteArray × ByteArray × Unit) → Option _) (y0 : ByteArray × ByteArray × Unit) =>
(if (decide ((64 : Int) ≤ (ByteArray.size y0.2.1 : Int))) = true then
(if 0 ≤ (64 : Int) ∧ (64 : Int) ≤ (ByteArray.size y0.2.1 : Int) then
((i_round k (y0.1, ((ByteArray.extract y0.2.1 (Int.toNat (0 : Int)) (Int.toNat (64 : Int))), ()))).bind fun p1 =>
(if 0 ≤ (64 : Int) ∧ (64 : Int) ≤ (ByteArray.size y0.2.1 : Int) then
(rec0 (p1.1, ((ByteArray.extract y0.2.1 (Int.toNat (64 : Int)) (Int.toNat (ByteArray.size y0.2.1 : Int))), ())))
else none))
else none)
else
((fun (z1 : ByteArray × ByteArray × Unit) =>
some ((z1.1, (z1.2.1, ())), ((), ((), ())))) (y0.1, (y0.2.1, ()))))) k2 (strOf (fl st), (s, ()))) = some ((strOf (fl (runD n st (bytesOf s)).1), (strOf (runD n st (bytesOf s)).2, ())), ((), ((), ()))) := by
    intro n
    induction n with
    | zero =>
      intro st s k2 h8 hW hs hn hk2
      obtain ⟨k2, rfl⟩ : ∃ k', k2 = k' + 1 := ⟨k2 - 1, by omega⟩
      have c : ¬ (64 : Int) ≤ (s.size : Int) := by omega
      simp only [whileK, c, decide_false, Bool.false_eq_true, if_false, runD, strOf_bytes]
    | succ n ih =>
      intro st s k2 h8 hW hs hn hk2
      obtain ⟨k2, rfl⟩ : ∃ k', k2 = k' + 1 := ⟨k2 - 1, by omega⟩
      by_cases c : (64 : Int) ≤ (s.size : Int)
      · have hsz : (strOf (fl st)).size = 32 := by rw [strOf_len, fl_len, h8]
        have he : (s.extract (Int.toNat 0) (Int.toNat 64)).size = 64 := by show (s.extract 0 64).size = 64; rw [ByteArray.size_extract]; omega
        have hr := i_round_is k (strOf (fl st)) (s.extract (Int.toNat 0) (Int.toNat 64)) hsz he hk
        rw [bytesOf_strOf (fl_isB st), wd_fl hW] at hr
        have e1 : s.extract (Int.toNat 0) (Int.toNat 64) = strOf ((bytesOf s).take 64) := by
          show s.extract 0 64 = _
          rw [extract_strOf, List.drop_zero]
        have e2 : bytesOf (s.extract (Int.toNat 64) (Int.toNat (s.size : Int))) = (bytesOf s).drop 64 := by
          rw [Int.toNat_natCast]
          show bytesOf (s.extract 64 s.size) = _
          rw [bytesOf_extract, List.take_of_length_le (by rw [bytesOf_len]; exact Nat.le_refl _)]
        have hsz2 : (s.extract (Int.toNat 64) (Int.toNat (s.size : Int))).size = s.size - 64 := by
          rw [Int.toNat_natCast]
          show (s.extract 64 s.size).size = _
          rw [ByteArray.size_extract]; omega
        obtain ⟨b1, b2⟩ := blk_inv (b := s.extract (Int.toNat 0) (Int.toNat 64)) h8
        have := ih (blk st (s.extract (Int.toNat 0) (Int.toNat 64))) (s.extract (Int.toNat 64) (Int.toNat (s.size : Int))) k2 b1 b2 (by omega) (by omega) (by omega)
        have c2 : (0 : Int) ≤ 64 ∧ (64 : Int) ≤ (s.size : Int) := ⟨by decide, c⟩
        revert this
        rw [whileK]
        generalize whileK _ k2 = G
        intro this
        simp only [c, c2, and_self, decide_true, if_true, hr, Option.bind_some]
        rw [this, e2]
        rw [show runD (n + 1) st (bytesOf s) = if 64 ≤ (bytesOf s).length then runD n (blk st (strOf ((bytesOf s).take 64))) ((bytesOf s).drop 64) else (st, bytesOf s) from rfl, if_pos (by rw [bytesOf_len]; omega), e1]
      · rw [whileK]
        simp only [c, decide_false, Bool.false_eq_true, if_false]
        rw [runD_short (by rw [bytesOf_len]; omega), strOf_bytes]
  intro n st s h8 hW hs hn hk2
  exact key n st s k h8 hW hs hn hk2
theorem i_DigestOf_is (k : Nat) (s : ByteArray) (hs : s.size ≤ 1500000) (hk : 2097152 < k) : i_DigestOf k (s, ()) = some (dg s, ((), ())) := by
  unfold i_DigestOf
  simp only [firstState_is k (by omega), padding_is k s.size (by omega), Option.bind_some]
  have hp := padL_len s.size
  rw [if_pos (max_ok _ _ (by rw [strOf_len]; omega))]
  have hb : bytesOf (s ++ strOf (padL s.size)) = bytesOf s ++ padL (bytesOf s).length := by rw [bytesOf_append, bytesOf_strOf (padL_isB _), bytesOf_len]
  have hsz : (s ++ strOf (padL s.size)).size = s.size + (padL s.size).length := by rw [ByteArray.size_append, strOf_len]
  have := rounds_is k (by omega) ((bytesOf s).length + 200) H0 (s ++ strOf (padL s.size)) rfl H0_W (by omega) (by rw [bytesOf_len]; omega) (by rw [bytesOf_len]; omega)
  rw [hb] at this
  simp only [this, Option.bind_some]
  rfl
theorem HasherOk_is (k : Nat) (S R : ByteArray) (c : Int) (hS : S.size = 32) (hR : R.size < 64) (hc : 0 ≤ c ∧ c ≤ 1000000000) (hr : c % 64 = R.size) : s_HasherOk k ((S, (R, (c, ()))), ()) = some (true, ((), ())) := by
  unfold s_HasherOk
  have c1 : (S.size : Int) = 32 := by omega
  have c2 : (R.size : Int) < 64 := by omega
  have c3 : Int.tmod c 64 = (R.size : Int) := by rw [Int.tmod_eq_emod_of_nonneg hc.1]; exact hr
  simp only [c1, c2, c3, l01In_is, hc, and_self, decide_true, Bool.not_true, Bool.false_eq_true, if_true, if_false, Option.bind_some]
/-- A loop over blocks of 64 bytes. -/
theorem blocks_loop {X R : Type} {step : (X → Option R) → X → Option R} (mk : List Int → Nat → X) (l : List Int) (fin : List Int → List Int → Option R)
    (h1 : ∀ again st (p : Nat), p % 64 = 0 → st.length = 8 → allW st → p + 64 ≤ l.length → step again (mk st p) = again (mk (blk st (strOf ((l.drop p).take 64))) (p + 64)))
    (h2 : ∀ again st (p : Nat), p % 64 = 0 → st.length = 8 → allW st → ¬ p + 64 ≤ l.length → p ≤ l.length → step again (mk st p) = fin st (l.drop p)) :
    ∀ (n p : Nat) (st : List Int) (k : Nat), p % 64 = 0 → st.length = 8 → allW st → p ≤ l.length → (l.length - p) / 64 ≤ n → n < k → whileK step k (mk st p) = fin (runD n st (l.drop p)).1 (runD n st (l.drop p)).2 := by
  intro n
  induction n with
  | zero =>
    intro p st k hp64 h8 hW hp hn hk
    obtain ⟨k, rfl⟩ : ∃ k', k = k' + 1 := ⟨k - 1, by omega⟩
    show step _ _ = _
    rw [h2 _ _ _ hp64 h8 hW (by omega) hp]
    rfl
  | succ n ih =>
    intro p st k hp64 h8 hW hp hn hk
    obtain ⟨k, rfl⟩ : ∃ k', k = k' + 1 := ⟨k - 1, by omega⟩
    show step _ _ = _
    by_cases c : p + 64 ≤ l.length
    · obtain ⟨b1, b2⟩ := blk_inv (b := strOf ((l.drop p).take 64)) h8
      rw [h1 _ _ _ hp64 h8 hW c, ih (p + 64) _ k (by omega) b1 b2 c (by omega) (by omega)]
      rw [show runD (n + 1) st (l.drop p) = if 64 ≤ (l.drop p).length then runD n (blk st (strOf ((l.drop p).take 64))) ((l.drop p).drop 64) else (st, l.drop p) from rfl, if_pos (by rw [List.length_drop]; omega), List.drop_drop]
    · rw [h2 _ _ _ hp64 h8 hW c hp, runD_short (by rw [List.length_drop]; omega)]
theorem HashMore_is (k : Nat) (st0 : List Int) (R s : ByteArray) (c : Nat) (h8 : st0.length = 8) (hW : allW st0) (hR : R.size < 64) (hc : c % 64 = R.size) (hcs : c + s.size ≤ 1048576 + 100) (hsz : R.size + s.size ≤ 2000000) (hk : 2097152 < k) :
    s_HashMore k ((strOf (fl st0), (R, ((c : Int), ()))), (s, ())) = some ((strOf (fl (runD (R.size + s.size) st0 (bytesOf (R ++ s))).1), (strOf (runD (R.size + s.size) st0 (bytesOf (R ++ s))).2, (((c + s.size : Nat) : Int), ()))), ((), ((), ()))) := by
  unfold s_HashMore
  have hS : (strOf (fl st0)).size = 32 := by rw [strOf_len, fl_len, h8]
  have w0 : wi64 ((c : Int) + (s.size : Int)) = ((c + s.size : Nat) : Int) := (w64_id _ (by omega)).trans (by omega)
  have c0 : ¬ (1000000000 : Int) < ((c + s.size : Nat) : Int) := by omega
  have hw := l04Words_is k (strOf (fl st0)) (by omega) (by omega)
  rw [bytesOf_strOf (fl_isB st0), wd_fl hW] at hw
  have hm : R.size + s.size ≤ maxStr := max_ok _ _ (by omega)
  simp only [HasherOk_is k _ R (c : Int) hS hR (by omega) (by omega), w0, c0, hw, l04K_is, hm, Bool.not_true, decide_false, Bool.false_eq_true, if_true, if_false, Option.bind_some]
  have hB : (R ++ s).size = R.size + s.size := ByteArray.size_append
  generalize R ++ s = buf at *
  rw [← hB]
  have hl : (bytesOf buf).length = buf.size := bytesOf_len buf
  refine (blocks_loop (fun st p => (s, ((strOf (fl st0), (R, ((c : Int), ()))), (((⟨#[]⟩ : ByteArray), ((⟨#[]⟩ : ByteArray), ((0 : Int), ()))), (st, (KL, (buf, ((p : Int), ())))))))) (bytesOf buf) (fun st r => some ((strOf (fl st), (strOf r, (((c + s.size : Nat) : Int), ()))), ((), ((), ())))) ?_ ?_ buf.size 0 st0 k rfl h8 hW (by omega) (by omega) (by omega)).trans rfl
  · intro again st p _ h8 hW hp
    rw [hl] at hp
    have w1 : wi64 ((p : Int) + 64) = ((p + 64 : Nat) : Int) := (w64_id _ (by omega)).trans (by omega)
    have c1 : ((p + 64 : Nat) : Int) ≤ (buf.size : Int) := by omega
    have c2 : (0 : Int) ≤ ((p + 64 : Nat) : Int) := by omega
    have c3 : (0 : Int) ≤ (p : Int) ∧ (p : Int) ≤ ((p + 64 : Nat) : Int) := by omega
    have he : (buf.extract p (p + 64)).size = 64 := by rw [ByteArray.size_extract]; omega
    have e1 : buf.extract p (p + 64) = strOf (((bytesOf buf).drop p).take 64) := by rw [extract_strOf, List.drop_take]; congr 2; omega
    have hr := s_round_is k st _ h8 hW (show (strOf (((bytesOf buf).drop p).take 64)).size = 64 by rw [← e1]; exact he) (by omega)
    simp only [w1, c1, c2, c3, Int.toNat_natCast, e1, hr, and_self, decide_true, if_true, Option.bind_some]
  · intro again st p _ h8 hW hp hp2
    rw [hl] at hp hp2
    have w1 : wi64 ((p : Int) + 64) = ((p + 64 : Nat) : Int) := (w64_id _ (by omega)).trans (by omega)
    have c1 : ¬ ((p + 64 : Nat) : Int) ≤ (buf.size : Int) := by omega
    have c2 : (0 : Int) ≤ (p : Int) ∧ (p : Int) ≤ (buf.size : Int) := by omega
    have e1 : buf.extract p buf.size = strOf ((bytesOf buf).drop p) := by rw [extract_strOf, List.take_of_length_le (by omega)]
    simp only [w1, c1, c2, w0, Int.toNat_natCast, l04Bytes_is k st (by omega) hW (by omega), e1, and_self, decide_false, Bool.false_eq_true, if_false, if_true, Option.bind_some]
def dvG (_ : Nat) (x : Int) : Int := wi64 (Int.tdiv x 256)
def byG (b : Int) (j : Nat) (l : List Int) : List Int := l ++ [wu8 (Int.tmod (iterN dvG (7 - j) 0 b) 256)]
theorem dv_is (b : Nat) (h : b < 9223372036854775808) : dvG 0 (b : Int) = ((b / 256 : Nat) : Int) := by
  unfold dvG
  rw [Int.tdiv_eq_ediv_of_nonneg (by omega)]
  have : wi64 ((b : Int) / 256) = (b : Int) / 256 := w64_id _ (by omega)
  rw [this]
  omega
theorem iterdv (n i b : Nat) (h : b < 9223372036854775808) : iterN dvG n i (b : Int) = ((b / 256 ^ n : Nat) : Int) := by
  induction n generalizing i b with
  | zero => simp [iterN]
  | succ n ih =>
    rw [iterN, show dvG i (b : Int) = dvG 0 (b : Int) from rfl, dv_is b h, ih (i + 1) (b / 256) (by omega), Nat.div_div_eq_div_mul, ← Nat.pow_succ']
theorem byG_is (b j : Nat) (l : List Int) (h : b < 9223372036854775808) : byG (b : Int) j l = l ++ [((b / 256 ^ (7 - j) % 256 : Nat) : Int)] := by
  unfold byG
  rw [iterdv _ _ _ h, Int.tmod_eq_emod_of_nonneg (Int.natCast_nonneg _)]
  generalize b / 256 ^ (7 - j) = q
  congr 2
  have : wu8 ((q : Int) % 256) = ((q : Int) % 256) % 256 := w8_mod _
  rw [this]
  omega
theorem bits8 (b : Nat) (l : List Int) (h : b < 9223372036854775808) : iterN (byG (b : Int)) 8 0 l = l ++ (four ((b / 4294967296 : Nat) : Int) ++ four ((b % 4294967296 : Nat) : Int)) := by
  simp only [iterN, byG_is _ _ _ h, List.append_assoc, four]
  congr 1
  simp only [List.cons_append, List.nil_append, List.cons.injEq, and_true]
  have p7 : 256 ^ (7 - 0) = 72057594037927936 := by decide
  have p6 : 256 ^ (7 - (0 + 1)) = 281474976710656 := by decide
  have p5 : 256 ^ (7 - (0 + 1 + 1)) = 1099511627776 := by decide
  have p4 : 256 ^ (7 - (0 + 1 + 1 + 1)) = 4294967296 := by decide
  have p3 : 256 ^ (7 - (0 + 1 + 1 + 1 + 1)) = 16777216 := by decide
  have p2 : 256 ^ (7 - (0 + 1 + 1 + 1 + 1 + 1)) = 65536 := by decide
  have p1 : 256 ^ (7 - (0 + 1 + 1 + 1 + 1 + 1 + 1)) = 256 := by decide
  have p0 : 256 ^ (7 - (0 + 1 + 1 + 1 + 1 + 1 + 1 + 1)) = 1 := by decide
  rw [p7, p6, p5, p4, p3, p2, p1, p0]
  omega
theorem HashEnd_is (k : Nat) (st0 : List Int) (R : ByteArray) (c : Nat) (h8 : st0.length = 8) (hW : allW st0) (hR : R.size < 64) (hc : c % 64 = R.size) (hcs : c ≤ 1048576 + 100) (hk : 2097152 < k) :
    s_HashEnd k ((strOf (fl st0), (R, ((c : Int), ()))), ()) = some (strOf (fl (runD 2 st0 (bytesOf R ++ padL c)).1), ((), ())) := by
  unfold s_HashEnd
  have hS : (strOf (fl st0)).size = 32 := by rw [strOf_len, fl_len, h8]
  have hm : R.size ≤ maxStr := by have := max_ok R.size 0 (by omega); omega
  have hB : (bytesOf R).length = R.size := bytesOf_len R
  have hcap : (bytesOf R).length + List.length ([128] : List Int) ≤ capMax := cap_ok _ _ (by rw [hB]; simp; omega)
  simp only [HasherOk_is k _ R (c : Int) hS hR (by omega) (by omega), hm, hcap, Bool.not_true, Bool.false_eq_true, if_true, if_false, Option.bind_some]
  have w8 : wi64 ((8 : Int) * (c : Int)) = ((8 * c : Nat) : Int) := (w64_id _ (by omega)).trans (by omega)
  generalize hz : (119 - c % 64) % 64 = z
  have hpad : bytesOf R ++ padL c = iterN (byG ((8 * c : Nat) : Int)) 8 0 (bytesOf R ++ ([128] ++ List.replicate z 0)) := by
    rw [bits8 _ _ (by omega), padL, hz]
    simp [List.append_assoc]
  have hpl : (bytesOf R ++ padL c).length = R.size + z + 9 := by rw [List.length_append, hB, padL_len, hz]; omega
  refine (run_loop (A := Unit) (fun j _ => ((strOf (fl st0), (R, ((c : Int), ()))), (bytesOf R ++ ([128] ++ List.replicate j 0), ()))) z (fun _ _ => ()) (fun _ => some (strOf (fl (runD 2 st0 (bytesOf R ++ padL c)).1), ((), ()))) (fun _ _ => True) ?_ ?_ z 0 () k (by omega) trivial (by omega)).trans rfl
  · intro again j _ hj _
    have hl : (bytesOf R ++ ([128] ++ List.replicate j 0)).length = R.size + 1 + j := by simp [hB]; omega
    have g : ¬ Int.tmod (((bytesOf R ++ ([128] ++ List.replicate j 0)).length : Nat) : Int) 64 = 56 := by rw [hl, Int.tmod_eq_emod_of_nonneg (by omega)]; omega
    have hc2 : (bytesOf R ++ ([128] ++ List.replicate j 0)).length + List.length ([0] : List Int) ≤ capMax := cap_ok _ _ (by rw [hl]; simp; omega)
    refine ⟨?_, trivial⟩
    simp only [g, hc2, decide_false, Bool.not_false, if_true]
    rw [List.replicate_succ']
    simp [List.append_assoc]
  · intro again _ _
    have hl : (bytesOf R ++ ([128] ++ List.replicate z 0)).length = R.size + 1 + z := by simp [hB]; omega
    have g : Int.tmod (((bytesOf R ++ ([128] ++ List.replicate z 0)).length : Nat) : Int) 64 = 56 := by rw [hl, Int.tmod_eq_emod_of_nonneg (by omega)]; omega
    simp only [g, w8, decide_true, Bool.not_true, Bool.false_eq_true, if_false]
    refine (run_loop (A := List Int) (fun j l => ((strOf (fl st0), (R, ((c : Int), ()))), (l, (((8 * c : Nat) : Int), ((7 : Int) - (j : Int), ()))))) 8 (byG ((8 * c : Nat) : Int)) (fun l => some (strOf (fl (runD 2 st0 l).1), ((), ()))) (fun j l => l.length = R.size + 1 + z + j) ?_ ?_ 8 0 (bytesOf R ++ ([128] ++ List.replicate z 0)) k (by omega) (by rw [hl]; rfl) (by omega)).trans ?_
    · intro again j l hj hjl
      have g0 : (0 : Int) ≤ 7 - (j : Int) := by omega
      have w1 : wi64 ((7 : Int) - (j : Int) - 1) = (7 : Int) - ((j + 1 : Nat) : Int) := (w64_id _ (by omega)).trans (by omega)
      refine ⟨?_, by unfold byG; rw [List.length_append, hjl]; rfl⟩
      simp only [g0, decide_true, if_true]
      refine (run_loop (A := Int) (fun i x => ((strOf (fl st0), (R, ((c : Int), ()))), (l, (((8 * c : Nat) : Int), ((7 : Int) - (j : Int), (x, ((i : Int), ()))))))) (7 - j) dvG (fun x => again ((strOf (fl st0), (R, ((c : Int), ()))), (l ++ [wu8 (Int.tmod x 256)], (((8 * c : Nat) : Int), ((7 : Int) - ((j + 1 : Nat) : Int), ()))))) (fun _ _ => True) ?_ ?_ (7 - j) 0 _ k (by omega) trivial (by omega)).trans rfl
      · intro again2 i x hi _
        have q1 : (i : Int) < 7 - (j : Int) := by omega
        have q2 : wi64 ((i : Int) + 1) = ((i + 1 : Nat) : Int) := (w64_id _ (by omega)).trans (by omega)
        refine ⟨?_, trivial⟩
        simp only [q1, q2, decide_true, if_true]
        rfl
      · intro again2 x _
        have q1 : ¬ ((7 - j : Nat) : Int) < 7 - (j : Int) := by omega
        have hc3 : l.length + List.length ([wu8 (Int.tmod x 256)] : List Int) ≤ capMax := cap_ok _ _ (by rw [hjl]; simp; omega)
        simp only [q1, w1, hc3, decide_false, Bool.false_eq_true, if_true, if_false]
    · intro again l hll
      have g0 : ¬ (0 : Int) ≤ 7 - ((8 : Nat) : Int) := by decide
      have hw := l04Words_is k (strOf (fl st0)) (by omega) (by omega)
      rw [bytesOf_strOf (fl_isB st0), wd_fl hW] at hw
      simp only [g0, hw, l04K_is, decide_false, Bool.false_eq_true, if_false, Option.bind_some]
      refine (blocks_loop (fun st p => (l, (st, (KL, ((p : Int), ()))))) l (fun st _ => some (strOf (fl st), ((), ()))) ?_ ?_ 2 0 st0 k rfl h8 hW (by omega) (by omega) (by omega)).trans rfl
      · intro again2 st p _ h8 hW hp
        have w1 : wi64 ((p : Int) + 64) = ((p + 64 : Nat) : Int) := (w64_id _ (by omega)).trans (by omega)
        have c0 : (p : Int) < (l.length : Int) := by omega
        have c1 : (0 : Int) ≤ ((p + 64 : Nat) : Int) ∧ ((p + 64 : Nat) : Int) ≤ (l.length : Int) := by omega
        have c3 : (0 : Int) ≤ (p : Int) ∧ (p : Int) ≤ ((p + 64 : Nat) : Int) := by omega
        have e1 : (l.take (p + 64)).drop p = (l.drop p).take 64 := by rw [List.drop_take]; congr 1; omega
        have hr := s_round_is k st (strOf ((l.drop p).take 64)) h8 hW (by rw [strOf_len, List.length_take, List.length_drop]; omega) (by omega)
        simp only [w1, c0, c1, c3, Int.toNat_natCast, e1, hr, and_self, decide_true, if_true, Option.bind_some]
      · intro again2 st p hp64 h8 hW hp hp2
        have c0 : ¬ (p : Int) < (l.length : Int) := by omega
        simp only [c0, l04Bytes_is k st (by omega) hW (by omega), decide_false, Bool.false_eq_true, if_false, Option.bind_some]
    · rw [← hpad]
theorem s_DigestOf_is (k : Nat) (s : ByteArray) (hs : s.size ≤ 1048576 + 100) (hk : 2097152 < k) : s_DigestOf k (s, ()) = some (dg s, ((), ())) := by
  unfold s_DigestOf s_HasherNew
  have hB := l04Bytes_is k H0 (by decide) H0_W (by show 8 < k; omega)
  have h1 : s_l04First k () = some (H0, ()) := rfl
  have hm := HashMore_is k H0 (⟨#[]⟩ : ByteArray) s 0 rfl H0_W (by decide) rfl (by omega) (by show 0 + s.size ≤ _; omega) hk
  have he : (⟨#[]⟩ : ByteArray) ++ s = s := by apply bytesOf_inj; rw [bytesOf_append]; rfl
  rw [he] at hm
  simp only [h1, hB, Option.bind_some]
  have hm' : s_HashMore k ((strOf (fl H0), ((⟨#[]⟩ : ByteArray), ((0 : Int), ()))), (s, ())) = _ := hm
  rw [hm']
  simp only [Option.bind_some]
  have hl := bytesOf_len s
  obtain ⟨i1, i2, i3⟩ := runD_inv (n := (⟨#[]⟩ : ByteArray).size + s.size) (st := H0) (l := bytesOf s) rfl H0_W (by rw [hl]; show _ ≤ 0 + s.size; omega)
  have hR : (strOf (runD ((⟨#[]⟩ : ByteArray).size + s.size) H0 (bytesOf s)).2).size = s.size % 64 := by rw [strOf_len, i3, hl]
  have hE := HashEnd_is k _ (strOf (runD ((⟨#[]⟩ : ByteArray).size + s.size) H0 (bytesOf s)).2) (0 + s.size) i1 i2 (by omega) (by omega) (by omega) hk
  rw [hE]
  simp only [Option.bind_some]
  rw [bytesOf_strOf (runD_isB (bytesOf_isB s))]
  unfold dg digL
  have hp := padL_len (bytesOf s).length
  have key := runD_append (n := (⟨#[]⟩ : ByteArray).size + s.size) (m := (bytesOf s).length + 200) (st := H0) (a := bytesOf s) (b := padL (bytesOf s).length) (by rw [hl]; show _ ≤ 0 + s.size; omega) (by rw [List.length_append]; omega)
  rw [key]
  have hz : 0 + s.size = (bytesOf s).length := by omega
  rw [hz]
  rw [runD_fuel (n := 2) (m := (bytesOf s).length + 200) (by rw [List.length_append, hp, i3]; omega) (by rw [List.length_append, hp, i3]; omega)]
/-- The bytes of a number: seven bits each, the lowest first. -/
def enc (n : Nat) : List Int := if h : 127 < n then ((n % 128 + 128 : Nat) : Int) :: enc (n / 128) else [(n : Int)]
theorem enc_big {n : Nat} (h : 127 < n) : enc n = ((n % 128 + 128 : Nat) : Int) :: enc (n / 128) := by rw [enc, dif_pos h]
theorem enc_small {n : Nat} (h : ¬ 127 < n) : enc n = [(n : Int)] := by rw [enc, dif_neg h]
theorem enc_len (j n : Nat) (h : n < 128 ^ (j + 1)) : (enc n).length ≤ j + 1 := by
  induction j generalizing n with
  | zero => rw [enc_small (by omega)]; simp
  | succ j ih =>
    by_cases c : 127 < n
    · rw [enc_big c]
      have := ih (n / 128) (by rw [Nat.pow_succ] at h; exact Nat.div_lt_of_lt_mul (by omega))
      simpa using this
    · rw [enc_small c]; simp
theorem w8_id (n : Int) (h : 0 ≤ n ∧ n < 256) : wu8 n = n := by
  show IntKind.u8.wrap n = n
  rw [IntKind.wrap_u8]
  omega
theorem tmod_pos (a b : Int) (h : 0 ≤ a) : Int.tmod a b = a % b := Int.tmod_eq_emod_of_nonneg h
theorem tdiv_pos (a b : Int) (h : 0 ≤ a) : Int.tdiv a b = a / b := Int.tdiv_eq_ediv_of_nonneg h
/-- The loop that writes a number. -/
theorem var_loop {R : Type} {step : (Int × List Int × Unit → Option R) → Int × List Int × Unit → Option R} (fin : List Int → Option R)
    (hs : ∀ again (n : Nat) (out : List Int), 127 < n → n < 128 ^ 8 → out.length ≤ 100 → step again ((n : Int), (out, ())) = again (((n / 128 : Nat) : Int), (out ++ [((n % 128 + 128 : Nat) : Int)], ())))
    (he : ∀ again (n : Nat) (out : List Int), ¬ 127 < n → out.length ≤ 100 → step again ((n : Int), (out, ())) = fin (out ++ [(n : Int)])) :
    ∀ (j n : Nat) (out : List Int) (k : Nat), n < 128 ^ (j + 1) → j ≤ 7 → out.length + j ≤ 100 → j < k → whileK step k ((n : Int), (out, ())) = fin (out ++ enc n) := by
  intro j
  induction j with
  | zero =>
    intro n out k h _ ho hk
    obtain ⟨k, rfl⟩ : ∃ k', k = k' + 1 := ⟨k - 1, by omega⟩
    show step _ _ = _
    rw [he _ _ _ (by omega) (by omega), enc_small (by omega)]
  | succ j ih =>
    intro n out k h hj ho hk
    obtain ⟨k, rfl⟩ : ∃ k', k = k' + 1 := ⟨k - 1, by omega⟩
    show step _ _ = _
    by_cases c : 127 < n
    · have hp : 128 ^ (j + 1 + 1) ≤ 128 ^ 8 := Nat.pow_le_pow_right (by omega) (by omega)
      rw [hs _ _ _ c (by omega) (by omega), enc_big c]
      have := ih (n / 128) (out ++ [((n % 128 + 128 : Nat) : Int)]) k (by rw [Nat.pow_succ] at h; exact Nat.div_lt_of_lt_mul (by omega)) (by omega) (by simp; omega) (by omega)
      rw [this]
      simp
    · rw [he _ _ _ c (by omega), enc_small c]
theorem var_step (n : Nat) (h : n < 128 ^ 8) (c : 127 < n) : wi64 (Int.tdiv (n : Int) 128) = ((n / 128 : Nat) : Int) ∧ wu8 (wi64 (Int.tmod (n : Int) 128 + 128)) = ((n % 128 + 128 : Nat) : Int) := by
  have h8 : (128 : Nat) ^ 8 = 72057594037927936 := by decide
  rw [tdiv_pos _ _ (by omega), tmod_pos _ _ (by omega)]
  constructor
  · rw [show wi64 ((n : Int) / 128) = (n : Int) / 128 from w64_id _ (by omega)]; omega
  · rw [show wi64 ((n : Int) % 128 + 128) = (n : Int) % 128 + 128 from w64_id _ (by omega), w8_id _ (by omega)]; omega
theorem l01Var_is (k n : Nat) (hn : n < 128 ^ 8) (hk : 1048576 < k) : s_l01Var k ((n : Int), ()) = some (strOf (enc n), ((), ())) := by
  unfold s_l01Var
  have := var_loop (fun l => (some (strOf l, ((), ())) : Option (ByteArray × Unit × Unit))) (step := fun (rec0 : (Int × List (Int) × Unit) → Option (ByteArray × Unit × Unit)) (y0 : Int × List (Int) × Unit) =>
(if (decide ((127 : Int) < y0.1)) = true then
(if List.length y0.2.1 + List.length ([(wu8 ((wi64 ((Int.tmod y0.1 (128 : Int)) + (128 : Int)))))] : List (Int)) ≤ capMax then
(rec0 ((wi64 (Int.tdiv y0.1 (128 : Int))), ((y0.2.1 ++ ([(wu8 ((wi64 ((Int.tmod y0.1 (128 : Int)) + (128 : Int)))))] : List (Int))), ())))
else none)
else
((fun (z1 : Int × List (Int) × Unit) =>
(if List.length z1.2.1 + List.length ([(wu8 (z1.1))] : List (Int)) ≤ capMax then
some ((strOf (z1.2.1 ++ ([(wu8 (z1.1))] : List (Int)))), ((), ()))
else none)) (y0.1, (y0.2.1, ()))))) ?_ ?_ 7 n [] k hn (by omega) (by simp) (by omega)
  · exact this
  · intro again n out c h ho
    obtain ⟨e1, e2⟩ := var_step n h c
    have g : (127 : Int) < (n : Int) := by omega
    simp only [g, e1, e2, decide_true, if_true]
    rw [if_pos (cap_ok _ _ (by simp; omega))]
  · intro again n out c ho
    have g : ¬ (127 : Int) < (n : Int) := by omega
    have e : wu8 (n : Int) = (n : Int) := w8_id _ (by omega)
    simp only [g, e, decide_false, Bool.false_eq_true, if_false]
    rw [if_pos (cap_ok _ _ (by simp; omega))]
/-- A list is turned place by place. -/
theorem set_loop {X R : Type} {step : (X → Option R) → X → Option R} (mk : List Int → Nat → X) (L L' : List Int) (fin : Option R) (hl : L'.length = L.length)
    (hs : ∀ again (W : List Int) (i : Nat), i < L.length → W.length = L.length → rdI W (i : Int) = rdI L (i : Int) → step again (mk W i) = again (mk (W.set i (rdI L' (i : Int))) (i + 1)))
    (he : ∀ again, step again (mk L' L.length) = fin) (k : Nat) (hk : L.length < k) : whileK step k (mk L 0) = fin := by
  have key : ∀ m i k, i + m = L.length → m < k → whileK step k (mk (L'.take i ++ L.drop i) i) = fin := by
    intro m
    induction m with
    | zero =>
      intro i k h hk
      obtain ⟨k, rfl⟩ : ∃ k', k = k' + 1 := ⟨k - 1, by omega⟩
      have : i = L.length := by omega
      subst this
      show step _ _ = _
      rw [List.take_of_length_le (by omega), List.drop_eq_nil_of_le (by omega), List.append_nil, he]
    | succ m ih =>
      intro i k h hk
      obtain ⟨k, rfl⟩ : ∃ k', k = k' + 1 := ⟨k - 1, by omega⟩
      have ht : (L'.take i).length = i := by rw [List.length_take]; omega
      have hi : i < L.length := by omega
      have hlen : (L'.take i ++ L.drop i).length = L.length := by rw [List.length_append, ht, List.length_drop]; omega
      have e1 : rdI (L'.take i ++ L.drop i) (i : Int) = rdI L (i : Int) := by
        rw [rdI_get _ i (by omega), rdI_get L i hi, List.getElem_append_right (by omega), List.getElem_drop]
        congr 1
        omega
      have e2 : (L'.take i ++ L.drop i).set i (rdI L' (i : Int)) = L'.take (i + 1) ++ L.drop (i + 1) := by
        rw [rdI_get L' i (by omega), List.set_append_right _ _ (by omega), ht, Nat.sub_self, List.drop_eq_getElem_cons hi, List.set_cons_zero, List.take_succ_eq_append_getElem (by omega), List.append_assoc]
        rfl
      show step _ _ = _
      rw [hs _ _ i hi hlen e1, e2]
      exact ih (i + 1) k (by omega) (by omega)
  have := key L.length 0 k (by omega) hk
  simpa using this
def bx (v x : Int) : Int := bitsI .xor .u8 v x
def keyS (key : ByteArray) : ByteArray := if 64 < key.size then dg key else key
def keyL (key : ByteArray) : List Int := bytesOf (keyS key) ++ List.replicate (64 - (keyS key).size) 0
theorem keyS_size (key : ByteArray) : (keyS key).size ≤ 64 := by
  unfold keyS
  split
  · rw [dg_size]; decide
  · omega
theorem keyL_len (key : ByteArray) : (keyL key).length = 64 := by
  have := keyS_size key
  unfold keyL
  rw [List.length_append, bytesOf_len, List.length_replicate]
  omega
def mk64 (key : ByteArray) (x : Int) : ByteArray := strOf ((keyL key).map fun v => bx v x)
theorem mk64_size (key : ByteArray) (x : Int) : (mk64 key x).size = 64 := by rw [mk64, strOf_len, List.length_map, keyL_len]
def macS (key s : ByteArray) : ByteArray := dg (mk64 key 92 ++ dg (mk64 key 54 ++ s))
theorem macS_size (key s : ByteArray) : (macS key s).size = 32 := dg_size _
theorem masked_is (k : Nat) (s : ByteArray) (x : Int) (hs : s.size ≤ 1048576) (hk : 2097152 < k) : i_masked k (s, (x, ())) = some (strOf ((bytesOf s).map fun v => bx v x), ((), ((), ()))) := by
  unfold i_masked
  have hm : s.size ≤ maxStr := by have := max_ok s.size 0 (by omega); omega
  have hl := bytesOf_len s
  simp only [hm, if_true]
  refine set_loop (fun W i => (x, (W, (((bytesOf s).length : Int), ((i : Int), ()))))) (bytesOf s) ((bytesOf s).map fun v => bx v x) _ (by simp) ?_ ?_ k (by omega)
  · intro again W i hi hW hWi
    have c1 : (i : Int) < ((bytesOf s).length : Int) := by omega
    have c2 : (0 : Int) ≤ (i : Int) ∧ (i : Int) < (W.length : Int) := by omega
    have w1 : wi64 ((i : Int) + 1) = ((i + 1 : Nat) : Int) := (w64_id _ (by omega)).trans (by omega)
    have e : rdI ((bytesOf s).map fun v => bx v x) (i : Int) = bitsI .xor .u8 (rdI (bytesOf s) (i : Int)) x := by
      rw [rdI_get _ i (by simpa using hi), rdI_get _ i hi, List.getElem_map]
      rfl
    simp only [c1, c2, w1, rdI_is, hWi, e, Int.toNat_natCast, and_self, decide_true, if_true]
  · intro again
    simp
theorem repeat0_is (k n : Nat) (hn : n ≤ 1000) : x_strings_Repeat k ((⟨#[0]⟩ : ByteArray), ((n : Int), ())) = some (strOf (List.replicate n 0), ((), ((), ()))) := by
  unfold x_strings_Repeat repF
  have cond : (0 : Int) ≤ (n : Int) ∧ (n : Int) ≤ 9223372036854775807 ∧ (⟨#[0]⟩ : ByteArray).size * (n : Int).toNat ≤ 140737488355328 := by
    refine ⟨by omega, by omega, ?_⟩
    rw [Int.toNat_natCast]
    show 1 * _ ≤ _
    omega
  simp only []
  rw [if_pos cond, Int.toNat_natCast]
  have hrep : (⟨(Lib.repeatL (⟨#[0]⟩ : ByteArray).data.toList n).toArray⟩ : ByteArray) = strOf (List.replicate n 0) := by rw [← bytesOf_repeat, strOf_bytes]
  rw [hrep]
theorem key_pad (key : ByteArray) : bytesOf (keyS key ++ strOf (List.replicate (64 - (keyS key).size) 0)) = keyL key := by
  rw [bytesOf_append, bytesOf_strOf (by intro x hx; have := List.eq_of_mem_replicate hx; omega)]
  rfl
theorem i_MacOf_is (k : Nat) (key s : ByteArray) (hkey : key.size ≤ 1048576) (hs : s.size ≤ 1048576 - 100) (hk : 2097152 < k) : i_MacOf k (key, (s, ())) = some (macS key s, ((), ((), ()))) := by
  unfold i_MacOf
  have body : ∀ K : ByteArray, K = keyS key → K.size ≤ 64 → ((x_strings_Repeat k ((⟨#[0]⟩ : ByteArray), ((wi64 ((64 : Int) - (ByteArray.size K : Int))), ()))).bind fun p12 =>
(if ByteArray.size K + ByteArray.size p12.1 ≤ maxStr then
((i_masked k ((K ++ p12.1), ((92 : Int), ()))).bind fun p13 =>
((i_masked k ((K ++ p12.1), ((54 : Int), ()))).bind fun p14 =>
(if ByteArray.size p14.1 + ByteArray.size s ≤ maxStr then
((i_DigestOf k ((p14.1 ++ s), ())).bind fun p15 =>
(if ByteArray.size p13.1 + ByteArray.size p15.1 ≤ maxStr then
((i_DigestOf k ((p13.1 ++ p15.1), ())).bind fun p16 =>
some (p16.1, ((), ((), ()))))
else none))
else none)))
else none)) = some (macS key s, ((), ((), ()))) := by
    intro K hK hK64
    have w : wi64 ((64 : Int) - (K.size : Int)) = ((64 - K.size : Nat) : Int) := (w64_id _ (by omega)).trans (by omega)
    have sz : (K ++ strOf (List.replicate (64 - K.size) 0)).size = 64 := by rw [ByteArray.size_append, strOf_len, List.length_replicate]; omega
    have hb : bytesOf (K ++ strOf (List.replicate (64 - K.size) 0)) = keyL key := by rw [hK]; exact key_pad key
    have m1 := masked_is k (K ++ strOf (List.replicate (64 - K.size) 0)) 92 (by omega) hk
    have m2 := masked_is k (K ++ strOf (List.replicate (64 - K.size) 0)) 54 (by omega) hk
    rw [hb] at m1 m2
    have m1' : i_masked k (K ++ strOf (List.replicate (64 - K.size) 0), ((92 : Int), ())) = some (mk64 key 92, ((), ((), ()))) := m1
    have m2' : i_masked k (K ++ strOf (List.replicate (64 - K.size) 0), ((54 : Int), ())) = some (mk64 key 54, ((), ((), ()))) := m2
    have d1 := i_DigestOf_is k (mk64 key 54 ++ s) (by rw [ByteArray.size_append, mk64_size]; omega) hk
    have d2 := i_DigestOf_is k (mk64 key 92 ++ dg (mk64 key 54 ++ s)) (by rw [ByteArray.size_append, mk64_size, dg_size]; omega) hk
    have c1 : K.size + (strOf (List.replicate (64 - K.size) 0)).size ≤ maxStr := max_ok _ _ (by rw [strOf_len, List.length_replicate]; omega)
    have c2 : (mk64 key 54).size + s.size ≤ maxStr := max_ok _ _ (by rw [mk64_size]; omega)
    have c3 : (mk64 key 92).size + (dg (mk64 key 54 ++ s)).size ≤ maxStr := max_ok _ _ (by rw [mk64_size, dg_size]; omega)
    simp only [w, repeat0_is k _ (show 64 - K.size ≤ 1000 by omega), c1, m1', m2', d1, d2, c2, c3, if_true, Option.bind_some]
    rfl
  by_cases c : (64 : Int) < (key.size : Int)
  · have hK : dg key = keyS key := by unfold keyS; rw [if_pos (by omega)]
    simp only [c, decide_true, if_true, i_DigestOf_is k key (by omega) hk, Option.bind_some]
    exact body _ hK (by rw [dg_size]; decide)
  · have hK : key = keyS key := by unfold keyS; rw [if_neg (by omega)]
    simp only [c, decide_false, Bool.false_eq_true, if_false]
    exact body _ hK (by omega)
theorem l05Mask_is (k : Nat) (key : ByteArray) (x : Int) (hkey : key.size ≤ 1048576) (hk : 2097152 < k) : s_l05Mask k (key, (x, ())) = some (mk64 key x, ((), ((), ()))) := by
  unfold s_l05Mask jn
  have hcap : (0 : Int) ≤ 64 ∧ (64 : Int) ≤ (capMax : Int) := ⟨by decide, by decide⟩
  simp only [hcap, and_self, if_true]
  have body : ∀ K : ByteArray, K = keyS key → K.size ≤ 64 → (whileK (fun (rec0 : (ByteArray × Int × List (Int) × Int × Unit) → Option (ByteArray × Unit × Unit × Unit)) (y0 : ByteArray × Int × List (Int) × Int × Unit) =>
(if (decide (y0.2.2.2.1 < (64 : Int))) = true then
(if (decide (y0.2.2.2.1 < (ByteArray.size y0.1 : Int))) = true then
(if 0 ≤ y0.2.2.2.1 ∧ y0.2.2.2.1 < (ByteArray.size y0.1 : Int) then
(if 0 ≤ y0.2.2.2.1 ∧ y0.2.2.2.1 < (List.length y0.2.2.1 : Int) then
(if 0 ≤ y0.2.2.2.1 ∧ y0.2.2.2.1 < (List.length (List.set y0.2.2.1 (Int.toNat y0.2.2.2.1) (bt y0.1 y0.2.2.2.1)) : Int) then
(if 0 ≤ y0.2.2.2.1 ∧ y0.2.2.2.1 < (List.length (List.set y0.2.2.1 (Int.toNat y0.2.2.2.1) (bt y0.1 y0.2.2.2.1)) : Int) then
(rec0 (y0.1, (y0.2.1, ((List.set (List.set y0.2.2.1 (Int.toNat y0.2.2.2.1) (bt y0.1 y0.2.2.2.1)) (Int.toNat y0.2.2.2.1) (bitsI .xor .u8 (Ty.rd (t := (.int .u8)) (List.set y0.2.2.1 (Int.toNat y0.2.2.2.1) (bt y0.1 y0.2.2.2.1)) y0.2.2.2.1) y0.2.1)), ((wi64 (y0.2.2.2.1 + (1 : Int))), ())))))
else none)
else none)
else none)
else none)
else
(if 0 ≤ y0.2.2.2.1 ∧ y0.2.2.2.1 < (List.length y0.2.2.1 : Int) then
(if 0 ≤ y0.2.2.2.1 ∧ y0.2.2.2.1 < (List.length y0.2.2.1 : Int) then
(rec0 (y0.1, (y0.2.1, ((List.set y0.2.2.1 (Int.toNat y0.2.2.2.1) (bitsI .xor .u8 (Ty.rd (t := (.int .u8)) y0.2.2.1 y0.2.2.2.1) y0.2.1)), ((wi64 (y0.2.2.2.1 + (1 : Int))), ())))))
else none)
else none))
else
((fun (z2 : List (Int) × Unit) =>
some ((strOf z2.1), ((), ((), ())))) (y0.2.2.1, ())))) k (K, (x, ((List.replicate (Int.toNat (64 : Int)) (0 : Int)), ((0 : Int), ()))))) = some (mk64 key x, ((), ((), ()))) := by
    intro K hK hK64
    have hL : (List.replicate (Int.toNat (64 : Int)) (0 : Int)).length = 64 := by rw [List.length_replicate]; rfl
    have kl := keyL_len key
    refine set_loop (fun W i => (K, (x, (W, ((i : Int), ()))))) (List.replicate (Int.toNat (64 : Int)) (0 : Int)) ((keyL key).map fun v => bx v x) _ (by rw [List.length_map, kl, hL]) ?_ ?_ k (by omega)
    · intro again W i hi hW hWi
      have c0 : (i : Int) < 64 := by omega
      have c2 : (0 : Int) ≤ (i : Int) ∧ (i : Int) < (W.length : Int) := by omega
      have w1 : wi64 ((i : Int) + 1) = ((i + 1 : Nat) : Int) := (w64_id _ (by omega)).trans (by omega)
      have hz : rdI W (i : Int) = 0 := by rw [hWi, rdI_get _ i hi]; exact List.getElem_replicate ..
      have e : rdI ((keyL key).map fun v => bx v x) (i : Int) = bitsI .xor .u8 (rdI (keyL key) (i : Int)) x := by
        rw [rdI_get _ i (by simp; omega), rdI_get _ i (by omega), List.getElem_map]
        rfl
      by_cases c1 : (i : Int) < (K.size : Int)
      · have c3 : (0 : Int) ≤ (i : Int) ∧ (i : Int) < (K.size : Int) := by omega
        have c4 : (i : Int) < (((W.set i (bt K (i : Int))).length : Nat) : Int) := by rw [List.length_set]; exact c2.2
        have hbk : (bytesOf K).length = K.size := bytesOf_len K
        have e2 : rdI (keyL key) (i : Int) = bt K (i : Int) := by
          rw [rdI_get _ i (by omega), bt_get K i (by omega)]
          unfold keyL
          simp only [← hK]
          rw [List.getElem_append_left (by omega)]
        have e3 : rdI (W.set i (bt K (i : Int))) (i : Int) = bt K (i : Int) := by rw [rdI_get _ i (by rw [List.length_set]; omega), List.getElem_set_self]
        simp only [c0, c1, c2, c3, c4, w1, rdI_is, Int.toNat_natCast, e3, e, e2, and_self, decide_true, if_true, List.set_set]
      · have hbk : (bytesOf K).length = K.size := bytesOf_len K
        have e2 : rdI (keyL key) (i : Int) = 0 := by
          rw [rdI_get _ i (by omega)]
          unfold keyL
          simp only [← hK]
          rw [List.getElem_append_right (by omega)]
          simp
        simp only [c0, c1, c2, w1, rdI_is, hz, Int.toNat_natCast, e, e2, and_self, decide_true, decide_false, Bool.false_eq_true, if_true, if_false]
    · intro again
      have c0 : ¬ (((List.replicate (Int.toNat (64 : Int)) (0 : Int)).length : Nat) : Int) < 64 := by rw [hL]; decide
      simp only [c0, decide_false, Bool.false_eq_true, if_false]
      rfl
  by_cases c : (64 : Int) < (key.size : Int)
  · have hK : dg key = keyS key := by unfold keyS; rw [if_pos (by omega)]
    simp only [c, decide_true, if_true, s_DigestOf_is k key (by omega) hk, Option.bind_some]
    exact body _ hK (by rw [dg_size]; decide)
  · have hK : key = keyS key := by unfold keyS; rw [if_neg (by omega)]
    simp only [c, decide_false, Bool.false_eq_true, if_false]
    exact body _ hK (by omega)
theorem s_MacOf_is (k : Nat) (key s : ByteArray) (hkey : key.size ≤ 1048576) (hs : s.size ≤ 1048576 - 100) (hk : 2097152 < k) : s_MacOf k (key, (s, ())) = some (macS key s, ((), ((), ()))) := by
  unfold s_MacOf
  have d1 := s_DigestOf_is k (mk64 key 54 ++ s) (by rw [ByteArray.size_append, mk64_size]; omega) hk
  have d2 := s_DigestOf_is k (mk64 key 92 ++ dg (mk64 key 54 ++ s)) (by rw [ByteArray.size_append, mk64_size, dg_size]; omega) hk
  have c2 : (mk64 key 54).size + s.size ≤ maxStr := max_ok _ _ (by rw [mk64_size]; omega)
  have c3 : (mk64 key 92).size + (dg (mk64 key 54 ++ s)).size ≤ maxStr := max_ok _ _ (by rw [mk64_size, dg_size]; omega)
  simp only [l05Mask_is k key _ hkey hk, d1, d2, c2, c3, if_true, Option.bind_some]
  rfl
theorem i_VarText_is (k n : Nat) (hn : n ≤ 1000000000) (hk : 1048576 < k) : i_VarText k ((n : Int), ()) = some ((strOf (enc n), (true, ())), ((), ())) := by
  unfold i_VarText
  have c0 : (0 : Int) ≤ (n : Int) ∧ (n : Int) ≤ 1000000000 := by omega
  have hn8 : n < 128 ^ 8 := by have : (128 : Nat) ^ 8 = 72057594037927936 := by decide
                               omega
  simp only [within_is, c0, and_self, decide_true, Bool.not_true, Bool.false_eq_true, if_false, Option.bind_some]
  refine (var_loop (fun l => (some ((strOf l, (true, ())), ((), ())) : Option ((ByteArray × Bool × Unit) × Unit × Unit))) ?_ ?_ 7 n [] k hn8 (by omega) (by simp) (by omega)).trans rfl
  · intro again n out c h ho
    obtain ⟨e1, e2⟩ := var_step n h c
    have g : (127 : Int) < (n : Int) := by omega
    simp only [g, e1, e2, decide_true, if_true]
    rw [if_pos (cap_ok _ _ (by simp; omega))]
  · intro again n out c ho
    have g : ¬ (127 : Int) < (n : Int) := by omega
    have e : wu8 (n : Int) = (n : Int) := w8_id _ (by omega)
    simp only [g, e, decide_false, Bool.false_eq_true, if_false]
    rw [if_pos (cap_ok _ _ (by simp; omega))]
def mskB (key : ByteArray) (num i : Nat) : List Int := bytesOf (macS key (((⟨#[109]⟩ : ByteArray) ++ strOf (enc num)) ++ strOf [((i % 256 : Nat) : Int)]))
def mskC (key : ByteArray) (num : Nat) : Nat → List Int
  | 0 => []
  | m + 1 => mskC key num m ++ mskB key num m
theorem mskB_len (key : ByteArray) (num i : Nat) : (mskB key num i).length = 32 := by rw [mskB, bytesOf_len, macS_size]
theorem mskC_len (key : ByteArray) (num m : Nat) : (mskC key num m).length = 32 * m := by
  induction m with
  | zero => rfl
  | succ m ih => rw [mskC, List.length_append, ih, mskB_len]; omega
theorem mskC_isB (key : ByteArray) (num m : Nat) : isB (mskC key num m) := by
  induction m with
  | zero => exact isB_nil
  | succ m ih => rw [mskC, isB_append]; exact ⟨ih, bytesOf_isB _⟩
def mskL (key : ByteArray) (num n : Nat) : List Int := (mskC key num ((n + 31) / 32)).take n
theorem mskL_len (key : ByteArray) (num n : Nat) : (mskL key num n).length = n := by rw [mskL, List.length_take, mskC_len]; omega
theorem mskL_isB (key : ByteArray) (num n : Nat) : isB (mskL key num n) := isB_take (mskC_isB _ _ _) _
theorem enc_le (n : Nat) (h : n ≤ 1000000000) : (enc n).length ≤ 8 := by
  have p : (128 : Nat) ^ (7 + 1) = 72057594037927936 := by decide
  exact enc_len 7 n (by omega)
theorem i_Mask_is (k num n : Nat) (key : ByteArray) (hkey : key.size ≤ 1048576) (hnum : num ≤ 1000000000) (hn : n ≤ 8000) (hk : 2097152 < k) :
    i_Mask k (key, ((num : Int), ((n : Int), ()))) = some ((strOf (mskL key num n), (true, ())), ((), ((), ((), ())))) := by
  unfold i_Mask
  have c0 : (0 : Int) ≤ (n : Int) ∧ (n : Int) ≤ 8000 := by omega
  have he := enc_le num hnum
  simp only [i_VarText_is k num hnum (by omega), within_is, c0, and_self, decide_true, Bool.not_true, Bool.false_eq_true, if_true, if_false, Option.bind_some]
  refine (run_loop (A := Unit) (fun i _ => (key, ((n : Int), (strOf (enc num), (mskC key num i, ((i : Int), ())))))) ((n + 31) / 32) (fun _ _ => ()) (fun _ => some ((strOf (mskL key num n), (true, ())), ((), ((), ((), ()))))) (fun _ _ => True) ?_ ?_ ((n + 31) / 32) 0 () k (by omega) trivial (by omega)).trans rfl
  · intro again i _ hi _
    have hl := mskC_len key num i
    have c1 : ((mskC key num i).length : Int) < (n : Int) := by omega
    have w1 : wi64 ((i : Int) + 1) = ((i + 1 : Nat) : Int) := (w64_id _ (by omega)).trans (by omega)
    have b1 : i_byteText k ((i : Int), ()) = some (strOf [((i % 256 : Nat) : Int)], ((), ())) := by
      unfold i_byteText
      have : wu8 (i : Int) = ((i % 256 : Nat) : Int) := (w8_mod _).trans (by omega)
      simp only [this]
    have sz1 : (⟨#[109]⟩ : ByteArray).size = 1 := rfl
    have s1 : (⟨#[109]⟩ : ByteArray).size + (strOf (enc num)).size ≤ maxStr := max_ok _ _ (by rw [sz1, strOf_len]; omega)
    have s2 : ((⟨#[109]⟩ : ByteArray) ++ strOf (enc num)).size + (strOf [((i % 256 : Nat) : Int)]).size ≤ maxStr := max_ok _ _ (by rw [ByteArray.size_append, sz1, strOf_len, strOf_len]; simp; omega)
    have hm := i_MacOf_is k key (((⟨#[109]⟩ : ByteArray) ++ strOf (enc num)) ++ strOf [((i % 256 : Nat) : Int)]) hkey (by rw [ByteArray.size_append, ByteArray.size_append, sz1, strOf_len, strOf_len]; simp; omega) hk
    have hc : (mskC key num i).length + (bytesOf (macS key (((⟨#[109]⟩ : ByteArray) ++ strOf (enc num)) ++ strOf [((i % 256 : Nat) : Int)]))).length ≤ capMax := cap_ok _ _ (by rw [hl, bytesOf_len, macS_size]; omega)
    refine ⟨?_, trivial⟩
    simp only [c1, w1, s1, b1, s2, hm, hc, decide_true, if_true, Option.bind_some]
    rfl
  · intro again _ _
    have hl := mskC_len key num ((n + 31) / 32)
    have c1 : ¬ ((mskC key num ((n + 31) / 32)).length : Int) < (n : Int) := by omega
    have c2 : (0 : Int) ≤ (n : Int) ∧ (n : Int) ≤ ((mskC key num ((n + 31) / 32)).length : Int) := by omega
    simp only [c1, c2, and_self, decide_false, Bool.false_eq_true, if_true, if_false, Int.toNat_natCast]
    rfl
theorem s_Mask_is (k num n : Nat) (key : ByteArray) (hkey : key.size ≤ 1048576) (hnum : num ≤ 1000000000) (hn : n ≤ 8000) (hk : 2097152 < k) :
    s_Mask k (key, ((num : Int), ((n : Int), ()))) = some ((strOf (mskL key num n), (true, ())), ((), ((), ((), ())))) := by
  unfold s_Mask
  have c0 : (0 : Int) ≤ (n : Int) ∧ (n : Int) ≤ 8000 := by omega
  have c00 : (0 : Int) ≤ (num : Int) ∧ (num : Int) ≤ 1000000000 := by omega
  have he := enc_le num hnum
  have hn8 : num < 128 ^ 8 := by have : (128 : Nat) ^ 8 = 72057594037927936 := by decide
                                 omega
  simp only [l01In_is, c00, c0, and_self, decide_true, Bool.not_true, Bool.false_eq_true, if_true, if_false, Option.bind_some]
  refine (run_loop (A := Unit) (fun i _ => (key, ((num : Int), ((n : Int), (mskC key num i, ((i : Int), ())))))) ((n + 31) / 32) (fun _ _ => ()) (fun _ => some ((strOf (mskL key num n), (true, ())), ((), ((), ((), ()))))) (fun _ _ => True) ?_ ?_ ((n + 31) / 32) 0 () k (by omega) trivial (by omega)).trans rfl
  · intro again i _ hi _
    have hl := mskC_len key num i
    have c1 : ((mskC key num i).length : Int) < (n : Int) := by omega
    have w1 : wi64 ((i : Int) + 1) = ((i + 1 : Nat) : Int) := (w64_id _ (by omega)).trans (by omega)
    have b1 : s_l05Byte k ((i : Int), ()) = some (strOf [((i % 256 : Nat) : Int)], ((), ())) := by
      unfold s_l05Byte
      have t : Int.tmod (i : Int) 256 = ((i % 256 : Nat) : Int) := (Int.tmod_eq_emod_of_nonneg (by omega)).trans (by omega)
      have q : ¬ ((i % 256 : Nat) : Int) < 0 := by omega
      have u : wu8 ((i % 256 : Nat) : Int) = ((i % 256 : Nat) : Int) := (w8_mod _).trans (by omega)
      simp only [t, q, u, decide_false, Bool.false_eq_true, if_false]
    have sz1 : (⟨#[109]⟩ : ByteArray).size = 1 := rfl
    have s1 : (⟨#[109]⟩ : ByteArray).size + (strOf (enc num)).size ≤ maxStr := max_ok _ _ (by rw [sz1, strOf_len]; omega)
    have s2 : ((⟨#[109]⟩ : ByteArray) ++ strOf (enc num)).size + (strOf [((i % 256 : Nat) : Int)]).size ≤ maxStr := max_ok _ _ (by rw [ByteArray.size_append, sz1, strOf_len, strOf_len]; simp; omega)
    have hm := s_MacOf_is k key (((⟨#[109]⟩ : ByteArray) ++ strOf (enc num)) ++ strOf [((i % 256 : Nat) : Int)]) hkey (by rw [ByteArray.size_append, ByteArray.size_append, sz1, strOf_len, strOf_len]; simp; omega) hk
    have s3 : (macS key (((⟨#[109]⟩ : ByteArray) ++ strOf (enc num)) ++ strOf [((i % 256 : Nat) : Int)])).size ≤ maxStr := by rw [macS_size]; decide
    have hc : (mskC key num i).length + (bytesOf (macS key (((⟨#[109]⟩ : ByteArray) ++ strOf (enc num)) ++ strOf [((i % 256 : Nat) : Int)]))).length ≤ capMax := cap_ok _ _ (by rw [hl, bytesOf_len, macS_size]; omega)
    refine ⟨?_, trivial⟩
    simp only [c1, w1, l01Var_is k num hn8 (by omega), s1, b1, s2, hm, s3, hc, decide_true, if_true, Option.bind_some]
    rfl
  · intro again _ _
    have hl := mskC_len key num ((n + 31) / 32)
    have c1 : ¬ ((mskC key num ((n + 31) / 32)).length : Int) < (n : Int) := by omega
    have c2 : (0 : Int) ≤ (n : Int) ∧ (n : Int) ≤ ((mskC key num ((n + 31) / 32)).length : Int) := by omega
    simp only [c1, c2, and_self, decide_false, Bool.false_eq_true, if_true, if_false, Int.toNat_natCast]
    rfl
/-- A text under its mask. -/
def hidS (key : ByteArray) (num : Nat) (s : ByteArray) : ByteArray := strOf (List.zipWith bx (bytesOf s) (mskL key num s.size))
theorem hidS_size (key : ByteArray) (num : Nat) (s : ByteArray) : (hidS key num s).size = s.size := by rw [hidS, strOf_len, List.length_zipWith, mskL_len, bytesOf_len, Nat.min_self]
def tagS (key : ByteArray) (num : Nat) (s : ByteArray) : ByteArray := (macS key (((⟨#[116]⟩ : ByteArray) ++ strOf (enc num)) ++ s)).extract 0 16
theorem tagS_size (key : ByteArray) (num : Nat) (s : ByteArray) : (tagS key num s).size = 16 := by rw [tagS, ByteArray.size_extract, macS_size]; rfl
theorem i_hidden_is (k num : Nat) (key s : ByteArray) (hkey : key.size ≤ 1048576) (hnum : num ≤ 1000000000) (hn : s.size ≤ 8000) (hk : 2097152 < k) :
    i_hidden k (key, ((num : Int), (s, ()))) = some ((hidS key num s, (true, ())), ((), ((), ((), ())))) := by
  unfold i_hidden
  have hm : s.size ≤ maxStr := by have := max_ok s.size 0 (by omega); omega
  have hl := bytesOf_len s
  have ml := mskL_len key num s.size
  simp only [i_Mask_is k num s.size key hkey hnum hn hk, hm, Bool.not_true, Bool.false_eq_true, if_true, if_false, Option.bind_some]
  refine set_loop (fun W i => (strOf (mskL key num s.size), (W, (((bytesOf s).length : Int), ((i : Int), ()))))) (bytesOf s) (List.zipWith bx (bytesOf s) (mskL key num s.size)) _ (by rw [List.length_zipWith]; omega) ?_ ?_ k (by omega)
  · intro again W i hi hW hWi
    have c1 : (i : Int) < ((bytesOf s).length : Int) := by omega
    have c2 : (0 : Int) ≤ (i : Int) ∧ (i : Int) < (W.length : Int) := by omega
    have c3 : (i : Int) < ((strOf (mskL key num s.size)).size : Int) := by rw [strOf_len]; omega
    have w1 : wi64 ((i : Int) + 1) = ((i + 1 : Nat) : Int) := (w64_id _ (by omega)).trans (by omega)
    have eb : bt (strOf (mskL key num s.size)) (i : Int) = rdI (mskL key num s.size) (i : Int) := by
      rw [bt_get _ i (by rw [strOf_len]; omega), rdI_get _ i (by omega)]
      simp only [bytesOf_strOf (mskL_isB key num s.size)]
    have e : rdI (List.zipWith bx (bytesOf s) (mskL key num s.size)) (i : Int) = bitsI .xor .u8 (rdI (bytesOf s) (i : Int)) (rdI (mskL key num s.size) (i : Int)) := by
      rw [rdI_get _ i (by rw [List.length_zipWith]; omega), rdI_get _ i hi, rdI_get _ i (by omega), List.getElem_zipWith]
      rfl
    simp only [c1, c2, c3, w1, rdI_is, hWi, eb, e, Int.toNat_natCast, and_self, decide_true, if_true]
  · intro again
    simp
    rfl
theorem l06Xor_is (k num : Nat) (key s : ByteArray) (hn : s.size ≤ 8000) (hk : 2097152 < k) : s_l06Xor k (s, (strOf (mskL key num s.size), ())) = some (hidS key num s, ((), ((), ()))) := by
  unfold s_l06Xor
  have hm : s.size ≤ maxStr := by have := max_ok s.size 0 (by omega); omega
  have hl := bytesOf_len s
  have ml := mskL_len key num s.size
  simp only [hm, if_true]
  refine set_loop (fun W i => (strOf (mskL key num s.size), (W, ((i : Int), ())))) (bytesOf s) (List.zipWith bx (bytesOf s) (mskL key num s.size)) _ (by rw [List.length_zipWith]; omega) ?_ ?_ k (by omega)
  · intro again W i hi hW hWi
    have c2 : (0 : Int) ≤ (i : Int) ∧ (i : Int) < (W.length : Int) := by omega
    have c3 : (i : Int) < ((strOf (mskL key num s.size)).size : Int) := by rw [strOf_len]; omega
    have w1 : wi64 ((i : Int) + 1) = ((i + 1 : Nat) : Int) := (w64_id _ (by omega)).trans (by omega)
    have eb : bt (strOf (mskL key num s.size)) (i : Int) = rdI (mskL key num s.size) (i : Int) := by
      rw [bt_get _ i (by rw [strOf_len]; omega), rdI_get _ i (by omega)]
      simp only [bytesOf_strOf (mskL_isB key num s.size)]
    have e : rdI (List.zipWith bx (bytesOf s) (mskL key num s.size)) (i : Int) = bitsI .xor .u8 (rdI (bytesOf s) (i : Int)) (rdI (mskL key num s.size) (i : Int)) := by
      rw [rdI_get _ i (by rw [List.length_zipWith]; omega), rdI_get _ i hi, rdI_get _ i (by omega), List.getElem_zipWith]
      rfl
    simp only [c2, c3, w1, rdI_is, hWi, eb, e, Int.toNat_natCast, and_self, decide_true, if_true]
  · intro again
    have hz : (List.zipWith bx (bytesOf s) (mskL key num s.size)).length = (bytesOf s).length := by rw [List.length_zipWith]; omega
    simp [hz]
    rfl
theorem i_macText_is (k num : Nat) (key s : ByteArray) (hkey : key.size ≤ 1048576) (hnum : num ≤ 1000000000) (hn : s.size ≤ 8000) (hk : 2097152 < k) :
    i_macText k (key, ((num : Int), (s, ()))) = some (tagS key num s, ((), ((), ((), ())))) := by
  unfold i_macText
  have he := enc_le num hnum
  have sz1 : (⟨#[116]⟩ : ByteArray).size = 1 := rfl
  have s1 : (⟨#[116]⟩ : ByteArray).size + (strOf (enc num)).size ≤ maxStr := max_ok _ _ (by rw [sz1, strOf_len]; omega)
  have s2 : ((⟨#[116]⟩ : ByteArray) ++ strOf (enc num)).size + s.size ≤ maxStr := max_ok _ _ (by rw [ByteArray.size_append, sz1, strOf_len]; omega)
  have hm := i_MacOf_is k key (((⟨#[116]⟩ : ByteArray) ++ strOf (enc num)) ++ s) hkey (by rw [ByteArray.size_append, ByteArray.size_append, sz1, strOf_len]; omega) hk
  have c : (0 : Int) ≤ 16 ∧ (16 : Int) ≤ ((macS key (((⟨#[116]⟩ : ByteArray) ++ strOf (enc num)) ++ s)).size : Int) := by rw [macS_size]; decide
  simp only [i_VarText_is k num hnum (by omega), s1, s2, hm, c, and_self, if_true, Option.bind_some]
  rfl
theorem l06Tag_is (k num : Nat) (key s : ByteArray) (hkey : key.size ≤ 1048576) (hnum : num ≤ 1000000000) (hn : s.size ≤ 8000) (hk : 2097152 < k) :
    s_l06Tag k (key, ((num : Int), (s, ()))) = some (tagS key num s, ((), ((), ((), ())))) := by
  unfold s_l06Tag
  have he := enc_le num hnum
  have hn8 : num < 128 ^ 8 := by have : (128 : Nat) ^ 8 = 72057594037927936 := by decide
                                 omega
  have sz1 : (⟨#[116]⟩ : ByteArray).size = 1 := rfl
  have s1 : (⟨#[116]⟩ : ByteArray).size + (strOf (enc num)).size ≤ maxStr := max_ok _ _ (by rw [sz1, strOf_len]; omega)
  have s2 : ((⟨#[116]⟩ : ByteArray) ++ strOf (enc num)).size + s.size ≤ maxStr := max_ok _ _ (by rw [ByteArray.size_append, sz1, strOf_len]; omega)
  have hm := s_MacOf_is k key (((⟨#[116]⟩ : ByteArray) ++ strOf (enc num)) ++ s) hkey (by rw [ByteArray.size_append, ByteArray.size_append, sz1, strOf_len]; omega) hk
  have c : (0 : Int) ≤ 16 ∧ (16 : Int) ≤ ((macS key (((⟨#[116]⟩ : ByteArray) ++ strOf (enc num)) ++ s)).size : Int) := by rw [macS_size]; decide
  simp only [l01Var_is k num hn8 (by omega), s1, s2, hm, c, and_self, if_true, Option.bind_some]
  rfl
def lockS (key : ByteArray) (num : Nat) (s : ByteArray) : ByteArray := hidS key num s ++ tagS key num (hidS key num s)
theorem lockS_size (key : ByteArray) (num : Nat) (s : ByteArray) : (lockS key num s).size = s.size + 16 := by rw [lockS, ByteArray.size_append, hidS_size, tagS_size]
theorem i_LockText_is (k num : Nat) (key s : ByteArray) (hkey : key.size ≤ 1048576) (hnum : num ≤ 1000000000) (hn : s.size ≤ 7000) (hk : 2097152 < k) :
    i_LockText k (key, ((num : Int), (s, ()))) = some ((lockS key num s, (true, ())), ((), ((), ((), ())))) := by
  unfold i_LockText
  have hsz := hidS_size key num s
  have hm : (hidS key num s).size + (tagS key num (hidS key num s)).size ≤ maxStr := max_ok _ _ (by rw [tagS_size]; omega)
  simp only [i_hidden_is k num key s hkey hnum (by omega) hk, i_macText_is k num key (hidS key num s) hkey hnum (by omega) hk, hm, Bool.not_true, Bool.false_eq_true, if_true, if_false, Option.bind_some]
  rfl
theorem s_LockText_is (k num : Nat) (key s : ByteArray) (hkey : key.size ≤ 1048576) (hnum : num ≤ 1000000000) (hn : s.size ≤ 7000) (hk : 2097152 < k) :
    s_LockText k (key, ((num : Int), (s, ()))) = some ((lockS key num s, (true, ())), ((), ((), ((), ())))) := by
  unfold s_LockText
  have hsz := hidS_size key num s
  have hm : (hidS key num s).size + (tagS key num (hidS key num s)).size ≤ maxStr := max_ok _ _ (by rw [tagS_size]; omega)
  simp only [s_Mask_is k num s.size key hkey hnum (by omega) hk, l06Xor_is k num key s (by omega) hk, l06Tag_is k num key (hidS key num s) hkey hnum (by omega) hk, hm, Bool.not_true, Bool.false_eq_true, if_true, if_false, Option.bind_some]
  rfl
def gSeen (a : List Int) (i : Nat) (_ : Unit) : (Bool × Unit × Unit) ⊕ Unit :=
  if decide (1 ≤ Ty.rd (t := (.int .i64)) a i ∧ Ty.rd (t := (.int .i64)) a i ≤ 1000000000) && !(decide (0 < (i : Int)) && decide (Ty.rd (t := (.int .i64)) a (wi64 ((i : Int) - 1)) ≤ Ty.rd (t := (.int .i64)) a i)) && !decide (Ty.rd (t := (.int .i64)) a i ≤ wi64 (Ty.rd (t := (.int .i64)) a 0 - 6)) then .inr () else .inl (false, ((), ()))
def seenB (a : List Int) : Bool := (foldE (gSeen a) (fun _ => (decide ((a.length : Int) ≤ 6), ((), ()))) a.length 0 ()).1
theorem s_SeenOk_is (k : Nat) (a : List Int) (hk : 1048576 < k) (hl : a.length ≤ 1048576) : s_SeenOk k (a, ()) = some (seenB a, ((), ())) := by
  unfold s_SeenOk
  refine (loop_fold (A := Unit) (fun i _ => (a, (((i : Nat) : Int), ()))) a.length (gSeen a) (fun _ => (decide ((a.length : Int) ≤ 6), ((), ()))) (fun _ _ => True) ?_ (fun _ _ _ _ _ _ => trivial) ?_ k () trivial (by omega)).trans rfl
  · intro again i _ hi _
    have w2 : wi64 ((i : Int) + 1) = ((i + 1 : Nat) : Int) := (w64_id _ (by omega)).trans (by omega)
    have w1 : wi64 ((i : Int) - 1) = (i : Int) - 1 := w64_id _ (by omega)
    have g1 : (0 : Int) ≤ (i : Int) ∧ (i : Int) < (a.length : Int) := by omega
    have g0 : (0 : Int) ≤ 0 ∧ (0 : Int) < (a.length : Int) := by omega
    unfold gSeen
    simp only [g1, g0, l01In_is, w2, and_self, decide_true, if_true, Option.bind_some]
    by_cases h1 : 1 ≤ Ty.rd (t := (.int .i64)) a i ∧ Ty.rd (t := (.int .i64)) a i ≤ 1000000000
    · by_cases h2 : 0 < (i : Int)
      · have g3 : (0 : Int) ≤ wi64 ((i : Int) - 1) ∧ wi64 ((i : Int) - 1) < (a.length : Int) := by rw [w1]; omega
        simp only [h1, h2, g3, and_self, decide_true, Bool.not_true, if_true]
        by_cases h4 : Ty.rd (t := (.int .i64)) a (wi64 ((i : Int) - 1)) ≤ Ty.rd (t := (.int .i64)) a i <;> by_cases h5 : Ty.rd (t := (.int .i64)) a i ≤ wi64 (Ty.rd (t := (.int .i64)) a 0 - 6) <;> simp [h4, h5]
      · simp only [h1, h2, and_self, decide_true, decide_false, Bool.not_true, if_true]
        by_cases h5 : Ty.rd (t := (.int .i64)) a i ≤ wi64 (Ty.rd (t := (.int .i64)) a 0 - 6) <;> simp [h5]
    · simp [h1]
  · intro again _ _
    simp
theorem i_SeenOk_is (k : Nat) (a : List Int) (hk : 1048576 < k) (hl : a.length ≤ 1048576) : i_SeenOk k (a, ()) = some (seenB a, ((), ())) := by
  unfold i_SeenOk
  refine (loop_fold (A := Unit) (fun i _ => (a, (a, ((a.length : Int), (((i : Nat) : Int), ()))))) a.length (gSeen a) (fun _ => (decide ((a.length : Int) ≤ 6), ((), ()))) (fun _ _ => True) ?_ (fun _ _ _ _ _ _ => trivial) ?_ k () trivial (by omega)).trans rfl
  · intro again i _ hi _
    have w2 : wi64 ((i : Int) + 1) = ((i + 1 : Nat) : Int) := (w64_id _ (by omega)).trans (by omega)
    have w1 : wi64 ((i : Int) - 1) = (i : Int) - 1 := w64_id _ (by omega)
    have g1 : (0 : Int) ≤ (i : Int) ∧ (i : Int) < (a.length : Int) := by omega
    have g0 : (0 : Int) ≤ 0 ∧ (0 : Int) < (a.length : Int) := by omega
    unfold gSeen
    simp only [g1, g0, within_is, w2, and_self, decide_true, if_true, Option.bind_some]
    by_cases h1 : 1 ≤ Ty.rd (t := (.int .i64)) a i ∧ Ty.rd (t := (.int .i64)) a i ≤ 1000000000
    · by_cases h2 : 0 < (i : Int)
      · have g3 : (0 : Int) ≤ wi64 ((i : Int) - 1) ∧ wi64 ((i : Int) - 1) < (a.length : Int) := by rw [w1]; omega
        simp only [h1, h2, g3, and_self, decide_true, Bool.not_true, if_true]
        by_cases h4 : Ty.rd (t := (.int .i64)) a (wi64 ((i : Int) - 1)) ≤ Ty.rd (t := (.int .i64)) a i <;> by_cases h5 : Ty.rd (t := (.int .i64)) a i ≤ wi64 (Ty.rd (t := (.int .i64)) a 0 - 6) <;> simp [h4, h5]
      · simp only [h1, h2, and_self, decide_true, decide_false, Bool.not_true, if_true]
        by_cases h5 : Ty.rd (t := (.int .i64)) a i ≤ wi64 (Ty.rd (t := (.int .i64)) a 0 - 6) <;> simp [h5]
    · simp [h1]
  · intro again _ _
    simp
def noneB (x : Int × ByteArray × ByteArray × Int × List Int × Int × Unit) : Bool := decide (x.1 = 0 ∧ x.2.1 = (⟨#[]⟩ : ByteArray) ∧ x.2.2.1 = (⟨#[]⟩ : ByteArray) ∧ x.2.2.2.1 = 0 ∧ (x.2.2.2.2.1.length : Int) = 0 ∧ x.2.2.2.2.2.1 = 0)
theorem l17None_is (k : Nat) (x) : s_l17None k (x, ()) = some (noneB x, ((), ())) := by
  obtain ⟨e, s, o, c, q, u, w⟩ := x
  unfold s_l17None noneB
  simp only []
  by_cases h1 : e = 0
  rotate_left
  · simp [h1]
  by_cases h2 : s = (⟨#[]⟩ : ByteArray)
  rotate_left
  · simp [h2]
  by_cases h3 : o = (⟨#[]⟩ : ByteArray)
  rotate_left
  · simp [h3]
  by_cases h4 : c = 0
  rotate_left
  · simp [h4]
  by_cases h5 : (q.length : Int) = 0
  rotate_left
  · simp only [h1, h2, h3, h4, h5, decide_true, decide_false, if_true, true_and, false_and]
    rfl
  simp only [h1, h2, h3, h4, h5, decide_true, if_true, true_and]
def slotB (x : Int × ByteArray × ByteArray × Int × List Int × Int × Unit) : Bool :=
  noneB x || (decide ((1 ≤ x.1 ∧ x.1 ≤ 1000000000) ∧ (x.2.1.size : Int) = 32 ∧ (x.2.2.1.size : Int) = 32 ∧ (0 ≤ x.2.2.2.1 ∧ x.2.2.2.1 ≤ 12)) && (seenB x.2.2.2.2.1 && decide (0 ≤ x.2.2.2.2.2.1 ∧ x.2.2.2.2.2.1 ≤ 1000000000)))
theorem s_SlotOk_is (k : Nat) (x : Int × ByteArray × ByteArray × Int × List Int × Int × Unit) (hk : 1048576 < k) (hl : x.2.2.2.2.1.length ≤ 1048576) : s_SlotOk k (x, ()) = some (slotB x, ((), ())) := by
  obtain ⟨e, s, o, c, q, u, w⟩ := x
  have hl : q.length ≤ 1048576 := hl
  unfold s_SlotOk slotB
  simp only [l17None_is, l01In_is, s_SeenOk_is k q hk hl, Option.bind_some]
  cases hn : noneB (e, (s, (o, (c, (q, (u, ())))))) with
  | true => simp
  | false =>
    by_cases h1 : 1 ≤ e ∧ e ≤ 1000000000
    rotate_left
    · simp [h1]
    by_cases h2 : (s.size : Int) = 32
    rotate_left
    · simp [h2]
    by_cases h3 : (o.size : Int) = 32
    rotate_left
    · simp [h3]
    by_cases h4 : 0 ≤ c ∧ c ≤ 12
    rotate_left
    · simp [h4]
    simp only [h1, h2, h3, h4, and_self, decide_true, if_true, Bool.false_or, Bool.true_and]
    cases seenB q <;> simp
theorem i_SlotOk_is (k : Nat) (x : Int × ByteArray × ByteArray × Int × List Int × Int × Unit) (hk : 1048576 < k) (hl : x.2.2.2.2.1.length ≤ 1048576) : i_SlotOk k (x, ()) = some (slotB x, ((), ())) := by
  obtain ⟨e, s, o, c, q, u, w⟩ := x
  have hl : q.length ≤ 1048576 := hl
  have hn := l17None_is k (e, (s, (o, (c, (q, (u, ()))))))
  unfold s_l17None at hn
  unfold i_SlotOk slotB
  simp only [within_is, i_SeenOk_is k q hk hl, Option.bind_some] at hn ⊢
  by_cases h0 : e = 0
  · subst h0
    simp only [decide_true, if_true] at hn ⊢
    rw [hn]
    simp
  · have hnf : noneB (e, (s, (o, (c, (q, (u, ())))))) = false := by simp [noneB, h0]
    simp only [hnf, h0, decide_false, Bool.false_or, Bool.false_eq_true, if_false]
    by_cases h2 : (s.size : Int) = 32
    rotate_left
    · simp [h2]
    by_cases h1 : 1 ≤ e ∧ e ≤ 1000000000
    rotate_left
    · simp [h1, h2]
    by_cases h3 : (o.size : Int) = 32
    rotate_left
    · simp [h1, h2, h3]
    by_cases h4 : 0 ≤ c ∧ c ≤ 12
    rotate_left
    · simp [h1, h2, h3, h4]
    simp only [h1, h2, h3, h4, and_self, decide_true, if_true, Bool.true_and]
    cases seenB q <;> simp
abbrev SlotsA : Type := Int × ByteArray × ByteArray × Int × List Int × Int × Int × ByteArray × ByteArray × Int × List Int × Int × Unit
def mainOf (x : SlotsA) : Int × ByteArray × ByteArray × Int × List Int × Int × Unit := (x.1, (x.2.1, (x.2.2.1, (x.2.2.2.1, (x.2.2.2.2.1, (x.2.2.2.2.2.1, ()))))))
def lameOf (x : SlotsA) : Int × ByteArray × ByteArray × Int × List Int × Int × Unit := x.2.2.2.2.2.2
def slotsB (x : SlotsA) : Bool := slotB (mainOf x) && slotB (lameOf x) && (decide (x.2.2.2.2.2.2.1 = 0) || decide (x.2.2.2.2.2.2.1 < x.1))
theorem slot_zero {x : Int × ByteArray × ByteArray × Int × List Int × Int × Unit} (h : slotB x = true) : noneB x = decide (x.1 = 0) := by
  cases hn : noneB x with
  | true =>
    have : x.1 = 0 := by
      unfold noneB at hn
      exact (of_decide_eq_true hn).1
    simp [this]
  | false =>
    unfold slotB at h
    rw [hn, Bool.false_or, Bool.and_eq_true] at h
    have := (of_decide_eq_true h.1).1.1
    have : ¬ x.1 = 0 := by omega
    simp [this]
theorem s_SlotsOk_is (k : Nat) (x : SlotsA) (hk : 1048576 < k) (h1 : x.2.2.2.2.1.length ≤ 1048576) (h2 : x.2.2.2.2.2.2.2.2.2.2.1.length ≤ 1048576) : s_SlotsOk k (x, ()) = some (slotsB x, ((), ())) := by
  have e1 := s_SlotOk_is k (mainOf x) hk h1
  have e2 := s_SlotOk_is k (lameOf x) hk h2
  have e3 := l17None_is k (lameOf x)
  simp only [mainOf, lameOf] at e1 e2 e3
  unfold s_SlotsOk slotsB
  simp only [e1, e2, e3, Option.bind_some, mainOf, lameOf]
  cases a : slotB (x.1, (x.2.1, (x.2.2.1, (x.2.2.2.1, (x.2.2.2.2.1, (x.2.2.2.2.2.1, ())))))) with
  | false => simp
  | true =>
    cases b : slotB x.2.2.2.2.2.2 with
    | false => simp
    | true =>
      rw [slot_zero b]
      by_cases z : x.2.2.2.2.2.2.1 = 0 <;> simp [z]
theorem i_SlotsOk_is (k : Nat) (x : SlotsA) (hk : 1048576 < k) (h1 : x.2.2.2.2.1.length ≤ 1048576) (h2 : x.2.2.2.2.2.2.2.2.2.2.1.length ≤ 1048576) : i_SlotsOk k (x, ()) = some (slotsB x, ((), ())) := by
  have e1 := i_SlotOk_is k (mainOf x) hk h1
  have e2 := i_SlotOk_is k (lameOf x) hk h2
  simp only [mainOf, lameOf] at e1 e2
  unfold i_SlotsOk slotsB
  simp only [e1, e2, Option.bind_some, mainOf, lameOf]
  cases a : slotB (x.1, (x.2.1, (x.2.2.1, (x.2.2.2.1, (x.2.2.2.2.1, (x.2.2.2.2.2.1, ())))))) with
  | false => simp
  | true =>
    cases b : slotB x.2.2.2.2.2.2 with
    | false => simp
    | true => by_cases z : x.2.2.2.2.2.2.1 = 0 <;> simp [z]
def Wf_IntS (a : List (Int)) : Prop := a.length ≤ 9223372036854775807
def Bd_IntS (a : List (Int)) : Prop := a.length ≤ 1048576
abbrev RT_Held : Ty := (.pair (.int .i64) (.pair (.int .i64) (.pair (.int .i64) (.pair (.list .str) (.pair (.list .bool) (.int .i64))))))
def ag_Held (r : RT_Held.den) : Int × Int × Int × List (ByteArray) × List (Bool) × Int × Unit := (r.1, (r.2.1, (r.2.2.1, (r.2.2.2.1, (r.2.2.2.2.1, (r.2.2.2.2.2, ()))))))
theorem ag_Held_inj (r r' : RT_Held.den) : (ag_Held r = ag_Held r') ↔ r = r' := by
  constructor
  · intro h
    obtain ⟨x0, ⟨x1, ⟨x2, ⟨x3, ⟨x4, x5⟩⟩⟩⟩⟩ := r
    obtain ⟨y0, ⟨y1, ⟨y2, ⟨y3, ⟨y4, y5⟩⟩⟩⟩⟩ := r'
    simp only [ag_Held, Prod.mk.injEq, and_true] at h
    simp only [Prod.mk.injEq]
    simp_all
  · intro h
    rw [h]
def Wf_StringS (a : List (ByteArray)) : Prop := a.length ≤ 9223372036854775807 ∧ ∀ r ∈ a, ByteArray.size r ≤ 9223372036854775807
def Bd_StringS (a : List (ByteArray)) : Prop := a.length ≤ 1048576
def Wf_BoolS (a : List (Bool)) : Prop := a.length ≤ 9223372036854775807
def Bd_BoolS (a : List (Bool)) : Prop := a.length ≤ 1048576
def Wf_Held (x : Int × Int × Int × List (ByteArray) × List (Bool) × Int × Unit) : Prop := Wf_StringS x.2.2.2.1 ∧ Wf_BoolS x.2.2.2.2.1 ∧ True
def Bd_Held (x : Int × Int × Int × List (ByteArray) × List (Bool) × Int × Unit) : Prop := Bd_StringS x.2.2.2.1 ∧ Bd_BoolS x.2.2.2.2.1 ∧ True
def Wf_HeldS (a : List (Int × Int × Int × List (ByteArray) × List (Bool) × Int)) : Prop := a.length ≤ 9223372036854775807 ∧ ∀ r ∈ a, Wf_Held (ag_Held r)
def Bd_HeldS (a : List (Int × Int × Int × List (ByteArray) × List (Bool) × Int)) : Prop := a.length ≤ 1048576 ∧ ∀ r ∈ a, Bd_Held (ag_Held r)
def Wf_User (x : Int × Int × Int × ByteArray × ByteArray × Int × List (Int) × Int × Int × ByteArray × ByteArray × Int × List (Int) × Int × (List (Int × Int × Int × List (ByteArray) × List (Bool) × Int)) × Int × Unit) : Prop := ByteArray.size x.2.2.2.1 ≤ 9223372036854775807 ∧ ByteArray.size x.2.2.2.2.1 ≤ 9223372036854775807 ∧ Wf_IntS x.2.2.2.2.2.2.1 ∧ ByteArray.size x.2.2.2.2.2.2.2.2.2.1 ≤ 9223372036854775807 ∧ ByteArray.size x.2.2.2.2.2.2.2.2.2.2.1 ≤ 9223372036854775807 ∧ Wf_IntS x.2.2.2.2.2.2.2.2.2.2.2.2.1 ∧ Wf_HeldS x.2.2.2.2.2.2.2.2.2.2.2.2.2.2.1 ∧ True
def Bd_User (x : Int × Int × Int × ByteArray × ByteArray × Int × List (Int) × Int × Int × ByteArray × ByteArray × Int × List (Int) × Int × (List (Int × Int × Int × List (ByteArray) × List (Bool) × Int)) × Int × Unit) : Prop := ByteArray.size x.2.2.2.1 ≤ 1048576 ∧ ByteArray.size x.2.2.2.2.1 ≤ 1048576 ∧ Bd_IntS x.2.2.2.2.2.2.1 ∧ ByteArray.size x.2.2.2.2.2.2.2.2.2.1 ≤ 1048576 ∧ ByteArray.size x.2.2.2.2.2.2.2.2.2.2.1 ≤ 1048576 ∧ Bd_IntS x.2.2.2.2.2.2.2.2.2.2.2.2.1 ∧ Bd_HeldS x.2.2.2.2.2.2.2.2.2.2.2.2.2.2.1 ∧ True
def Wf_Slots (x : Int × ByteArray × ByteArray × Int × List (Int) × Int × Int × ByteArray × ByteArray × Int × List (Int) × Int × Unit) : Prop := ByteArray.size x.2.1 ≤ 9223372036854775807 ∧ ByteArray.size x.2.2.1 ≤ 9223372036854775807 ∧ Wf_IntS x.2.2.2.2.1 ∧ ByteArray.size x.2.2.2.2.2.2.2.1 ≤ 9223372036854775807 ∧ ByteArray.size x.2.2.2.2.2.2.2.2.1 ≤ 9223372036854775807 ∧ Wf_IntS x.2.2.2.2.2.2.2.2.2.2.1 ∧ True
def Bd_Slots (x : Int × ByteArray × ByteArray × Int × List (Int) × Int × Int × ByteArray × ByteArray × Int × List (Int) × Int × Unit) : Prop := ByteArray.size x.2.1 ≤ 1048576 ∧ ByteArray.size x.2.2.1 ≤ 1048576 ∧ Bd_IntS x.2.2.2.2.1 ∧ ByteArray.size x.2.2.2.2.2.2.2.1 ≤ 1048576 ∧ ByteArray.size x.2.2.2.2.2.2.2.2.1 ≤ 1048576 ∧ Bd_IntS x.2.2.2.2.2.2.2.2.2.2.1 ∧ True
def Wf_Slot (x : Int × ByteArray × ByteArray × Int × List (Int) × Int × Unit) : Prop := ByteArray.size x.2.1 ≤ 9223372036854775807 ∧ ByteArray.size x.2.2.1 ≤ 9223372036854775807 ∧ Wf_IntS x.2.2.2.2.1 ∧ True
def Bd_Slot (x : Int × ByteArray × ByteArray × Int × List (Int) × Int × Unit) : Prop := ByteArray.size x.2.1 ≤ 1048576 ∧ ByteArray.size x.2.2.1 ≤ 1048576 ∧ Bd_IntS x.2.2.2.2.1 ∧ True
theorem szIntS_le (k : Nat) (a : List (Int)) (n : Int) (h : 0 ≤ n ∧ n ≤ 1048576) (hk : 1048576 < k) (hw : Wf_IntS a) : ∃ m : Int, w_szIntS k (a, (n, ())) = some (m, ((), ((), ()))) ∧ (0 ≤ m → m ≤ n ∧ Bd_IntS a) := by
  unfold w_szIntS
  have hl : a.length ≤ 9223372036854775807 := hw
  have e : wi64 (n - (List.length a : Int)) = n - (List.length a : Int) := w64_id _ (by omega)
  simp only [e]
  by_cases hc : n - (List.length a : Int) < 0
  · simp only [hc, decide_true, if_true]
    exact ⟨_, rfl, fun h => by omega⟩
  · simp only [hc, decide_false, Bool.false_eq_true, if_false]
    exact ⟨_, rfl, fun _ => ⟨by omega, by show a.length ≤ 1048576; omega⟩⟩
theorem szSlot_le (k : Nat) (x : Int × ByteArray × ByteArray × Int × List (Int) × Int × Unit) (n : Int) (h : 0 ≤ n ∧ n ≤ 1048576) (hk : 1048576 < k) (hw : Wf_Slot x) : ∃ m : Int, w_szSlot k (x, (n, ())) = some (m, ((), ((), ()))) ∧ (0 ≤ m → m ≤ n ∧ Bd_Slot x) := by
  obtain ⟨a0, a1, a2, a3, a4, a5, u⟩ := x
  unfold w_szSlot
  unfold Wf_Slot at hw
  unfold Bd_Slot
  simp only [] at hw ⊢
  obtain ⟨w1, w2, w4, _⟩ := hw
  have e0 : wi64 (n - (ByteArray.size a1 : Int)) = n - (ByteArray.size a1 : Int) := w64_id _ (by omega)
  simp only [e0]
  by_cases c0 : (n - (ByteArray.size a1 : Int)) < 0
  · simp only [c0, decide_true, if_true]
    exact ⟨_, rfl, fun h => by omega⟩
  simp only [c0, decide_false, Bool.false_eq_true, if_false]
  have e1 : wi64 ((n - (ByteArray.size a1 : Int)) - (ByteArray.size a2 : Int)) = (n - (ByteArray.size a1 : Int)) - (ByteArray.size a2 : Int) := w64_id _ (by omega)
  simp only [e1]
  by_cases c1 : ((n - (ByteArray.size a1 : Int)) - (ByteArray.size a2 : Int)) < 0
  · simp only [c1, decide_true, if_true]
    exact ⟨_, rfl, fun h => by omega⟩
  simp only [c1, decide_false, Bool.false_eq_true, if_false]
  obtain ⟨m2, e2, b2⟩ := szIntS_le k a4 ((n - (ByteArray.size a1 : Int)) - (ByteArray.size a2 : Int)) ⟨by omega, by omega⟩ hk w4
  simp only [e2, Option.bind_some]
  by_cases c2 : m2 < 0
  · simp only [c2, decide_true, if_true]
    exact ⟨_, rfl, fun h => by omega⟩
  have d2 := b2 (by omega)
  simp only [c2, decide_false, Bool.false_eq_true, if_false]
  exact ⟨_, rfl, fun _ => ⟨by omega, ⟨by omega, by omega, d2.2, trivial⟩⟩⟩
theorem szSlots_le (k : Nat) (x : Int × ByteArray × ByteArray × Int × List (Int) × Int × Int × ByteArray × ByteArray × Int × List (Int) × Int × Unit) (n : Int) (h : 0 ≤ n ∧ n ≤ 1048576) (hk : 1048576 < k) (hw : Wf_Slots x) : ∃ m : Int, w_szSlots k (x, (n, ())) = some (m, ((), ((), ()))) ∧ (0 ≤ m → m ≤ n ∧ Bd_Slots x) := by
  obtain ⟨a0, a1, a2, a3, a4, a5, a6, a7, a8, a9, a10, a11, u⟩ := x
  unfold w_szSlots
  unfold Wf_Slots at hw
  unfold Bd_Slots
  simp only [] at hw ⊢
  obtain ⟨w1, w2, w4, w7, w8, w10, _⟩ := hw
  obtain ⟨m0, e0, b0⟩ := szSlot_le k (a0, (a1, (a2, (a3, (a4, (a5, ())))))) n ⟨by omega, by omega⟩ hk ⟨w1, w2, w4, trivial⟩
  simp only [e0, Option.bind_some]
  by_cases c0 : m0 < 0
  · simp only [c0, decide_true, if_true]
    exact ⟨_, rfl, fun h => by omega⟩
  have d0 := b0 (by omega)
  simp only [c0, decide_false, Bool.false_eq_true, if_false]
  obtain ⟨m1, e1, b1⟩ := szSlot_le k (a6, (a7, (a8, (a9, (a10, (a11, ())))))) m0 ⟨by omega, by omega⟩ hk ⟨w7, w8, w10, trivial⟩
  simp only [e1, Option.bind_some]
  by_cases c1 : m1 < 0
  · simp only [c1, decide_true, if_true]
    exact ⟨_, rfl, fun h => by omega⟩
  have d1 := b1 (by omega)
  simp only [c1, decide_false, Bool.false_eq_true, if_false]
  exact ⟨_, rfl, fun _ => ⟨by omega, ⟨d0.2.1, d0.2.2.1, d0.2.2.2.1, d1.2.1, d1.2.2.1, d1.2.2.2.1, trivial⟩⟩⟩
def Wf_Shelf (x : (List (Int × Int × Int × List (ByteArray) × List (Bool) × Int)) × Unit) : Prop := Wf_HeldS x.1 ∧ True
def Bd_Shelf (x : (List (Int × Int × Int × List (ByteArray) × List (Bool) × Int)) × Unit) : Prop := Bd_HeldS x.1 ∧ True
theorem szStringS_le (k : Nat) (a : List (ByteArray)) (n : Int) (h : 0 ≤ n ∧ n ≤ 1048576) (hk : 1048576 < k) (hw : Wf_StringS a) : ∃ m : Int, w_szStringS k (a, (n, ())) = some (m, ((), ((), ()))) ∧ (0 ≤ m → m ≤ n ∧ Bd_StringS a) := by
  unfold w_szStringS
  have hl : a.length ≤ 9223372036854775807 := hw.1
  have e : wi64 (n - (List.length a : Int)) = n - (List.length a : Int) := w64_id _ (by omega)
  simp only [e]
  by_cases hc : n - (List.length a : Int) < 0
  · simp only [hc, decide_true, if_true]
    exact ⟨_, rfl, fun h => by omega⟩
  · simp only [hc, decide_false, Bool.false_eq_true, if_false]
    refine (loop_sz (t := .str) a (fun m => (m, ((), ((), ())))) (fun _ => True) ?_ ?_ (n - a.length) (by omega) (by omega) k (by omega)).imp fun m hm => ⟨hm.1, fun h0 => ⟨by have := (hm.2 h0).1; omega, by show a.length ≤ 1048576; omega⟩⟩
    · intro again n' i hn0 hn1 hi hl'
      have w : wi64 (i + 1) = i + 1 := w64_id _ (by omega)
      have hr := rd_get (t := .str) a i (by omega)
      have hs : ByteArray.size (Ty.rd (t := .str) a i) ≤ 9223372036854775807 := by rw [hr]; exact hw.2 _ (List.getElem_mem _)
      have w2 : wi64 (n' - (ByteArray.size (Ty.rd (t := .str) a i) : Int)) = n' - (ByteArray.size (Ty.rd (t := .str) a i) : Int) := w64_id _ (by omega)
      refine ⟨n' - (ByteArray.size (Ty.rd (t := .str) a i) : Int), fun hm => ⟨by omega, trivial⟩, ?_⟩
      simp only [hl', hi, w2, w, decide_true, and_self, if_true, decide_eq_true_eq]
    · intro again n' i hi
      have : ¬ i < (a.length : Int) := by omega
      simp [this]
theorem szBoolS_le (k : Nat) (a : List (Bool)) (n : Int) (h : 0 ≤ n ∧ n ≤ 1048576) (hk : 1048576 < k) (hw : Wf_BoolS a) : ∃ m : Int, w_szBoolS k (a, (n, ())) = some (m, ((), ((), ()))) ∧ (0 ≤ m → m ≤ n ∧ Bd_BoolS a) := by
  unfold w_szBoolS
  have hl : a.length ≤ 9223372036854775807 := hw
  have e : wi64 (n - (List.length a : Int)) = n - (List.length a : Int) := w64_id _ (by omega)
  simp only [e]
  by_cases hc : n - (List.length a : Int) < 0
  · simp only [hc, decide_true, if_true]
    exact ⟨_, rfl, fun h => by omega⟩
  · simp only [hc, decide_false, Bool.false_eq_true, if_false]
    exact ⟨_, rfl, fun _ => ⟨by omega, by show a.length ≤ 1048576; omega⟩⟩
theorem szHeld_le (k : Nat) (x : Int × Int × Int × List (ByteArray) × List (Bool) × Int × Unit) (n : Int) (h : 0 ≤ n ∧ n ≤ 1048576) (hk : 1048576 < k) (hw : Wf_Held x) : ∃ m : Int, w_szHeld k (x, (n, ())) = some (m, ((), ((), ()))) ∧ (0 ≤ m → m ≤ n ∧ Bd_Held x) := by
  obtain ⟨a0, a1, a2, a3, a4, a5, u⟩ := x
  unfold w_szHeld
  unfold Wf_Held at hw
  unfold Bd_Held
  simp only [] at hw ⊢
  obtain ⟨w3, w4, _⟩ := hw
  obtain ⟨m0, e0, b0⟩ := szStringS_le k a3 n ⟨by omega, by omega⟩ hk w3
  simp only [e0, Option.bind_some]
  by_cases c0 : m0 < 0
  · simp only [c0, decide_true, if_true]
    exact ⟨_, rfl, fun h => by omega⟩
  have d0 := b0 (by omega)
  simp only [c0, decide_false, Bool.false_eq_true, if_false]
  obtain ⟨m1, e1, b1⟩ := szBoolS_le k a4 m0 ⟨by omega, by omega⟩ hk w4
  simp only [e1, Option.bind_some]
  by_cases c1 : m1 < 0
  · simp only [c1, decide_true, if_true]
    exact ⟨_, rfl, fun h => by omega⟩
  have d1 := b1 (by omega)
  simp only [c1, decide_false, Bool.false_eq_true, if_false]
  exact ⟨_, rfl, fun _ => ⟨by omega, ⟨d0.2, d1.2, trivial⟩⟩⟩
theorem szHeldS_le (k : Nat) (a : List (Int × Int × Int × List (ByteArray) × List (Bool) × Int)) (n : Int) (h : 0 ≤ n ∧ n ≤ 1048576) (hk : 1048576 < k) (hw : Wf_HeldS a) : ∃ m : Int, w_szHeldS k (a, (n, ())) = some (m, ((), ((), ()))) ∧ (0 ≤ m → m ≤ n ∧ Bd_HeldS a) := by
  unfold w_szHeldS
  have hl : a.length ≤ 9223372036854775807 := hw.1
  have e : wi64 (n - (List.length a : Int)) = n - (List.length a : Int) := w64_id _ (by omega)
  simp only [e]
  by_cases hc : n - (List.length a : Int) < 0
  · simp only [hc, decide_true, if_true]
    exact ⟨_, rfl, fun h => by omega⟩
  · simp only [hc, decide_false, Bool.false_eq_true, if_false]
    refine (loop_sz (t := (.pair (.int .i64) (.pair (.int .i64) (.pair (.int .i64) (.pair (.list .str) (.pair (.list .bool) (.int .i64))))))) a (fun m => (m, ((), ((), ())))) (fun r => Bd_Held (ag_Held r)) ?_ ?_ (n - a.length) (by omega) (by omega) k (by omega)).imp fun m hm => ⟨hm.1, fun h0 => ⟨by have := (hm.2 h0).1; omega, ⟨by omega, (hm.2 h0).2⟩⟩⟩
    · intro again n' i hn0 hn1 hi hl'
      have w : wi64 (i + 1) = i + 1 := w64_id _ (by omega)
      have hr := rd_get (t := (.pair (.int .i64) (.pair (.int .i64) (.pair (.int .i64) (.pair (.list .str) (.pair (.list .bool) (.int .i64))))))) a i (by omega)
      obtain ⟨m, e1, e2⟩ := szHeld_le k (ag_Held (Ty.rd (t := (.pair (.int .i64) (.pair (.int .i64) (.pair (.int .i64) (.pair (.list .str) (.pair (.list .bool) (.int .i64))))))) a i)) n' ⟨hn0, hn1⟩ hk (by rw [hr]; exact hw.2 _ (List.getElem_mem _))
      simp only [ag_Held] at e1
      refine ⟨m, fun hm => e2 hm, ?_⟩
      simp only [hl', hi, e1, w, decide_true, and_self, if_true, Option.bind_some, decide_eq_true_eq]
    · intro again n' i hi
      have : ¬ i < (a.length : Int) := by omega
      simp [this]
theorem szShelf_le (k : Nat) (x : (List (Int × Int × Int × List (ByteArray) × List (Bool) × Int)) × Unit) (n : Int) (h : 0 ≤ n ∧ n ≤ 1048576) (hk : 1048576 < k) (hw : Wf_Shelf x) : ∃ m : Int, w_szShelf k (x, (n, ())) = some (m, ((), ((), ()))) ∧ (0 ≤ m → m ≤ n ∧ Bd_Shelf x) := by
  obtain ⟨a0, u⟩ := x
  unfold w_szShelf
  unfold Wf_Shelf at hw
  unfold Bd_Shelf
  simp only [] at hw ⊢
  obtain ⟨w0, _⟩ := hw
  obtain ⟨m0, e0, b0⟩ := szHeldS_le k a0 n ⟨by omega, by omega⟩ hk w0
  simp only [e0, Option.bind_some]
  by_cases c0 : m0 < 0
  · simp only [c0, decide_true, if_true]
    exact ⟨_, rfl, fun h => by omega⟩
  have d0 := b0 (by omega)
  simp only [c0, decide_false, Bool.false_eq_true, if_false]
  exact ⟨_, rfl, fun _ => ⟨by omega, ⟨d0.2, trivial⟩⟩⟩
theorem szUser_le (k : Nat) (x : Int × Int × Int × ByteArray × ByteArray × Int × List (Int) × Int × Int × ByteArray × ByteArray × Int × List (Int) × Int × (List (Int × Int × Int × List (ByteArray) × List (Bool) × Int)) × Int × Unit) (n : Int) (h : 0 ≤ n ∧ n ≤ 1048576) (hk : 1048576 < k) (hw : Wf_User x) : ∃ m : Int, w_szUser k (x, (n, ())) = some (m, ((), ((), ()))) ∧ (0 ≤ m → m ≤ n ∧ Bd_User x) := by
  obtain ⟨a0, a1, a2, a3, a4, a5, a6, a7, a8, a9, a10, a11, a12, a13, a14, a15, u⟩ := x
  unfold w_szUser
  unfold Wf_User at hw
  unfold Bd_User
  simp only [] at hw ⊢
  obtain ⟨w3, w4, w6, w9, w10, w12, w14, _⟩ := hw
  obtain ⟨m0, e0, b0⟩ := szSlots_le k (a2, (a3, (a4, (a5, (a6, (a7, (a8, (a9, (a10, (a11, (a12, (a13, ())))))))))))) n ⟨by omega, by omega⟩ hk ⟨w3, w4, w6, w9, w10, w12, trivial⟩
  simp only [e0, Option.bind_some]
  by_cases c0 : m0 < 0
  · simp only [c0, decide_true, if_true]
    exact ⟨_, rfl, fun h => by omega⟩
  have d0 := b0 (by omega)
  simp only [c0, decide_false, Bool.false_eq_true, if_false]
  obtain ⟨m1, e1, b1⟩ := szShelf_le k (a14, ()) m0 ⟨by omega, by omega⟩ hk ⟨w14, trivial⟩
  simp only [e1, Option.bind_some]
  by_cases c1 : m1 < 0
  · simp only [c1, decide_true, if_true]
    exact ⟨_, rfl, fun h => by omega⟩
  have d1 := b1 (by omega)
  simp only [c1, decide_false, Bool.false_eq_true, if_false]
  exact ⟨_, rfl, fun _ => ⟨by omega, ⟨d0.2.1, d0.2.2.1, d0.2.2.2.1, d0.2.2.2.2.1, d0.2.2.2.2.2.1, d0.2.2.2.2.2.2.1, d1.2.1, trivial⟩⟩⟩
theorem toIntS_is (k : Nat) (a : List (Int)) (hk : 1048576 < k) (hb : Bd_IntS a) : w_toIntS k (a, ()) = some (a, ((), ())) := by
  unfold w_toIntS
  have hl : a.length ≤ 1048576 := hb
  have hcap : (capMax : Int) = 274877906944 := rfl
  simp only [if_true]
  rw [if_pos (by omega)]
  refine loop_to (t := (.int .i64)) a (fun out => (out, ((), ()))) ?_ ?_ _ (by simp) k (by omega)
  · intro again out i hi hl' ho
    have w : wi64 (i + 1) = i + 1 := w64_id _ (by omega)
    simp only [hl', hi, ho, w, decide_true, and_self, if_true]
  · intro again out i hi
    have : ¬ i < (a.length : Int) := by omega
    simp [this]
theorem toSlot_is (k : Nat) (x : Int × ByteArray × ByteArray × Int × List (Int) × Int × Unit) (hk : 1048576 < k) (hb : Bd_Slot x) : w_toSlot k (x, ()) = some (x, ((), ())) := by
  obtain ⟨a0, a1, a2, a3, a4, a5, u⟩ := x
  unfold w_toSlot
  unfold Bd_Slot at hb
  obtain ⟨b1, b2, b4, b⟩ := hb
  simp only [] at b1 b2 b4
  simp only [toIntS_is k a4 hk b4, Option.bind_some]
theorem toSlots_is (k : Nat) (x : Int × ByteArray × ByteArray × Int × List (Int) × Int × Int × ByteArray × ByteArray × Int × List (Int) × Int × Unit) (hk : 1048576 < k) (hb : Bd_Slots x) : w_toSlots k (x, ()) = some (x, ((), ())) := by
  obtain ⟨a0, a1, a2, a3, a4, a5, a6, a7, a8, a9, a10, a11, u⟩ := x
  unfold w_toSlots
  unfold Bd_Slots at hb
  obtain ⟨b1, b2, b4, b7, b8, b10, b⟩ := hb
  simp only [] at b1 b2 b4 b7 b8 b10
  simp only [toSlot_is k (a0, (a1, (a2, (a3, (a4, (a5, ())))))) hk ⟨b1, b2, b4, trivial⟩, toSlot_is k (a6, (a7, (a8, (a9, (a10, (a11, ())))))) hk ⟨b7, b8, b10, trivial⟩, Option.bind_some]
theorem toStringS_is (k : Nat) (a : List (ByteArray)) (hk : 1048576 < k) (hb : Bd_StringS a) : w_toStringS k (a, ()) = some (a, ((), ())) := by
  unfold w_toStringS
  have hl : a.length ≤ 1048576 := hb
  have hcap : (capMax : Int) = 274877906944 := rfl
  simp only [if_true]
  rw [if_pos (by omega)]
  refine loop_to (t := .str) a (fun out => (out, ((), ()))) ?_ ?_ _ (by simp) k (by omega)
  · intro again out i hi hl' ho
    have w : wi64 (i + 1) = i + 1 := w64_id _ (by omega)
    simp only [hl', hi, ho, w, decide_true, and_self, if_true]
  · intro again out i hi
    have : ¬ i < (a.length : Int) := by omega
    simp [this]
theorem toBoolS_is (k : Nat) (a : List (Bool)) (hk : 1048576 < k) (hb : Bd_BoolS a) : w_toBoolS k (a, ()) = some (a, ((), ())) := by
  unfold w_toBoolS
  have hl : a.length ≤ 1048576 := hb
  have hcap : (capMax : Int) = 274877906944 := rfl
  simp only [if_true]
  rw [if_pos (by omega)]
  refine loop_to (t := .bool) a (fun out => (out, ((), ()))) ?_ ?_ _ (by simp) k (by omega)
  · intro again out i hi hl' ho
    have w : wi64 (i + 1) = i + 1 := w64_id _ (by omega)
    simp only [hl', hi, ho, w, decide_true, and_self, if_true]
  · intro again out i hi
    have : ¬ i < (a.length : Int) := by omega
    simp [this]
theorem toHeld_is (k : Nat) (x : Int × Int × Int × List (ByteArray) × List (Bool) × Int × Unit) (hk : 1048576 < k) (hb : Bd_Held x) : w_toHeld k (x, ()) = some (x, ((), ())) := by
  obtain ⟨a0, a1, a2, a3, a4, a5, u⟩ := x
  unfold w_toHeld
  unfold Bd_Held at hb
  obtain ⟨b3, b4, b⟩ := hb
  simp only [] at b3 b4
  simp only [toStringS_is k a3 hk b3, toBoolS_is k a4 hk b4, Option.bind_some]
theorem toHeldS_is (k : Nat) (a : List (Int × Int × Int × List (ByteArray) × List (Bool) × Int)) (hk : 1048576 < k) (hb : Bd_HeldS a) : w_toHeldS k (a, ()) = some (a, ((), ())) := by
  unfold w_toHeldS
  have hl : a.length ≤ 1048576 := hb.1
  have hcap : (capMax : Int) = 274877906944 := rfl
  simp only [if_true]
  rw [if_pos (by omega)]
  refine loop_to (t := (.pair (.int .i64) (.pair (.int .i64) (.pair (.int .i64) (.pair (.list .str) (.pair (.list .bool) (.int .i64))))))) a (fun out => (out, ((), ()))) ?_ ?_ _ (by simp) k (by omega)
  · intro again out i hi hl' ho
    have w : wi64 (i + 1) = i + 1 := w64_id _ (by omega)
    have hr := rd_get (t := (.pair (.int .i64) (.pair (.int .i64) (.pair (.int .i64) (.pair (.list .str) (.pair (.list .bool) (.int .i64))))))) a i (by omega)
    have e := toHeld_is k (ag_Held (Ty.rd (t := (.pair (.int .i64) (.pair (.int .i64) (.pair (.int .i64) (.pair (.list .str) (.pair (.list .bool) (.int .i64))))))) a i)) hk (by rw [hr]; exact hb.2 _ (List.getElem_mem _))
    simp only [ag_Held] at e
    simp only [hl', hi, ho, e, w, decide_true, and_self, if_true, Option.bind_some]
  · intro again out i hi
    have : ¬ i < (a.length : Int) := by omega
    simp [this]
theorem toShelf_is (k : Nat) (x : (List (Int × Int × Int × List (ByteArray) × List (Bool) × Int)) × Unit) (hk : 1048576 < k) (hb : Bd_Shelf x) : w_toShelf k (x, ()) = some (x, ((), ())) := by
  obtain ⟨a0, u⟩ := x
  unfold w_toShelf
  unfold Bd_Shelf at hb
  obtain ⟨b0, b⟩ := hb
  simp only [] at b0
  simp only [toHeldS_is k a0 hk b0, Option.bind_some]
theorem toUser_is (k : Nat) (x : Int × Int × Int × ByteArray × ByteArray × Int × List (Int) × Int × Int × ByteArray × ByteArray × Int × List (Int) × Int × (List (Int × Int × Int × List (ByteArray) × List (Bool) × Int)) × Int × Unit) (hk : 1048576 < k) (hb : Bd_User x) : w_toUser k (x, ()) = some (x, ((), ())) := by
  obtain ⟨a0, a1, a2, a3, a4, a5, a6, a7, a8, a9, a10, a11, a12, a13, a14, a15, u⟩ := x
  unfold w_toUser
  unfold Bd_User at hb
  obtain ⟨b3, b4, b6, b9, b10, b12, b14, b⟩ := hb
  simp only [] at b3 b4 b6 b9 b10 b12 b14
  simp only [toSlots_is k (a2, (a3, (a4, (a5, (a6, (a7, (a8, (a9, (a10, (a11, (a12, (a13, ())))))))))))) hk ⟨b3, b4, b6, b9, b10, b12, trivial⟩, toShelf_is k (a14, ()) hk ⟨b14, trivial⟩, Option.bind_some]
theorem eqIntS_is (k : Nat) (a b : List ((.int .i64) : Ty).den) (hk : 1048576 < k) (hb : Bd_IntS a) : w_eqIntS k (a, (b, ())) = some (dq a b, ((), ((), ()))) := by
  unfold w_eqIntS
  have hl : a.length ≤ 1048576 := hb
  by_cases hab : a.length = b.length
  · simp only [hab, decide_true, Bool.not_true]
    refine (loop_dq (t := (.int .i64)) (R := Bool × Unit × Unit × Unit) a b hab (false, ((), ((), ()))) (true, ((), ((), ()))) ?_ ?_ k (by omega)).trans ?_
    · intro again i hi hl'
      have w : wi64 (i + 1) = i + 1 := w64_id _ (by omega)
      have hlb : i < (b.length : Int) := by omega
      simp only [hl', hi, hlb, w, decide_true, and_self, if_true]
      by_cases e : Ty.rd (t := (.int .i64)) a i = Ty.rd (t := (.int .i64)) b i <;> simp [e, dq_self, dq_false]
    · intro again i hi
      have : ¬ i < (a.length : Int) := by omega
      simp only [this, decide_false]
      rfl
    · cases dq a b <;> simp
  · have : ¬ ((a.length : Int) = (b.length : Int)) := by omega
    have h2 : a ≠ b := fun h => hab (by rw [h])
    simp [this, dq_false h2]
theorem eqSlot_is (k : Nat) (x y : Int × ByteArray × ByteArray × Int × List (Int) × Int × Unit) (hk : 1048576 < k) (hb : Bd_Slot x) : w_eqSlot k (x, (y, ())) = some (dq x y, ((), ((), ()))) := by
  obtain ⟨a0, a1, a2, a3, a4, a5, u⟩ := x
  obtain ⟨b0, b1, b2, b3, b4, b5, u'⟩ := y
  unfold w_eqSlot
  unfold Bd_Slot at hb
  obtain ⟨w1, w2, w4, _⟩ := hb
  simp only [] at w1 w2 w4
  simp only [eqIntS_is k a4 b4 hk w4, Option.bind_some]
  by_cases h0 : a0 = b0
  rotate_left
  · have hn : (a0, (a1, (a2, (a3, (a4, (a5, ())))))) ≠ (b0, (b1, (b2, (b3, (b4, (b5, ())))))) := fun h => h0 (by simp only [Prod.mk.injEq] at h; simp_all)
    rw [dq_false hn]
    simp [h0]
  subst h0
  by_cases h1 : a1 = b1
  rotate_left
  · have hn : (a0, (a1, (a2, (a3, (a4, (a5, ())))))) ≠ (a0, (b1, (b2, (b3, (b4, (b5, ())))))) := fun h => h1 (by simp only [Prod.mk.injEq] at h; simp_all)
    rw [dq_false hn]
    simp [h1]
  subst h1
  by_cases h2 : a2 = b2
  rotate_left
  · have hn : (a0, (a1, (a2, (a3, (a4, (a5, ())))))) ≠ (a0, (a1, (b2, (b3, (b4, (b5, ())))))) := fun h => h2 (by simp only [Prod.mk.injEq] at h; simp_all)
    rw [dq_false hn]
    simp [h2]
  subst h2
  by_cases h3 : a3 = b3
  rotate_left
  · have hn : (a0, (a1, (a2, (a3, (a4, (a5, ())))))) ≠ (a0, (a1, (a2, (b3, (b4, (b5, ())))))) := fun h => h3 (by simp only [Prod.mk.injEq] at h; simp_all)
    rw [dq_false hn]
    simp [h3]
  subst h3
  by_cases h4 : a4 = b4
  rotate_left
  · have hn : (a0, (a1, (a2, (a3, (a4, (a5, ())))))) ≠ (a0, (a1, (a2, (a3, (b4, (b5, ())))))) := fun h => h4 (by simp only [Prod.mk.injEq] at h; simp_all)
    rw [dq_false hn]
    simp [h4, dq_false]
  subst h4
  by_cases h5 : a5 = b5
  rotate_left
  · have hn : (a0, (a1, (a2, (a3, (a4, (a5, ())))))) ≠ (a0, (a1, (a2, (a3, (a4, (b5, ())))))) := fun h => h5 (by simp only [Prod.mk.injEq] at h; simp_all)
    rw [dq_false hn]
    simp [h5]
  subst h5
  simp [dq_self]
theorem eqSlots_is (k : Nat) (x y : Int × ByteArray × ByteArray × Int × List (Int) × Int × Int × ByteArray × ByteArray × Int × List (Int) × Int × Unit) (hk : 1048576 < k) (hb : Bd_Slots x) : w_eqSlots k (x, (y, ())) = some (dq x y, ((), ((), ()))) := by
  obtain ⟨a0, a1, a2, a3, a4, a5, a6, a7, a8, a9, a10, a11, u⟩ := x
  obtain ⟨b0, b1, b2, b3, b4, b5, b6, b7, b8, b9, b10, b11, u'⟩ := y
  unfold w_eqSlots
  unfold Bd_Slots at hb
  obtain ⟨w1, w2, w4, w7, w8, w10, _⟩ := hb
  simp only [] at w1 w2 w4 w7 w8 w10
  simp only [eqSlot_is k (a0, (a1, (a2, (a3, (a4, (a5, ())))))) (b0, (b1, (b2, (b3, (b4, (b5, ())))))) hk ⟨w1, w2, w4, trivial⟩, eqSlot_is k (a6, (a7, (a8, (a9, (a10, (a11, ())))))) (b6, (b7, (b8, (b9, (b10, (b11, ())))))) hk ⟨w7, w8, w10, trivial⟩, Option.bind_some]
  by_cases h0 : (a0, (a1, (a2, (a3, (a4, (a5, ())))))) = (b0, (b1, (b2, (b3, (b4, (b5, ()))))))
  rotate_left
  · have hn : (a0, (a1, (a2, (a3, (a4, (a5, (a6, (a7, (a8, (a9, (a10, (a11, ())))))))))))) ≠ (b0, (b1, (b2, (b3, (b4, (b5, (b6, (b7, (b8, (b9, (b10, (b11, ())))))))))))) := fun h => h0 (by simp only [Prod.mk.injEq] at h; simp_all)
    rw [dq_false hn]
    simp [h0, dq_false]
  simp only [Prod.mk.injEq, and_true] at h0
  obtain ⟨rfl, rfl, rfl, rfl, rfl, rfl⟩ := h0
  by_cases h1 : (a6, (a7, (a8, (a9, (a10, (a11, ())))))) = (b6, (b7, (b8, (b9, (b10, (b11, ()))))))
  rotate_left
  · have hn : (a0, (a1, (a2, (a3, (a4, (a5, (a6, (a7, (a8, (a9, (a10, (a11, ())))))))))))) ≠ (a0, (a1, (a2, (a3, (a4, (a5, (b6, (b7, (b8, (b9, (b10, (b11, ())))))))))))) := fun h => h1 (by simp only [Prod.mk.injEq] at h; simp_all)
    rw [dq_false hn]
    simp [h1, dq_false]
  simp only [Prod.mk.injEq, and_true] at h1
  obtain ⟨rfl, rfl, rfl, rfl, rfl, rfl⟩ := h1
  simp [dq_self]
theorem eqStringS_is (k : Nat) (a b : List (.str : Ty).den) (hk : 1048576 < k) (hb : Bd_StringS a) : w_eqStringS k (a, (b, ())) = some (dq a b, ((), ((), ()))) := by
  unfold w_eqStringS
  have hl : a.length ≤ 1048576 := hb
  by_cases hab : a.length = b.length
  · simp only [hab, decide_true, Bool.not_true]
    refine (loop_dq (t := .str) (R := Bool × Unit × Unit × Unit) a b hab (false, ((), ((), ()))) (true, ((), ((), ()))) ?_ ?_ k (by omega)).trans ?_
    · intro again i hi hl'
      have w : wi64 (i + 1) = i + 1 := w64_id _ (by omega)
      have hlb : i < (b.length : Int) := by omega
      simp only [hl', hi, hlb, w, decide_true, and_self, if_true]
      by_cases e : Ty.rd (t := .str) a i = Ty.rd (t := .str) b i <;> simp [e, dq_self, dq_false]
    · intro again i hi
      have : ¬ i < (a.length : Int) := by omega
      simp only [this, decide_false]
      rfl
    · cases dq a b <;> simp
  · have : ¬ ((a.length : Int) = (b.length : Int)) := by omega
    have h2 : a ≠ b := fun h => hab (by rw [h])
    simp [this, dq_false h2]
theorem eqBoolS_is (k : Nat) (a b : List (.bool : Ty).den) (hk : 1048576 < k) (hb : Bd_BoolS a) : w_eqBoolS k (a, (b, ())) = some (dq a b, ((), ((), ()))) := by
  unfold w_eqBoolS
  have hl : a.length ≤ 1048576 := hb
  by_cases hab : a.length = b.length
  · simp only [hab, decide_true, Bool.not_true]
    refine (loop_dq (t := .bool) (R := Bool × Unit × Unit × Unit) a b hab (false, ((), ((), ()))) (true, ((), ((), ()))) ?_ ?_ k (by omega)).trans ?_
    · intro again i hi hl'
      have w : wi64 (i + 1) = i + 1 := w64_id _ (by omega)
      have hlb : i < (b.length : Int) := by omega
      simp only [hl', hi, hlb, w, decide_true, and_self, if_true]
      by_cases e : Ty.rd (t := .bool) a i = Ty.rd (t := .bool) b i <;> simp [e, dq_self, dq_false]
    · intro again i hi
      have : ¬ i < (a.length : Int) := by omega
      simp only [this, decide_false]
      rfl
    · cases dq a b <;> simp
  · have : ¬ ((a.length : Int) = (b.length : Int)) := by omega
    have h2 : a ≠ b := fun h => hab (by rw [h])
    simp [this, dq_false h2]
theorem eqHeld_is (k : Nat) (x y : Int × Int × Int × List (ByteArray) × List (Bool) × Int × Unit) (hk : 1048576 < k) (hb : Bd_Held x) : w_eqHeld k (x, (y, ())) = some (dq x y, ((), ((), ()))) := by
  obtain ⟨a0, a1, a2, a3, a4, a5, u⟩ := x
  obtain ⟨b0, b1, b2, b3, b4, b5, u'⟩ := y
  unfold w_eqHeld
  unfold Bd_Held at hb
  obtain ⟨w3, w4, _⟩ := hb
  simp only [] at w3 w4
  simp only [eqStringS_is k a3 b3 hk w3, eqBoolS_is k a4 b4 hk w4, Option.bind_some]
  by_cases h0 : a0 = b0
  rotate_left
  · have hn : (a0, (a1, (a2, (a3, (a4, (a5, ())))))) ≠ (b0, (b1, (b2, (b3, (b4, (b5, ())))))) := fun h => h0 (by simp only [Prod.mk.injEq] at h; simp_all)
    rw [dq_false hn]
    simp [h0]
  subst h0
  by_cases h1 : a1 = b1
  rotate_left
  · have hn : (a0, (a1, (a2, (a3, (a4, (a5, ())))))) ≠ (a0, (b1, (b2, (b3, (b4, (b5, ())))))) := fun h => h1 (by simp only [Prod.mk.injEq] at h; simp_all)
    rw [dq_false hn]
    simp [h1]
  subst h1
  by_cases h2 : a2 = b2
  rotate_left
  · have hn : (a0, (a1, (a2, (a3, (a4, (a5, ())))))) ≠ (a0, (a1, (b2, (b3, (b4, (b5, ())))))) := fun h => h2 (by simp only [Prod.mk.injEq] at h; simp_all)
    rw [dq_false hn]
    simp [h2]
  subst h2
  by_cases h3 : a3 = b3
  rotate_left
  · have hn : (a0, (a1, (a2, (a3, (a4, (a5, ())))))) ≠ (a0, (a1, (a2, (b3, (b4, (b5, ())))))) := fun h => h3 (by simp only [Prod.mk.injEq] at h; simp_all)
    rw [dq_false hn]
    simp [h3, dq_false]
  subst h3
  by_cases h4 : a4 = b4
  rotate_left
  · have hn : (a0, (a1, (a2, (a3, (a4, (a5, ())))))) ≠ (a0, (a1, (a2, (a3, (b4, (b5, ())))))) := fun h => h4 (by simp only [Prod.mk.injEq] at h; simp_all)
    rw [dq_false hn]
    simp [h4, dq_false]
  subst h4
  by_cases h5 : a5 = b5
  rotate_left
  · have hn : (a0, (a1, (a2, (a3, (a4, (a5, ())))))) ≠ (a0, (a1, (a2, (a3, (a4, (b5, ())))))) := fun h => h5 (by simp only [Prod.mk.injEq] at h; simp_all)
    rw [dq_false hn]
    simp [h5]
  subst h5
  simp [dq_self]
theorem eqHeldS_is (k : Nat) (a b : List RT_Held.den) (hk : 1048576 < k) (hb : Bd_HeldS a) : w_eqHeldS k (a, (b, ())) = some (dq a b, ((), ((), ()))) := by
  unfold w_eqHeldS
  have hl : a.length ≤ 1048576 := hb.1
  by_cases hab : a.length = b.length
  · simp only [hab, decide_true, Bool.not_true]
    refine (loop_dq (t := RT_Held) (R := Bool × Unit × Unit × Unit) a b hab (false, ((), ((), ()))) (true, ((), ((), ()))) ?_ ?_ k (by omega)).trans ?_
    · intro again i hi hl'
      have w : wi64 (i + 1) = i + 1 := w64_id _ (by omega)
      have hlb : i < (b.length : Int) := by omega
      have hr := rd_get (t := RT_Held) a i (by omega)
      have e := eqHeld_is k (ag_Held (Ty.rd (t := RT_Held) a i)) (ag_Held (Ty.rd (t := RT_Held) b i)) hk (by rw [hr]; exact hb.2 _ (List.getElem_mem _))
      rw [show (dq (ag_Held (Ty.rd (t := RT_Held) a i)) (ag_Held (Ty.rd (t := RT_Held) b i))) = dq (Ty.rd (t := RT_Held) a i) (Ty.rd (t := RT_Held) b i) from dq_of (ag_Held_inj _ _)] at e
      simp only [ag_Held] at e
      simp only [hl', hi, hlb, e, w, decide_true, and_self, if_true, Option.bind_some]
      cases dq (Ty.rd (t := RT_Held) a i) (Ty.rd (t := RT_Held) b i) <;> simp
    · intro again i hi
      have : ¬ i < (a.length : Int) := by omega
      simp only [this, decide_false]
      rfl
    · cases dq a b <;> simp
  · have : ¬ ((a.length : Int) = (b.length : Int)) := by omega
    have h2 : a ≠ b := fun h => hab (by rw [h])
    simp [this, dq_false h2]
theorem eqShelf_is (k : Nat) (x y : (List (Int × Int × Int × List (ByteArray) × List (Bool) × Int)) × Unit) (hk : 1048576 < k) (hb : Bd_Shelf x) : w_eqShelf k (x, (y, ())) = some (dq x y, ((), ((), ()))) := by
  obtain ⟨a0, u⟩ := x
  obtain ⟨b0, u'⟩ := y
  unfold w_eqShelf
  unfold Bd_Shelf at hb
  obtain ⟨w0, _⟩ := hb
  simp only [] at w0
  simp only [eqHeldS_is k a0 b0 hk w0, Option.bind_some]
  by_cases h0 : a0 = b0
  rotate_left
  · have hn : (a0, ()) ≠ (b0, ()) := fun h => h0 (by simp only [Prod.mk.injEq] at h; simp_all)
    rw [dq_false hn]
    simp [h0, dq_false]
  subst h0
  simp [dq_self]
theorem eqUser_is (k : Nat) (x y : Int × Int × Int × ByteArray × ByteArray × Int × List (Int) × Int × Int × ByteArray × ByteArray × Int × List (Int) × Int × (List (Int × Int × Int × List (ByteArray) × List (Bool) × Int)) × Int × Unit) (hk : 1048576 < k) (hb : Bd_User x) : w_eqUser k (x, (y, ())) = some (dq x y, ((), ((), ()))) := by
  obtain ⟨a0, a1, a2, a3, a4, a5, a6, a7, a8, a9, a10, a11, a12, a13, a14, a15, u⟩ := x
  obtain ⟨b0, b1, b2, b3, b4, b5, b6, b7, b8, b9, b10, b11, b12, b13, b14, b15, u'⟩ := y
  unfold w_eqUser
  unfold Bd_User at hb
  obtain ⟨w3, w4, w6, w9, w10, w12, w14, _⟩ := hb
  simp only [] at w3 w4 w6 w9 w10 w12 w14
  simp only [eqSlots_is k (a2, (a3, (a4, (a5, (a6, (a7, (a8, (a9, (a10, (a11, (a12, (a13, ())))))))))))) (b2, (b3, (b4, (b5, (b6, (b7, (b8, (b9, (b10, (b11, (b12, (b13, ())))))))))))) hk ⟨w3, w4, w6, w9, w10, w12, trivial⟩, eqShelf_is k (a14, ()) (b14, ()) hk ⟨w14, trivial⟩, Option.bind_some]
  by_cases h0 : a0 = b0
  rotate_left
  · have hn : (a0, (a1, (a2, (a3, (a4, (a5, (a6, (a7, (a8, (a9, (a10, (a11, (a12, (a13, (a14, (a15, ())))))))))))))))) ≠ (b0, (b1, (b2, (b3, (b4, (b5, (b6, (b7, (b8, (b9, (b10, (b11, (b12, (b13, (b14, (b15, ())))))))))))))))) := fun h => h0 (by simp only [Prod.mk.injEq] at h; simp_all)
    rw [dq_false hn]
    simp [h0]
  subst h0
  by_cases h1 : a1 = b1
  rotate_left
  · have hn : (a0, (a1, (a2, (a3, (a4, (a5, (a6, (a7, (a8, (a9, (a10, (a11, (a12, (a13, (a14, (a15, ())))))))))))))))) ≠ (a0, (b1, (b2, (b3, (b4, (b5, (b6, (b7, (b8, (b9, (b10, (b11, (b12, (b13, (b14, (b15, ())))))))))))))))) := fun h => h1 (by simp only [Prod.mk.injEq] at h; simp_all)
    rw [dq_false hn]
    simp [h1]
  subst h1
  by_cases h2 : (a2, (a3, (a4, (a5, (a6, (a7, (a8, (a9, (a10, (a11, (a12, (a13, ())))))))))))) = (b2, (b3, (b4, (b5, (b6, (b7, (b8, (b9, (b10, (b11, (b12, (b13, ()))))))))))))
  rotate_left
  · have hn : (a0, (a1, (a2, (a3, (a4, (a5, (a6, (a7, (a8, (a9, (a10, (a11, (a12, (a13, (a14, (a15, ())))))))))))))))) ≠ (a0, (a1, (b2, (b3, (b4, (b5, (b6, (b7, (b8, (b9, (b10, (b11, (b12, (b13, (b14, (b15, ())))))))))))))))) := fun h => h2 (by simp only [Prod.mk.injEq] at h; simp_all)
    rw [dq_false hn]
    simp [h2, dq_false]
  simp only [Prod.mk.injEq, and_true] at h2
  obtain ⟨rfl, rfl, rfl, rfl, rfl, rfl, rfl, rfl, rfl, rfl, rfl, rfl⟩ := h2
  by_cases h3 : (a14, ()) = (b14, ())
  rotate_left
  · have hn : (a0, (a1, (a2, (a3, (a4, (a5, (a6, (a7, (a8, (a9, (a10, (a11, (a12, (a13, (a14, (a15, ())))))))))))))))) ≠ (a0, (a1, (a2, (a3, (a4, (a5, (a6, (a7, (a8, (a9, (a10, (a11, (a12, (a13, (b14, (b15, ())))))))))))))))) := fun h => h3 (by simp only [Prod.mk.injEq] at h; simp_all)
    rw [dq_false hn]
    simp [h3, dq_false]
  simp only [Prod.mk.injEq, and_true] at h3
  obtain ⟨rfl⟩ := h3
  by_cases h4 : a15 = b15
  rotate_left
  · have hn : (a0, (a1, (a2, (a3, (a4, (a5, (a6, (a7, (a8, (a9, (a10, (a11, (a12, (a13, (a14, (a15, ())))))))))))))))) ≠ (a0, (a1, (a2, (a3, (a4, (a5, (a6, (a7, (a8, (a9, (a10, (a11, (a12, (a13, (a14, (b15, ())))))))))))))))) := fun h => h4 (by simp only [Prod.mk.injEq] at h; simp_all)
    rw [dq_false hn]
    simp [h4]
  subst h4
  simp [dq_self]
def Wf_Inner (x : Int × Int × ByteArray × Unit) : Prop := ByteArray.size x.2.2.1 ≤ 9223372036854775807 ∧ True
def Bd_Inner (x : Int × Int × ByteArray × Unit) : Prop := ByteArray.size x.2.2.1 ≤ 1048576 ∧ True
theorem szInner_le (k : Nat) (x : Int × Int × ByteArray × Unit) (n : Int) (h : 0 ≤ n ∧ n ≤ 1048576) (hk : 1048576 < k) (hw : Wf_Inner x) : ∃ m : Int, w_szInner k (x, (n, ())) = some (m, ((), ((), ()))) ∧ (0 ≤ m → m ≤ n ∧ Bd_Inner x) := by
  obtain ⟨a0, a1, a2, u⟩ := x
  unfold w_szInner
  unfold Wf_Inner at hw
  unfold Bd_Inner
  simp only [] at hw ⊢
  obtain ⟨w2, _⟩ := hw
  have e0 : wi64 (n - (ByteArray.size a2 : Int)) = n - (ByteArray.size a2 : Int) := w64_id _ (by omega)
  simp only [e0]
  by_cases c0 : (n - (ByteArray.size a2 : Int)) < 0
  · simp only [c0, decide_true, if_true]
    exact ⟨_, rfl, fun h => by omega⟩
  simp only [c0, decide_false, Bool.false_eq_true, if_false]
  exact ⟨_, rfl, fun _ => ⟨by omega, ⟨by omega, trivial⟩⟩⟩
theorem toInner_is (k : Nat) (x : Int × Int × ByteArray × Unit) (hk : 1048576 < k) (hb : Bd_Inner x) : w_toInner k (x, ()) = some (x, ((), ())) := by
  obtain ⟨a0, a1, a2, u⟩ := x
  unfold w_toInner
  rfl
abbrev RT_Packet : Ty := (.pair (.int .i64) (.pair (.int .i64) (.pair (.int .i64) (.pair (.int .i64) (.pair (.int .i64) (.pair (.list (.int .i64)) .str))))))
def ag_Packet (r : RT_Packet.den) : Int × Int × Int × Int × Int × List (Int) × ByteArray × Unit := (r.1, (r.2.1, (r.2.2.1, (r.2.2.2.1, (r.2.2.2.2.1, (r.2.2.2.2.2.1, (r.2.2.2.2.2.2, ())))))))
theorem ag_Packet_inj (r r' : RT_Packet.den) : (ag_Packet r = ag_Packet r') ↔ r = r' := by
  constructor
  · intro h
    obtain ⟨x0, ⟨x1, ⟨x2, ⟨x3, ⟨x4, ⟨x5, x6⟩⟩⟩⟩⟩⟩ := r
    obtain ⟨y0, ⟨y1, ⟨y2, ⟨y3, ⟨y4, ⟨y5, y6⟩⟩⟩⟩⟩⟩ := r'
    simp only [ag_Packet, Prod.mk.injEq, and_true] at h
    simp only [Prod.mk.injEq]
    simp_all
  · intro h
    rw [h]
def Bd_Packet (x : Int × Int × Int × Int × Int × List (Int) × ByteArray × Unit) : Prop := Bd_IntS x.2.2.2.2.2.1 ∧ ByteArray.size x.2.2.2.2.2.2.1 ≤ 1048576 ∧ True
def Bd_PacketS (a : List (Int × Int × Int × Int × Int × List (Int) × ByteArray)) : Prop := a.length ≤ 1048576 ∧ ∀ r ∈ a, Bd_Packet (ag_Packet r)
theorem eqPacket_is (k : Nat) (x y : Int × Int × Int × Int × Int × List (Int) × ByteArray × Unit) (hk : 1048576 < k) (hb : Bd_Packet x) : w_eqPacket k (x, (y, ())) = some (dq x y, ((), ((), ()))) := by
  obtain ⟨a0, a1, a2, a3, a4, a5, a6, u⟩ := x
  obtain ⟨b0, b1, b2, b3, b4, b5, b6, u'⟩ := y
  unfold w_eqPacket
  unfold Bd_Packet at hb
  obtain ⟨w5, w6, _⟩ := hb
  simp only [] at w5 w6
  simp only [eqIntS_is k a5 b5 hk w5, Option.bind_some]
  by_cases h0 : a0 = b0
  rotate_left
  · have hn : (a0, (a1, (a2, (a3, (a4, (a5, (a6, ()))))))) ≠ (b0, (b1, (b2, (b3, (b4, (b5, (b6, ()))))))) := fun h => h0 (by simp only [Prod.mk.injEq] at h; simp_all)
    rw [dq_false hn]
    simp [h0]
  subst h0
  by_cases h1 : a1 = b1
  rotate_left
  · have hn : (a0, (a1, (a2, (a3, (a4, (a5, (a6, ()))))))) ≠ (a0, (b1, (b2, (b3, (b4, (b5, (b6, ()))))))) := fun h => h1 (by simp only [Prod.mk.injEq] at h; simp_all)
    rw [dq_false hn]
    simp [h1]
  subst h1
  by_cases h2 : a2 = b2
  rotate_left
  · have hn : (a0, (a1, (a2, (a3, (a4, (a5, (a6, ()))))))) ≠ (a0, (a1, (b2, (b3, (b4, (b5, (b6, ()))))))) := fun h => h2 (by simp only [Prod.mk.injEq] at h; simp_all)
    rw [dq_false hn]
    simp [h2]
  subst h2
  by_cases h3 : a3 = b3
  rotate_left
  · have hn : (a0, (a1, (a2, (a3, (a4, (a5, (a6, ()))))))) ≠ (a0, (a1, (a2, (b3, (b4, (b5, (b6, ()))))))) := fun h => h3 (by simp only [Prod.mk.injEq] at h; simp_all)
    rw [dq_false hn]
    simp [h3]
  subst h3
  by_cases h4 : a4 = b4
  rotate_left
  · have hn : (a0, (a1, (a2, (a3, (a4, (a5, (a6, ()))))))) ≠ (a0, (a1, (a2, (a3, (b4, (b5, (b6, ()))))))) := fun h => h4 (by simp only [Prod.mk.injEq] at h; simp_all)
    rw [dq_false hn]
    simp [h4]
  subst h4
  by_cases h5 : a5 = b5
  rotate_left
  · have hn : (a0, (a1, (a2, (a3, (a4, (a5, (a6, ()))))))) ≠ (a0, (a1, (a2, (a3, (a4, (b5, (b6, ()))))))) := fun h => h5 (by simp only [Prod.mk.injEq] at h; simp_all)
    rw [dq_false hn]
    simp [h5, dq_false]
  subst h5
  by_cases h6 : a6 = b6
  rotate_left
  · have hn : (a0, (a1, (a2, (a3, (a4, (a5, (a6, ()))))))) ≠ (a0, (a1, (a2, (a3, (a4, (a5, (b6, ()))))))) := fun h => h6 (by simp only [Prod.mk.injEq] at h; simp_all)
    rw [dq_false hn]
    simp [h6]
  subst h6
  simp [dq_self]
theorem eqPacketS_is (k : Nat) (a b : List RT_Packet.den) (hk : 1048576 < k) (hb : Bd_PacketS a) : w_eqPacketS k (a, (b, ())) = some (dq a b, ((), ((), ()))) := by
  unfold w_eqPacketS
  have hl : a.length ≤ 1048576 := hb.1
  by_cases hab : a.length = b.length
  · simp only [hab, decide_true, Bool.not_true]
    refine (loop_dq (t := RT_Packet) (R := Bool × Unit × Unit × Unit) a b hab (false, ((), ((), ()))) (true, ((), ((), ()))) ?_ ?_ k (by omega)).trans ?_
    · intro again i hi hl'
      have w : wi64 (i + 1) = i + 1 := w64_id _ (by omega)
      have hlb : i < (b.length : Int) := by omega
      have hr := rd_get (t := RT_Packet) a i (by omega)
      have e := eqPacket_is k (ag_Packet (Ty.rd (t := RT_Packet) a i)) (ag_Packet (Ty.rd (t := RT_Packet) b i)) hk (by rw [hr]; exact hb.2 _ (List.getElem_mem _))
      rw [show (dq (ag_Packet (Ty.rd (t := RT_Packet) a i)) (ag_Packet (Ty.rd (t := RT_Packet) b i))) = dq (Ty.rd (t := RT_Packet) a i) (Ty.rd (t := RT_Packet) b i) from dq_of (ag_Packet_inj _ _)] at e
      simp only [ag_Packet] at e
      simp only [hl', hi, hlb, e, w, decide_true, and_self, if_true, Option.bind_some]
      cases dq (Ty.rd (t := RT_Packet) a i) (Ty.rd (t := RT_Packet) b i) <;> simp
    · intro again i hi
      have : ¬ i < (a.length : Int) := by omega
      simp only [this, decide_false]
      rfl
    · cases dq a b <;> simp
  · have : ¬ ((a.length : Int) = (b.length : Int)) := by omega
    have h2 : a ≠ b := fun h => hab (by rw [h])
    simp [this, dq_false h2]
theorem getD_some' {A : Type} {l : List A} {n : Nat} {r d : A} (h : l[n]? = some r) : l.getD n d = r := by simp [List.getD, h]
theorem getD_set' {A : Type} {l : List A} {n : Nat} {x d : A} (h : n < l.length) : (l.set n x).getD n d = x := by simp [List.getD, h]
theorem set_set' {A : Type} (l : List A) (n : Nat) (x y : A) : (l.set n x).set n y = l.set n y := by simp
/-- Marks are laid row by row, and found again. -/
theorem loop_MH {A R R' : Type} {step : (List A × Int × Int × Unit → Option R) → List A × Int × Int × Unit → Option R} {hstep : (List A × Int × Int × Unit → Option R') → List A × Int × Int × Unit → Option R'} (fin : List A → Int → R) (hfin : Int → R') (c N : Int) (hc : 0 ≤ c) (P : A → Prop)
    (hs : ∀ (r : A), P r → ∀ n : Int, 0 ≤ n → n + c ≤ N → ∃ (r' : A) (n' : Int), n ≤ n' ∧ n' ≤ n + c ∧ (∀ again (out : List A) (i : Int), 0 ≤ i → i < out.length → i ≤ 1048576 → out[i.toNat]? = some r → step again (out, (n, (i, ()))) = again (out.set i.toNat r', (n', (i + 1, ())))) ∧
      (∀ again (out : List A) (i : Int), 0 ≤ i → i < out.length → i ≤ 1048576 → out[i.toNat]? = some r' → hstep again (out, (n, (i, ()))) = again (out, (n', (i + 1, ())))))
    (he : ∀ again (out : List A) (n i : Int), (out.length : Int) ≤ i → step again (out, (n, (i, ()))) = some (fin out n))
    (hhe : ∀ again (out : List A) (n i : Int), (out.length : Int) ≤ i → hstep again (out, (n, (i, ()))) = some (hfin n))
    (a : List A) (ha : ∀ r ∈ a, P r) (hal : a.length ≤ 1048576) (n : Int) (hn : 0 ≤ n) (C : Int) (hC : C = c * (a.length : Nat)) (hN : n + C ≤ N) (k : Nat) (hk : 1048576 < k) :
    ∃ (a' : List A) (n' : Int), a'.length = a.length ∧ n ≤ n' ∧ n' ≤ n + C ∧ whileK step k (a, (n, (0, ()))) = some (fin a' n') ∧ whileK hstep k (a', (n, (0, ()))) = some (hfin n') := by
  subst hC
  have key : ∀ (s p : List A) (n : Int) (k : Nat), (∀ r ∈ s, P r) → p.length + s.length ≤ 1048576 → 0 ≤ n → n + c * (s.length : Nat) ≤ N → s.length < k →
      ∃ (s' : List A) (n' : Int), s'.length = s.length ∧ n ≤ n' ∧ n' ≤ n + c * (s.length : Nat) ∧ whileK step k (p ++ s, (n, ((p.length : Int), ()))) = some (fin (p ++ s') n') ∧ whileK hstep k (p ++ s', (n, ((p.length : Int), ()))) = some (hfin n') := by
    intro s
    induction s with
    | nil =>
      intro p n k _ _ _ _ hk
      obtain ⟨k, rfl⟩ : ∃ k', k = k' + 1 := ⟨k - 1, by omega⟩
      exact ⟨[], n, rfl, by omega, by simp, he _ _ _ _ (by simp), hhe _ _ _ _ (by simp)⟩
    | cons r s ih =>
      intro p n k hP hl hn hN hk
      obtain ⟨k, rfl⟩ : ∃ k', k = k' + 1 := ⟨k - 1, by omega⟩
      simp only [List.length_cons] at hl hN hk
      have e : c * ((s.length + 1 : Nat) : Int) = c * (s.length : Nat) + c := by rw [Int.natCast_add, Int.mul_add]; simp
      have hpos : 0 ≤ c * ((s.length : Nat) : Int) := Int.mul_nonneg hc (by omega)
      rw [e] at hN
      obtain ⟨r', n1, h1, h2, h3, h4⟩ := hs r (hP r (by simp)) n hn (by omega)
      obtain ⟨s', n', g1, g2, g3, g4, g5⟩ := ih (p ++ [r']) n1 k (fun x hx => hP x (List.mem_cons_of_mem _ hx)) (by simp; omega) (by omega) (by omega) (by omega)
      have ep : ((p ++ [r']).length : Int) = (p.length : Int) + 1 := by simp
      rw [ep, List.append_assoc, List.append_assoc] at g4
      rw [ep, List.append_assoc] at g5
      refine ⟨r' :: s', n', by simp [g1], by omega, by simp only [List.length_cons]; rw [e]; omega, ?_, ?_⟩
      · show step (whileK step k) _ = _
        rw [h3 _ _ _ (by omega) (by simp; omega) (by omega) (by simp)]
        have : (p ++ r :: s).set ((p.length : Int)).toNat r' = p ++ ([r'] ++ s) := by simp
        rw [this]
        exact g4
      · show hstep (whileK hstep k) _ = _
        rw [h4 _ _ _ (by omega) (by simp; omega) (by omega) (by simp)]
        exact g5
  have := key a [] n k ha (by simpa using hal) hn hN (by omega)
  simpa using this
theorem MH_BoolS (k : Nat) (a : List Bool) (n : Int) (hn : 0 ≤ n) (hN : n + a.length ≤ 4611686018427387904) (hk : 1048576 < k) (hl : a.length ≤ 1048576) :
    ∃ (a' : List Bool) (n' : Int), a'.length = a.length ∧ n ≤ n' ∧ n' ≤ n + a.length ∧ w_markBoolS k (a, (n, ())) = some (n', (a', ((), ()))) ∧ w_heldBoolS k (a', (n, ())) = some (n', ((), ((), ()))) := by
  unfold w_markBoolS w_heldBoolS
  refine loop_MH (A := Bool) (fun out n => (n, (out, ((), ())))) (fun n => (n, ((), ((), ())))) 1 4611686018427387904 (by decide) (fun _ => True) ?_ ?_ ?_ a (fun _ _ => trivial) hl n hn (a.length : Int) (by omega) (by omega) k hk
  · intro r _ n hn hN
    refine ⟨decide (Int.tmod n 3 = 0), n + 1, by omega, by omega, fun again out i h0 h1 h2 hr => ?_, fun again out i h0 h1 h2 hr => ?_⟩
    · have w : wi64 (n + 1) = n + 1 := w64_id _ (by omega)
      have w' : wi64 (i + 1) = i + 1 := w64_id _ (by omega)
      simp only [h0, h1, w, w', decide_true, and_self, if_true]
    · have w : wi64 (n + 1) = n + 1 := w64_id _ (by omega)
      have w' : wi64 (i + 1) = i + 1 := w64_id _ (by omega)
      simp only [Ty.rd, getD_some' hr, h0, h1, w, w', decide_true, and_self, if_true, Bool.not_true, Bool.false_eq_true, if_false]
  · intro again out n i hi
    have : ¬ i < (out.length : Int) := by omega
    simp [this]
  · intro again out n i hi
    have : ¬ i < (out.length : Int) := by omega
    simp [this]
theorem MH_IntS (k : Nat) (a : List Int) (n : Int) (hn : 0 ≤ n) (hN : n + a.length ≤ 4611686018427387904) (hk : 1048576 < k) (hl : a.length ≤ 1048576) :
    ∃ (a' : List Int) (n' : Int), a'.length = a.length ∧ n ≤ n' ∧ n' ≤ n + a.length ∧ w_markIntS k (a, (n, ())) = some (n', (a', ((), ()))) ∧ w_heldIntS k (a', (n, ())) = some (n', ((), ((), ()))) := by
  unfold w_markIntS w_heldIntS
  refine loop_MH (A := Int) (fun out n => (n, (out, ((), ())))) (fun n => (n, ((), ((), ())))) 1 4611686018427387904 (by decide) (fun _ => True) ?_ ?_ ?_ a (fun _ _ => trivial) hl n hn (a.length : Int) (by omega) (by omega) k hk
  · intro r _ n hn hN
    refine ⟨n, n + 1, by omega, by omega, fun again out i h0 h1 h2 hr => ?_, fun again out i h0 h1 h2 hr => ?_⟩
    · have w : wi64 (n + 1) = n + 1 := w64_id _ (by omega)
      have w' : wi64 (i + 1) = i + 1 := w64_id _ (by omega)
      simp only [h0, h1, w, w', decide_true, and_self, if_true]
    · have w : wi64 (n + 1) = n + 1 := w64_id _ (by omega)
      have w' : wi64 (i + 1) = i + 1 := w64_id _ (by omega)
      simp only [Ty.rd, getD_some' hr, h0, h1, w, w', decide_true, and_self, if_true, Bool.not_true, Bool.false_eq_true, if_false]
  · intro again out n i hi
    have : ¬ i < (out.length : Int) := by omega
    simp [this]
  · intro again out n i hi
    have : ¬ i < (out.length : Int) := by omega
    simp [this]
theorem markText_ends (k : Nat) (n : Int) (hn : n < 4611686018427387904) (hk : n < k) : ∃ r, w_markText k (n, ()) = some (r, ((), ())) := by
  unfold w_markText
  by_cases h0 : n ≤ 0
  · simp only [h0, decide_true, if_true]
    exact ⟨_, rfl⟩
  · simp only [h0, decide_false]
    have hm : maxStr = 9223372036854775807 := rfl
    have h1 : (⟨#[109]⟩ : ByteArray).size = 1 := rfl
    refine (whileK_some (g := fun t : ByteArray => (t, ((), ()))) (fun y : Int × ByteArray × Unit => y.1.toNat) (fun y : Int × ByteArray × Unit => 0 ≤ y.1 ∧ y.1 + (y.2.1.size : Int) < 4611686018427387905) (fun _ _ => True) ?_ k (n, ((⟨#[]⟩ : ByteArray), ())) ⟨by simp only; omega, by simp only; have : (⟨#[]⟩ : ByteArray).size = 0 := rfl; omega⟩ (by simp only; omega)).imp fun t h => h.1
    · rintro ⟨a, s, u⟩ ⟨g1, g2⟩ again hg
      simp only at g1 g2
      have hsz : ∀ c : Int, (strOf [c]).size = 1 := fun c => by simp [strOf, ByteArray.size]
      by_cases ha : 0 < a
      · have hq : Int.tdiv a 10 = a / 10 := Int.tdiv_eq_ediv_of_nonneg g1
        have hw : wi64 (a / 10) = a / 10 := w64_id _ (by omega)
        simp only [ha, decide_true, if_true, hsz, hq, hw]
        rw [if_pos (by omega)]
        exact hg _ ⟨by simp only; omega, by simp only [ByteArray.size_append, hsz]; omega⟩ (by simp only; omega)
      · simp only [ha, decide_false]
        have : ((⟨#[109]⟩ : ByteArray).size + s.size ≤ maxStr) := by omega
        simp only [this, if_true]
        exact ⟨_, rfl, trivial⟩
theorem MH_StringS (k : Nat) (a : List ByteArray) (n : Int) (hn : 0 ≤ n) (hN : n + a.length < 4611686018427387904) (hk : 4611686018427387904 < k) (hl : a.length ≤ 1048576) :
    ∃ (a' : List ByteArray) (n' : Int), a'.length = a.length ∧ n ≤ n' ∧ n' ≤ n + a.length ∧ w_markStringS k (a, (n, ())) = some (n', (a', ((), ()))) ∧ w_heldStringS k (a', (n, ())) = some (n', ((), ((), ()))) := by
  unfold w_markStringS w_heldStringS
  refine loop_MH (A := ByteArray) (fun out n => (n, (out, ((), ())))) (fun n => (n, ((), ((), ())))) 1 4611686018427387904 (by decide) (fun _ => True) ?_ ?_ ?_ a (fun _ _ => trivial) hl n hn (a.length : Int) (by omega) (by omega) k (by omega)
  · intro r _ n hn hN
    obtain ⟨tx, ht⟩ := markText_ends k n (by omega) (by omega)
    refine ⟨tx, n + 1, by omega, by omega, fun again out i h0 h1 h2 hr => ?_, fun again out i h0 h1 h2 hr => ?_⟩
    · have w : wi64 (n + 1) = n + 1 := w64_id _ (by omega)
      have w' : wi64 (i + 1) = i + 1 := w64_id _ (by omega)
      simp only [ht, Option.bind_some, h0, h1, w, w', decide_true, and_self, if_true]
    · have w : wi64 (n + 1) = n + 1 := w64_id _ (by omega)
      have w' : wi64 (i + 1) = i + 1 := w64_id _ (by omega)
      simp only [ht, Option.bind_some, Ty.rd, getD_some' hr, h0, h1, w, w', decide_true, and_self, if_true, Bool.not_true, Bool.false_eq_true, if_false]
  · intro again out n i hi
    have : ¬ i < (out.length : Int) := by omega
    simp [this]
  · intro again out n i hi
    have : ¬ i < (out.length : Int) := by omega
    simp [this]
theorem MH_HeldS (k : Nat) (a : List (Int × Int × Int × List (ByteArray) × List (Bool) × Int)) (n : Int) (hn : 0 ≤ n) (C : Int) (hC : C = 2097160 * (a.length : Nat)) (hN : n + C < 4611686018427387904) (hk : 4611686018427387904 < k) (hb : Bd_HeldS a) :
    ∃ (a' : List (Int × Int × Int × List (ByteArray) × List (Bool) × Int)) (n' : Int), a'.length = a.length ∧ n ≤ n' ∧ n' ≤ n + C ∧ w_markHeldS k (a, (n, ())) = some (n', (a', ((), ()))) ∧ w_heldHeldS k (a', (n, ())) = some (n', ((), ((), ()))) := by
  unfold w_markHeldS w_heldHeldS
  refine loop_MH (A := Int × Int × Int × List (ByteArray) × List (Bool) × Int) (fun out n => (n, (out, ((), ())))) (fun n => (n, ((), ((), ())))) 2097160 4611686018427387903 (by decide) (fun r => r.2.2.2.1.length ≤ 1048576 ∧ r.2.2.2.2.1.length ≤ 1048576) ?_ ?_ ?_ a (fun r hr => ⟨(hb.2 r hr).1, (hb.2 r hr).2.1⟩) hb.1 n hn C hC (by omega) k (by omega)
  · rintro ⟨r1, r2, r3, ps, hv, r6⟩ ⟨p1, p2⟩ n hn hN
    simp only at p1 p2
    have w1 : wi64 (n + 1) = n + 1 := w64_id _ (by omega)
    have w2 : wi64 (n + 1 + 1) = n + 1 + 1 := w64_id _ (by omega)
    have w3 : wi64 (n + 1 + 1 + 1) = n + 1 + 1 + 1 := w64_id _ (by omega)
    obtain ⟨ps', n1, a1, a2, a3, a4, a5⟩ := MH_StringS k ps (n + 1 + 1 + 1) (by omega) (by omega) hk p1
    obtain ⟨hv', n2, b1, b2, b3, b4, b5⟩ := MH_BoolS k hv n1 (by omega) (by omega) (by omega) p2
    have w4 : wi64 (n2 + 1) = n2 + 1 := w64_id _ (by omega)
    have c1 : ¬ n1 < 0 := by omega
    have c2 : ¬ n2 < 0 := by omega
    refine ⟨(n, n + 1, n + 1 + 1, ps', hv', n2), n2 + 1, by omega, by omega, fun again out i h0 h1 h2 hr => ?_, fun again out i h0 h1 h2 hr => ?_⟩
    · have w' : wi64 (i + 1) = i + 1 := w64_id _ (by omega)
      have hlt : i.toNat < out.length := by omega
      simp only [jn, Ty.rd, getD_some' hr, getD_set' (show i.toNat < _ by simpa using hlt), List.length_set, set_set', h0, h1, hlt, w1, w2, w3, w4, w', a4, b4, Option.bind_some, decide_true, and_self, if_true, getD_set']
    · have w' : wi64 (i + 1) = i + 1 := w64_id _ (by omega)
      simp only [Ty.rd, getD_some' hr, h0, h1, w1, w2, w3, w4, w', a5, b5, c1, c2, Option.bind_some, decide_true, decide_false, and_self, if_true, Bool.not_true, Bool.false_eq_true, if_false]
  · intro again out n i hi
    have : ¬ i < (out.length : Int) := by omega
    simp [this]
  · intro again out n i hi
    have : ¬ i < (out.length : Int) := by omega
    simp [this]
theorem MH_PacketS (k : Nat) (a : List (Int × Int × Int × Int × Int × List (Int) × ByteArray)) (n : Int) (hn : 0 ≤ n) (C : Int) (hC : C = 2097160 * (a.length : Nat)) (hN : n + C < 4611686018427387904) (hk : 4611686018427387904 < k) (hb : Bd_PacketS a) :
    ∃ (a' : List (Int × Int × Int × Int × Int × List (Int) × ByteArray)) (n' : Int), a'.length = a.length ∧ n ≤ n' ∧ n' ≤ n + C ∧ w_markPacketS k (a, (n, ())) = some (n', (a', ((), ()))) ∧ w_heldPacketS k (a', (n, ())) = some (n', ((), ((), ()))) := by
  unfold w_markPacketS w_heldPacketS
  refine loop_MH (A := Int × Int × Int × Int × Int × List (Int) × ByteArray) (fun out n => (n, (out, ((), ())))) (fun n => (n, ((), ((), ())))) 2097160 4611686018427387903 (by decide) (fun r => r.2.2.2.2.2.1.length ≤ 1048576) ?_ ?_ ?_ a (fun r hr => (hb.2 r hr).1) hb.1 n hn C hC (by omega) k (by omega)
  · rintro ⟨r1, r2, r3, r4, r5, ps, r6⟩ p1 n hn hN
    simp only at p1
    have w1 : wi64 (n + 1) = n + 1 := w64_id _ (by omega)
    have w2 : wi64 (n + 1 + 1) = n + 1 + 1 := w64_id _ (by omega)
    have w3 : wi64 (n + 1 + 1 + 1) = n + 1 + 1 + 1 := w64_id _ (by omega)
    have w4 : wi64 (n + 1 + 1 + 1 + 1) = n + 1 + 1 + 1 + 1 := w64_id _ (by omega)
    have w5 : wi64 (n + 1 + 1 + 1 + 1 + 1) = n + 1 + 1 + 1 + 1 + 1 := w64_id _ (by omega)
    obtain ⟨ps', n1, a1, a2, a3, a4, a5⟩ := MH_IntS k ps (n + 1 + 1 + 1 + 1 + 1) (by omega) (by omega) (by omega) p1
    obtain ⟨tx, ht⟩ := markText_ends k n1 (by omega) (by omega)
    have w6 : wi64 (n1 + 1) = n1 + 1 := w64_id _ (by omega)
    have c1 : ¬ n1 < 0 := by omega
    refine ⟨(n, n + 1, n + 1 + 1, n + 1 + 1 + 1, n + 1 + 1 + 1 + 1, ps', tx), n1 + 1, by omega, by omega, fun again out i h0 h1 h2 hr => ?_, fun again out i h0 h1 h2 hr => ?_⟩
    · have w' : wi64 (i + 1) = i + 1 := w64_id _ (by omega)
      have hlt : i.toNat < out.length := by omega
      simp only [jn, Ty.rd, getD_some' hr, List.length_set, set_set', h0, h1, hlt, w1, w2, w3, w4, w5, w6, w', a4, ht, Option.bind_some, decide_true, and_self, if_true, getD_set']
    · have w' : wi64 (i + 1) = i + 1 := w64_id _ (by omega)
      simp only [Ty.rd, getD_some' hr, h0, h1, w1, w2, w3, w4, w5, w6, w', a5, ht, c1, Option.bind_some, decide_true, decide_false, and_self, if_true, Bool.not_true, Bool.false_eq_true, if_false]
  · intro again out n i hi
    have : ¬ i < (out.length : Int) := by omega
    simp [this]
  · intro again out n i hi
    have : ¬ i < (out.length : Int) := by omega
    simp [this]
theorem copy_list (a : List Int) (hl : a.length ≤ 1048576) : ([] : List Int).length + a.length ≤ capMax := by
  have : capMax = 274877906944 := rfl
  simp; omega
theorem s_l17Copy_is (k : Nat) (x : SlotsA) (h1 : x.2.2.2.2.1.length ≤ 1048576) (h2 : x.2.2.2.2.2.2.2.2.2.2.1.length ≤ 1048576) : s_l17Copy k (x, ()) = some (x, ((), ())) := by
  unfold s_l17Copy s_l17CopySlot
  simp only [copy_list _ h1, copy_list _ h2, if_true, Option.bind_some, List.nil_append]
theorem i_copySlots_is (k : Nat) (x : SlotsA) (h1 : x.2.2.2.2.1.length ≤ 1048576) (h2 : x.2.2.2.2.2.2.2.2.2.2.1.length ≤ 1048576) : i_copySlots k (x, ()) = some (x, ((), ())) := by
  unfold i_copySlots i_copyInts
  simp only [copy_list _ h1, copy_list _ h2, if_true, Option.bind_some, List.nil_append]
/-- The slots' lists are short. -/
def Short (x : SlotsA) : Prop := x.2.2.2.2.1.length ≤ 1048576 ∧ x.2.2.2.2.2.2.2.2.2.2.1.length ≤ 1048576
theorem short_bd {x : SlotsA} (h : Bd_Slots x) : Short x := ⟨h.2.2.1, h.2.2.2.2.2.1⟩
abbrev PacketA := Int × Int × Int × Int × Int × List Int × ByteArray × Unit
def pk0 : PacketA := (0, (0, (0, (0, (0, ([], ((⟨#[]⟩ : ByteArray), ())))))))
def spentB (x : SlotsA) : Bool := noneB (mainOf x) || decide (x.2.2.2.1 = 12)
theorem s_Spent_is (k : Nat) (x : SlotsA) : s_Spent k (x, ()) = some (spentB x, ((), ())) := by
  unfold s_Spent spentB
  simp only [l17None_is, Option.bind_some]
  show _ = some (noneB (x.1, (x.2.1, (x.2.2.1, (x.2.2.2.1, (x.2.2.2.2.1, (x.2.2.2.2.2.1, ())))))) || _, _)
  cases noneB (x.1, (x.2.1, (x.2.2.1, (x.2.2.2.1, (x.2.2.2.2.1, (x.2.2.2.2.2.1, ())))))) <;> simp
theorem i_noSlot_is (k : Nat) (x) : i_noSlot k (x, ()) = some (noneB x, ((), ())) := l17None_is k x
theorem i_Spent_is (k : Nat) (x : SlotsA) : i_Spent k (x, ()) = some (spentB x, ((), ())) := by
  unfold i_Spent spentB
  simp only [i_noSlot_is, Option.bind_some]
  show _ = some (noneB (x.1, (x.2.1, (x.2.2.1, (x.2.2.2.1, (x.2.2.2.2.1, (x.2.2.2.2.2.1, ())))))) || _, _)
  cases noneB (x.1, (x.2.1, (x.2.2.1, (x.2.2.2.1, (x.2.2.2.2.1, (x.2.2.2.2.2.1, ())))))) <;> simp
theorem sIsId_is (k : Nat) (n : Int) : i_isId k (n, ()) = some (decide (1 ≤ n ∧ n ≤ 99), ((), ())) := by
  unfold i_isId
  simp only [within_is, Option.bind_some]
def sealB (x : SlotsA) (fr tgt : Int) (s : ByteArray) : Bool := slotsB x && (!spentB x && (decide (1 ≤ fr ∧ fr ≤ 99) && (decide (1 ≤ tgt ∧ tgt ≤ 99) && !decide ((104 : Int) < (s.size : Int)))))
def sealS (x : SlotsA) (fr tgt : Int) (s : ByteArray) : SlotsA := if sealB x fr tgt s then (x.1, (x.2.1, (x.2.2.1, (x.2.2.2.1 + 1, x.2.2.2.2)))) else x
def sealP (x : SlotsA) (fr tgt : Int) (s : ByteArray) : PacketA := if sealB x fr tgt s then (3, (Int.tmod x.1 8, (fr, (tgt, (x.2.2.2.1 + 1, ([], (lockS x.2.1 (x.2.2.2.1 + 1).toNat s, ()))))))) else pk0
theorem slots_count {x : SlotsA} (h : slotsB x = true) : 0 ≤ x.2.2.2.1 ∧ x.2.2.2.1 ≤ 12 := by
  have h1 : slotB (mainOf x) = true := by unfold slotsB at h; simp only [Bool.and_eq_true] at h; exact h.1.1
  cases hn : noneB (mainOf x) with
  | true =>
    unfold noneB at hn
    have := (of_decide_eq_true hn).2.2.2.1
    have : x.2.2.2.1 = 0 := this
    omega
  | false =>
    unfold slotB at h1
    rw [hn, Bool.false_or, Bool.and_eq_true] at h1
    exact (of_decide_eq_true h1.1).2.2.2
theorem s_SealData_is (k : Nat) (x : SlotsA) (fr tgt : Int) (s : ByteArray) (hb : Bd_Slots x) (hk : 2097152 < k) : s_SealData k (x, (fr, (tgt, (s, ())))) = some ((sealS x fr tgt s, (sealP x fr tgt s, (sealB x fr tgt s, ()))), ((), ((), ((), ((), ()))))) := by
  obtain ⟨h1, h2⟩ := short_bd hb
  have e1 := s_l17Copy_is k x h1 h2
  have e2 := s_SlotsOk_is k x (by omega) h1 h2
  have e3 := s_Spent_is k x
  unfold s_SealData sealS sealP sealB pk0
  simp only [e1, e2, e3, l01In_is, Option.bind_some]
  cases a : slotsB x with
  | false => simp
  | true =>
    have hc := slots_count a
    cases b : spentB x with
    | true => simp
    | false =>
      by_cases c1 : 1 ≤ fr ∧ fr ≤ 99
      rotate_left
      · simp [c1]
      by_cases c2 : 1 ≤ tgt ∧ tgt ≤ 99
      rotate_left
      · simp [c1, c2]
      by_cases c3 : (104 : Int) < (s.size : Int)
      · simp [c1, c2, c3]
      have w : wi64 (x.2.2.2.1 + 1) = x.2.2.2.1 + 1 := w64_id _ (by omega)
      have hL := s_LockText_is k (x.2.2.2.1 + 1).toNat x.2.1 s hb.1 (by omega) (by omega) hk
      rw [Int.toNat_of_nonneg (by omega)] at hL
      simp [c1, c2, c3, w, hL]
theorem i_SealData_is (k : Nat) (x : SlotsA) (fr tgt : Int) (s : ByteArray) (hb : Bd_Slots x) (hk : 2097152 < k) : i_SealData k (x, (fr, (tgt, (s, ())))) = some ((sealS x fr tgt s, (sealP x fr tgt s, (sealB x fr tgt s, ()))), ((), ((), ((), ((), ()))))) := by
  obtain ⟨h1, h2⟩ := short_bd hb
  have e1 := i_copySlots_is k x h1 h2
  have e2 := i_SlotsOk_is k x (by omega) h1 h2
  have e3 := i_Spent_is k x
  unfold i_SealData sealS sealP sealB pk0
  simp only [e1, e2, e3, sIsId_is, Option.bind_some]
  cases a : slotsB x with
  | false => simp
  | true =>
    have hc := slots_count a
    cases b : spentB x with
    | true => simp
    | false =>
      by_cases c1 : 1 ≤ fr ∧ fr ≤ 99
      rotate_left
      · simp [c1]
      by_cases c2 : 1 ≤ tgt ∧ tgt ≤ 99
      rotate_left
      · simp [c1, c2]
      by_cases c3 : (104 : Int) < (s.size : Int)
      · simp [c1, c2, c3]
      have w : wi64 (x.2.2.2.1 + 1) = x.2.2.2.1 + 1 := w64_id _ (by omega)
      have hL := i_LockText_is k (x.2.2.2.1 + 1).toNat x.2.1 s hb.1 (by omega) (by omega) hk
      rw [Int.toNat_of_nonneg (by omega)] at hL
      simp [c1, c2, c3, w, hL]
theorem sealS_bd {x : SlotsA} {fr tgt : Int} {s : ByteArray} (h : Bd_Slots x) : Bd_Slots (sealS x fr tgt s) := by
  unfold sealS
  split
  · exact h
  · exact h
theorem sealP_bd {x : SlotsA} {fr tgt : Int} {s : ByteArray} : (sealP x fr tgt s).2.2.2.2.2.1 = [] ∧ (sealP x fr tgt s).2.2.2.2.2.2.1.size ≤ 1048576 := by
  unfold sealP
  split
  · rename_i h
    refine ⟨rfl, ?_⟩
    show (lockS _ _ _).size ≤ _
    rw [lockS_size]
    unfold sealB at h
    simp only [Bool.and_eq_true, Bool.not_eq_true', decide_eq_false_iff_not] at h
    omega
  · exact ⟨rfl, by decide⟩
theorem s_InnerOk_is (k : Nat) (a b : Int) (c : ByteArray) : s_InnerOk k ((a, (b, (c, ()))), ()) = some (decide ((0 ≤ a ∧ a ≤ 4294967295) ∧ (0 ≤ b ∧ b ≤ 4294967295) ∧ c.size ≤ 100), ((), ())) := by
  unfold s_InnerOk
  simp only [s_AddrOk_is, Option.bind_some]
  by_cases h : 0 ≤ a ∧ a ≤ 4294967295 <;> by_cases h' : 0 ≤ b ∧ b ≤ 4294967295 <;> simp [h, h']
  all_goals first | (rw [decide_eq_decide]; omega) | omega
theorem i_InnerOk_is (k : Nat) (a b : Int) (c : ByteArray) : i_InnerOk k ((a, (b, (c, ()))), ()) = some (decide ((0 ≤ a ∧ a ≤ 4294967295) ∧ (0 ≤ b ∧ b ≤ 4294967295) ∧ c.size ≤ 100), ((), ())) := s_InnerOk_is k a b c
theorem i_NumberText_is (k : Nat) (n : Int) : i_NumberText k (n, ()) = s_NumberText k (n, ()) := by
  unfold i_NumberText s_NumberText
  simp only [l01In_is, within_is, Option.bind_some]
  split
  · rfl
  · rename_i h
    simp at h
    have p24 : (2 : Int) ^ (min (Int.toNat (24 : Int)) (IntKind.bits .i64)) = 16777216 := by decide
    have p16 : (2 : Int) ^ (min (Int.toNat (16 : Int)) (IntKind.bits .i64)) = 65536 := by decide
    have p8 : (2 : Int) ^ (min (Int.toNat (8 : Int)) (IntKind.bits .i64)) = 256 := by decide
    have m : ∀ y : Int, 0 ≤ y → y < 2 ^ 63 → bitsI .and .i64 y 255 = y % 256 := fun y h0 h1 => and_mask 8 (by decide) y h0 h1
    have q : ∀ d : Int, 0 < d → d ≤ 16777216 → wi64 (Int.tdiv n d) = n / d := by
      intro d hd _
      rw [Int.tdiv_eq_ediv_of_nonneg h.1]
      have g0 : 0 ≤ n / d := Int.ediv_nonneg h.1 (by omega)
      have g1 : n / d ≤ n := Int.ediv_le_self d h.1
      simp only [wi64, IntKind.wrap_i64]
      omega
    have g24 : 0 ≤ n / 16777216 ∧ n / 16777216 < 256 := by omega
    have g16 : 0 ≤ n / 65536 ∧ n / 65536 < 65536 := by omega
    have g8 : 0 ≤ n / 256 ∧ n / 256 < 16777216 := by omega
    rw [p24, p16, p8, Int.fdiv_eq_ediv_of_nonneg _ (by omega), Int.fdiv_eq_ediv_of_nonneg _ (by omega), Int.fdiv_eq_ediv_of_nonneg _ (by omega), m _ g24.1 (by omega), m _ g16.1 (by omega), m _ g8.1 (by omega), m n h.1 (by omega), q _ (by omega) (by omega), q _ (by omega) (by omega), q _ (by omega) (by omega),
      Int.tmod_eq_emod_of_nonneg g16.1, Int.tmod_eq_emod_of_nonneg g8.1, Int.tmod_eq_emod_of_nonneg h.1, Int.emod_eq_of_lt g24.1 g24.2]
theorem i_InnerText_is (k : Nat) (a b : Int) (c : ByteArray) : i_InnerText k ((a, (b, (c, ()))), ()) = s_InnerText k ((a, (b, (c, ()))), ()) := by
  unfold i_InnerText s_InnerText
  simp only [i_InnerOk_is, s_InnerOk_is, i_NumberText_is]
theorem NumberText_size (k : Nat) (n : Int) : ∃ t : ByteArray, s_NumberText k (n, ()) = some (t, ((), ())) ∧ t.size ≤ 4 := by
  unfold s_NumberText
  simp only [l01In_is, Option.bind_some]
  split
  · exact ⟨_, rfl, by decide⟩
  · exact ⟨_, rfl, by simp [strOf, ByteArray.size]⟩
theorem s_InnerText_ends (k : Nat) (a b : Int) (c : ByteArray) : ∃ r, s_InnerText k ((a, (b, (c, ()))), ()) = some r := by
  unfold s_InnerText
  simp only [s_InnerOk_is, Option.bind_some]
  split
  · exact ⟨_, rfl⟩
  · rename_i h
    simp at h
    obtain ⟨t, ht, h1⟩ := NumberText_size k a
    obtain ⟨t', ht', h2⟩ := NumberText_size k b
    have hm : maxStr = 9223372036854775807 := rfl
    simp only [ht, ht', Option.bind_some]
    rw [if_pos (by omega), if_pos (by rw [ByteArray.size_append]; omega)]
    exact ⟨_, rfl⟩
def byteOf (n : Int) : ByteArray := strOf [n % 256]
theorem byteOf_size (n : Int) : (byteOf n).size = 1 := by simp [byteOf, strOf, ByteArray.size]
theorem byteText_is (k : Nat) (n : Int) : i_byteText k (n, ()) = some (byteOf n, ((), ())) := by
  show some (strOf [IntKind.u8.wrap n], ((), ())) = _
  rw [w8_mod]
  rfl
theorem l05Byte_is (k : Nat) (n : Int) (hn : 0 ≤ n) : s_l05Byte k (n, ()) = some (byteOf n, ((), ())) := by
  unfold s_l05Byte byteOf
  rw [Int.tmod_eq_emod_of_nonneg hn]
  have h : ¬ n % 256 < 0 := by omega
  simp only [h, decide_false, w8_mod]
  rw [Int.emod_emod_of_dvd _ (Int.dvd_refl 256)]
  rfl
def partOf (id count size : Int) (s : ByteArray) (i : Nat) : ByteArray :=
  byteOf id ++ byteOf i ++ byteOf count ++ ByteArray.extract s (((i : Int) * size).toNat) (if (s.size : Int) < ((i : Int) + 1) * size then (s.size : Int) else ((i : Int) + 1) * size).toNat
structure SplitOk (id size count : Int) (s : ByteArray) : Prop where
  pid : 0 ≤ id ∧ id ≤ 255
  psz : 20 ≤ size ∧ size ≤ 120
  pln : (s.size : Int) ≤ 300
  pct : 1 ≤ count ∧ count ≤ 15
  pft : ∀ i : Int, 0 ≤ i → i < count → i * size ≤ s.size
theorem SplitOk.mul {id size count : Int} {s : ByteArray} (h : SplitOk id size count s) (i : Int) (h0 : 0 ≤ i) (h1 : i < count) : 0 ≤ i * size ∧ i * size ≤ 300 ∧ (i + 1) * size = i * size + size := by
  have := h.pft i h0 h1
  have := h.pln
  refine ⟨Int.mul_nonneg h0 (by have := h.psz; omega), by omega, by rw [Int.add_mul, Int.one_mul]⟩
theorem extract_le (s : ByteArray) (a b : Nat) : (s.extract a b).size ≤ s.size := by
  rw [ByteArray.size_extract]; omega
theorem range_step (a b : Nat) (h : a < b) : List.range' a (b - a) = a :: List.range' (a + 1) (b - (a + 1)) := by
  obtain ⟨c, rfl⟩ : ∃ c, b = a + (c + 1) := ⟨b - a - 1, by omega⟩
  rw [show a + (c + 1) - a = c + 1 by omega, show a + (c + 1) - (a + 1) = c by omega]
  rfl
def cntOf (len size : Int) : Int := if (1 : Int) < (len + size - 1) / size then (len + size - 1) / size else 1
theorem cnt_ok (id size : Int) (s : ByteArray) (h1 : 0 ≤ id ∧ id ≤ 255) (h2 : 20 ≤ size ∧ size ≤ 120) (h3 : (s.size : Int) ≤ 300) (h4 : cntOf s.size size ≤ 15) : SplitOk id size (cntOf s.size size) s := by
  refine ⟨h1, h2, h3, ⟨?_, h4⟩, fun i h0 hi => ?_⟩
  · unfold cntOf; split <;> omega
  · unfold cntOf at hi
    split at hi
    · have g1 : i + 1 ≤ ((s.size : Int) + size - 1) / size := by omega
      have g2 : (i + 1) * size ≤ ((s.size : Int) + size - 1) / size * size := Int.mul_le_mul_of_nonneg_right g1 (by omega)
      have g3 : ((s.size : Int) + size - 1) / size * size ≤ (s.size : Int) + size - 1 := Int.ediv_mul_le _ (by omega)
      rw [Int.add_mul, Int.one_mul] at g2
      omega
    · have : i = 0 := by omega
      subst this
      simp
theorem s_Split_ok (k : Nat) (id size : Int) (s : ByteArray) (h1 : 0 ≤ id ∧ id ≤ 255) (h2 : 20 ≤ size ∧ size ≤ 120) (h3 : (s.size : Int) ≤ 300) (hk : 20 < k) :
    s_Split k (id, (s, (size, ()))) = some ((if 15 < cntOf s.size size then ([], (false, ())) else ((List.range (cntOf s.size size).toNat).map (partOf id (cntOf s.size size) size s), (true, ()))), ((), ((), ((), ())))) := by
  unfold s_Split
  have e0 : ¬ (300 : Int) < (s.size : Int) := by omega
  have e1 : ¬ size = 0 := by omega
  have q0 : 0 ≤ ((s.size : Int) + size - 1) / size := Int.ediv_nonneg (by omega) (by omega)
  have q1 : ((s.size : Int) + size - 1) / size ≤ (s.size : Int) + size - 1 := Int.ediv_le_self _ (by omega)
  have w0 : wi64 ((s.size : Int) + size) = (s.size : Int) + size := w64_id _ (by omega)
  have w1 : wi64 ((s.size : Int) + size - 1) = (s.size : Int) + size - 1 := w64_id _ (by omega)
  have w2 : wi64 (Int.tdiv ((s.size : Int) + size - 1) size) = ((s.size : Int) + size - 1) / size := by
    rw [Int.tdiv_eq_ediv_of_nonneg (by omega)]; exact w64_id _ (by omega)
  simp only [l01In_is, Option.bind_some, h1, h2, and_self, decide_true, Bool.not_true, if_true, e0, decide_false, Bool.false_eq_true, if_false, e1, w0, w1, w2]
  have ec : (if ((s.size : Int) + size - 1) / size = 0 then (1 : Int) else ((s.size : Int) + size - 1) / size) = cntOf s.size size := by
    unfold cntOf; split <;> split <;> omega
  simp only [decide_eq_true_eq]
  rw [jn_one, ec]
  unfold jn
  by_cases h15 : (15 : Int) < cntOf s.size size
  · simp only [h15, if_true]
  have h := cnt_ok id size s h1 h2 h3 (by omega)
  generalize cntOf s.size size = count at h h15 ⊢
  have hc := h.pct
  have hz := h.psz
  have hl := h.pln
  have hm : maxStr = 9223372036854775807 := rfl
  have hcap : capMax = 274877906944 := rfl
  simp only [h15, if_false]
  refine (whileK_run (fun y : Int × ByteArray × Int × Int × List (ByteArray) × Int × Unit => count.toNat - y.2.2.2.2.2.1.toNat) (fun y => y.1 = id ∧ y.2.1 = s ∧ y.2.2.1 = size ∧ y.2.2.2.1 = count ∧ 0 ≤ y.2.2.2.2.2.1 ∧ y.2.2.2.2.2.1 ≤ count ∧ (y.2.2.2.2.1.length : Int) = y.2.2.2.2.2.1)
    (fun y => ((y.2.2.2.2.1 ++ (List.range' y.2.2.2.2.2.1.toNat (count.toNat - y.2.2.2.2.2.1.toNat)).map (partOf id count size s), (true, ())), ((), ((), ((), ()))))) ?_ k _ ⟨rfl, rfl, rfl, rfl, by simp, by simp only; omega, by simp⟩ (by simp only; omega)).trans ?_
  · rintro ⟨id', s', size', count', ps, i, u⟩ ⟨e1, e2, e3, e4, h0, h1, h2⟩ again hg
    simp only at e1 e2 e3 e4 h0 h1 h2
    subst e1 e2 e3 e4
    by_cases hi : i < count'
    · obtain ⟨m1, m2, m3⟩ := h.mul i h0 hi
      have w : wi64 (i + 1) = i + 1 := w64_id _ (by omega)
      have w2 : wi64 (i * size') = i * size' := w64_id _ (by omega)
      have w3 : wi64 ((i + 1) * size') = (i + 1) * size' := w64_id _ (by rw [m3]; omega)
      have hid := h.pid
      have hf := h.pft i h0 hi
      have hn : ((i.toNat : Nat) : Int) = i := by omega
      have hp : (byteOf id' ++ byteOf i ++ byteOf count' ++ ByteArray.extract s' ((i * size').toNat) (if (s'.size : Int) < (i + 1) * size' then (s'.size : Int) else (i + 1) * size').toNat) = partOf id' count' size' s' i.toNat := by
        unfold partOf; rw [hn]
      have := hg (id', (s', (size', (count', ((ps ++ [partOf id' count' size' s' i.toNat]), (i + 1, ())))))) ⟨rfl, rfl, rfl, rfl, by simp only; omega, by simp only; omega, by simp only [List.length_append, List.length_singleton]; omega⟩ (by simp only; omega)
      have x1 := extract_le s' (i * size').toNat (if (s'.size : Int) < (i + 1) * size' then (s'.size : Int) else (i + 1) * size').toNat
      have hr : List.range' i.toNat (count'.toNat - i.toNat) = i.toNat :: List.range' (i + 1).toNat (count'.toNat - (i + 1).toNat) := by
        rw [range_step _ _ (by omega), show (i + 1).toNat = i.toNat + 1 by omega]
      rw [hr]
      simp only [hi, if_true, w, w2, w3, l05Byte_is _ _ hid.1, l05Byte_is _ _ h0, l05Byte_is _ _ (by omega : 0 ≤ count'), Option.bind_some, byteOf_size, ByteArray.size_append, List.length_singleton]
      by_cases hb : (s'.size : Int) < (i + 1) * size'
      · rw [if_pos hb] at hp x1
        simp only [hb, if_true]
        rw [if_pos (by omega), if_pos (by omega), if_pos (by omega), if_pos (by omega), if_pos (by omega), if_pos (by omega), hp]
        refine this.trans ?_
        simp
      · rw [if_neg hb] at hp x1
        simp only [hb]
        have hb' : (i + 1) * size' ≤ (s'.size : Int) := by omega
        simp only [if_false]
        rw [if_pos (by omega), if_pos (by omega), if_pos (by omega), if_pos (by omega), if_pos (by omega), if_pos (by omega), hp]
        refine this.trans ?_
        simp
    · have : i = count' := by omega
      subst this
      simp
  · simp [List.range_eq_range']
theorem i_Split_ok (k : Nat) (id size : Int) (s : ByteArray) (h1 : 0 ≤ id ∧ id ≤ 255) (h2 : 20 ≤ size ∧ size ≤ 120) (h3 : (s.size : Int) ≤ 300) (hk : 20 < k) :
    i_Split k (id, (s, (size, ()))) = some ((if 15 < cntOf s.size size then ([], (false, ())) else ((List.range (cntOf s.size size).toNat).map (partOf id (cntOf s.size size) size s), (true, ()))), ((), ((), ((), ())))) := by
  unfold i_Split
  have e0 : ¬ (300 : Int) < (s.size : Int) := by omega
  have e1 : ¬ size = 0 := by omega
  have q0 : 0 ≤ ((s.size : Int) + size - 1) / size := Int.ediv_nonneg (by omega) (by omega)
  have q1 : ((s.size : Int) + size - 1) / size ≤ (s.size : Int) + size - 1 := Int.ediv_le_self _ (by omega)
  have w0 : wi64 ((s.size : Int) + size) = (s.size : Int) + size := w64_id _ (by omega)
  have w1 : wi64 ((s.size : Int) + size - 1) = (s.size : Int) + size - 1 := w64_id _ (by omega)
  have w2 : wi64 (Int.tdiv ((s.size : Int) + size - 1) size) = ((s.size : Int) + size - 1) / size := by
    rw [Int.tdiv_eq_ediv_of_nonneg (by omega)]; exact w64_id _ (by omega)
  simp only [within_is, Option.bind_some, h1, h2, and_self, decide_true, Bool.not_true, if_true, e0, decide_false, Bool.false_eq_true, if_false, e1, w0, w1, w2]
  have ec : (if (1 : Int) < ((s.size : Int) + size - 1) / size then ((s.size : Int) + size - 1) / size else (1 : Int)) = cntOf s.size size := rfl
  rw [ec]
  by_cases h15 : (15 : Int) < cntOf s.size size
  · simp only [h15, decide_true, if_true]
  have h := cnt_ok id size s h1 h2 h3 (by omega)
  generalize cntOf s.size size = count at h h15 ⊢
  have hc := h.pct
  have hz := h.psz
  have hl := h.pln
  have hm : maxStr = 9223372036854775807 := rfl
  have hcap : capMax = 274877906944 := rfl
  simp only [h15, decide_false, Bool.false_eq_true, if_false]
  refine (whileK_run (fun y : Int × ByteArray × Int × Int × List (ByteArray) × Int × Int × Unit => count.toNat - y.2.2.2.2.2.2.1.toNat) (fun y => y.1 = id ∧ y.2.1 = s ∧ y.2.2.1 = size ∧ y.2.2.2.1 = count ∧ y.2.2.2.2.2.1 = count ∧ 0 ≤ y.2.2.2.2.2.2.1 ∧ y.2.2.2.2.2.2.1 ≤ count ∧ (y.2.2.2.2.1.length : Int) = y.2.2.2.2.2.2.1)
    (fun y => ((y.2.2.2.2.1 ++ (List.range' y.2.2.2.2.2.2.1.toNat (count.toNat - y.2.2.2.2.2.2.1.toNat)).map (partOf id count size s), (true, ())), ((), ((), ((), ()))))) ?_ k _ ⟨rfl, rfl, rfl, rfl, rfl, by simp, by simp only; omega, by simp⟩ (by simp only; omega)).trans ?_
  · rintro ⟨id', s', size', countx, ps, count', i, u⟩ ⟨e1, e2, e3, e4, e5, h0, h1, h2⟩ again hg
    simp only at e1 e2 e3 e4 e5 h0 h1 h2
    subst e1 e2 e3 e4
    subst e5
    by_cases hi : i < count'
    · obtain ⟨m1, m2, m3⟩ := h.mul i h0 hi
      have w : wi64 (i + 1) = i + 1 := w64_id _ (by omega)
      have w2 : wi64 (i * size') = i * size' := w64_id _ (by omega)
      have w3 : wi64 ((i + 1) * size') = (i + 1) * size' := w64_id _ (by rw [m3]; omega)
      have hid := h.pid
      have hf := h.pft i h0 hi
      have hn : ((i.toNat : Nat) : Int) = i := by omega
      have hp : (byteOf id' ++ byteOf i ++ byteOf count' ++ ByteArray.extract s' ((i * size').toNat) (if (s'.size : Int) < (i + 1) * size' then (s'.size : Int) else (i + 1) * size').toNat) = partOf id' count' size' s' i.toNat := by
        unfold partOf; rw [hn]
      have := hg (id', (s', (size', (count', ((ps ++ [partOf id' count' size' s' i.toNat]), (count', (i + 1, ()))))))) ⟨rfl, rfl, rfl, rfl, rfl, by simp only; omega, by simp only; omega, by simp only [List.length_append, List.length_singleton]; omega⟩ (by simp only; omega)
      have x1 := extract_le s' (i * size').toNat (if (s'.size : Int) < (i + 1) * size' then (s'.size : Int) else (i + 1) * size').toNat
      have hr : List.range' i.toNat (count'.toNat - i.toNat) = i.toNat :: List.range' (i + 1).toNat (count'.toNat - (i + 1).toNat) := by
        rw [range_step _ _ (by omega), show (i + 1).toNat = i.toNat + 1 by omega]
      rw [hr]
      simp only [hi, decide_true, if_true, w, w2, w3, byteText_is, Option.bind_some, byteOf_size, ByteArray.size_append, List.length_singleton]
      by_cases hb : (s'.size : Int) < (i + 1) * size'
      · rw [if_pos hb] at hp x1
        simp only [hb, if_true]
        rw [if_pos (by omega), if_pos (by omega), if_pos (by omega), if_pos (by omega), if_pos (by omega), if_pos (by omega), hp]
        refine this.trans ?_
        simp
      · rw [if_neg hb] at hp x1
        simp only [hb, if_false]
        have hb' : (i + 1) * size' ≤ (s'.size : Int) := by omega
        rw [if_pos (by omega), if_pos (by omega), if_pos (by omega), if_pos (by omega), if_pos (by omega), if_pos (by omega), hp]
        refine this.trans ?_
        simp
    · have : i = count' := by omega
      subst this
      simp
  · simp [List.range_eq_range']
theorem and255 (x : Int) : bitsI .and .i64 x 255 = x % 256 := by
  rw [bitsI_and]
  show IntKind.i64.wrap ((BitVec.ofInt 64 x &&& BitVec.ofInt 64 255).toNat : Int) = _
  rw [BitVec.toNat_and, BitVec.toNat_ofInt, (by decide : (BitVec.ofInt 64 255).toNat = 2 ^ 8 - 1), Nat.and_two_pow_sub_one_eq_mod, IntKind.wrap_i64]
  omega
theorem loop_app {X R A : Type} {step : (X → Option R) → X → Option R} (a : List A) (st : Nat → List A → X) (r : R)
    (hs : ∀ again i out x, out.length = i → i < a.length → a[i]? = some x → step again (st i out) = again (st (i + 1) (out ++ [x])))
    (he : ∀ again, step again (st a.length a) = some r) : ∀ k, a.length < k → whileK step k (st 0 []) = some r := by
  have key : ∀ (s p : List A) k, p ++ s = a → s.length < k → whileK step k (st p.length p) = some r := by
    intro s
    induction s with
    | nil =>
      intro p k h hk
      obtain ⟨k, rfl⟩ : ∃ k', k = k' + 1 := ⟨k - 1, by omega⟩
      have : p = a := by simpa using h
      subst this
      exact he _
    | cons x s ih =>
      intro p k h hk
      obtain ⟨k, rfl⟩ : ∃ k', k = k' + 1 := ⟨k - 1, by omega⟩
      show step _ _ = _
      subst h
      rw [hs _ _ _ x rfl (by simp) (by simp)]
      have := ih (p ++ [x]) k (by simp) (by simpa using hk)
      simpa using this
  intro k hk
  exact key a [] k (by simp) hk
theorem loop_foldI {X R A : Type} {step : (X → Option R) → X → Option R} (st : Nat → A → X) (n : Nat) (g : Nat → A → R ⊕ A) (fin : A → R) (I : Nat → A → Prop)
    (hs : ∀ again i a, i < n → I i a → step again (st i a) = match g i a with | .inl r => some r | .inr a' => again (st (i + 1) a'))
    (hI : ∀ i a a', i < n → I i a → g i a = .inr a' → I (i + 1) a') (he : ∀ again a, I n a → step again (st n a) = some (fin a)) :
    ∀ k a, I 0 a → n < k → whileK step k (st 0 a) = some (foldE g fin n 0 a) := by
  have key : ∀ m i k a, i + m = n → I i a → m < k → whileK step k (st i a) = some (foldE g fin m i a) := by
    intro m
    induction m with
    | zero =>
      intro i k a h hi hk
      obtain ⟨k, rfl⟩ : ∃ k', k = k' + 1 := ⟨k - 1, by omega⟩
      have : i = n := by omega
      subst this
      exact he _ _ hi
    | succ m ih =>
      intro i k a h hi hk
      obtain ⟨k, rfl⟩ : ∃ k', k = k' + 1 := ⟨k - 1, by omega⟩
      show step _ _ = _
      rw [hs _ i a (by omega) hi]
      unfold foldE
      cases hq : g i a with
      | inl r => rfl
      | inr a' => exact ih (i + 1) k a' (by omega) (hI i a a' (by omega) hi hq) (by omega)
  intro k a ha hk
  exact key n 0 k a (by omega) ha hk
theorem foldE_I {A R : Type} {g : Nat → A → R ⊕ A} {fin : A → R} {n : Nat} (I : Nat → A → Prop) (Q : R → Prop) (hl : ∀ i a r, i < n → I i a → g i a = .inl r → Q r) (hI : ∀ i a a', i < n → I i a → g i a = .inr a' → I (i + 1) a') (hf : ∀ a, I n a → Q (fin a)) :
    ∀ m i a, i + m = n → I i a → Q (foldE g fin m i a) := by
  intro m
  induction m with
  | zero => intro i a h hi; exact hf a (by rw [← h]; exact hi)
  | succ m ih =>
    intro i a h hi
    unfold foldE
    cases hq : g i a with
    | inl r => exact hl i a r (by omega) hi hq
    | inr a' => exact ih (i + 1) a' (by omega) (hI i a a' (by omega) hi hq)
theorem held_lens {a : List (Int × Int × Int × List (ByteArray) × List (Bool) × Int)} (hb : Bd_HeldS a) {i : Nat} {x : Int × Int × Int × List (ByteArray) × List (Bool) × Int} (h : a[i]? = some x) : x.2.2.2.1.length ≤ 1048576 ∧ x.2.2.2.2.1.length ≤ 1048576 := by
  have := hb.2 x (List.mem_of_getElem? h)
  exact ⟨this.1, this.2.1⟩
theorem s_l20Copy_is (k : Nat) (a : List (Int × Int × Int × List (ByteArray) × List (Bool) × Int)) (hk : 1048576 < k) (hb : Bd_HeldS a) : s_l20Copy k ((a, ()), ()) = some ((a, ()), ((), ())) := by
  unfold s_l20Copy
  have hl : a.length ≤ 1048576 := hb.1
  have hcap : capMax = 274877906944 := rfl
  refine loop_app (A := Int × Int × Int × List (ByteArray) × List (Bool) × Int) a (fun i out => ((a, ()), (([], ()), ((out, ()), ((i : Int), ()))))) ((a, ()), ((), ())) ?_ ?_ k (by omega)
  · intro again i out x ho hi hx
    obtain ⟨h1, h2⟩ := held_lens hb hx
    have w : wi64 ((i : Int) + 1) = ((i + 1 : Nat) : Int) := by rw [show wi64 ((i : Int) + 1) = (i : Int) + 1 from w64_id _ (by omega)]; omega
    have p1 : (i : Int) < (a.length : Int) := by omega
    have p2 : 0 ≤ (i : Int) := by omega
    have c1 : 0 + x.2.2.2.1.length ≤ capMax := by omega
    have c2 : 0 + x.2.2.2.2.1.length ≤ capMax := by omega
    have c3 : out.length + 1 ≤ capMax := by omega
    obtain ⟨x1, x2, x3, x4, x5, x6⟩ := x
    simp only at c1 c2
    simp only [Ty.rd, Int.toNat_natCast, getD_some' hx, p1, p2, w, c1, c2, c3, List.length_nil, List.length_cons, decide_true, and_self, if_true, List.nil_append, Nat.zero_add]
    rw [if_pos (by omega), if_pos (by omega)]
  · intro again
    have : ¬ (a.length : Int) < (a.length : Int) := by omega
    simp [this]
theorem i_copyShelf_is (k : Nat) (a : List (Int × Int × Int × List (ByteArray) × List (Bool) × Int)) (hk : 1048576 < k) (hb : Bd_HeldS a) : i_copyShelf k ((a, ()), ()) = some ((a, ()), ((), ())) := by
  unfold i_copyShelf
  have hl : a.length ≤ 1048576 := hb.1
  have hcap : capMax = 274877906944 := rfl
  refine loop_app (A := Int × Int × Int × List (ByteArray) × List (Bool) × Int) a (fun i out => (([], ()), ((out, ()), (a, ((a.length : Int), ((i : Int), ())))))) ((a, ()), ((), ())) ?_ ?_ k (by omega)
  · intro again i out x ho hi hx
    obtain ⟨h1, h2⟩ := held_lens hb hx
    have w : wi64 ((i : Int) + 1) = ((i + 1 : Nat) : Int) := by rw [show wi64 ((i : Int) + 1) = (i : Int) + 1 from w64_id _ (by omega)]; omega
    have p1 : (i : Int) < (a.length : Int) := by omega
    have p2 : 0 ≤ (i : Int) := by omega
    have c3 : out.length + 1 ≤ capMax := by omega
    obtain ⟨x1, x2, x3, x4, x5, x6⟩ := x
    simp only at h1 h2
    have e : i_copyTexts k (x4, ()) = some (x4, ((), ())) := by
      unfold i_copyTexts
      rw [if_pos (by simp; omega)]
      simp
    simp only [Ty.rd, Int.toNat_natCast, getD_some' hx, p1, p2, w, c3, e, Option.bind_some, List.length_nil, List.length_cons, decide_true, and_self, if_true, List.nil_append, Nat.zero_add]
    rw [if_pos (by omega)]
  · intro again
    have : ¬ (a.length : Int) < (a.length : Int) := by omega
    simp [this]
abbrev UserA := Int × Int × Int × ByteArray × ByteArray × Int × List (Int) × Int × Int × ByteArray × ByteArray × Int × List (Int) × Int × (List (Int × Int × Int × List (ByteArray) × List (Bool) × Int)) × Int × Unit
abbrev PRow := Int × Int × Int × Int × Int × List (Int) × ByteArray
theorem bd_userSlots {a0 a1 a2 : Int} {a3 a4 : ByteArray} {a5 : Int} {a6 : List Int} {a7 a8 : Int} {a9 a10 : ByteArray} {a11 : Int} {a12 : List Int} {a13 : Int} {a14 : List (Int × Int × Int × List (ByteArray) × List (Bool) × Int)} {a15 : Int} (hb : Bd_User (a0, (a1, (a2, (a3, (a4, (a5, (a6, (a7, (a8, (a9, (a10, (a11, (a12, (a13, (a14, (a15, ()))))))))))))))))) :
    Bd_Slots (a2, (a3, (a4, (a5, (a6, (a7, (a8, (a9, (a10, (a11, (a12, (a13, ())))))))))))) ∧ Bd_HeldS a14 := by
  unfold Bd_User at hb
  obtain ⟨b3, b4, b6, b9, b10, b12, b14, b⟩ := hb
  exact ⟨⟨b3, b4, b6, b9, b10, b12, trivial⟩, b14⟩
theorem bd_userOf {a0 a1 a2 : Int} {a3 a4 : ByteArray} {a5 : Int} {a6 : List Int} {a7 a8 : Int} {a9 a10 : ByteArray} {a11 : Int} {a12 : List Int} {a13 : Int} {a14 : List (Int × Int × Int × List (ByteArray) × List (Bool) × Int)} {a15 : Int}
    (h1 : Bd_Slots (a2, (a3, (a4, (a5, (a6, (a7, (a8, (a9, (a10, (a11, (a12, (a13, ()))))))))))))) (h2 : Bd_HeldS a14) : Bd_User (a0, (a1, (a2, (a3, (a4, (a5, (a6, (a7, (a8, (a9, (a10, (a11, (a12, (a13, (a14, (a15, ())))))))))))))))) := by
  unfold Bd_Slots at h1
  obtain ⟨b3, b4, b6, b9, b10, b12, b⟩ := h1
  exact ⟨b3, b4, b6, b9, b10, b12, h2, trivial⟩
theorem s_l22CopyUser_is (k : Nat) (x : UserA) (hk : 1048576 < k) (hb : Bd_User x) : s_l22CopyUser k (x, ()) = some (x, ((), ())) := by
  obtain ⟨a0, a1, a2, a3, a4, a5, a6, a7, a8, a9, a10, a11, a12, a13, a14, a15, ⟨⟩⟩ := x
  obtain ⟨h1, h2⟩ := bd_userSlots hb
  have e1 := s_l17Copy_is k (a2, (a3, (a4, (a5, (a6, (a7, (a8, (a9, (a10, (a11, (a12, (a13, ())))))))))))) (short_bd h1).1 (short_bd h1).2
  have e2 := s_l20Copy_is k a14 hk h2
  unfold s_l22CopyUser
  simp only [e1, e2, Option.bind_some]
theorem i_copyUser_is (k : Nat) (x : UserA) (hk : 1048576 < k) (hb : Bd_User x) : i_copyUser k (x, ()) = some (x, ((), ())) := by
  obtain ⟨a0, a1, a2, a3, a4, a5, a6, a7, a8, a9, a10, a11, a12, a13, a14, a15, ⟨⟩⟩ := x
  obtain ⟨h1, h2⟩ := bd_userSlots hb
  have e1 := i_copySlots_is k (a2, (a3, (a4, (a5, (a6, (a7, (a8, (a9, (a10, (a11, (a12, (a13, ())))))))))))) (short_bd h1).1 (short_bd h1).2
  have e2 := i_copyShelf_is k a14 hk h2
  unfold i_copyUser
  simp only [e1, e2, Option.bind_some]
theorem splits_both (k : Nat) (hk : 20 < k) (id : Int) (s : ByteArray) : ∃ r : List ByteArray × Bool, r.1.length ≤ 15 ∧ s_Split k (id, (s, (60, ()))) = some ((r.1, (r.2, ())), ((), ((), ((), ())))) ∧ i_Split k (id, (s, (60, ()))) = some ((r.1, (r.2, ())), ((), ((), ((), ())))) := by
  by_cases h1 : 0 ≤ id ∧ id ≤ 255
  · by_cases h3 : (s.size : Int) ≤ 300
    · rw [s_Split_ok _ id 60 s h1 (by decide) h3 hk, i_Split_ok _ id 60 s h1 (by decide) h3 hk]
      split
      · exact ⟨([], false), by simp, rfl, rfl⟩
      · refine ⟨(_, true), ?_, rfl, rfl⟩
        simp only [List.length_map, List.length_range]
        omega
    · refine ⟨([], false), by simp, ?_, ?_⟩
      · unfold s_Split
        have : (300 : Int) < (s.size : Int) := by omega
        simp [l01In_is, h1, this]
      · unfold i_Split
        have : (300 : Int) < (s.size : Int) := by omega
        simp [within_is, h1, this]
  · refine ⟨([], false), by simp, ?_, ?_⟩
    · unfold s_Split
      simp [l01In_is, h1]
    · unfold i_Split
      simp [within_is, h1]
def rowP (p : PacketA) : PRow := (p.1, (p.2.1, (p.2.2.1, (p.2.2.2.1, (p.2.2.2.2.1, (p.2.2.2.2.2.1, p.2.2.2.2.2.2.1))))))
def putS (u : UserA) (y : SlotsA) (ids : Int) : UserA := (u.1, (u.2.1, (y.1, (y.2.1, (y.2.2.1, (y.2.2.2.1, (y.2.2.2.2.1, (y.2.2.2.2.2.1, (y.2.2.2.2.2.2.1, (y.2.2.2.2.2.2.2.1, (y.2.2.2.2.2.2.2.2.1, (y.2.2.2.2.2.2.2.2.2.1, (y.2.2.2.2.2.2.2.2.2.2.1, (y.2.2.2.2.2.2.2.2.2.2.2.1, (u.2.2.2.2.2.2.2.2.2.2.2.2.2.2.1, (ids, ()))))))))))))))))
def slotsU (u : UserA) : SlotsA := (u.2.2.1, (u.2.2.2.1, (u.2.2.2.2.1, (u.2.2.2.2.2.1, (u.2.2.2.2.2.2.1, (u.2.2.2.2.2.2.2.1, (u.2.2.2.2.2.2.2.2.1, (u.2.2.2.2.2.2.2.2.2.1, (u.2.2.2.2.2.2.2.2.2.2.1, (u.2.2.2.2.2.2.2.2.2.2.2.1, (u.2.2.2.2.2.2.2.2.2.2.2.2.1, (u.2.2.2.2.2.2.2.2.2.2.2.2.2.1, ()))))))))))))
def idsU (u : UserA) : Int := u.2.2.2.2.2.2.2.2.2.2.2.2.2.2.2.1
abbrev SendR := UserA × List PRow × Bool × Unit
def sendG (u : UserA) (fr tgt : Int) (frags : List ByteArray) (i : Nat) (a : SlotsA × List PRow) : SendR ⊕ (SlotsA × List PRow) :=
  if sealB a.1 fr tgt (frags.getD i ⟨#[]⟩) = true then .inr (sealS a.1 fr tgt (frags.getD i ⟨#[]⟩), a.2 ++ [rowP (sealP a.1 fr tgt (frags.getD i ⟨#[]⟩))]) else .inl (u, ([], (false, ())))
def sendFin (u : UserA) (a : SlotsA × List PRow) : SendR := (putS u a.1 (wi64 (idsU u + 1)), (a.2, (true, ())))
def sendFold (u : UserA) (fr tgt : Int) (frags : List ByteArray) : SendR := foldE (sendG u fr tgt frags) (sendFin u) frags.length 0 (slotsU u, [])
def sendI (n i : Nat) (a : SlotsA × List PRow) : Prop := Bd_Slots a.1 ∧ a.2.length = i ∧ i ≤ n ∧ ∀ r ∈ a.2, Bd_Packet (ag_Packet r)
theorem bd_rowP (y : SlotsA) (fr tgt : Int) (s : ByteArray) : Bd_Packet (ag_Packet (rowP (sealP y fr tgt s))) := by
  obtain ⟨h1, h2⟩ := sealP_bd (x := y) (fr := fr) (tgt := tgt) (s := s)
  refine ⟨?_, h2, trivial⟩
  show (sealP y fr tgt s).2.2.2.2.2.1.length ≤ 1048576
  rw [h1]
  decide
theorem sendI_step {u : UserA} {fr tgt : Int} {frags : List ByteArray} {i : Nat} {a a' : SlotsA × List PRow} (hi : i < frags.length) (h : sendI frags.length i a) (hg : sendG u fr tgt frags i a = .inr a') : sendI frags.length (i + 1) a' := by
  unfold sendG at hg
  split at hg
  · injection hg with hg
    subst hg
    obtain ⟨h1, h2, h3, h4⟩ := h
    refine ⟨sealS_bd h1, by simp [h2], hi, ?_⟩
    intro r hr
    rw [List.mem_append] at hr
    rcases hr with hr | hr
    · exact h4 r hr
    · have : r = rowP (sealP a.1 fr tgt (frags.getD i ⟨#[]⟩)) := by simpa using hr
      rw [this]
      exact bd_rowP _ _ _ _
  · cases hg
theorem sendFold_ok (u : UserA) (fr tgt : Int) (frags : List ByteArray) (hb : Bd_User u) (hf : frags.length ≤ 15) : Bd_User (sendFold u fr tgt frags).1 ∧ (sendFold u fr tgt frags).2.1.length ≤ 15 ∧ Bd_PacketS (sendFold u fr tgt frags).2.1 := by
  obtain ⟨a0, a1, a2, a3, a4, a5, a6, a7, a8, a9, a10, a11, a12, a13, a14, a15, ⟨⟩⟩ := u
  obtain ⟨h1, h2⟩ := bd_userSlots hb
  unfold sendFold
  refine foldE_I (sendI frags.length) (fun r => Bd_User r.1 ∧ r.2.1.length ≤ 15 ∧ Bd_PacketS r.2.1) ?_ (fun i a a' hi h hg => sendI_step hi h hg) ?_ frags.length 0 (_, []) (by omega) ⟨h1, rfl, by omega, by simp⟩
  · intro i a r hi h hg
    unfold sendG at hg
    split at hg
    · cases hg
    · injection hg with hg
      subst hg
      exact ⟨hb, by simp, by simp [Bd_PacketS]⟩
  · rintro ⟨⟨y0, y1, y2, y3, y4, y5, y6, y7, y8, y9, y10, y11, ⟨⟩⟩, ps⟩ ⟨g1, g2, g3, g4⟩
    simp only at g2 g4
    refine ⟨bd_userOf g1 h2, ?_, ⟨?_, g4⟩⟩
    · show ps.length ≤ 15
      omega
    · show ps.length ≤ 1048576
      omega
def zeroU : UserA := ((0 : Int), ((0 : Int), ((0 : Int), ((⟨#[]⟩ : ByteArray), ((⟨#[]⟩ : ByteArray), ((0 : Int), ([], ((0 : Int), ((0 : Int), ((⟨#[]⟩ : ByteArray), ((⟨#[]⟩ : ByteArray), ((0 : Int), ([], ((0 : Int), ([], ((0 : Int), ()))))))))))))))))
theorem s_ids (ids : Int) (h : -9223372036854775808 ≤ ids ∧ ids ≤ 9223372036854775807) : (if (decide ((Int.tmod ids (256 : Int)) < (0 : Int))) = true then (wi64 ((Int.tmod ids (256 : Int)) + (256 : Int))) else (Int.tmod ids (256 : Int))) = ids % 256 := by
  by_cases hn : 0 ≤ ids
  · rw [Int.tmod_eq_emod_of_nonneg hn]
    have : ¬ ids % 256 < 0 := by omega
    simp [this]
  · obtain ⟨n, rfl⟩ : ∃ n, ids = -n := ⟨-ids, by omega⟩
    rw [Int.neg_tmod, Int.tmod_eq_emod_of_nonneg (by omega)]
    by_cases hz : -(n % 256) < 0
    · have w : wi64 (-(n % 256) + 256) = -(n % 256) + 256 := w64_id _ (by omega)
      simp only [hz, decide_true, if_true, w]
      omega
    · simp only [hz, decide_false, Bool.false_eq_true, if_false]
      omega
theorem foldE_map {A R S : Type} (F : R → S) (g : Nat → A → R ⊕ A) (fin : A → R) : ∀ m i a, foldE (fun i a => Sum.map F id (g i a)) (fun a => F (fin a)) m i a = F (foldE g fin m i a) := by
  intro m
  induction m with
  | zero => intro i a; rfl
  | succ m ih =>
    intro i a
    unfold foldE
    cases g i a with
    | inl r => rfl
    | inr a' => exact ih (i + 1) a'
theorem jn_if {A R : Type} (f : A → R) (p : Prop) [Decidable p] (a b : A) : jn f (fun j => if p then j a else j b) = f (if p then a else b) := by
  unfold jn
  split <;> rfl
theorem s_SendInner_is (k : Nat) (hk : 2097152 < k) (u : UserA) (fr tgt a b : Int) (c : ByteArray) (hb : Bd_User u) (hi : -9223372036854775808 ≤ idsU u ∧ idsU u ≤ 9223372036854775807) (t : ByteArray) (tb : Bool) (ht : s_InnerText k ((a, (b, (c, ()))), ()) = some ((t, (tb, ())), ((), ())))
    (frags : List ByteArray) (fb : Bool) (hf : frags.length ≤ 15) (hs : s_Split k (idsU u % 256, (t, (60, ()))) = some ((frags, (fb, ())), ((), ((), ((), ()))))) :
    s_SendInner k (u, (fr, (tgt, ((a, (b, (c, ()))), ())))) = some ((if tb = true ∧ fb = true then sendFold u fr tgt frags else (u, ([], (false, ())))), ((), ((), ((), ((), ()))))) := by
  have ec := s_l22CopyUser_is k u (by omega) hb
  obtain ⟨a0, a1, a2, a3, a4, a5, a6, a7, a8, a9, a10, a11, a12, a13, a14, a15, ⟨⟩⟩ := u
  obtain ⟨h1, h2⟩ := bd_userSlots hb
  have hi' : -9223372036854775808 ≤ a15 ∧ a15 ≤ 9223372036854775807 := hi
  have hs' : s_Split k (a15 % 256, (t, (60, ()))) = some ((frags, (fb, ())), ((), ((), ((), ())))) := hs
  have hcap : capMax = 274877906944 := rfl
  unfold s_SendInner
  simp only [ec, ht, Option.bind_some]
  rw [jn_if]
  simp only [s_ids a15 hi', hs', Option.bind_some]
  cases tb with
  | false => simp
  | true =>
    cases fb with
    | false => simp
    | true =>
      simp only [Bool.not_true, if_true, Bool.false_eq_true, if_false, and_self]
      refine Eq.trans (loop_foldI (A := SlotsA × List PRow) (R := SendR × Unit × Unit × Unit × Unit × Unit)
        (fun i a => (fr, (tgt, ((a0, (a1, (a2, (a3, (a4, (a5, (a6, (a7, (a8, (a9, (a10, (a11, (a12, (a13, (a14, (a15, ())))))))))))))))), (zeroU, ((a0, (a1, (a2, (a3, (a4, (a5, (a6, (a7, (a8, (a9, (a10, (a11, (a12, (a13, (a14, (a15, ())))))))))))))))), (frags, (putS (a0, (a1, (a2, (a3, (a4, (a5, (a6, (a7, (a8, (a9, (a10, (a11, (a12, (a13, (a14, (a15, ())))))))))))))))) a.1 a15, (a.2, ((i : Int), ()))))))))))
        frags.length (fun i a => Sum.map (fun r : SendR => (r, ((), ((), ((), ((), ())))))) id (sendG (a0, (a1, (a2, (a3, (a4, (a5, (a6, (a7, (a8, (a9, (a10, (a11, (a12, (a13, (a14, (a15, ())))))))))))))))) fr tgt frags i a))
        (fun a => (sendFin (a0, (a1, (a2, (a3, (a4, (a5, (a6, (a7, (a8, (a9, (a10, (a11, (a12, (a13, (a14, (a15, ())))))))))))))))) a, ((), ((), ((), ((), ())))))) (sendI frags.length) ?_ ?_ ?_ k (slotsU (a0, (a1, (a2, (a3, (a4, (a5, (a6, (a7, (a8, (a9, (a10, (a11, (a12, (a13, (a14, (a15, ())))))))))))))))), []) ⟨h1, rfl, by omega, by simp⟩ (by omega)) ?_
      · rintro again i ⟨⟨y0, y1, y2, y3, y4, y5, y6, y7, y8, y9, y10, y11, ⟨⟩⟩, ps⟩ hi ⟨g1, g2, g3, g4⟩
        simp only at g2
        have e := s_SealData_is k (y0, (y1, (y2, (y3, (y4, (y5, (y6, (y7, (y8, (y9, (y10, (y11, ())))))))))))) fr tgt (frags.getD i ⟨#[]⟩) g1 hk
        have w : wi64 ((i : Int) + 1) = ((i + 1 : Nat) : Int) := by rw [show wi64 ((i : Int) + 1) = (i : Int) + 1 from w64_id _ (by omega)]; omega
        have p1 : (i : Int) < (frags.length : Int) := by omega
        have p2 : 0 ≤ (i : Int) := by omega
        have c3 : ps.length + 1 ≤ capMax := by omega
        unfold sendG
        have hd : Ty.str.dflt = (⟨#[]⟩ : ByteArray) := rfl
        simp only [putS, Ty.rd, Int.toNat_natCast, p1, p2, w, hd, decide_true, and_self, if_true]
        generalize frags.getD i ⟨#[]⟩ = s at e
        simp only [e, Option.bind_some]
        generalize sealB _ fr tgt s = q
        cases q with
        | false => rfl
        | true =>
          simp only [Bool.not_true, if_true, Bool.false_eq_true, if_false, List.length_cons, List.length_nil, Nat.zero_add, c3]
          rfl
      · intro i a a' hi h hg
        refine sendI_step (u := (a0, (a1, (a2, (a3, (a4, (a5, (a6, (a7, (a8, (a9, (a10, (a11, (a12, (a13, (a14, (a15, ()))))))))))))))))) (fr := fr) (tgt := tgt) hi h ?_
        revert hg
        cases sendG (a0, (a1, (a2, (a3, (a4, (a5, (a6, (a7, (a8, (a9, (a10, (a11, (a12, (a13, (a14, (a15, ())))))))))))))))) fr tgt frags i a with
        | inl r => intro hg; cases hg
        | inr x => intro hg; injection hg with hg; exact congrArg Sum.inr hg
      · rintro again ⟨⟨y0, y1, y2, y3, y4, y5, y6, y7, y8, y9, y10, y11, ⟨⟩⟩, ps⟩ ⟨g1, g2, g3, g4⟩
        have : ¬ (frags.length : Int) < (frags.length : Int) := by omega
        simp [this, putS, sendFin, idsU]
      · refine congrArg some ?_
        exact foldE_map (fun r : SendR => (r, ((), ((), ((), ((), ())))))) _ _ _ _ _
theorem i_SendInner_is (k : Nat) (hk : 2097152 < k) (u : UserA) (fr tgt a b : Int) (c : ByteArray) (hb : Bd_User u) (hi : -9223372036854775808 ≤ idsU u ∧ idsU u ≤ 9223372036854775807) (t : ByteArray) (tb : Bool) (ht : i_InnerText k ((a, (b, (c, ()))), ()) = some ((t, (tb, ())), ((), ())))
    (frags : List ByteArray) (fb : Bool) (hf : frags.length ≤ 15) (hs : i_Split k (idsU u % 256, (t, (60, ()))) = some ((frags, (fb, ())), ((), ((), ((), ()))))) :
    i_SendInner k (u, (fr, (tgt, ((a, (b, (c, ()))), ())))) = some ((if tb = true ∧ fb = true then sendFold u fr tgt frags else (u, ([], (false, ())))), ((), ((), ((), ((), ()))))) := by
  have ec := i_copyUser_is k u (by omega) hb
  obtain ⟨a0, a1, a2, a3, a4, a5, a6, a7, a8, a9, a10, a11, a12, a13, a14, a15, ⟨⟩⟩ := u
  obtain ⟨h1, h2⟩ := bd_userSlots hb
  have hi' : -9223372036854775808 ≤ a15 ∧ a15 ≤ 9223372036854775807 := hi
  have hs' : i_Split k (a15 % 256, (t, (60, ()))) = some ((frags, (fb, ())), ((), ((), ((), ())))) := hs
  have hcap : capMax = 274877906944 := rfl
  unfold i_SendInner
  simp only [ec, ht, and255 a15, hs', Option.bind_some]
  cases tb with
  | false => simp
  | true =>
    cases fb with
    | false => simp
    | true =>
      simp only [Bool.not_true, if_true, Bool.false_eq_true, if_false, and_self]
      refine Eq.trans (loop_foldI (A := SlotsA × List PRow) (R := SendR × Unit × Unit × Unit × Unit × Unit)
        (fun i a => (fr, (tgt, ((a0, (a1, (a2, (a3, (a4, (a5, (a6, (a7, (a8, (a9, (a10, (a11, (a12, (a13, (a14, (a15, ())))))))))))))))), (zeroU, (putS (a0, (a1, (a2, (a3, (a4, (a5, (a6, (a7, (a8, (a9, (a10, (a11, (a12, (a13, (a14, (a15, ())))))))))))))))) a.1 a15, (a.2, (frags, ((frags.length : Int), ((i : Int), ()))))))))))
        frags.length (fun i a => Sum.map (fun r : SendR => (r, ((), ((), ((), ((), ())))))) id (sendG (a0, (a1, (a2, (a3, (a4, (a5, (a6, (a7, (a8, (a9, (a10, (a11, (a12, (a13, (a14, (a15, ())))))))))))))))) fr tgt frags i a))
        (fun a => (sendFin (a0, (a1, (a2, (a3, (a4, (a5, (a6, (a7, (a8, (a9, (a10, (a11, (a12, (a13, (a14, (a15, ())))))))))))))))) a, ((), ((), ((), ((), ())))))) (sendI frags.length) ?_ ?_ ?_ k (slotsU (a0, (a1, (a2, (a3, (a4, (a5, (a6, (a7, (a8, (a9, (a10, (a11, (a12, (a13, (a14, (a15, ())))))))))))))))), []) ⟨h1, rfl, by omega, by simp⟩ (by omega)) ?_
      · rintro again i ⟨⟨y0, y1, y2, y3, y4, y5, y6, y7, y8, y9, y10, y11, ⟨⟩⟩, ps⟩ hi ⟨g1, g2, g3, g4⟩
        simp only at g2
        have e := i_SealData_is k (y0, (y1, (y2, (y3, (y4, (y5, (y6, (y7, (y8, (y9, (y10, (y11, ())))))))))))) fr tgt (frags.getD i ⟨#[]⟩) g1 hk
        have w : wi64 ((i : Int) + 1) = ((i + 1 : Nat) : Int) := by rw [show wi64 ((i : Int) + 1) = (i : Int) + 1 from w64_id _ (by omega)]; omega
        have p1 : (i : Int) < (frags.length : Int) := by omega
        have p2 : 0 ≤ (i : Int) := by omega
        have c3 : ps.length + 1 ≤ capMax := by omega
        unfold sendG
        have hd : Ty.str.dflt = (⟨#[]⟩ : ByteArray) := rfl
        simp only [putS, Ty.rd, Int.toNat_natCast, p1, p2, w, hd, decide_true, and_self, if_true]
        generalize frags.getD i ⟨#[]⟩ = s at e
        simp only [e, ec, Option.bind_some]
        generalize sealB _ fr tgt s = q
        cases q with
        | false => rfl
        | true =>
          simp only [Bool.not_true, if_true, Bool.false_eq_true, if_false, List.length_cons, List.length_nil, Nat.zero_add, c3]
          rfl
      · intro i a a' hi h hg
        refine sendI_step (u := (a0, (a1, (a2, (a3, (a4, (a5, (a6, (a7, (a8, (a9, (a10, (a11, (a12, (a13, (a14, (a15, ()))))))))))))))))) (fr := fr) (tgt := tgt) hi h ?_
        revert hg
        cases sendG (a0, (a1, (a2, (a3, (a4, (a5, (a6, (a7, (a8, (a9, (a10, (a11, (a12, (a13, (a14, (a15, ())))))))))))))))) fr tgt frags i a with
        | inl r => intro hg; cases hg
        | inr x => intro hg; injection hg with hg; exact congrArg Sum.inr hg
      · rintro again ⟨⟨y0, y1, y2, y3, y4, y5, y6, y7, y8, y9, y10, y11, ⟨⟩⟩, ps⟩ ⟨g1, g2, g3, g4⟩
        have : ¬ (frags.length : Int) < (frags.length : Int) := by omega
        simp [this, putS, sendFin, idsU]
      · refine congrArg some ?_
        exact foldE_map (fun r : SendR => (r, ((), ((), ((), ((), ())))))) _ _ _ _ _
theorem MH_User (k : Nat) (hk : 4611686018427387904 < k) (n : Int) (hn : 0 ≤ n) (hn' : n ≤ 1000) {a0 a1 a2 : Int} {a3 a4 : ByteArray} {a5 : Int} {a6 : List Int} {a7 a8 : Int} {a9 a10 : ByteArray} {a11 : Int} {a12 : List Int} {a13 : Int} {a14 : List (Int × Int × Int × List (ByteArray) × List (Bool) × Int)} {a15 : Int} (hb : Bd_User (a0, (a1, (a2, (a3, (a4, (a5, (a6, (a7, (a8, (a9, (a10, (a11, (a12, (a13, (a14, (a15, ()))))))))))))))))) :
    ∃ (m1 m2 : List Int) (m3 : List (Int × Int × Int × List (ByteArray) × List (Bool) × Int)) (n' : Int), n ≤ n' ∧ n' ≤ 2199100000000 ∧
      w_markUser k ((a0, (a1, (a2, (a3, (a4, (a5, (a6, (a7, (a8, (a9, (a10, (a11, (a12, (a13, (a14, (a15, ())))))))))))))))), (n, ())) = some (n', (((), ((), ((), ((), ((), ((), (m1, ((), ((), ((), ((), ((), (m2, ((), (m3, ((), ())))))))))))))))), ((), ()))) ∧
      w_heldUser k ((a0, (a1, (a2, (a3, (a4, (a5, (m1, (a7, (a8, (a9, (a10, (a11, (m2, (a13, (m3, (a15, ())))))))))))))))), (n, ())) = some (n', ((), ((), ()))) := by
  unfold Bd_User at hb
  obtain ⟨b3, b4, b6, b9, b10, b12, b14, b⟩ := hb
  have b6 : a6.length ≤ 1048576 := b6
  have b12 : a12.length ≤ 1048576 := b12
  have b14' : a14.length ≤ 1048576 := b14.1
  obtain ⟨m1, n1, e1, e2, e3, e4, e5⟩ := MH_IntS k a6 n hn (by omega) (by omega) b6
  obtain ⟨m2, n2, f1, f2, f3, f4, f5⟩ := MH_IntS k a12 n1 (by omega) (by omega) (by omega) b12
  obtain ⟨m3, n3, g1, g2, g3, g4, g5⟩ := MH_HeldS k a14 n2 (by omega) _ rfl (by omega) hk b14
  have p1 : ¬ n1 < 0 := by omega
  have p2 : ¬ n2 < 0 := by omega
  have p3 : ¬ n3 < 0 := by omega
  refine ⟨m1, m2, m3, n3, by omega, by omega, ?_, ?_⟩
  · unfold w_markUser w_markSlots w_markSlot w_markShelf
    simp only [e4, f4, g4, Option.bind_some]
  · unfold w_heldUser w_heldSlots w_heldSlot w_heldShelf
    simp only [e5, f5, g5, p1, p2, p3, decide_false, Bool.false_eq_true, if_false, Option.bind_some]
theorem sendInner_law (k : Nat) (hk : 4611686018427387904 < k) (u : UserA) (fr tgt a b : Int) (c : ByteArray) (hw : Wf_User u) (hc : Wf_Inner (a, (b, (c, ())))) (hi : -9223372036854775808 ≤ idsU u ∧ idsU u ≤ 9223372036854775807) :
    w_FnExactSendInner k (u, (fr, (tgt, ((a, (b, (c, ()))), ())))) = some (true, ((), ((), ((), ((), ()))))) := by
  unfold w_FnExactSendInner
  obtain ⟨m, h1, h2⟩ := szUser_le k u 1048576 (by omega) (by omega) hw
  simp only [h1, Option.bind_some]
  by_cases hm : m < 0
  · simp [hm]
  obtain ⟨hm', hb⟩ := h2 (by omega)
  obtain ⟨m', h3, h4⟩ := szInner_le k (a, (b, (c, ()))) m (by omega) (by omega) hc
  simp only [hm, decide_false, Bool.false_eq_true, if_false, h3, Option.bind_some]
  by_cases hm2 : m' < 0
  · simp [hm2]
  obtain ⟨_, hbc⟩ := h4 (by omega)
  have e1 := toUser_is k u (by omega) hb
  have e2 := toInner_is k (a, (b, (c, ()))) (by omega) hbc
  obtain ⟨⟨⟨t, tb, ⟨⟩⟩, ⟨⟩, ⟨⟩⟩, ht⟩ := s_InnerText_ends k a b c
  have ht' := ht
  rw [← i_InnerText_is] at ht'
  obtain ⟨⟨frags, fb⟩, hl, hs, hs'⟩ := splits_both k (by omega) (idsU u % 256) t
  have hl : frags.length ≤ 15 := hl
  have e3 := s_SendInner_is k (by omega) u fr tgt a b c hb hi t tb ht frags fb hl hs
  have e4 := i_SendInner_is k (by omega) u fr tgt a b c hb hi t tb ht' frags fb hl hs'
  have hr : Bd_User (if tb = true ∧ fb = true then sendFold u fr tgt frags else (u, ([], (false, ())))).1 ∧ (if tb = true ∧ fb = true then sendFold u fr tgt frags else (u, ([], (false, ())))).2.1.length ≤ 15 ∧ Bd_PacketS (if tb = true ∧ fb = true then sendFold u fr tgt frags else (u, ([], (false, ())))).2.1 := by
    split
    · exact sendFold_ok u fr tgt frags hb hl
    · exact ⟨hb, by simp, by simp [Bd_PacketS]⟩
  generalize (if tb = true ∧ fb = true then sendFold u fr tgt frags else (u, ([], (false, ())))) = r at hr e3 e4
  obtain ⟨v, ps, ok, ⟨⟩⟩ := r
  obtain ⟨hv, hp, hbp⟩ := hr
  have hp : ps.length ≤ 15 := hp
  have e5 := eqUser_is k v v (by omega) hv
  have e6 := eqPacketS_is k ps ps (by omega) hbp
  have e7 := eqUser_is k u u (by omega) hb
  obtain ⟨a0, a1, a2, a3, a4, a5, a6, a7, a8, a9, a10, a11, a12, a13, a14, a15, ⟨⟩⟩ := u
  obtain ⟨v0, v1, v2, v3, v4, v5, v6, v7, v8, v9, v10, v11, v12, v13, v14, v15, ⟨⟩⟩ := v
  obtain ⟨m1, m2, m3, n1, i1, i2, i3, i4⟩ := MH_User k hk 1 (by omega) (by omega) hb
  obtain ⟨m4, m5, m6, n2, j1, j2, j3, j4⟩ := MH_User k hk 1 (by omega) (by omega) hv
  obtain ⟨m7, n3, l1, l2, l3, l4, l5⟩ := MH_PacketS k ps n2 (by omega) _ rfl (by omega) hk hbp
  have p1 : ¬ n1 < 0 := by omega
  have p2 : ¬ n2 < 0 := by omega
  have p3 : ¬ n3 < 0 := by omega
  simp only [hm2, decide_false, Bool.false_eq_true, if_false, e1, e2, e3, e4, e5, e6, e7, i3, j3, j4, l4, l5, p1, p2, p3, dq_self, Option.bind_some, Bool.not_true, if_true, decide_true]
theorem pure_FnExactSendInner (x : argsDen pars_FnExactSendInner) (hx : argsWf pars_FnExactSendInner x) : ∃ k o, w_FnExactSendInner k (argsX pars_FnExactSendInner x) = some (true, o) := by
  obtain ⟨⟨a0, a1, ⟨⟨a2, a3, a4, a5, a6, a7⟩, a8, a9, a10, a11, a12, a13⟩, a14, a15⟩, fr, tgt, ⟨a, b, c⟩, u⟩ := x
  refine ⟨4611686018427387905, ((), ((), ((), ((), ())))), ?_⟩
  show w_FnExactSendInner 4611686018427387905 ((a0, (a1, (a2, (a3, (a4, (a5, (a6, (a7, (a8, (a9, (a10, (a11, (a12, (a13, (a14, (a15, ())))))))))))))))), (fr, (tgt, ((a, (b, (c, ()))), ())))) = _
  have hu := hx.1
  have hw : Wf_User (a0, (a1, (a2, (a3, (a4, (a5, (a6, (a7, (a8, (a9, (a10, (a11, (a12, (a13, (a14, (a15, ())))))))))))))))) :=
    ⟨hu.2.2.1.1.2.1, hu.2.2.1.1.2.2.1, hu.2.2.1.1.2.2.2.2.1.1, hu.2.2.1.2.2.1, hu.2.2.1.2.2.2.1, hu.2.2.1.2.2.2.2.2.1.1,
      ⟨hu.2.2.2.1.1, fun r hr => ⟨(hu.2.2.2.1.2 r hr).2.2.2.1, (hu.2.2.2.1.2 r hr).2.2.2.2.1.1, trivial⟩⟩, trivial⟩
  have hc : Wf_Inner (a, (b, (c, ()))) := ⟨hx.2.2.2.1.2.2, trivial⟩
  have hi : (Lit.int .i64 a15).wf = true := hu.2.2.2.2
  have hi' : -9223372036854775808 ≤ a15 ∧ a15 ≤ 9223372036854775807 := by
    have h : (decide (IntKind.i64.min ≤ a15) && decide (a15 ≤ IntKind.i64.max)) = true := hi
    simp only [Bool.and_eq_true, decide_eq_true_eq] at h
    exact h
  exact sendInner_law 4611686018427387905 (by decide) _ fr tgt a b c hw hc hi'
open Go.ChangeShapes Go.WideShapes Go.ChangeAt Go.RowKit
theorem own_FnExactSendInner : ownKnob Tryz.prog.godebug = none := by kernel_rfl
theorem lifted_FnExactSendInner (os : Os) (started : os.Started) (H : Type) (enc : TypeId × Value → H) :
    ReturnsInHanded {} Tryz.checked os 6 .any (Rows.fnExactSendInnerSpec.pre6 enc Tryz.prog Tryz.f6 Rows.fnExactSendInnerRow.domain false) (Rows.fnExactSendInnerSpec.post enc Tryz.prog Tryz.f6 false true false false) :=
  law_lifted (C := Tryz.checked) (l := pars_FnExactSendInner) (rb := 4) own_FnExactSendInner started (by kernel_rfl) Tryz.func6
    (ChangeSpec.witness6 (enc := enc) (C := Tryz.checked) false ⟨#[], #[.agg #[.int .i64 0, .int .i64 0, .int .i64 0, .string ByteArray.empty, .string ByteArray.empty, .int .i64 0, .slice none 0 0, .int .i64 0, .int .i64 0, .string ByteArray.empty, .string ByteArray.empty, .int .i64 0, .slice none 0 0, .int .i64 0, .slice none 0 0, .int .i64 0], .int .i64 0, .int .i64 0, .agg #[.int .i64 0, .int .i64 0, .string ByteArray.empty]], []⟩ 8 (by kernel_rfl) (by kernel_rfl) (by kernel_rfl) (by kernel_rfl))
    e_w_FnExactSendInner rfl (by decide) pure_FnExactSendInner (by kernel_rfl) rfl Tryz.underlying4 (by kernel_rfl) (by kernel_rfl) rfl
    (fun ds h => match ds, h with | [_, _, _, _], _ => rfl)
theorem inPlace_FnExactSendInner : Tryz.prog.inPlace 6 = Rows.fnExactSendInnerRow.inPlace := by kernel_rfl
theorem unfollowed_FnExactSendInner : Tryz.prog.unfollowed 6 = Rows.fnExactSendInnerRow.unfollowed := by kernel_rfl
theorem recurses_FnExactSendInner : Tryz.prog.recurses 6 = Rows.fnExactSendInnerRow.recurses := by kernel_rfl
theorem named_FnExactSendInner : Tryz.prog.varsNamed 6 = Rows.fnExactSendInnerRow.named := by kernel_rfl
theorem facts_FnExactSendInner : joinedFacts Tryz.prog 6 Tryz.f6 Rows.fnExactSendInnerSpec Rows.fnExactSendInnerRow = true := by
  unfold joinedFacts
  rw [seat_laid, seat_maps, seat_heard, seat_enter, inPlace_FnExactSendInner, unfollowed_FnExactSendInner, recurses_FnExactSendInner, named_FnExactSendInner]
  kernel_rfl
theorem fnExactSendInner_holds : Rows.FnExactSendInnerSaid :=
  OpenClaim.holds_of_wide 6 Tryz.f6 rfl rfl rfl rfl rfl rfl rfl ⟨rfl, rfl, rfl, rfl, rfl⟩ rfl rfl rfl rfl rfl (by kernel_rfl) Tryz.func6 facts_FnExactSendInner (of_decide_eq_true (by kernel_rfl))
    (by unfold Func.isWrapper; first | (rw [if_pos (by decide +kernel)]; kernel_rfl) | (rw [if_neg (by decide +kernel)]; exact ⟨rfl, rfl⟩)) (fun os started H enc _ => lifted_FnExactSendInner os started H enc)
#print axioms fnExactSendInner_holds
end Go.Proofs.YtnfllchbpechlaaGreat
