import Derived.Test.YtnfllchbpechlaaGreatRows
import Derived.Test.YtnfllchbpechlaaGreatFun3
import Derived.Test.YtnfllchbpechlaaGreatBase
import Derived.Test.YtnfllchbpechlaaGreatFacts
import Derived.WalkKit
import Derived.ProofKit
import Derived.OpenShut
import Derived.ShutString
import Derived.ChangeOld
import Derived.Below
import Derived.SizedLaws
/- Plain facts of what the program's functions compute (the first part). Conditions: none beyond each theorem's own. -/
set_option linter.unusedVariables false
set_option linter.unusedSimpArgs false
namespace Go.Proofs.YtnfllchbpechlaaGreat
open Go Go.Eng Go.Proofs
abbrev pars_FnExactTakeData : List Par := [(true, (.pair (.int .i64) (.pair (.int .i64) (.pair (.pair (.pair (.int .i64) (.pair .str (.pair .str (.pair (.int .i64) (.pair (.list (.int .i64)) (.int .i64)))))) (.pair (.int .i64) (.pair .str (.pair .str (.pair (.int .i64) (.pair (.list (.int .i64)) (.int .i64))))))) (.pair (.list (.pair (.int .i64) (.pair (.int .i64) (.pair (.int .i64) (.pair (.list .str) (.pair (.list .bool) (.int .i64))))))) (.int .i64)))))), (true, (.pair (.int .i64) (.pair (.int .i64) (.pair (.int .i64) (.pair (.int .i64) (.pair (.int .i64) (.pair (.list (.int .i64)) .str))))))), (false, (.int .i64))]
theorem qBg (k : Nat) (a b c : Int) : qAy k (a, (b, (c, ()))) = some (decide (b ≤ a ∧ a ≤ c), ((), ((), ((), ())))) := by
 unfold qAy
 by_cases h : b ≤ a <;> simp [h]
theorem qBD (k : Nat) (a b c : Int) : qAn k (a, (b, (c, ()))) = some (decide (b ≤ a ∧ a ≤ c), ((), ((), ((), ())))) := qBg k a b c
theorem qF1 (k : Nat) (s : ByteArray) : qCJ k (s, ()) = some ((if s.size = 4 then (bt s 0 * 16777216 + bt s 1 * 65536 + bt s 2 * 256 + bt s 3, (true, ())) else (0, (false, ()))), ((), ())) := by
 unfold qCJ
 by_cases h : s.size = 4
 ·have h' : (s.size : Int) = 4 := by omega
  have a0 := bt_ge s 0; have a1 := bt_ge s 1; have a2 := bt_ge s 2; have a3 := bt_ge s 3
  have b0 := bt_le s 0; have b1 := bt_le s 1; have b2 := bt_le s 2; have b3 := bt_le s 3
  simp only [h]
  have e : wi64 (wi64 (wi64 (wi64 (wi64 (bt s 0) * 16777216) + wi64 (wi64 (bt s 1) * 65536)) + wi64 (wi64 (bt s 2) * 256)) + wi64 (bt s 3)) = bt s 0 * 16777216 + bt s 1 * 65536 + bt s 2 * 256 + bt s 3 := by
   simp only [wi64, IntKind.wrap_i64]
   omega
  simp [e]
 ·have h' : ¬ (s.size : Int) = 4 := by omega
  simp [h, h']
theorem qF2 (k : Nat) (s : ByteArray) : qBp k (s, ()) = some ((if s.size = 4 then (bt s 0 * 16777216 + bt s 1 * 65536 + bt s 2 * 256 + bt s 3, (true, ())) else (0, (false, ()))), ((), ())) := by
 unfold qBp
 by_cases h : s.size = 4
 ·have h' : (s.size : Int) = 4 := by omega
  have a0 := bt_ge s 0; have a1 := bt_ge s 1; have a2 := bt_ge s 2; have a3 := bt_ge s 3
  have b0 := bt_le s 0; have b1 := bt_le s 1; have b2 := bt_le s 2; have b3 := bt_le s 3
  simp only [h]
  have p24 : (2 : Int) ^ (min (Int.toNat (24 : Int)) (IntKind.bits .i64)) = 16777216 := by decide
  have p16 : (2 : Int) ^ (min (Int.toNat (16 : Int)) (IntKind.bits .i64)) = 65536 := by decide
  have p8 : (2 : Int) ^ (min (Int.toNat (8 : Int)) (IntKind.bits .i64)) = 256 := by decide
  have e0 : wi64 (wi64 (bt s 0) * 2 ^ (min (Int.toNat (24 : Int)) (IntKind.bits .i64))) = bt s 0 * 16777216 := by rw [p24]; simp only [wi64, IntKind.wrap_i64]; omega
  have e1 : wi64 (wi64 (bt s 1) * 2 ^ (min (Int.toNat (16 : Int)) (IntKind.bits .i64))) = bt s 1 * 65536 := by rw [p16]; simp only [wi64, IntKind.wrap_i64]; omega
  have e2 : wi64 (wi64 (bt s 2) * 2 ^ (min (Int.toNat (8 : Int)) (IntKind.bits .i64))) = bt s 2 * 256 := by rw [p8]; simp only [wi64, IntKind.wrap_i64]; omega
  have e3 : wi64 (bt s 3) = bt s 3 := by simp only [wi64, IntKind.wrap_i64]; omega
  have e : qAR .or .i64 (qAR .or .i64 (qAR .or .i64 (bt s 0 * 16777216) (bt s 1 * 65536)) (bt s 2 * 256)) (bt s 3) = bt s 0 * 16777216 + bt s 1 * 65536 + bt s 2 * 256 + bt s 3 := by
   rw [or_join 24 (bt s 0 * 16777216) (bt s 1 * 65536), or_join 16 _ (bt s 2 * 256), or_join 8 _ (bt s 3)] <;> omega
  rw [e0, e1, e2, e3, e]
  simp
 ·have h' : ¬ (s.size : Int) = 4 := by omega
  simp [h, h']
/-- Bytes as whole numbers. -/
def isB (l : List Int) : Prop := ∀ x ∈ l, 0 ≤ x ∧ x < 256
theorem qAV (s : ByteArray) : (qAE s).length = s.size := by
 unfold qAE
 rw [List.length_map, Array.length_toList]
 rfl
theorem qAX (l : List Int) : (qAK l).size = l.length := by simp [qAK, ByteArray.size]
theorem qCj (s : ByteArray) : isB (qAE s) := by
 intro x hx
 unfold qAE at hx
 obtain ⟨b, _, rfl⟩ := List.mem_map.1 hx
 have := b.toNat_lt
 exact ⟨by omega, by omega⟩
theorem isB_nil : isB [] := by intro x hx; cases hx
theorem isB_cons {x : Int} {l : List Int} : isB (x :: l) ↔ (0 ≤ x ∧ x < 256) ∧ isB l := by simp [isB]
theorem qGU {a b : List Int} : isB (a ++ b) ↔ isB a ∧ isB b := by
 simp only [isB, List.mem_append]
 exact ⟨fun h => ⟨fun x hx => h x (.inl hx), fun x hx => h x (.inr hx)⟩, fun h x hx => hx.elim (h.1 x) (h.2 x)⟩
theorem isB_drop {l : List Int} (h : isB l) (n : Nat) : isB (l.drop n) := fun x hx => h x (List.mem_of_mem_drop hx)
theorem isB_take {l : List Int} (h : isB l) (n : Nat) : isB (l.take n) := fun x hx => h x (List.mem_of_mem_take hx)
theorem qBI {l : List Int} (h : isB l) : qAE (qAK l) = l := by
 unfold qAE qAK
 rw [List.map_map]
 have : ∀ m : List Int, isB m → m.map ((fun b : UInt8 => ((b.toNat : Nat) : Int)) ∘ fun x => UInt8.ofNat x.toNat) = m := by
  intro m
  induction m with
  | nil => intro _; rfl
  | cons a m ih =>
   intro hm
   obtain ⟨h1, h2⟩ := isB_cons.1 hm
   rw [List.map_cons, ih h2]
   congr 1
   simp only [Function.comp, UInt8.toNat_ofNat']
   omega
 simpa using this l h
theorem qCE (s : ByteArray) : qAK (qAE s) = s := by
 have e : (fun x : Int => UInt8.ofNat x.toNat) ∘ (fun b : UInt8 => ((b.toNat : Nat) : Int)) = id := by
  funext b
  simp
 apply ByteArray.ext
 simp only [qAK, qAE, List.map_map, e, List.map_id]
theorem bytesOf_inj {s t : ByteArray} (h : qAE s = qAE t) : s = t := by rw [← qCE s, h, qCE]
theorem qD3 (a b : ByteArray) : qAE (a ++ b) = qAE a ++ qAE b := by
 simp [qAE, ByteArray.data_append]
theorem strOf_append (a b : List Int) : qAK (a ++ b) = qAK a ++ qAK b := by
 apply ByteArray.ext
 simp [qAK, ByteArray.data_append]
theorem qDe (s : ByteArray) (a b : Nat) : qAE (s.extract a b) = ((qAE s).take b).drop a := by
 simp [qAE, ByteArray.data_extract, List.map_drop, List.map_take, List.drop_take]
theorem qH1 (s : ByteArray) (i : Nat) (h : i < s.size) : bt s (i : Int) = (qAE s)[i]'(by rw [qAV]; exact h) := by
 unfold bt
 rw [dif_pos (by simpa using h)]
 simp [qAE, ByteArray.getElem_eq_getElem_data]
theorem qC0 (n m : Nat) (h : n + m ≤ 4194304) : n + m ≤ capMax := by
 have : capMax = 274877906944 := rfl
 omega
theorem qBv (n m : Nat) (h : n + m ≤ 4194304) : n + m ≤ maxStr := by
 have : maxStr = 9223372036854775807 := rfl
 omega
/-- A loop that counts up to n and turns its state each round. -/
def iterN {A : Type} (g : Nat → A → A) : Nat → Nat → A → A
 | 0, _, a => a
 | m + 1, i, a => iterN g m (i + 1) (g i a)
theorem qB8 {X R A : Type} {step : (X → Option R) → X → Option R} (st : Nat → A → X) (n : Nat) (g : Nat → A → A) (fin : A → Option R) (Inv : Nat → A → Prop)
  (hs : ∀ again i a, i < n → Inv i a → step again (st i a) = again (st (i + 1) (g i a)) ∧ Inv (i + 1) (g i a)) (he : ∀ again a, Inv n a → step again (st n a) = fin a) :
  ∀ m i a k, i + m = n → Inv i a → m < k → qAG step k (st i a) = fin (iterN g m i a) := by
 intro m
 induction m with
 | zero =>
  intro i a k h hI hk
  obtain ⟨k, rfl⟩ : ∃ k', k = k' + 1 := ⟨k - 1, by omega⟩
  have : i = n := by omega
  subst this
  exact he _ _ hI
 | succ m ih =>
  intro i a k h hI hk
  obtain ⟨k, rfl⟩ : ∃ k', k = k' + 1 := ⟨k - 1, by omega⟩
  obtain ⟨h1, h2⟩ := hs (qAG step k) i a (by omega) hI
  show step _ _ = _
  rw [h1]
  exact ih (i + 1) _ k (by omega) h2 (by omega)
theorem iterN_inv {A : Type} (g : Nat → A → A) (Inv : Nat → A → Prop) (n : Nat) (hs : ∀ i a, i < n → Inv i a → Inv (i + 1) (g i a)) : ∀ m i a, i + m = n → Inv i a → Inv n (iterN g m i a) := by
 intro m
 induction m with
 | zero =>
  intro i a h hI
  have : i = n := by omega
  subst this
  exact hI
 | succ m ih => intro i a h hI; exact ih (i + 1) _ (by omega) (hs i a (by omega) hI)
/-- A loop that looks at each place, and gives up at the first that is not as it should be. -/
theorem all_loop {X R : Type} {step : (X → Option R) → X → Option R} (st : Nat → X) (n : Nat) (p : Nat → Bool) (no fin : Option R)
  (hs : ∀ again i, i < n → step again (st i) = if p i = true then again (st (i + 1)) else no) (he : ∀ again, step again (st n) = fin) (k : Nat) (hk : n < k) :
  qAG step k (st 0) = if (List.range n).all p = true then fin else no := by
 rw [qEd st n (fun i => !p i) no fin (fun again i hi => by rw [hs again i hi]; cases p i <;> simp) he k hk]
 simp
theorem all_rd {t : Ty} (l : List t.den) (p : t.den → Bool) : (List.range l.length).all (fun i => p (Ty.rd (t := t) l ((i : Nat) : Int))) = l.all p := by
 rw [Bool.eq_iff_iff, List.all_eq_true, List.all_eq_true]
 constructor
 ·intro h x hx
  obtain ⟨i, hi, rfl⟩ := List.mem_iff_getElem.1 hx
  have := h i (by simpa using hi)
  rw [qD5 (t := t) l _ (by simpa using hi)] at this
  exact this
 ·intro h i hi
  have hi' : i < l.length := by simpa using hi
  rw [qD5 (t := t) l _ (by simpa using hi')]
  exact h _ (List.getElem_mem _)
/-- Four bytes, the highest first. -/
def four (n : Int) : List Int := [n / 16777216 % 256, n / 65536 % 256, n / 256 % 256, n % 256]
theorem four_isB (n : Int) : isB (four n) := by
 unfold four
 simp only [isB_cons]
 refine ⟨by omega, by omega, by omega, by omega, isB_nil⟩
def W32 (x : Int) : Prop := 0 ≤ x ∧ x < 4294967296
def allW (l : List Int) : Prop := ∀ x ∈ l, W32 x
def xr (a b : Int) : Int := ((a.toNat ^^^ b.toNat : Nat) : Int)
def an (a b : Int) : Int := ((a.toNat &&& b.toNat : Nat) : Int)
theorem qCk {a : Int} (h : W32 a) : a.toNat < 2 ^ 32 := by obtain ⟨h1, h2⟩ := h; omega
theorem xr_W {a b : Int} (ha : W32 a) (hb : W32 b) : W32 (xr a b) := by
 have := Nat.xor_lt_two_pow (qCk ha) (qCk hb)
 unfold xr W32
 omega
theorem an_W {a b : Int} (ha : W32 a) : W32 (an a b) := by
 have := Nat.and_le_left (n := a.toNat) (m := b.toNat)
 have := qCk ha
 unfold an W32
 omega
theorem qBw {n : Nat} {a : Int} (hn : 32 ≤ n) (h : W32 a) : (BitVec.ofInt n a).toNat = a.toNat := by
 rw [BitVec.toNat_ofInt]
 obtain ⟨h1, h2⟩ := h
 have hp : (2 : Nat) ^ 32 ≤ 2 ^ n := Nat.pow_le_pow_right (by omega) hn
 have : (2 : Nat) ^ 32 = 4294967296 := by decide
 rw [Int.emod_eq_of_lt h1 (by omega)]
theorem qEy {a b : Int} (ha : W32 a) (hb : W32 b) : qAR .xor .u32 a b = xr a b := by
 have h := xr_W ha hb
 unfold qAR
 simp only [BitVec.toNat_xor, qBw (show 32 ≤ IntKind.bits .u32 by decide) ha, qBw (show 32 ≤ IntKind.bits .u32 by decide) hb]
 show IntKind.u32.wrap (xr a b) = xr a b
 obtain ⟨h1, h2⟩ := h
 rw [IntKind.wrap_u32]
 omega
theorem qDu {a b : Int} (ha : W32 a) (hb : W32 b) : qAR .xor .i64 a b = xr a b := by
 have h := xr_W ha hb
 unfold qAR
 simp only [BitVec.toNat_xor, qBw (show 32 ≤ IntKind.bits .i64 by decide) ha, qBw (show 32 ≤ IntKind.bits .i64 by decide) hb]
 obtain ⟨h1, h2⟩ := h
 exact qAH (xr a b) (by omega)
theorem qH2 {a b : Int} (ha : W32 a) (hb : W32 b) : qAR .and .u32 a b = an a b := by
 have h := an_W (b := b) ha
 unfold qAR
 simp only [BitVec.toNat_and, qBw (show 32 ≤ IntKind.bits .u32 by decide) ha, qBw (show 32 ≤ IntKind.bits .u32 by decide) hb]
 show IntKind.u32.wrap (an a b) = an a b
 obtain ⟨h1, h2⟩ := h
 rw [IntKind.wrap_u32]
 omega
theorem qH3 {a b : Int} (ha : W32 a) (hb : W32 b) : qAR .and .i64 a b = an a b := by
 have h := an_W (b := b) ha
 unfold qAR
 simp only [BitVec.toNat_and, qBw (show 32 ≤ IntKind.bits .i64 by decide) ha, qBw (show 32 ≤ IntKind.bits .i64 by decide) hb]
 obtain ⟨h1, h2⟩ := h
 exact qAH (an a b) (by omega)
/-- All bits turned. -/
theorem flip_is {e : Int} (h : W32 e) : xr 4294967295 e = 4294967295 - e := by
 have hl := qCk h
 have : (4294967295 ^^^ e.toNat : Nat) = 2 ^ 32 - (e.toNat + 1) := by
  apply Nat.eq_of_testBit_eq
  intro i
  rw [Nat.testBit_xor, Nat.testBit_two_pow_sub_succ hl, show (4294967295 : Nat) = 2 ^ 32 - 1 by decide, Nat.testBit_two_pow_sub_one]
  by_cases hi : i < 32
  ·simp [hi]
  ·have : e.toNat.testBit i = false := Nat.testBit_lt_two_pow (Nat.lt_of_lt_of_le hl (Nat.pow_le_pow_right (by omega) (by omega)))
   simp [hi, this]
 obtain ⟨h1, h2⟩ := h
 unfold xr
 rw [show Int.toNat 4294967295 = 4294967295 by rfl, this]
 omega
/-- A word that is turned right. -/
def rt (x : Int) (n : Nat) : Int := x / 2 ^ n + x % 2 ^ n * 2 ^ (32 - n)
theorem rt_nat {x n : Nat} (hn : n ≤ 32) (hx : x < 2 ^ 32) : x / 2 ^ n < 2 ^ (32 - n) ∧ x / 2 ^ n + x % 2 ^ n * 2 ^ (32 - n) < 2 ^ 32 := by
 have hp : 2 ^ n * 2 ^ (32 - n) = 2 ^ 32 := by rw [← Nat.pow_add]; congr 1; omega
 have h1 : x / 2 ^ n < 2 ^ (32 - n) := Nat.div_lt_of_lt_mul (by rw [hp]; exact hx)
 refine ⟨h1, ?_⟩
 have h2 : x % 2 ^ n + 1 ≤ 2 ^ n := Nat.mod_lt _ (Nat.two_pow_pos n)
 have h3 : (x % 2 ^ n + 1) * 2 ^ (32 - n) ≤ 2 ^ 32 := by rw [← hp]; exact Nat.mul_le_mul_right _ h2
 rw [Nat.add_mul] at h3
 omega
theorem rt_cast (x n : Nat) : rt (x : Int) n = ((x / 2 ^ n + x % 2 ^ n * 2 ^ (32 - n) : Nat) : Int) := by
 unfold rt
 push_cast
 rfl
theorem W32_nat {n : Nat} (h : n < 2 ^ 32) : W32 (n : Int) := by
 have p32 : (2 : Nat) ^ 32 = 4294967296 := by decide
 exact ⟨by omega, by omega⟩
theorem rt_W {x : Int} {n : Nat} (hn : n ≤ 32) (h : W32 x) : W32 (rt x n) := by
 obtain ⟨m, rfl⟩ := Int.eq_ofNat_of_zero_le h.1
 have := (rt_nat hn (qCk h)).2
 simp only [Int.toNat_natCast] at this
 rw [rt_cast]
 exact W32_nat this
theorem rot_or {x n : Nat} (hn : n ≤ 32) (hx : x < 2 ^ 32) : (x / 2 ^ n ||| x * 2 ^ (32 - n)) % 2 ^ 32 = x / 2 ^ n + x % 2 ^ n * 2 ^ (32 - n) := by
 have hp : 2 ^ n * 2 ^ (32 - n) = 2 ^ 32 := by rw [← Nat.pow_add]; congr 1; omega
 obtain ⟨h1, h2⟩ := rt_nat hn hx
 rw [Nat.or_mod_two_pow, Nat.mod_eq_of_lt (Nat.lt_of_le_of_lt (Nat.div_le_self _ _) hx)]
 have e : x * 2 ^ (32 - n) % 2 ^ 32 = 2 ^ (32 - n) * (x % 2 ^ n) := by rw [← hp, Nat.mul_mod_mul_right, Nat.mul_comm]
 rw [e, Nat.or_comm, ← Nat.two_pow_add_eq_or_of_lt h1, Nat.mul_comm, Nat.add_comm]
theorem qBA (k : Nat) {x : Int} {n : Nat} (hn : 2 ≤ n ∧ n ≤ 31) (h : W32 x) : qAZ k (x, ((n : Int), ())) = some (rt x n, ((), ((), ()))) := by
 obtain ⟨m, rfl⟩ := Int.eq_ofNat_of_zero_le h.1
 have hm : m < 2 ^ 32 := by have := qCk h; simpa using this
 unfold qAZ
 have w : wi64 ((32 : Int) - (n : Int)) = ((32 - n : Nat) : Int) := (qAH _ (by omega)).trans (by omega)
 have c1 : ¬ (n : Int) < 0 := by omega
 have c2 : ¬ ((32 - n : Nat) : Int) < 0 := by omega
 have m1 : min (Int.toNat (n : Int)) (IntKind.bits .i64) = n := by show min n 64 = n; omega
 have m2 : min (Int.toNat ((32 - n : Nat) : Int)) (IntKind.bits .i64) = 32 - n := by show min (32 - n) 64 = _; omega
 have hy : m * 2 ^ (32 - n) < 2 ^ 62 := by
  have a1 : 2 ^ (32 - n) ≤ 2 ^ 30 := Nat.pow_le_pow_right (by omega) (by omega)
  calc m * 2 ^ (32 - n) ≤ m * 2 ^ 30 := Nat.mul_le_mul_left _ a1
   _ < 2 ^ 32 * 2 ^ 30 := Nat.mul_lt_mul_of_pos_right hm (by decide)
   _ = 2 ^ 62 := by decide
 have hz : m / 2 ^ n < 2 ^ 32 := Nat.lt_of_le_of_lt (Nat.div_le_self _ _) hm
 have p62 : (2 : Nat) ^ 62 = 4611686018427387904 := by decide
 have p32 : (2 : Nat) ^ 32 = 4294967296 := by decide
 have e1 : Int.fdiv (m : Int) (2 ^ n) = ((m / 2 ^ n : Nat) : Int) := by
  have : ((2 : Int) ^ n) = ((2 ^ n : Nat) : Int) := by push_cast; rfl
  rw [this, Int.fdiv_eq_ediv_of_nonneg _ (Int.natCast_nonneg _)]
  rfl
 have e2 : wi64 ((m : Int) * 2 ^ (32 - n)) = ((m * 2 ^ (32 - n) : Nat) : Int) := by
  have : ((m : Int) * 2 ^ (32 - n)) = ((m * 2 ^ (32 - n) : Nat) : Int) := by rw [Int.natCast_mul, Int.natCast_pow]; rfl
  rw [this]
  exact qAH _ (by omega)
 have e3 : qAR .or .i64 ((m / 2 ^ n : Nat) : Int) ((m * 2 ^ (32 - n) : Nat) : Int) = ((m / 2 ^ n ||| m * 2 ^ (32 - n) : Nat) : Int) := (bits_nat .i64 63 (by decide) wraps_i64 _ _ (by omega) (by omega)).2
 have ho : m / 2 ^ n ||| m * 2 ^ (32 - n) < 2 ^ 62 := Nat.or_lt_two_pow (by omega) hy
 have e4 : qAR .and .i64 ((m / 2 ^ n ||| m * 2 ^ (32 - n) : Nat) : Int) 4294967295 = (((m / 2 ^ n ||| m * 2 ^ (32 - n)) % 2 ^ 32 : Nat) : Int) := by
  have := and_mask 32 (by omega) ((m / 2 ^ n ||| m * 2 ^ (32 - n) : Nat) : Int) (by omega) (by omega)
  rw [show ((2 : Int) ^ 32 - 1) = 4294967295 by decide] at this
  rw [this]
  rfl
 simp only [w, c1, c2, m1, m2, e1, e2, e3, e4, if_false]
 rw [rot_or (by omega) hm, rt_cast]
theorem W32_four {n : Int} (h : W32 n) : n / 16777216 % 256 * 16777216 + n / 65536 % 256 * 65536 + n / 256 % 256 * 256 + n % 256 = n := by
 obtain ⟨h1, h2⟩ := h
 omega
def wd : List Int → List Int
 | a :: b :: c :: d :: r => (a * 16777216 + b * 65536 + c * 256 + d) :: wd r
 | _ => []
theorem wd_W : ∀ {l : List Int}, isB l → allW (wd l)
 | a :: b :: c :: d :: r, h => by
  simp only [isB_cons] at h
  obtain ⟨h1, h2, h3, h4, h5⟩ := h
  intro x hx
  rw [wd, List.mem_cons] at hx
  rcases hx with rfl | hx
  ·unfold W32; omega
  ·exact wd_W h5 x hx
 | [], _ => by simp [wd, allW]
 | [_], _ => by simp [wd, allW]
 | [_, _], _ => by simp [wd, allW]
 | [_, _, _], _ => by simp [wd, allW]
theorem wd_len : ∀ (l : List Int), (wd l).length = l.length / 4
 | a :: b :: c :: d :: r => by simp only [wd, List.length_cons, wd_len r]; omega
 | [] => by simp [wd]
 | [_] => by simp [wd]
 | [_, _] => by simp [wd]
 | [_, _, _] => by simp [wd]
theorem qH4 {x : Int} {l : List Int} : allW (x :: l) ↔ W32 x ∧ allW l := by simp [allW]
theorem allW_append {a b : List Int} : allW (a ++ b) ↔ allW a ∧ allW b := by
 simp only [allW, List.mem_append]
 exact ⟨fun h => ⟨fun x hx => h x (.inl hx), fun x hx => h x (.inr hx)⟩, fun h x hx => hx.elim (h.1 x) (h.2 x)⟩
/-- A list's place. -/
def rdI (l : List Int) (i : Int) : Int := l.getD i.toNat 0
theorem qDf (k : IntKind) (l : List Int) (i : Int) : Ty.rd (t := .int k) l i = rdI l i := rfl
theorem qAt (l : List Int) (i : Nat) (h : i < l.length) : rdI l (i : Int) = l[i] := by simp [rdI, List.getD, h]
/-- The bytes of words. -/
def fl (l : List Int) : List Int := l.flatMap four
theorem fl_cons (x : Int) (l : List Int) : fl (x :: l) = four x ++ fl l := List.flatMap_cons ..
theorem fl_isB (l : List Int) : isB (fl l) := by
 induction l with
 | nil => exact isB_nil
 | cons x l ih => rw [fl_cons, qGU]; exact ⟨four_isB x, ih⟩
theorem fl_len (l : List Int) : (fl l).length = 4 * l.length := by
 induction l with
 | nil => rfl
 | cons x l ih => rw [fl_cons, List.length_append, ih, List.length_cons]; simp only [four, List.length_cons, List.length_nil]; omega
theorem wd_fl : ∀ {l : List Int}, allW l → wd (fl l) = l
 | [], _ => rfl
 | x :: l, h => by
  obtain ⟨h1, h2⟩ := qH4.1 h
  rw [fl_cons]
  unfold four
  simp only [List.cons_append, List.nil_append, wd, wd_fl h2, W32_four h1]
theorem drop_four (s : ByteArray) (i : Nat) (h : i + 4 ≤ s.size) : (qAE s).drop i = bt s (i : Int) :: bt s ((i + 1 : Nat) : Int) :: bt s ((i + 2 : Nat) : Int) :: bt s ((i + 3 : Nat) : Int) :: (qAE s).drop (i + 4) := by
 have hl := qAV s
 rw [List.drop_eq_getElem_cons (by omega), List.drop_eq_getElem_cons (by omega), List.drop_eq_getElem_cons (by omega), List.drop_eq_getElem_cons (by omega), qH1 s i (by omega), qH1 s (i + 1) (by omega), qH1 s (i + 2) (by omega), qH1 s (i + 3) (by omega)]
/-- The loop over words. -/
theorem words_loop {R : Type} {step : (ByteArray × List Int × Int × Unit → Option R) → ByteArray × List Int × Int × Unit → Option R} (s : ByteArray) (fin : List Int → Option R) (hs : s.size ≤ 2097152)
  (h1 : ∀ again (out : List Int) (i : Nat), i + 4 ≤ s.size → out.length ≤ 2097152 → step again (s, (out, ((i : Int), ()))) = again (s, (out ++ [bt s (i : Int) * 16777216 + bt s ((i + 1 : Nat) : Int) * 65536 + bt s ((i + 2 : Nat) : Int) * 256 + bt s ((i + 3 : Nat) : Int)], (((i + 4 : Nat) : Int), ()))))
  (h2 : ∀ again (out : List Int) (i : Nat), ¬ i + 4 ≤ s.size → i ≤ s.size → step again (s, (out, ((i : Int), ()))) = fin out) :
  ∀ (n i : Nat) (out : List Int) (k : Nat), i ≤ s.size → s.size - i = n → out.length ≤ i → n < k → qAG step k (s, (out, ((i : Int), ()))) = fin (out ++ wd ((qAE s).drop i)) := by
 intro n
 induction n using Nat.strongRecOn with
 | ind n ih =>
  intro i out k hi hn ho hk
  obtain ⟨k, rfl⟩ : ∃ k', k = k' + 1 := ⟨k - 1, by omega⟩
  show step _ _ = _
  by_cases c : i + 4 ≤ s.size
  ·rw [h1 _ _ _ c (by omega), ih (s.size - (i + 4)) (by omega) (i + 4) _ k c rfl (by simp; omega) (by omega), drop_four s i c, wd, List.append_assoc]
   rfl
  ·rw [h2 _ _ _ c hi]
   have hl : ((qAE s).drop i).length < 4 := by rw [List.length_drop, qAV]; omega
   have : wd ((qAE s).drop i) = [] := List.eq_nil_of_length_eq_zero (by rw [wd_len]; omega)
   rw [this, List.append_nil]
theorem qGV (s : ByteArray) (a b j : Nat) (h : b ≤ s.size) (hj : a + j < b) : bt (s.extract a b) (j : Int) = bt s ((a + j : Nat) : Int) := by
 have hsz : (s.extract a b).size = b - a := by rw [ByteArray.size_extract]; omega
 rw [qH1 _ j (by omega), qH1 s (a + j) (by omega)]
 have : (qAE (s.extract a b))[j]? = (qAE s)[a + j]? := by
  rw [qDe, List.getElem?_drop, List.getElem?_take]
  simp [hj]
 rw [List.getElem?_eq_getElem (by rw [qAV]; omega), List.getElem?_eq_getElem (by rw [qAV]; omega)] at this
 exact Option.some.inj this
theorem i_wordsOf_is (k : Nat) (s : ByteArray) (hs : s.size ≤ 2097152) (hk : s.size < k) : qEE k (s, ()) = some (wd (qAE s), ((), ())) := by
 unfold qEE
 refine (words_loop s (fun l => (some (l, ((), ())) : Option (List Int × Unit × Unit))) hs ?_ ?_ s.size 0 [] k (by omega) (by omega) (by simp) hk).trans ?_
 ·intro again out i hi ho
  have w : wi64 ((i : Int) + 4) = ((i + 4 : Nat) : Int) := (qAH _ (by omega)).trans (by omega)
  have c1 : ((i + 4 : Nat) : Int) ≤ (s.size : Int) := by omega
  have c2 : (0 : Int) ≤ ((i + 4 : Nat) : Int) ∧ ((i + 4 : Nat) : Int) ≤ (s.size : Int) := by omega
  have c3 : (0 : Int) ≤ (i : Int) ∧ (i : Int) ≤ ((i + 4 : Nat) : Int) := by omega
  have hsz : (s.extract i (i + 4)).size = 4 := by rw [ByteArray.size_extract]; omega
  have hc : out.length + 1 ≤ capMax := qC0 _ _ (by omega)
  have b0 := qGV s i (i + 4) 0 (by omega) (by omega)
  have b1 := qGV s i (i + 4) 1 (by omega) (by omega)
  have b2 := qGV s i (i + 4) 2 (by omega) (by omega)
  have b3 := qGV s i (i + 4) 3 (by omega) (by omega)
  simp only [Nat.add_zero] at b0 b1 b2 b3
  have b0' : bt (s.extract i (i + 4)) 0 = bt s (i : Int) := b0
  have b1' : bt (s.extract i (i + 4)) 1 = bt s ((i + 1 : Nat) : Int) := b1
  have b2' : bt (s.extract i (i + 4)) 2 = bt s ((i + 2 : Nat) : Int) := b2
  have b3' : bt (s.extract i (i + 4)) 3 = bt s ((i + 3 : Nat) : Int) := b3
  simp only [w, c1, c2, c3, Int.toNat_natCast, qF2, hsz, hc, b0', b1', b2', b3', and_self, decide_true, if_true, Option.bind_some, List.length_singleton]
 ·intro again out i hi hi2
  have w : wi64 ((i : Int) + 4) = ((i + 4 : Nat) : Int) := (qAH _ (by omega)).trans (by omega)
  have c1 : ¬ ((i + 4 : Nat) : Int) ≤ (s.size : Int) := by omega
  simp only [w, c1, decide_false, Bool.false_eq_true, if_false]
 ·rfl
theorem l04Word_is (k : Nat) (s : ByteArray) (i : Nat) (hs : s.size ≤ 2097152) (h : i + 4 ≤ s.size) : qFP k (s, ((i : Int), ())) = some (bt s (i : Int) * 16777216 + bt s ((i + 1 : Nat) : Int) * 65536 + bt s ((i + 2 : Nat) : Int) * 256 + bt s ((i + 3 : Nat) : Int), ((), ((), ()))) := by
 unfold qFP
 have w1 : wi64 ((i : Int) + 1) = ((i + 1 : Nat) : Int) := (qAH _ (by omega)).trans (by omega)
 have w2 : wi64 ((i : Int) + 2) = ((i + 2 : Nat) : Int) := (qAH _ (by omega)).trans (by omega)
 have w3 : wi64 ((i : Int) + 3) = ((i + 3 : Nat) : Int) := (qAH _ (by omega)).trans (by omega)
 have c0 : (0 : Int) ≤ (i : Int) ∧ (i : Int) < (s.size : Int) := by omega
 have c1 : (0 : Int) ≤ ((i + 1 : Nat) : Int) ∧ ((i + 1 : Nat) : Int) < (s.size : Int) := by omega
 have c2 : (0 : Int) ≤ ((i + 2 : Nat) : Int) ∧ ((i + 2 : Nat) : Int) < (s.size : Int) := by omega
 have c3 : (0 : Int) ≤ ((i + 3 : Nat) : Int) ∧ ((i + 3 : Nat) : Int) < (s.size : Int) := by omega
 simp only [w1, w2, w3, c0, c1, c2, c3, and_self, if_true]
 have a0 := bt_ge s (i : Int); have a1 := bt_ge s ((i + 1 : Nat) : Int); have a2 := bt_ge s ((i + 2 : Nat) : Int); have a3 := bt_ge s ((i + 3 : Nat) : Int)
 have b0 := bt_le s (i : Int); have b1 := bt_le s ((i + 1 : Nat) : Int); have b2 := bt_le s ((i + 2 : Nat) : Int); have b3 := bt_le s ((i + 3 : Nat) : Int)
 generalize bt s (i : Int) = q0 at *
 generalize bt s ((i + 1 : Nat) : Int) = q1 at *
 generalize bt s ((i + 2 : Nat) : Int) = q2 at *
 generalize bt s ((i + 3 : Nat) : Int) = q3 at *
 congr 2
 simp only [wu32, IntKind.wrap_u32]
 omega
theorem qG6 (k : Nat) (s : ByteArray) (hs : s.size ≤ 2097152) (hk : s.size < k) : qCb k (s, ()) = some (wd (qAE s), ((), ())) := by
 unfold qCb
 refine (words_loop s (fun l => (some (l, ((), ())) : Option (List Int × Unit × Unit))) hs ?_ ?_ s.size 0 [] k (by omega) (by omega) (by simp) hk).trans ?_
 ·intro again out i hi ho
  have w : wi64 ((i : Int) + 4) = ((i + 4 : Nat) : Int) := (qAH _ (by omega)).trans (by omega)
  have c1 : ((i + 4 : Nat) : Int) ≤ (s.size : Int) := by omega
  have hc : out.length + 1 ≤ capMax := qC0 _ _ (by omega)
  simp only [w, c1, l04Word_is k s i hs hi, hc, decide_true, if_true, Option.bind_some, List.length_singleton]
 ·intro again out i hi hi2
  have w : wi64 ((i : Int) + 4) = ((i + 4 : Nat) : Int) := (qAH _ (by omega)).trans (by omega)
  have c1 : ¬ ((i + 4 : Nat) : Int) ≤ (s.size : Int) := by omega
  simp only [w, c1, decide_false, Bool.false_eq_true, if_false]
 ·rfl
/-- A word's bytes. -/
theorem qEz (k : Nat) {n : Int} (h : W32 n) : qBo k (n, ()) = some (qAK (four n), ((), ())) := by
 obtain ⟨h0, h1⟩ := h
 unfold qBo four
 have c : (0 : Int) ≤ n ∧ n ≤ 4294967295 := by omega
 have e24 : Int.fdiv n (2 ^ (min (Int.toNat (24 : Int)) (IntKind.bits .i64))) = n / 16777216 := by rw [Int.fdiv_eq_ediv_of_nonneg _ (by decide)]; rfl
 have e16 : Int.fdiv n (2 ^ (min (Int.toNat (16 : Int)) (IntKind.bits .i64))) = n / 65536 := by rw [Int.fdiv_eq_ediv_of_nonneg _ (by decide)]; rfl
 have e8 : Int.fdiv n (2 ^ (min (Int.toNat (8 : Int)) (IntKind.bits .i64))) = n / 256 := by rw [Int.fdiv_eq_ediv_of_nonneg _ (by decide)]; rfl
 have a8 : ∀ m : Int, 0 ≤ m → m < 4294967296 → wu8 (qAR .and .i64 m 255) = m % 256 := fun m h0 h1 => by
  have := and_mask 8 (by omega) m h0 (by omega)
  rw [show ((2 : Int) ^ 8 - 1) = 255 by decide, show ((2 : Int) ^ 8) = 256 by decide] at this
  rw [this]
  exact (w8_mod _).trans (by omega)
 simp only [qBD, c, e24, e16, e8, and_self, decide_true, Bool.not_true, Bool.false_eq_true, if_false, Option.bind_some]
 rw [a8 n (by omega) (by omega), a8 (n / 256) (by omega) (by omega), a8 (n / 65536) (by omega) (by omega), a8 (n / 16777216) (by omega) (by omega)]
theorem fl_append (a b : List Int) : fl (a ++ b) = fl a ++ fl b := by simp [fl]
theorem fl_take_succ (l : List Int) (i : Nat) (h : i < l.length) : fl (l.take (i + 1)) = fl (l.take i) ++ four (rdI l (i : Int)) := by
 rw [List.take_succ_eq_append_getElem h, fl_append, qAt l i h]
 simp [fl]
theorem qGo (k : Nat) (l : List Int) (hl : l.length ≤ 1000) (hw : allW l) (hk : l.length < k) : qCh k (l, ()) = some (qAK (fl l), ((), ())) := by
 unfold qCh
 refine (qB8 (A := Unit) (fun i _ => (qAK (fl (l.take i)), (l, ((l.length : Int), ((i : Int), ()))))) l.length (fun _ _ => ()) (fun _ => some (qAK (fl l), ((), ()))) (fun _ _ => True) ?_ ?_ l.length 0 () k (by omega) trivial hk).trans rfl
 ·intro again i _ hi _
  have c1 : (i : Int) < (l.length : Int) := by omega
  have c2 : (0 : Int) ≤ (i : Int) := by omega
  have w1 : wi64 ((i : Int) + 1) = ((i + 1 : Nat) : Int) := (qAH _ (by omega)).trans (by omega)
  have hW : W32 (rdI l (i : Int)) := by rw [qAt l i hi]; exact hw _ (List.getElem_mem _)
  have hsz : (qAK (fl (l.take i))).size + (qAK (four (rdI l (i : Int)))).size ≤ maxStr := qBv _ _ (by rw [qAX, qAX, fl_len, List.length_take]; simp only [four, List.length_cons, List.length_nil]; omega)
  refine ⟨?_, trivial⟩
  simp only [c1, c2, w1, qDf, qEz k hW, hsz, fl_take_succ l i hi, strOf_append, and_self, decide_true, if_true, Option.bind_some]
 ·intro again _ _
  simp [List.take_of_length_le]
theorem qG7 (k : Nat) (l : List Int) (hl : l.length ≤ 1000) (hw : allW l) (hk : l.length < k) : qCd k (l, ()) = some (qAK (fl l), ((), ())) := by
 unfold qCd
 refine (qB8 (A := Unit) (fun i _ => (l, (fl (l.take i), ((i : Int), ())))) l.length (fun _ _ => ()) (fun _ => some (qAK (fl l), ((), ()))) (fun _ _ => True) ?_ ?_ l.length 0 () k (by omega) trivial hk).trans rfl
 ·intro again i _ hi _
  have c1 : (i : Int) < (l.length : Int) := by omega
  have c2 : (0 : Int) ≤ (i : Int) := by omega
  have w1 : wi64 ((i : Int) + 1) = ((i + 1 : Nat) : Int) := (qAH _ (by omega)).trans (by omega)
  have hW : W32 (rdI l (i : Int)) := by rw [qAt l i hi]; exact hw _ (List.getElem_mem _)
  obtain ⟨g0, g1⟩ := hW
  have e : [(wu8 ((wu32 (Int.tdiv (rdI l (i : Int)) (16777216 : Int))))), (wu8 ((Int.tmod (wu32 (Int.tdiv (rdI l (i : Int)) (65536 : Int))) (256 : Int)))), (wu8 ((Int.tmod (wu32 (Int.tdiv (rdI l (i : Int)) (256 : Int))) (256 : Int)))), (wu8 ((Int.tmod (rdI l (i : Int)) (256 : Int))))] = four (rdI l (i : Int)) := by
   have u : ∀ m : Int, 0 ≤ m → m < 4294967296 → wu32 m = m := fun m a b => by show IntKind.u32.wrap m = m; rw [IntKind.wrap_u32]; omega
   rw [Int.tdiv_eq_ediv_of_nonneg g0, Int.tdiv_eq_ediv_of_nonneg g0, Int.tdiv_eq_ediv_of_nonneg g0, u _ (by omega) (by omega), u _ (by omega) (by omega), u _ (by omega) (by omega), Int.tmod_eq_emod_of_nonneg (by omega), Int.tmod_eq_emod_of_nonneg (by omega), Int.tmod_eq_emod_of_nonneg (by omega)]
   unfold four
   simp only [wu8, w8_mod, Int.emod_emod]
  have hsz : (fl (l.take i)).length + (four (rdI l (i : Int))).length ≤ capMax := qC0 _ _ (by rw [fl_len, List.length_take]; simp only [four, List.length_cons, List.length_nil]; omega)
  refine ⟨?_, trivial⟩
  simp only [c1, c2, w1, qDf, e, hsz, fl_take_succ l i hi, and_self, decide_true, if_true]
 ·intro again _ _
  simp [List.take_of_length_le]
def sg (a b : Nat) (c : Int) (x : Int) : Int := xr (xr (rt x a) (rt x b)) (x / c)
def bs (a b c : Nat) (x : Int) : Int := xr (xr (rt x a) (rt x b)) (rt x c)
def chI (e f g : Int) : Int := xr (an e f) (an (4294967295 - e) g)
def mjI (a b c : Int) : Int := xr (xr (an a b) (an a c)) (an b c)
theorem div_W {x c : Int} (h : W32 x) (hc : 0 < c) : W32 (x / c) := by
 obtain ⟨h0, h1⟩ := h
 exact ⟨Int.ediv_nonneg h0 (by omega), Int.lt_of_le_of_lt (Int.ediv_le_self _ h0) h1⟩
theorem sg_W {a b : Nat} {c x : Int} (ha : a ≤ 32) (hb : b ≤ 32) (hc : 0 < c) (h : W32 x) : W32 (sg a b c x) := xr_W (xr_W (rt_W ha h) (rt_W hb h)) (div_W h hc)
theorem bs_W {a b c : Nat} {x : Int} (ha : a ≤ 32) (hb : b ≤ 32) (hc : c ≤ 32) (h : W32 x) : W32 (bs a b c x) := xr_W (xr_W (rt_W ha h) (rt_W hb h)) (rt_W hc h)
theorem flip_W {e : Int} (h : W32 e) : W32 (4294967295 - e) := by obtain ⟨h0, h1⟩ := h; exact ⟨by omega, by omega⟩
theorem ch_W {e f g : Int} (he : W32 e) : W32 (chI e f g) := xr_W (an_W he) (an_W (flip_W he))
theorem mj_W {a b c : Int} (ha : W32 a) (hb : W32 b) : W32 (mjI a b c) := xr_W (xr_W (an_W ha) (an_W ha)) (an_W hb)
theorem mod_W (x : Int) : W32 (x % 4294967296) := ⟨by omega, by omega⟩
theorem qH5 (n : Int) : wu32 n = n % 4294967296 := IntKind.wrap_u32 n
theorem mask_is {n : Int} (h0 : 0 ≤ n) (h1 : n < 9223372036854775808) : qAR .and .i64 n 4294967295 = n % 4294967296 := by
 have := and_mask 32 (by omega) n h0 (by omega)
 rw [show ((2 : Int) ^ 32 - 1) = 4294967295 by decide, show ((2 : Int) ^ 32) = 4294967296 by decide] at this
 exact this
theorem qDg (k : Nat) {x lo hi : Int} {n : Nat} (hn : n ≤ 32) (hlo : lo = 2 ^ n) (hhi : hi = 2 ^ (32 - n)) (h : W32 x) : qCc k (x, (lo, (hi, ()))) = some (rt x n, ((), ((), ((), ())))) := by
 have hW := rt_W hn h
 obtain ⟨m, rfl⟩ := Int.eq_ofNat_of_zero_le h.1
 have hm : m < 2 ^ 32 := by have := qCk h; simpa using this
 obtain ⟨q1, q2⟩ := rt_nat hn hm
 have p32 : (2 : Nat) ^ 32 = 4294967296 := by decide
 have hlo' : lo = ((2 ^ n : Nat) : Int) := by rw [hlo, Int.natCast_pow]; rfl
 have hhi' : hi = ((2 ^ (32 - n) : Nat) : Int) := by rw [hhi, Int.natCast_pow]; rfl
 have hpos := Nat.two_pow_pos n
 have c : ¬ lo = 0 := by omega
 have e1 : Int.tdiv (m : Int) lo = ((m / 2 ^ n : Nat) : Int) := by rw [Int.tdiv_eq_ediv_of_nonneg (by omega), hlo']; rfl
 have e2 : Int.tmod (m : Int) lo * hi = ((m % 2 ^ n * 2 ^ (32 - n) : Nat) : Int) := by rw [Int.tmod_eq_emod_of_nonneg (by omega), hlo', hhi', Int.natCast_mul]; rfl
 unfold qCc
 simp only [c, e1, e2, qH5, if_false]
 rw [rt_cast]
 generalize m / 2 ^ n = A at *
 generalize m % 2 ^ n * 2 ^ (32 - n) = B at *
 congr 2
 omega
theorem sgS_is (k : Nat) {x lo1 lo2 c : Int} {a b : Nat} (ha : a ≤ 31 ∧ 1 ≤ a) (hb : b ≤ 31 ∧ 1 ≤ b) (h1 : lo1 = 2 ^ a) (h2 : lo2 = 2 ^ b) (h3 : wu32 (wu32 (Int.tdiv 2147483648 lo1) * 2) = 2 ^ (32 - a)) (h4 : wu32 (wu32 (Int.tdiv 2147483648 lo2) * 2) = 2 ^ (32 - b)) (hc : 0 < c) (h : W32 x) :
  qGf k (x, (lo1, (lo2, (c, (true, ()))))) = some (sg a b c x, ((), ((), ((), ((), ((), ())))))) := by
 have p1 : ¬ lo1 = 0 := by rw [h1]; have := Int.pow_pos (n := 2) (m := a) (by decide); omega
 have p2 : ¬ lo2 = 0 := by rw [h2]; have := Int.pow_pos (n := 2) (m := b) (by decide); omega
 have p3 : ¬ c = 0 := by omega
 have e : wu32 (Int.tdiv x c) = x / c := by
  have := div_W h hc
  obtain ⟨q1, q2⟩ := this
  rw [Int.tdiv_eq_ediv_of_nonneg h.1, qH5]
  omega
 unfold qGf
 simp only [p1, p2, p3, h3, h4, qDg k (by omega) h1 rfl h, qDg k (by omega) h2 rfl h, e, Bool.not_true, Bool.false_eq_true, if_false, Option.bind_some]
 rw [qEy (rt_W (by omega) h) (rt_W (by omega) h), qEy (xr_W (rt_W (by omega) h) (rt_W (by omega) h)) (div_W h hc)]
 rfl
theorem bsS_is (k : Nat) {x lo1 lo2 lo3 : Int} {a b c : Nat} (ha : a ≤ 31 ∧ 1 ≤ a) (hb : b ≤ 31 ∧ 1 ≤ b) (hc : c ≤ 31 ∧ 1 ≤ c) (h1 : lo1 = 2 ^ a) (h2 : lo2 = 2 ^ b) (h3 : lo3 = 2 ^ c) (h4 : wu32 (wu32 (Int.tdiv 2147483648 lo1) * 2) = 2 ^ (32 - a)) (h5 : wu32 (wu32 (Int.tdiv 2147483648 lo2) * 2) = 2 ^ (32 - b))
  (h6 : wu32 (wu32 (Int.tdiv 2147483648 lo3) * 2) = 2 ^ (32 - c)) (h : W32 x) :
  qGf k (x, (lo1, (lo2, (lo3, (false, ()))))) = some (bs a b c x, ((), ((), ((), ((), ((), ())))))) := by
 have p1 : ¬ lo1 = 0 := by rw [h1]; have := Int.pow_pos (n := 2) (m := a) (by decide); omega
 have p2 : ¬ lo2 = 0 := by rw [h2]; have := Int.pow_pos (n := 2) (m := b) (by decide); omega
 have p3 : ¬ lo3 = 0 := by rw [h3]; have := Int.pow_pos (n := 2) (m := c) (by decide); omega
 unfold qGf
 simp only [p1, p2, p3, h4, h5, h6, qDg k (by omega) h1 rfl h, qDg k (by omega) h2 rfl h, qDg k (by omega) h3 rfl h, Bool.not_false, if_true, if_false, Option.bind_some]
 rw [qEy (rt_W (by omega) h) (rt_W (by omega) h), qEy (xr_W (rt_W (by omega) h) (rt_W (by omega) h)) (rt_W (by omega) h)]
 rfl
/-- The next word of a block. -/
def exW (w : List Int) (t : Nat) : Int := (sg 17 19 1024 (rdI w ((t - 2 : Nat) : Int)) + rdI w ((t - 7 : Nat) : Int) + sg 7 18 8 (rdI w ((t - 15 : Nat) : Int)) + rdI w ((t - 16 : Nat) : Int)) % 4294967296
def exG (t : Nat) (w : List Int) : List Int := w ++ [exW w t]
def exL (w : List Int) : List Int := iterN exG 48 16 w
theorem qGZ {l : List Int} (h : allW l) {i : Nat} (hi : i < l.length) : W32 (rdI l (i : Int)) := by rw [qAt l i hi]; exact h _ (List.getElem_mem _)
theorem exG_inv {t : Nat} {w : List Int} (h : w.length = t ∧ allW w) : (exG t w).length = t + 1 ∧ allW (exG t w) := by
 refine ⟨by simp [exG, h.1], ?_⟩
 unfold exG
 rw [allW_append]
 exact ⟨h.2, qH4.2 ⟨mod_W _, by intro x hx; cases hx⟩⟩
theorem exL_inv {w : List Int} (h : w.length = 16 ∧ allW w) : (exL w).length = 64 ∧ allW (exL w) :=
 iterN_inv exG (fun t w => w.length = t ∧ allW w) 64 (fun _ _ _ h => exG_inv h) 48 16 w (by omega) h
theorem ex_step {w : List Int} {t : Nat} (ht : 16 ≤ t ∧ t < 64) (h : w.length = t ∧ allW w) : W32 (rdI w ((t - 2 : Nat) : Int)) ∧ W32 (rdI w ((t - 7 : Nat) : Int)) ∧ W32 (rdI w ((t - 15 : Nat) : Int)) ∧ W32 (rdI w ((t - 16 : Nat) : Int)) ∧
  wi64 ((t : Int) - 2) = ((t - 2 : Nat) : Int) ∧ wi64 ((t : Int) - 7) = ((t - 7 : Nat) : Int) ∧ wi64 ((t : Int) - 15) = ((t - 15 : Nat) : Int) ∧ wi64 ((t : Int) - 16) = ((t - 16 : Nat) : Int) ∧ wi64 ((t : Int) + 1) = ((t + 1 : Nat) : Int) ∧
  (((t - 2 : Nat) : Int) < (w.length : Int) ∧ ((t - 7 : Nat) : Int) < (w.length : Int) ∧ ((t - 15 : Nat) : Int) < (w.length : Int) ∧ ((t - 16 : Nat) : Int) < (w.length : Int)) :=
 ⟨qGZ h.2 (by omega), qGZ h.2 (by omega), qGZ h.2 (by omega), qGZ h.2 (by omega), (qAH _ (by omega)).trans (by omega), (qAH _ (by omega)).trans (by omega), (qAH _ (by omega)).trans (by omega), (qAH _ (by omega)).trans (by omega), (qAH _ (by omega)).trans (by omega), by omega, by omega, by omega, by omega⟩
theorem sgI_is {a b : Nat} {c x : Int} (ha : a ≤ 32) (hb : b ≤ 32) (hc : 0 < c) (h : W32 x) : qAR .xor .i64 (qAR .xor .i64 (rt x a) (rt x b)) (x / c) = sg a b c x := by
 rw [qDu (rt_W ha h) (rt_W hb h), qDu (xr_W (rt_W ha h) (rt_W hb h)) (div_W h hc)]
 rfl
theorem bsI_is {a b c : Nat} {x : Int} (ha : a ≤ 32) (hb : b ≤ 32) (hc : c ≤ 32) (h : W32 x) : qAR .xor .i64 (qAR .xor .i64 (rt x a) (rt x b)) (rt x c) = bs a b c x := by
 rw [qDu (rt_W ha h) (rt_W hb h), qDu (xr_W (rt_W ha h) (rt_W hb h)) (rt_W hc h)]
 rfl
theorem expanded_is (k : Nat) (s : ByteArray) (hs : s.size = 64) (hk : 1048576 < k) : qEF k (s, ()) = some (exL (wd (qAE s)), ((), ())) := by
 unfold qEF
 simp only [i_wordsOf_is k s (by omega) (by omega), Option.bind_some]
 have h0 : (wd (qAE s)).length = 16 ∧ allW (wd (qAE s)) := ⟨by rw [wd_len, qAV, hs], wd_W (qCj s)⟩
 refine (qB8 (A := List Int) (fun i w => (w, ((i : Int), ()))) 64 exG (fun w => some (w, ((), ()))) (fun t w => 16 ≤ t ∧ w.length = t ∧ allW w) ?_ ?_ 48 16 _ k (by omega) ⟨by omega, h0⟩ (by omega)).trans rfl
 ·intro again t w ht hw
  obtain ⟨g2, g7, g15, g16, e2, e7, e15, e16, e1, c2, c7, c15, c16⟩ := ex_step ⟨hw.1, ht⟩ hw.2
  have c : (t : Int) < 64 := by omega
  refine ⟨?_, by omega, exG_inv hw.2⟩
  have hc : w.length + 1 ≤ capMax := qC0 _ _ (by omega)
  have nn : ∀ m : Nat, (0 : Int) ≤ (m : Int) := fun m => Int.natCast_nonneg m
  have t7 : qAZ k (rdI w ((t - 15 : Nat) : Int), ((7 : Int), ())) = _ := qBA k (n := 7) (by omega) g15
  have t18 : qAZ k (rdI w ((t - 15 : Nat) : Int), ((18 : Int), ())) = _ := qBA k (n := 18) (by omega) g15
  have t17 : qAZ k (rdI w ((t - 2 : Nat) : Int), ((17 : Int), ())) = _ := qBA k (n := 17) (by omega) g2
  have t19 : qAZ k (rdI w ((t - 2 : Nat) : Int), ((19 : Int), ())) = _ := qBA k (n := 19) (by omega) g2
  have f3 : ∀ x : Int, Int.fdiv x (2 ^ (min (Int.toNat (3 : Int)) (IntKind.bits .i64))) = x / 8 := fun x => by rw [Int.fdiv_eq_ediv_of_nonneg _ (by decide)]; rfl
  have f10 : ∀ x : Int, Int.fdiv x (2 ^ (min (Int.toNat (10 : Int)) (IntKind.bits .i64))) = x / 1024 := fun x => by rw [Int.fdiv_eq_ediv_of_nonneg _ (by decide)]; rfl
  have s0 := sgI_is (a := 7) (b := 18) (c := 8) (by omega) (by omega) (by omega) g15
  have s1 := sgI_is (a := 17) (b := 19) (c := 1024) (by omega) (by omega) (by omega) g2
  obtain ⟨x0, x1⟩ := sg_W (a := 7) (b := 18) (c := 8) (by omega) (by omega) (by omega) g15
  obtain ⟨y0, y1⟩ := sg_W (a := 17) (b := 19) (c := 1024) (by omega) (by omega) (by omega) g2
  obtain ⟨u0, u1⟩ := g7
  obtain ⟨v0, v1⟩ := g16
  have hm : qAR .and .i64 (wi64 (wi64 (wi64 (sg 17 19 1024 (rdI w ((t - 2 : Nat) : Int)) + rdI w ((t - 7 : Nat) : Int)) + sg 7 18 8 (rdI w ((t - 15 : Nat) : Int))) + rdI w ((t - 16 : Nat) : Int))) 4294967295 = exW w t := by
   rw [show wi64 (sg 17 19 1024 (rdI w ((t - 2 : Nat) : Int)) + rdI w ((t - 7 : Nat) : Int)) = _ from qAH _ (by omega), show wi64 (sg 17 19 1024 (rdI w ((t - 2 : Nat) : Int)) + rdI w ((t - 7 : Nat) : Int) + sg 7 18 8 (rdI w ((t - 15 : Nat) : Int))) = _ from qAH _ (by omega),
    show wi64 (sg 17 19 1024 (rdI w ((t - 2 : Nat) : Int)) + rdI w ((t - 7 : Nat) : Int) + sg 7 18 8 (rdI w ((t - 15 : Nat) : Int)) + rdI w ((t - 16 : Nat) : Int)) = _ from qAH _ (by omega), mask_is (by omega) (by omega)]
   rfl
  simp only [c, e1, e2, e7, e15, e16, c2, c7, c15, c16, nn, qDf, t7, t18, t17, t19, f3, f10, s0, s1, hm, hc, and_self, decide_true, if_true, Option.bind_some, List.length_singleton]
  rfl
 ·intro again w hw
  simp
/-- The state in the rounds. -/
abbrev St8 := Int × Int × Int × Int × Int × Int × Int × Int
def allS (s : St8) : Prop := W32 s.1 ∧ W32 s.2.1 ∧ W32 s.2.2.1 ∧ W32 s.2.2.2.1 ∧ W32 s.2.2.2.2.1 ∧ W32 s.2.2.2.2.2.1 ∧ W32 s.2.2.2.2.2.2.1 ∧ W32 s.2.2.2.2.2.2.2
def T1 (kt wt : Int) (s : St8) : Int := s.2.2.2.2.2.2.2 + bs 6 11 25 s.2.2.2.2.1 + chI s.2.2.2.2.1 s.2.2.2.2.2.1 s.2.2.2.2.2.2.1 + kt + wt
def T2 (s : St8) : Int := bs 2 13 22 s.1 + mjI s.1 s.2.1 s.2.2.1
def rdG (kl wl : List Int) (t : Nat) (s : St8) : St8 :=
 ((T1 (rdI kl (t : Int)) (rdI wl (t : Int)) s + T2 s) % 4294967296, s.1, s.2.1, s.2.2.1, (s.2.2.2.1 + T1 (rdI kl (t : Int)) (rdI wl (t : Int)) s) % 4294967296, s.2.2.2.2.1, s.2.2.2.2.2.1, s.2.2.2.2.2.2.1)
theorem rdG_W {kl wl : List Int} {t : Nat} {s : St8} (h : allS s) : allS (rdG kl wl t s) := by
 obtain ⟨h1, h2, h3, h4, h5, h6, h7, h8⟩ := h
 exact ⟨mod_W _, h1, h2, h3, mod_W _, h5, h6, h7⟩
def KL : List Int := [1116352408, 1899447441, 3049323471, 3921009573, 961987163, 1508970993, 2453635748, 2870763221, 3624381080, 310598401, 607225278, 1426881987, 1925078388, 2162078206, 2614888103, 3248222580, 3835390401, 4022224774, 264347078, 604807628, 770255983, 1249150122, 1555081692, 1996064986, 2554220882, 2821834349, 2952996808, 3210313671, 3336571891, 3584528711, 113926993, 338241895, 666307205, 773529912, 1294757372, 1396182291, 1695183700, 1986661051, 2177026350, 2456956037, 2730485921, 2820302411, 3259730800, 3345764771, 3516065817, 3600352804, 4094571909, 275423344, 430227734, 506948616, 659060556, 883997877, 958139571, 1322822218, 1537002063, 1747873779, 1955562222, 2024104815, 2227730452, 2361852424, 2428436474, 2756734187, 3204031479, 3329325298]
theorem KL_len : KL.length = 64 := rfl
theorem KL_W : allW KL := by
 have : KL.all (fun x => decide (0 ≤ x ∧ x < 4294967296)) = true := by decide
 intro x hx
 have := List.all_eq_true.1 this x hx
 simpa [W32] using this
theorem l04K_is (k : Nat) : s_l04K k () = some (KL, ()) := rfl
def rds (kl wl : List Int) (s : St8) : St8 := iterN (rdG kl wl) 64 0 s
def toL (s : St8) : List Int := [s.1, s.2.1, s.2.2.1, s.2.2.2.1, s.2.2.2.2.1, s.2.2.2.2.2.1, s.2.2.2.2.2.2.1, s.2.2.2.2.2.2.2]
def ofL (l : List Int) : St8 := (rdI l 0, rdI l 1, rdI l 2, rdI l 3, rdI l 4, rdI l 5, rdI l 6, rdI l 7)
/-- What a block makes of a state. -/
def blk (st : List Int) (b : ByteArray) : List Int := List.zipWith (fun x y => (x + y) % 4294967296) st (toL (rds KL (exL (wd (qAE b))) (ofL st)))
theorem blk_inv {st : List Int} {b : ByteArray} (h : st.length = 8) : (blk st b).length = 8 ∧ allW (blk st b) := by
 refine ⟨by simp [blk, h, toL], ?_⟩
 intro x hx
 unfold blk at hx
 obtain ⟨i, hi, rfl⟩ := List.mem_iff_getElem.1 hx
 rw [List.getElem_zipWith]
 exact mod_W _
theorem chI64 {e f g : Int} (he : W32 e) (hf : W32 f) (hg : W32 g) : qAR .xor .i64 (qAR .and .i64 e f) (qAR .and .i64 (qAR .xor .i64 4294967295 e) g) = chI e f g := by
 have hm : W32 4294967295 := ⟨by decide, by decide⟩
 rw [qDu hm he, flip_is he, qH3 he hf, qH3 (flip_W he) hg, qDu (an_W he) (an_W (flip_W he))]
 rfl
theorem mjI64 {a b c : Int} (ha : W32 a) (hb : W32 b) (hc : W32 c) : qAR .xor .i64 (qAR .xor .i64 (qAR .and .i64 a b) (qAR .and .i64 a c)) (qAR .and .i64 b c) = mjI a b c := by
 rw [qH3 ha hb, qH3 ha hc, qH3 hb hc, qDu (an_W ha) (an_W ha), qDu (xr_W (an_W ha) (an_W ha)) (an_W hb)]
 rfl
theorem chI32 {e f g : Int} (he : W32 e) (hf : W32 f) (hg : W32 g) : qAR .xor .u32 (qAR .and .u32 e f) (qAR .and .u32 (wu32 (4294967295 - e)) g) = chI e f g := by
 have : wu32 (4294967295 - e) = 4294967295 - e := by obtain ⟨h0, h1⟩ := he; rw [qH5]; omega
 rw [this, qH2 he hf, qH2 (flip_W he) hg, qEy (an_W he) (an_W (flip_W he))]
 rfl
theorem mjI32 {a b c : Int} (ha : W32 a) (hb : W32 b) (hc : W32 c) : qAR .xor .u32 (qAR .xor .u32 (qAR .and .u32 a b) (qAR .and .u32 a c)) (qAR .and .u32 b c) = mjI a b c := by
 rw [qH2 ha hb, qH2 ha hc, qH2 hb hc, qEy (an_W ha) (an_W ha), qEy (xr_W (an_W ha) (an_W ha)) (an_W hb)]
 rfl
/-- A list is turned place by place, by another one of its length. -/
theorem loop_zip {R : Type} {step : (List Int × List Int × Int × Int × Unit → Option R) → List Int × List Int × Int × Int × Unit → Option R} (g : Int → Int → Int) (V L : List Int) (n : Int) (fin : List Int → Option R) (hl : V.length = L.length)
  (hs : ∀ again (W : List Int) (i : Nat), i < L.length → W.length = L.length → rdI W (i : Int) = rdI V (i : Int) → step again (W, (L, (n, ((i : Int), ())))) = again (W.set i (g (rdI W (i : Int)) (rdI L (i : Int))), (L, (n, (((i + 1 : Nat) : Int), ())))))
  (he : ∀ again, step again (List.zipWith g V L, (L, (n, ((L.length : Int), ())))) = fin (List.zipWith g V L)) (k : Nat) (hk : L.length < k) : qAG step k (V, (L, (n, ((0 : Nat) : Int), ()))) = fin (List.zipWith g V L) := by
 have key : ∀ m i k, i + m = L.length → m < k → qAG step k ((List.zipWith g V L).take i ++ V.drop i, (L, (n, ((i : Int), ())))) = fin (List.zipWith g V L) := by
  intro m
  induction m with
  | zero =>
   intro i k h hk
   obtain ⟨k, rfl⟩ : ∃ k', k = k' + 1 := ⟨k - 1, by omega⟩
   have : i = L.length := by omega
   subst this
   show step _ _ = _
   rw [List.take_of_length_le (by rw [List.length_zipWith]; omega), List.drop_eq_nil_of_le (by omega), List.append_nil, he]
  | succ m ih =>
   intro i k h hk
   obtain ⟨k, rfl⟩ : ∃ k', k = k' + 1 := ⟨k - 1, by omega⟩
   have hz : (List.zipWith g V L).length = L.length := by rw [List.length_zipWith]; omega
   have ht : ((List.zipWith g V L).take i).length = i := by rw [List.length_take]; omega
   show step _ _ = _
   have hi : i < V.length := by omega
   have e1 : rdI ((List.zipWith g V L).take i ++ V.drop i) (i : Int) = V[i] := by
    rw [qAt _ i (by rw [List.length_append, ht, List.length_drop]; omega), List.getElem_append_right (by omega), List.getElem_drop]
    congr 1
    omega
   rw [hs _ _ i (by omega) (by rw [List.length_append, ht, List.length_drop]; omega) (by rw [e1, qAt V i hi])]
   have e2 : ((List.zipWith g V L).take i ++ V.drop i).set i (g V[i] L[i]) = (List.zipWith g V L).take (i + 1) ++ V.drop (i + 1) := by
    rw [List.set_append_right _ _ (by omega), ht, Nat.sub_self, List.drop_eq_getElem_cons hi, List.set_cons_zero, List.take_succ_eq_append_getElem (by omega), List.getElem_zipWith, List.append_assoc]
    rfl
   rw [e1, qAt L i (by omega), e2]
   exact ih (i + 1) k (by omega) (by omega)
 have := key L.length 0 k (by omega) hk
 simpa using this
theorem loop_outs {R : Type} {step : (List Int × List Int × List Int × Int × Unit → Option R) → List Int × List Int × List Int × Int × Unit → Option R} (g : Int → Int → Int) (V L : List Int) (fin : List Int → Option R) (hl : V.length = L.length)
  (hs : ∀ again (out : List Int) (i : Nat), i < L.length → out.length = i → step again (V, (L, (out, ((i : Int), ())))) = again (V, (L, (out ++ [g (rdI V (i : Int)) (rdI L (i : Int))], (((i + 1 : Nat) : Int), ())))))
  (he : ∀ again (W : List Int), step again (V, (L, (W, ((L.length : Int), ())))) = fin W) (k : Nat) (hk : L.length < k) : qAG step k (V, (L, (([] : List Int), ((0 : Nat) : Int), ()))) = fin (List.zipWith g V L) := by
 have key : ∀ m i k, i + m = L.length → m < k → qAG step k (V, (L, ((List.zipWith g V L).take i, ((i : Int), ())))) = fin (List.zipWith g V L) := by
  intro m
  induction m with
  | zero =>
   intro i k h hk
   obtain ⟨k, rfl⟩ : ∃ k', k = k' + 1 := ⟨k - 1, by omega⟩
   have : i = L.length := by omega
   subst this
   show step _ _ = _
   rw [he, List.take_of_length_le (by rw [List.length_zipWith]; omega)]
  | succ m ih =>
   intro i k h hk
   obtain ⟨k, rfl⟩ : ∃ k', k = k' + 1 := ⟨k - 1, by omega⟩
   have hz : (List.zipWith g V L).length = L.length := by rw [List.length_zipWith]; omega
   show step _ _ = _
   rw [hs _ _ i (by omega) (by rw [List.length_take]; omega)]
   rw [qAt V i (by omega), qAt L i (by omega), ← List.getElem_zipWith (f := g) (l := V) (l' := L) (i := i) (h := by omega), ← List.take_succ_eq_append_getElem (by omega)]
   exact ih (i + 1) k (by omega) (by omega)
 have := key L.length 0 k (by omega) hk
 simpa using this
theorem zip_W (V L : List Int) : allW (List.zipWith (fun x y => (x + y) % 4294967296) V L) := by
 intro x hx
 obtain ⟨i, hi, rfl⟩ := List.mem_iff_getElem.1 hx
 rw [List.getElem_zipWith]
 exact mod_W _
theorem T_bd {kt wt : Int} {s : St8} (hk : W32 kt) (hw : W32 wt) (h : allS s) : (0 ≤ T1 kt wt s ∧ T1 kt wt s < 21474836480) ∧ (0 ≤ T2 s ∧ T2 s < 8589934592) := by
 obtain ⟨ha, hb, hc, hd, he, hf, hg, hh⟩ := h
 obtain ⟨x0, x1⟩ := bs_W (a := 6) (b := 11) (c := 25) (by omega) (by omega) (by omega) he
 obtain ⟨y0, y1⟩ := ch_W (f := s.2.2.2.2.2.1) (g := s.2.2.2.2.2.2.1) he
 obtain ⟨z0, z1⟩ := bs_W (a := 2) (b := 13) (c := 22) (by omega) (by omega) (by omega) ha
 obtain ⟨u0, u1⟩ := mj_W (c := s.2.2.1) ha hb
 obtain ⟨k0, k1⟩ := hk
 obtain ⟨w0, w1⟩ := hw
 obtain ⟨h0, h1⟩ := hh
 unfold T1 T2
 omega
theorem i_round_is (k : Nat) (st b : ByteArray) (hst : st.size = 32) (hb : b.size = 64) (hk : 1048576 < k) : i_round k (st, (b, ())) = some (qAK (fl (blk (wd (qAE st)) b)), ((), ((), ()))) := by
 unfold i_round
 simp only [expanded_is k b hb hk, i_wordsOf_is k st (by omega) (by omega), Option.bind_some]
 have hV : (wd (qAE st)).length = 8 := by rw [wd_len, qAV, hst]
 have hVW := wd_W (qCj st)
 have hw := exL_inv (w := wd (qAE b)) ⟨by rw [wd_len, qAV, hb], wd_W (qCj b)⟩
 unfold blk
 generalize exL (wd (qAE b)) = W at *
 generalize wd (qAE st) = V at *
 unfold qEo
 simp only [Option.bind_some]
 have g : ∀ i : Nat, i < 8 → ((i : Nat) : Int) < (V.length : Int) := fun i hi => by omega
 have g0 : (0 : Int) < (V.length : Int) := by omega
 have g1 : (1 : Int) < (V.length : Int) := by omega
 have g2 : (2 : Int) < (V.length : Int) := by omega
 have g3 : (3 : Int) < (V.length : Int) := by omega
 have g4 : (4 : Int) < (V.length : Int) := by omega
 have g5 : (5 : Int) < (V.length : Int) := by omega
 have g6 : (6 : Int) < (V.length : Int) := by omega
 have g7 : (7 : Int) < (V.length : Int) := by omega
 rw [if_pos ⟨by decide, g0⟩, if_pos ⟨by decide, g1⟩, if_pos ⟨by decide, g2⟩, if_pos ⟨by decide, g3⟩, if_pos ⟨by decide, g4⟩, if_pos ⟨by decide, g5⟩, if_pos ⟨by decide, g6⟩, if_pos ⟨by decide, g7⟩]
 simp only [qDf]
 have hS : allS (ofL V) := ⟨qGZ (i := 0) hVW (by omega), qGZ (i := 1) hVW (by omega), qGZ (i := 2) hVW (by omega), qGZ (i := 3) hVW (by omega), qGZ (i := 4) hVW (by omega), qGZ (i := 5) hVW (by omega), qGZ (i := 6) hVW (by omega), qGZ (i := 7) hVW (by omega)⟩
 generalize hC : ((1116352408 : Int), ((1899447441 : Int), ((3049323471 : Int), ((3921009573 : Int), ((961987163 : Int), ((1508970993 : Int), ((2453635748 : Int), ((2870763221 : Int), ((3624381080 : Int), ((310598401 : Int), ((607225278 : Int), ((1426881987 : Int), ((1925078388 : Int), ((2162078206 : Int), ((2614888103 : Int), ((3248222580 : Int), ((3835390401 : Int), ((4022224774 : Int), ((264347078 : Int), ((604807628 : Int), ((770255983 : Int), ((1249150122 : Int), ((1555081692 : Int), ((1996064986 : Int), ((2554220882 : Int), ((2821834349 : Int), ((2952996808 : Int), ((3210313671 : Int), ((3336571891 : Int), ((3584528711 : Int), ((113926993 : Int), ((338241895 : Int), ((666307205 : Int), ((773529912 : Int), ((1294757372 : Int), ((1396182291 : Int), ((1695183700 : Int), ((1986661051 : Int), ((2177026350 : Int), ((2456956037 : Int), ((2730485921 : Int), ((2820302411 : Int), ((3259730800 : Int), ((3345764771 : Int), ((3516065817 : Int), ((3600352804 : Int), ((4094571909 : Int), ((275423344 : Int), ((430227734 : Int), ((506948616 : Int), ((659060556 : Int), ((883997877 : Int), ((958139571 : Int), ((1322822218 : Int), ((1537002063 : Int), ((1747873779 : Int), ((1955562222 : Int), ((2024104815 : Int), ((2227730452 : Int), ((2361852424 : Int), ((2428436474 : Int), ((2756734187 : Int), ((3204031479 : Int), ((3329325298 : Int), ())))))))))))))))))))))))))))))))))))))))))))))))))))))))))))))))) = C
 have hKL : [C.1, C.2.1, C.2.2.1, C.2.2.2.1, C.2.2.2.2.1, C.2.2.2.2.2.1, C.2.2.2.2.2.2.1, C.2.2.2.2.2.2.2.1, C.2.2.2.2.2.2.2.2.1, C.2.2.2.2.2.2.2.2.2.1, C.2.2.2.2.2.2.2.2.2.2.1, C.2.2.2.2.2.2.2.2.2.2.2.1, C.2.2.2.2.2.2.2.2.2.2.2.2.1, C.2.2.2.2.2.2.2.2.2.2.2.2.2.1, C.2.2.2.2.2.2.2.2.2.2.2.2.2.2.1, C.2.2.2.2.2.2.2.2.2.2.2.2.2.2.2.1, C.2.2.2.2.2.2.2.2.2.2.2.2.2.2.2.2.1, C.2.2.2.2.2.2.2.2.2.2.2.2.2.2.2.2.2.1, C.2.2.2.2.2.2.2.2.2.2.2.2.2.2.2.2.2.2.1, C.2.2.2.2.2.2.2.2.2.2.2.2.2.2.2.2.2.2.2.1, C.2.2.2.2.2.2.2.2.2.2.2.2.2.2.2.2.2.2.2.2.1, C.2.2.2.2.2.2.2.2.2.2.2.2.2.2.2.2.2.2.2.2.2.1, C.2.2.2.2.2.2.2.2.2.2.2.2.2.2.2.2.2.2.2.2.2.2.1, C.2.2.2.2.2.2.2.2.2.2.2.2.2.2.2.2.2.2.2.2.2.2.2.1, C.2.2.2.2.2.2.2.2.2.2.2.2.2.2.2.2.2.2.2.2.2.2.2.2.1, C.2.2.2.2.2.2.2.2.2.2.2.2.2.2.2.2.2.2.2.2.2.2.2.2.2.1, C.2.2.2.2.2.2.2.2.2.2.2.2.2.2.2.2.2.2.2.2.2.2.2.2.2.2.1, C.2.2.2.2.2.2.2.2.2.2.2.2.2.2.2.2.2.2.2.2.2.2.2.2.2.2.2.1, C.2.2.2.2.2.2.2.2.2.2.2.2.2.2.2.2.2.2.2.2.2.2.2.2.2.2.2.2.1, C.2.2.2.2.2.2.2.2.2.2.2.2.2.2.2.2.2.2.2.2.2.2.2.2.2.2.2.2.2.1, C.2.2.2.2.2.2.2.2.2.2.2.2.2.2.2.2.2.2.2.2.2.2.2.2.2.2.2.2.2.2.1, C.2.2.2.2.2.2.2.2.2.2.2.2.2.2.2.2.2.2.2.2.2.2.2.2.2.2.2.2.2.2.2.1, C.2.2.2.2.2.2.2.2.2.2.2.2.2.2.2.2.2.2.2.2.2.2.2.2.2.2.2.2.2.2.2.2.1, C.2.2.2.2.2.2.2.2.2.2.2.2.2.2.2.2.2.2.2.2.2.2.2.2.2.2.2.2.2.2.2.2.2.1, C.2.2.2.2.2.2.2.2.2.2.2.2.2.2.2.2.2.2.2.2.2.2.2.2.2.2.2.2.2.2.2.2.2.2.1, C.2.2.2.2.2.2.2.2.2.2.2.2.2.2.2.2.2.2.2.2.2.2.2.2.2.2.2.2.2.2.2.2.2.2.2.1, C.2.2.2.2.2.2.2.2.2.2.2.2.2.2.2.2.2.2.2.2.2.2.2.2.2.2.2.2.2.2.2.2.2.2.2.2.1, C.2.2.2.2.2.2.2.2.2.2.2.2.2.2.2.2.2.2.2.2.2.2.2.2.2.2.2.2.2.2.2.2.2.2.2.2.2.1, C.2.2.2.2.2.2.2.2.2.2.2.2.2.2.2.2.2.2.2.2.2.2.2.2.2.2.2.2.2.2.2.2.2.2.2.2.2.2.1, C.2.2.2.2.2.2.2.2.2.2.2.2.2.2.2.2.2.2.2.2.2.2.2.2.2.2.2.2.2.2.2.2.2.2.2.2.2.2.2.1, C.2.2.2.2.2.2.2.2.2.2.2.2.2.2.2.2.2.2.2.2.2.2.2.2.2.2.2.2.2.2.2.2.2.2.2.2.2.2.2.2.1, C.2.2.2.2.2.2.2.2.2.2.2.2.2.2.2.2.2.2.2.2.2.2.2.2.2.2.2.2.2.2.2.2.2.2.2.2.2.2.2.2.2.1, C.2.2.2.2.2.2.2.2.2.2.2.2.2.2.2.2.2.2.2.2.2.2.2.2.2.2.2.2.2.2.2.2.2.2.2.2.2.2.2.2.2.2.1, C.2.2.2.2.2.2.2.2.2.2.2.2.2.2.2.2.2.2.2.2.2.2.2.2.2.2.2.2.2.2.2.2.2.2.2.2.2.2.2.2.2.2.2.1, C.2.2.2.2.2.2.2.2.2.2.2.2.2.2.2.2.2.2.2.2.2.2.2.2.2.2.2.2.2.2.2.2.2.2.2.2.2.2.2.2.2.2.2.2.1, C.2.2.2.2.2.2.2.2.2.2.2.2.2.2.2.2.2.2.2.2.2.2.2.2.2.2.2.2.2.2.2.2.2.2.2.2.2.2.2.2.2.2.2.2.2.1, C.2.2.2.2.2.2.2.2.2.2.2.2.2.2.2.2.2.2.2.2.2.2.2.2.2.2.2.2.2.2.2.2.2.2.2.2.2.2.2.2.2.2.2.2.2.2.1, C.2.2.2.2.2.2.2.2.2.2.2.2.2.2.2.2.2.2.2.2.2.2.2.2.2.2.2.2.2.2.2.2.2.2.2.2.2.2.2.2.2.2.2.2.2.2.2.1, C.2.2.2.2.2.2.2.2.2.2.2.2.2.2.2.2.2.2.2.2.2.2.2.2.2.2.2.2.2.2.2.2.2.2.2.2.2.2.2.2.2.2.2.2.2.2.2.2.1, C.2.2.2.2.2.2.2.2.2.2.2.2.2.2.2.2.2.2.2.2.2.2.2.2.2.2.2.2.2.2.2.2.2.2.2.2.2.2.2.2.2.2.2.2.2.2.2.2.2.1, C.2.2.2.2.2.2.2.2.2.2.2.2.2.2.2.2.2.2.2.2.2.2.2.2.2.2.2.2.2.2.2.2.2.2.2.2.2.2.2.2.2.2.2.2.2.2.2.2.2.2.1, C.2.2.2.2.2.2.2.2.2.2.2.2.2.2.2.2.2.2.2.2.2.2.2.2.2.2.2.2.2.2.2.2.2.2.2.2.2.2.2.2.2.2.2.2.2.2.2.2.2.2.2.1, C.2.2.2.2.2.2.2.2.2.2.2.2.2.2.2.2.2.2.2.2.2.2.2.2.2.2.2.2.2.2.2.2.2.2.2.2.2.2.2.2.2.2.2.2.2.2.2.2.2.2.2.2.1, C.2.2.2.2.2.2.2.2.2.2.2.2.2.2.2.2.2.2.2.2.2.2.2.2.2.2.2.2.2.2.2.2.2.2.2.2.2.2.2.2.2.2.2.2.2.2.2.2.2.2.2.2.2.1, C.2.2.2.2.2.2.2.2.2.2.2.2.2.2.2.2.2.2.2.2.2.2.2.2.2.2.2.2.2.2.2.2.2.2.2.2.2.2.2.2.2.2.2.2.2.2.2.2.2.2.2.2.2.2.1, C.2.2.2.2.2.2.2.2.2.2.2.2.2.2.2.2.2.2.2.2.2.2.2.2.2.2.2.2.2.2.2.2.2.2.2.2.2.2.2.2.2.2.2.2.2.2.2.2.2.2.2.2.2.2.2.1, C.2.2.2.2.2.2.2.2.2.2.2.2.2.2.2.2.2.2.2.2.2.2.2.2.2.2.2.2.2.2.2.2.2.2.2.2.2.2.2.2.2.2.2.2.2.2.2.2.2.2.2.2.2.2.2.2.1, C.2.2.2.2.2.2.2.2.2.2.2.2.2.2.2.2.2.2.2.2.2.2.2.2.2.2.2.2.2.2.2.2.2.2.2.2.2.2.2.2.2.2.2.2.2.2.2.2.2.2.2.2.2.2.2.2.2.1, C.2.2.2.2.2.2.2.2.2.2.2.2.2.2.2.2.2.2.2.2.2.2.2.2.2.2.2.2.2.2.2.2.2.2.2.2.2.2.2.2.2.2.2.2.2.2.2.2.2.2.2.2.2.2.2.2.2.2.1, C.2.2.2.2.2.2.2.2.2.2.2.2.2.2.2.2.2.2.2.2.2.2.2.2.2.2.2.2.2.2.2.2.2.2.2.2.2.2.2.2.2.2.2.2.2.2.2.2.2.2.2.2.2.2.2.2.2.2.2.1, C.2.2.2.2.2.2.2.2.2.2.2.2.2.2.2.2.2.2.2.2.2.2.2.2.2.2.2.2.2.2.2.2.2.2.2.2.2.2.2.2.2.2.2.2.2.2.2.2.2.2.2.2.2.2.2.2.2.2.2.2.1, C.2.2.2.2.2.2.2.2.2.2.2.2.2.2.2.2.2.2.2.2.2.2.2.2.2.2.2.2.2.2.2.2.2.2.2.2.2.2.2.2.2.2.2.2.2.2.2.2.2.2.2.2.2.2.2.2.2.2.2.2.2.1, C.2.2.2.2.2.2.2.2.2.2.2.2.2.2.2.2.2.2.2.2.2.2.2.2.2.2.2.2.2.2.2.2.2.2.2.2.2.2.2.2.2.2.2.2.2.2.2.2.2.2.2.2.2.2.2.2.2.2.2.2.2.2.1, C.2.2.2.2.2.2.2.2.2.2.2.2.2.2.2.2.2.2.2.2.2.2.2.2.2.2.2.2.2.2.2.2.2.2.2.2.2.2.2.2.2.2.2.2.2.2.2.2.2.2.2.2.2.2.2.2.2.2.2.2.2.2.2.1] = KL := by subst hC; rfl
 clear hC
 refine (qB8 (A := St8) (fun t s => (C, (W, (V, (s.1, (s.2.1, (s.2.2.1, (s.2.2.2.1, (s.2.2.2.2.1, (s.2.2.2.2.2.1, (s.2.2.2.2.2.2.1, (s.2.2.2.2.2.2.2, ((t : Int), ()))))))))))))) 64 (rdG KL W) (fun s => some (qAK (fl (List.zipWith (fun x y => (x + y) % 4294967296) V (toL s))), ((), ((), ())))) (fun _ s => allS s) ?_ ?_ 64 0 (ofL V) k (by omega) hS (by omega)).trans rfl
 ·intro again t s ht hs
  refine ⟨?_, rdG_W hs⟩
  obtain ⟨a, b, c, d, e, f, g, h⟩ := s
  obtain ⟨ha, hb, hc, hd, he, hf, hg, hh⟩ := hs
  simp only at ha hb hc hd he hf hg hh
  have c1 : (t : Int) < 64 := by omega
  have c2 : (0 : Int) ≤ (t : Int) := by omega
  have c3 : (t : Int) < (KL.length : Int) := by rw [KL_len]; omega
  have c4 : (t : Int) < (W.length : Int) := by omega
  have w1 : wi64 ((t : Int) + 1) = ((t + 1 : Nat) : Int) := (qAH _ (by omega)).trans (by omega)
  have r6 : qAZ k (e, ((6 : Int), ())) = _ := qBA k (n := 6) (by omega) he
  have r11 : qAZ k (e, ((11 : Int), ())) = _ := qBA k (n := 11) (by omega) he
  have r25 : qAZ k (e, ((25 : Int), ())) = _ := qBA k (n := 25) (by omega) he
  have r2 : qAZ k (a, ((2 : Int), ())) = _ := qBA k (n := 2) (by omega) ha
  have r13 : qAZ k (a, ((13 : Int), ())) = _ := qBA k (n := 13) (by omega) ha
  have r22 : qAZ k (a, ((22 : Int), ())) = _ := qBA k (n := 22) (by omega) ha
  have hkt : W32 (rdI KL (t : Int)) := qGZ KL_W (by rw [KL_len]; omega)
  have hwt : W32 (rdI W (t : Int)) := qGZ hw.2 (by omega)
  have b1 := bsI_is (a := 6) (b := 11) (c := 25) (by omega) (by omega) (by omega) he
  have b0 := bsI_is (a := 2) (b := 13) (c := 22) (by omega) (by omega) (by omega) ha
  obtain ⟨⟨q0, q1⟩, ⟨q2, q3⟩⟩ := T_bd (s := (a, b, c, d, e, f, g, h)) hkt hwt ⟨ha, hb, hc, hd, he, hf, hg, hh⟩
  have hT1 : wi64 (wi64 (wi64 (wi64 (h + bs 6 11 25 e) + chI e f g) + rdI KL (t : Int)) + rdI W (t : Int)) = T1 (rdI KL (t : Int)) (rdI W (t : Int)) (a, b, c, d, e, f, g, h) := by
   obtain ⟨x0, x1⟩ := bs_W (a := 6) (b := 11) (c := 25) (by omega) (by omega) (by omega) he
   obtain ⟨y0, y1⟩ := ch_W (f := f) (g := g) he
   obtain ⟨k0, k1⟩ := hkt
   obtain ⟨v0, v1⟩ := hwt
   obtain ⟨h0, h1⟩ := hh
   rw [show wi64 (h + bs 6 11 25 e) = _ from qAH _ (by omega), show wi64 (h + bs 6 11 25 e + chI e f g) = _ from qAH _ (by omega), show wi64 (h + bs 6 11 25 e + chI e f g + rdI KL (t : Int)) = _ from qAH _ (by omega)]
   exact qAH _ (by omega)
  have hT2 : wi64 (bs 2 13 22 a + mjI a b c) = T2 (a, b, c, d, e, f, g, h) := qAH _ (by simp only [T2] at q2 q3; omega)
  have m1 : qAR .and .i64 (wi64 (T1 (rdI KL (t : Int)) (rdI W (t : Int)) (a, b, c, d, e, f, g, h) + T2 (a, b, c, d, e, f, g, h))) 4294967295 = (T1 (rdI KL (t : Int)) (rdI W (t : Int)) (a, b, c, d, e, f, g, h) + T2 (a, b, c, d, e, f, g, h)) % 4294967296 := by
   rw [show wi64 (T1 (rdI KL (t : Int)) (rdI W (t : Int)) (a, b, c, d, e, f, g, h) + T2 (a, b, c, d, e, f, g, h)) = _ from qAH _ (by omega)]
   exact mask_is (by omega) (by omega)
  have m2 : qAR .and .i64 (wi64 (d + T1 (rdI KL (t : Int)) (rdI W (t : Int)) (a, b, c, d, e, f, g, h))) 4294967295 = (d + T1 (rdI KL (t : Int)) (rdI W (t : Int)) (a, b, c, d, e, f, g, h)) % 4294967296 := by
   obtain ⟨d0, d1⟩ := hd
   rw [show wi64 (d + T1 (rdI KL (t : Int)) (rdI W (t : Int)) (a, b, c, d, e, f, g, h)) = _ from qAH _ (by omega)]
   exact mask_is (by omega) (by omega)
  simp only [c1, c2, c4, hKL, c3, w1, r6, r11, r25, r2, r13, r22, b1, b0, chI64 he hf hg, mjI64 ha hb hc, hT1, hT2, m1, m2, and_self, decide_true, if_true, Option.bind_some]
  rfl
 ·intro again s hs
  obtain ⟨a, b, c, d, e, f, g, h⟩ := s
  have c64 : ¬ ((64 : Nat) : Int) < 64 := by decide
  simp only [c64, decide_false, Bool.false_eq_true, if_false]
  have hLW : allW [a, b, c, d, e, f, g, h] := by
   obtain ⟨ha, hb, hc, hd, he, hf, hg, hh⟩ := hs
   simp only [qH4]
   exact ⟨ha, hb, hc, hd, he, hf, hg, hh, by intro x hx; cases hx⟩
  have hL : [a, b, c, d, e, f, g, h].length = 8 := rfl
  show _ = some (qAK (fl (List.zipWith (fun x y => (x + y) % 4294967296) V [a, b, c, d, e, f, g, h])), ((), ((), ())))
  generalize [a, b, c, d, e, f, g, h] = L at *
  refine (loop_zip (fun x y => (x + y) % 4294967296) V L (L.length : Int) (fun l => some (qAK (fl l), ((), ((), ())))) (by omega) ?_ ?_ k (by omega)).trans rfl
  ·intro again U i hi hU hUi
   have c1 : (i : Int) < (L.length : Int) := by omega
   have c2 : (0 : Int) ≤ (i : Int) := by omega
   have c3 : (i : Int) < (U.length : Int) := by omega
   have w1 : wi64 ((i : Int) + 1) = ((i + 1 : Nat) : Int) := (qAH _ (by omega)).trans (by omega)
   obtain ⟨x0, x1⟩ := qGZ hVW (i := i) (by omega)
   obtain ⟨y0, y1⟩ := qGZ hLW (i := i) (by omega)
   have m : qAR .and .i64 (wi64 (rdI U (i : Int) + rdI L (i : Int))) 4294967295 = (rdI U (i : Int) + rdI L (i : Int)) % 4294967296 := by
    rw [hUi, show wi64 (rdI V (i : Int) + rdI L (i : Int)) = _ from qAH _ (by omega)]
    exact mask_is (by omega) (by omega)
   simp only [c1, c2, c3, w1, qDf, m, Int.toNat_natCast, and_self, decide_true, if_true]
  ·intro again
   have c : ¬ (L.length : Int) < (L.length : Int) := by omega
   simp only [c, decide_false, Bool.false_eq_true, if_false, qGo k _ (show (List.zipWith (fun x y => (x + y) % 4294967296) V L).length ≤ 1000 by rw [List.length_zipWith]; omega) (zip_W V L) (by rw [List.length_zipWith]; omega), Option.bind_some]
def shG (j : Nat) (v : List Int) : List Int := v.set (7 - j) (rdI v ((7 - j - 1 : Nat) : Int))
theorem shG_len {j : Nat} {v : List Int} (h : v.length = 8) : (shG j v).length = 8 := by simp [shG, h]
theorem s_round_is (k : Nat) (st : List Int) (b : ByteArray) (hst : st.length = 8) (hsW : allW st) (hb : b.size = 64) (hk : 1048576 < k) : qC6 k (st, (KL, (b, ()))) = some (blk st b, ((), ((), ((), ())))) := by
 unfold qC6
 simp only [qG6 k b (by omega) (by omega), Option.bind_some]
 have h0 : (wd (qAE b)).length = 16 ∧ allW (wd (qAE b)) := ⟨by rw [wd_len, qAV, hb], wd_W (qCj b)⟩
 have hw := exL_inv h0
 refine (qB8 (A := List Int) (fun i w => (st, (KL, (w, ((i : Int), ()))))) 64 exG (fun w => some (List.zipWith (fun x y => (x + y) % 4294967296) st (toL (rds KL w (ofL st))), ((), ((), ((), ()))))) (fun t w => 16 ≤ t ∧ w.length = t ∧ allW w) ?_ ?_ 48 16 (wd (qAE b)) k (by omega) ⟨by omega, h0⟩ (by omega)).trans rfl
 ·intro again t w ht hw
  obtain ⟨g2, g7, g15, g16, e2, e7, e15, e16, e1, c2, c7, c15, c16⟩ := ex_step ⟨hw.1, ht⟩ hw.2
  have c : (t : Int) < 64 := by omega
  refine ⟨?_, by omega, exG_inv hw.2⟩
  have hc : w.length + 1 ≤ capMax := qC0 _ _ (by omega)
  have nn : ∀ m : Nat, (0 : Int) ≤ (m : Int) := fun m => Int.natCast_nonneg m
  have s1 := sgS_is k (lo1 := 131072) (lo2 := 524288) (c := 1024) (a := 17) (b := 19) (by omega) (by omega) (by decide) (by decide) (by decide) (by decide) (by decide) g2
  have s0 := sgS_is k (lo1 := 128) (lo2 := 262144) (c := 8) (a := 7) (b := 18) (by omega) (by omega) (by decide) (by decide) (by decide) (by decide) (by decide) g15
  have hm : wu32 (wu32 (wu32 (sg 17 19 1024 (rdI w ((t - 2 : Nat) : Int)) + rdI w ((t - 7 : Nat) : Int)) + sg 7 18 8 (rdI w ((t - 15 : Nat) : Int))) + rdI w ((t - 16 : Nat) : Int)) = exW w t := by
   simp only [qH5, exW]
   omega
  simp only [c, e1, e2, e7, e15, e16, c2, c7, c15, c16, nn, qDf, s1, s0, hm, hc, and_self, decide_true, if_true, Option.bind_some, List.length_singleton]
  rfl
 ·intro again w hw
  obtain ⟨_, hwl, hwW⟩ := hw
  have c64 : ¬ ((64 : Nat) : Int) < 64 := by decide
  have hcap : ([] : List Int).length + st.length ≤ capMax := qC0 _ _ (by rw [hst]; simp)
  simp only [c64, hcap, decide_false, Bool.false_eq_true, if_false, if_true, List.nil_append]
  obtain ⟨s8, hs8⟩ : ∃ s8 : St8, toL s8 = st ∧ allS s8 ∧ ofL st = s8 := by
   match st, hst, hsW with
   | [a, b, c, d, e, f, g, h], _, hW =>
    simp only [qH4] at hW
    obtain ⟨ha, hb, hc, hd, he, hf, hg, hh, _⟩ := hW
    exact ⟨(a, b, c, d, e, f, g, h), rfl, ⟨ha, hb, hc, hd, he, hf, hg, hh⟩, rfl⟩
  obtain ⟨e8, hS, eo⟩ := hs8
  subst e8
  rw [eo]
  clear eo
  refine (qB8 (A := St8) (fun t s => (toL s8, (KL, (w, (toL s, ((t : Int), ())))))) 64 (rdG KL w) (fun s => some (List.zipWith (fun x y => (x + y) % 4294967296) (toL s8) (toL s), ((), ((), ((), ()))))) (fun _ s => allS s) ?_ ?_ 64 0 s8 k (by omega) hS (by omega)).trans rfl
  ·intro again t s ht hs
   refine ⟨?_, rdG_W hs⟩
   obtain ⟨a, b, c, d, e, f, g, h⟩ := s
   obtain ⟨ha, hb, hc, hd, he, hf, hg, hh⟩ := hs
   simp only at ha hb hc hd he hf hg hh
   have c1 : (t : Int) < 64 := by omega
   have c2 : (0 : Int) ≤ (t : Int) := by omega
   have c3 : (t : Int) < (KL.length : Int) := by rw [KL_len]; omega
   have c4 : (t : Int) < (w.length : Int) := by omega
   have w1 : wi64 ((t : Int) + 1) = ((t + 1 : Nat) : Int) := (qAH _ (by omega)).trans (by omega)
   have b1 := bsS_is k (lo1 := 64) (lo2 := 2048) (lo3 := 33554432) (a := 6) (b := 11) (c := 25) (by omega) (by omega) (by omega) (by decide) (by decide) (by decide) (by decide) (by decide) (by decide) he
   have b0 := bsS_is k (lo1 := 4) (lo2 := 8192) (lo3 := 4194304) (a := 2) (b := 13) (c := 22) (by omega) (by omega) (by omega) (by decide) (by decide) (by decide) (by decide) (by decide) (by decide) ha
   have l8 : (toL (a, b, c, d, e, f, g, h)).length = 8 := rfl
   have i0 : (0 : Int) < ((8 : Nat) : Int) := by decide
   have i1 : (1 : Int) < ((8 : Nat) : Int) := by decide
   have i2 : (2 : Int) < ((8 : Nat) : Int) := by decide
   have i4 : (4 : Int) < ((8 : Nat) : Int) := by decide
   have i5 : (5 : Int) < ((8 : Nat) : Int) := by decide
   have i6 : (6 : Int) < ((8 : Nat) : Int) := by decide
   have i7 : (7 : Int) < ((8 : Nat) : Int) := by decide
   have j0 : (0 : Int) ≤ 0 := by decide
   have j1 : (0 : Int) ≤ 1 := by decide
   have j2 : (0 : Int) ≤ 2 := by decide
   have j4 : (0 : Int) ≤ 4 := by decide
   have j5 : (0 : Int) ≤ 5 := by decide
   have j6 : (0 : Int) ≤ 6 := by decide
   have j7 : (0 : Int) ≤ 7 := by decide
   have d0 : rdI (toL (a, b, c, d, e, f, g, h)) 0 = a := rfl
   have d1 : rdI (toL (a, b, c, d, e, f, g, h)) 1 = b := rfl
   have d2 : rdI (toL (a, b, c, d, e, f, g, h)) 2 = c := rfl
   have d4 : rdI (toL (a, b, c, d, e, f, g, h)) 4 = e := rfl
   have d5 : rdI (toL (a, b, c, d, e, f, g, h)) 5 = f := rfl
   have d6 : rdI (toL (a, b, c, d, e, f, g, h)) 6 = g := rfl
   have d7 : rdI (toL (a, b, c, d, e, f, g, h)) 7 = h := rfl
   simp only [c1, c2, c3, c4, l8, i0, i1, i2, i4, i5, i6, i7, j0, j1, j2, j4, j5, j6, j7, qDf, d0, d1, d2, d4, d5, d6, d7, b1, b0, chI32 he hf hg, mjI32 ha hb hc, and_self, decide_true, if_true, Option.bind_some]
   have hT1 : wu32 (wu32 (wu32 (wu32 (h + bs 6 11 25 e) + chI e f g) + rdI KL (t : Int)) + rdI w (t : Int)) = T1 (rdI KL (t : Int)) (rdI w (t : Int)) (a, b, c, d, e, f, g, h) % 4294967296 := by
    simp only [qH5, T1]
    omega
   have hT2 : wu32 (bs 2 13 22 a + mjI a b c) = T2 (a, b, c, d, e, f, g, h) % 4294967296 := by
    simp only [qH5, T2]
   rw [hT1, hT2]
   generalize hA : T1 (rdI KL (t : Int)) (rdI w (t : Int)) (a, b, c, d, e, f, g, h) = A1
   generalize hB : T2 (a, b, c, d, e, f, g, h) = A2
   refine (qB8 (A := List Int) (fun j v => (toL s8, (KL, (w, (v, ((t : Int), (A1 % 4294967296, (A2 % 4294967296, (((7 - j : Nat) : Int), ()))))))))) 7 shG (fun v => again (toL s8, (KL, (w, ((v.set 4 (wu32 (rdI v 4 + A1 % 4294967296))).set 0 (wu32 (A1 % 4294967296 + A2 % 4294967296)), (((t + 1 : Nat) : Int), ())))))) (fun _ v => v.length = 8) ?_ ?_ 7 0 _ k (by omega) l8 (by omega)).trans ?_
   ·intro again2 j v hj hv
    refine ⟨?_, shG_len hv⟩
    have q1 : (0 : Int) < ((7 - j : Nat) : Int) := by omega
    have q2 : wi64 (((7 - j : Nat) : Int) - 1) = ((7 - (j + 1) : Nat) : Int) := (qAH _ (by omega)).trans (by omega)
    have q3 : (0 : Int) ≤ ((7 - (j + 1) : Nat) : Int) ∧ ((7 - (j + 1) : Nat) : Int) < (v.length : Int) := by omega
    have q4 : (0 : Int) ≤ ((7 - j : Nat) : Int) ∧ ((7 - j : Nat) : Int) < (v.length : Int) := by omega
    simp only [q1, q2, q3, q4, qDf, Int.toNat_natCast, and_self, decide_true, if_true]
    rfl
   ·intro again2 v hv
    have q1 : ¬ (0 : Int) < ((7 - 7 : Nat) : Int) := by decide
    have q2 : (0 : Int) ≤ 4 ∧ (4 : Int) < (v.length : Int) := by omega
    have q3 : (0 : Int) ≤ 0 ∧ (0 : Int) < (((v.set (Int.toNat 4) (wu32 (rdI v 4 + A1 % 4294967296))).length : Nat) : Int) := by rw [List.length_set]; omega
    simp only [q1, q2, q3, w1, qDf, and_self, decide_false, Bool.false_eq_true, if_true, if_false]
    rfl
   ·have e1 : wu32 (d + A1 % 4294967296) = (d + A1) % 4294967296 := by rw [qH5]; omega
    have e2 : wu32 (A1 % 4294967296 + A2 % 4294967296) = (A1 + A2) % 4294967296 := by rw [qH5]; omega
    show again (toL s8, (KL, (w, ([wu32 (A1 % 4294967296 + A2 % 4294967296), a, b, c, wu32 (d + A1 % 4294967296), e, f, g], (((t + 1 : Nat) : Int), ()))))) = again (toL s8, (KL, (w, (toL (rdG KL w t (a, b, c, d, e, f, g, h)), (((t + 1 : Nat) : Int), ())))))
    rw [e1, e2]
    unfold rdG
    simp only [hA, hB]
    rfl
  ·intro again s hs
   have c64' : ¬ ((64 : Nat) : Int) < 64 := by decide
   simp only [c64', decide_false, Bool.false_eq_true, if_false]
   have l1 : (toL s8).length = 8 := rfl
   have l2 : (toL s).length = 8 := rfl
   generalize toL s8 = V at *
   generalize toL s = L at *
   refine (loop_outs (fun x y => (x + y) % 4294967296) V L (fun l => some (l, ((), ((), ((), ()))))) (by omega) ?_ ?_ k (by omega)).trans rfl
   ·intro again2 out i hi ho
    have c1 : (i : Int) < 8 := by omega
    have c2 : (0 : Int) ≤ (i : Int) := by omega
    have c3 : (i : Int) < (V.length : Int) := by omega
    have c4 : (i : Int) < (L.length : Int) := by omega
    have w1 : wi64 ((i : Int) + 1) = ((i + 1 : Nat) : Int) := (qAH _ (by omega)).trans (by omega)
    have hc : out.length + 1 ≤ capMax := qC0 _ _ (by omega)
    simp only [c1, c2, c3, c4, w1, qDf, qH5, hc, and_self, decide_true, if_true, List.length_singleton]
   ·intro again2 U
    have c : ¬ (L.length : Int) < 8 := by omega
    simp only [c, decide_false, Bool.false_eq_true, if_false]
def runD : Nat → List Int → List Int → List Int × List Int
 | 0, st, l => (st, l)
 | n + 1, st, l => if 64 ≤ l.length then runD n (blk st (qAK (l.take 64))) (l.drop 64) else (st, l)
theorem qCl {n : Nat} {st l : List Int} (h : l.length < 64) : runD n st l = (st, l) := by
 cases n with
 | zero => rfl
 | succ n => rw [runD, if_neg (by omega)]
theorem runD_fuel : ∀ {n m : Nat} {st l : List Int}, l.length / 64 ≤ n → l.length / 64 ≤ m → runD n st l = runD m st l
 | 0, m, st, l, h, _ => by rw [qCl (by omega), qCl (by omega)]
 | n + 1, 0, st, l, _, h => by rw [qCl (by omega), qCl (by omega)]
 | n + 1, m + 1, st, l, h, h' => by
  rw [runD, runD]
  split
  ·exact runD_fuel (by rw [List.length_drop]; omega) (by rw [List.length_drop]; omega)
  ·rfl
theorem runD_inv : ∀ {n : Nat} {st l : List Int}, st.length = 8 → allW st → l.length / 64 ≤ n → (runD n st l).1.length = 8 ∧ allW (runD n st l).1 ∧ (runD n st l).2.length = l.length % 64
 | 0, st, l, h, hw, hn => by rw [qCl (by omega)]; exact ⟨h, hw, by show l.length = _; omega⟩
 | n + 1, st, l, h, hw, hn => by
  rw [runD]
  split
  ·obtain ⟨b1, b2⟩ := blk_inv (b := qAK (l.take 64)) h
   obtain ⟨c1, c2, c3⟩ := runD_inv (n := n) (l := l.drop 64) b1 b2 (by rw [List.length_drop]; omega)
   refine ⟨c1, c2, ?_⟩
   rw [c3, List.length_drop]
   omega
  ·exact ⟨h, hw, by show l.length = _; omega⟩
theorem runD_isB : ∀ {n : Nat} {st l : List Int}, isB l → isB (runD n st l).2
 | 0, st, l, h => h
 | n + 1, st, l, h => by
  rw [runD]
  split
  ·exact runD_isB (isB_drop h 64)
  ·exact h
theorem runD_append : ∀ {n m : Nat} {st a b : List Int}, a.length / 64 ≤ n → (a ++ b).length / 64 ≤ m → runD m st (a ++ b) = runD m (runD n st a).1 ((runD n st a).2 ++ b)
 | 0, m, st, a, b, h, _ => rfl
 | n + 1, m, st, a, b, h, hm => by
  rw [show runD (n + 1) st a = if 64 ≤ a.length then runD n (blk st (qAK (a.take 64))) (a.drop 64) else (st, a) from rfl]
  split
  ·rename_i h64
   rw [List.length_append] at hm
   obtain ⟨m, rfl⟩ : ∃ m', m = m' + 1 := ⟨m - 1, by omega⟩
   rw [show runD (m + 1) st (a ++ b) = if 64 ≤ (a ++ b).length then runD m (blk st (qAK ((a ++ b).take 64))) ((a ++ b).drop 64) else (st, a ++ b) from rfl, if_pos (by rw [List.length_append]; omega), List.take_append_of_le_length h64, List.drop_append_of_le_length h64]
   have := runD_append (n := n) (m := m) (st := blk st (qAK (a.take 64))) (a := a.drop 64) (b := b) (by rw [List.length_drop]; omega) (by rw [List.length_append, List.length_drop]; omega)
   rw [this]
   have hl : (runD n (blk st (qAK (a.take 64))) (a.drop 64)).2.length ≤ a.length - 64 := by
    have : ∀ {n : Nat} {st l : List Int}, (runD n st l).2.length ≤ l.length := by
     intro n
     induction n with
     | zero => intro st l; exact Nat.le_refl _
     | succ n ih =>
      intro st l
      rw [runD]
      split
      ·exact Nat.le_trans ih (by rw [List.length_drop]; omega)
      ·exact Nat.le_refl _
    exact Nat.le_trans this (by rw [List.length_drop]; omega)
   exact runD_fuel (by rw [List.length_append]; omega) (by rw [List.length_append]; omega)
  ·rfl
def H0 : List Int := [1779033703, 3144134277, 1013904242, 2773480762, 1359893119, 2600822924, 528734635, 1541459225]
theorem H0_W : allW H0 := by
 have : H0.all (fun x => decide (0 ≤ x ∧ x < 4294967296)) = true := by decide
 intro x hx
 have := List.all_eq_true.1 this x hx
 simpa [W32] using this
def padL (n : Nat) : List Int := 128 :: (List.replicate ((119 - n % 64) % 64) 0 ++ (four ((8 * n / 4294967296 : Nat) : Int) ++ four ((8 * n % 4294967296 : Nat) : Int)))
theorem padL_len (n : Nat) : (padL n).length = (119 - n % 64) % 64 + 9 := by simp only [padL, List.length_cons, List.length_append, List.length_replicate, four, List.length_nil]
theorem padL_isB (n : Nat) : isB (padL n) := by
 unfold padL
 rw [isB_cons, qGU, qGU]
 refine ⟨by omega, ?_, four_isB _, four_isB _⟩
 intro x hx
 have := List.eq_of_mem_replicate hx
 omega
def digL (l : List Int) : List Int := (runD (l.length + 200) H0 (l ++ padL l.length)).1
def dg (s : ByteArray) : ByteArray := qAK (fl (digL (qAE s)))
theorem digL_inv (l : List Int) : (digL l).length = 8 ∧ allW (digL l) := by
 have := runD_inv (n := l.length + 200) (st := H0) (l := l ++ padL l.length) rfl H0_W (by rw [List.length_append, padL_len]; omega)
 exact ⟨this.1, this.2.1⟩
theorem qF3 (s : ByteArray) : (dg s).size = 32 := by rw [dg, qAX, fl_len, (digL_inv _).1]
theorem qGp (c : Nat) : qAE (⟨(Lib.repeatL (⟨#[0]⟩ : ByteArray).data.toList c).toArray⟩ : ByteArray) = List.replicate c 0 := by
 show (Lib.repeatL [0] c).map _ = _
 induction c with
 | zero => rfl
 | succ c ih => rw [Lib.repeatL, List.map_append, ih, List.replicate_succ]; rfl
theorem padding_is (k c : Nat) (hc : c ≤ 1073741824) : qFb k ((c : Int), ()) = some (qAK (padL c), ((), ())) := by
 unfold qFb qAs repF
 have e1 : Int.tmod (wi64 ((119 : Int) - (Int.tmod (c : Int) (64 : Int)))) (64 : Int) = (((119 - c % 64) % 64 : Nat) : Int) := by
  have i1 : Int.tmod (c : Int) 64 = (c : Int) % 64 := Int.tmod_eq_emod_of_nonneg (by omega)
  rw [i1, show wi64 ((119 : Int) - (c : Int) % 64) = (119 : Int) - (c : Int) % 64 from qAH _ (by omega), Int.tmod_eq_emod_of_nonneg (by omega)]
  omega
 have e2 : wi64 ((8 : Int) * (c : Int)) = ((8 * c : Nat) : Int) := (qAH _ (by omega)).trans (by omega)
 have e3 : Int.fdiv ((8 * c : Nat) : Int) (2 ^ (min (Int.toNat (32 : Int)) (IntKind.bits .i64))) = ((8 * c / 4294967296 : Nat) : Int) := by rw [Int.fdiv_eq_ediv_of_nonneg _ (by decide)]; rfl
 have e4 : qAR .and .i64 ((8 * c : Nat) : Int) 4294967295 = ((8 * c % 4294967296 : Nat) : Int) := by rw [mask_is (by omega) (by omega)]; omega
 have hz : (119 - c % 64) % 64 < 64 := Nat.mod_lt _ (by omega)
 have cond : (0 : Int) ≤ (((119 - c % 64) % 64 : Nat) : Int) ∧ (((119 - c % 64) % 64 : Nat) : Int) ≤ 9223372036854775807 ∧ (⟨#[0]⟩ : ByteArray).size * (((119 - c % 64) % 64 : Nat) : Int).toNat ≤ 140737488355328 := by
  refine ⟨by omega, by omega, ?_⟩
  rw [Int.toNat_natCast]
  show 1 * _ ≤ _
  omega
 have W1 : W32 ((8 * c / 4294967296 : Nat) : Int) := ⟨by omega, by omega⟩
 have W2 : W32 ((8 * c % 4294967296 : Nat) : Int) := ⟨by omega, by omega⟩
 simp only [e1, e2, e3, e4, qEz k W1, qEz k W2, Option.bind_some]
 rw [if_pos cond]
 simp only [Option.bind_some, Int.toNat_natCast]
 have hrep : (⟨(Lib.repeatL (⟨#[0]⟩ : ByteArray).data.toList ((119 - c % 64) % 64)).toArray⟩ : ByteArray) = qAK (List.replicate ((119 - c % 64) % 64) 0) := by rw [← qGp, qCE]
 have h1 : (⟨#[128]⟩ : ByteArray) = qAK [128] := rfl
 rw [hrep, h1]
 have sz : ∀ l : List Int, (qAK l).size = l.length := qAX
 simp only [← strOf_append, sz]
 have f4 : ∀ n, (four n).length = 4 := fun n => rfl
 rw [if_pos (qBv _ _ (by simp; omega)), if_pos (qBv _ _ (by rw [f4]; simp; omega)), if_pos (qBv _ _ (by rw [List.length_append, f4, f4]; simp; omega))]
 simp [padL]
theorem firstState_is (k : Nat) (hk : 1048576 < k) : qCt k () = some (qAK (fl H0), ()) := by
 unfold qCt
 have := qGo k H0 (by decide) H0_W (by show 8 < k; omega)
 unfold H0 at this
 simp only [this, Option.bind_some]
 rfl
theorem qE0 (s : ByteArray) (a b : Nat) : s.extract a b = qAK (((qAE s).take b).drop a) := by rw [← qDe, qCE]
theorem rounds_is (k : Nat) (hk : 1048576 < k) : ∀ (n : Nat) (st : List Int) (s : ByteArray), st.length = 8 → allW st → s.size ≤ 2097152 → s.size / 64 ≤ n → n < k →
  i_rounds k (qAK (fl st), (s, ())) = some ((qAK (fl (runD n st (qAE s)).1), (qAK (runD n st (qAE s)).2, ())), ((), ((), ()))) := by
 have key : ∀ (n : Nat) (st : List Int) (s : ByteArray) (k2 : Nat), st.length = 8 → allW st → s.size ≤ 2097152 → s.size / 64 ≤ n → n < k2 →
  (qAG (fun (rec0 : (ByteArray × ByteArray × Unit) → Option _) (y0 : ByteArray × ByteArray × Unit) =>
(if (decide ((64 : Int) ≤ (ByteArray.size y0.2.1 : Int))) = true then
(if 0 ≤ (64 : Int) ∧ (64 : Int) ≤ (ByteArray.size y0.2.1 : Int) then
((i_round k (y0.1, ((ByteArray.extract y0.2.1 (Int.toNat (0 : Int)) (Int.toNat (64 : Int))), ()))).bind fun p1 =>
(if 0 ≤ (64 : Int) ∧ (64 : Int) ≤ (ByteArray.size y0.2.1 : Int) then
(rec0 (p1.1, ((ByteArray.extract y0.2.1 (Int.toNat (64 : Int)) (Int.toNat (ByteArray.size y0.2.1 : Int))), ())))
else none))
else none)
else
((fun (z1 : ByteArray × ByteArray × Unit) =>
some ((z1.1, (z1.2.1, ())), ((), ((), ())))) (y0.1, (y0.2.1, ()))))) k2 (qAK (fl st), (s, ()))) = some ((qAK (fl (runD n st (qAE s)).1), (qAK (runD n st (qAE s)).2, ())), ((), ((), ()))) := by
  intro n
  induction n with
  | zero =>
   intro st s k2 h8 hW hs hn hk2
   obtain ⟨k2, rfl⟩ : ∃ k', k2 = k' + 1 := ⟨k2 - 1, by omega⟩
   have c : ¬ (64 : Int) ≤ (s.size : Int) := by omega
   simp only [qAG, c, decide_false, Bool.false_eq_true, if_false, runD, qCE]
  | succ n ih =>
   intro st s k2 h8 hW hs hn hk2
   obtain ⟨k2, rfl⟩ : ∃ k', k2 = k' + 1 := ⟨k2 - 1, by omega⟩
   by_cases c : (64 : Int) ≤ (s.size : Int)
   ·have hsz : (qAK (fl st)).size = 32 := by rw [qAX, fl_len, h8]
    have he : (s.extract (Int.toNat 0) (Int.toNat 64)).size = 64 := by show (s.extract 0 64).size = 64; rw [ByteArray.size_extract]; omega
    have hr := i_round_is k (qAK (fl st)) (s.extract (Int.toNat 0) (Int.toNat 64)) hsz he hk
    rw [qBI (fl_isB st), wd_fl hW] at hr
    have e1 : s.extract (Int.toNat 0) (Int.toNat 64) = qAK ((qAE s).take 64) := by
     show s.extract 0 64 = _
     rw [qE0, List.drop_zero]
    have e2 : qAE (s.extract (Int.toNat 64) (Int.toNat (s.size : Int))) = (qAE s).drop 64 := by
     rw [Int.toNat_natCast]
     show qAE (s.extract 64 s.size) = _
     rw [qDe, List.take_of_length_le (by rw [qAV]; exact Nat.le_refl _)]
    have hsz2 : (s.extract (Int.toNat 64) (Int.toNat (s.size : Int))).size = s.size - 64 := by
     rw [Int.toNat_natCast]
     show (s.extract 64 s.size).size = _
     rw [ByteArray.size_extract]; omega
    obtain ⟨b1, b2⟩ := blk_inv (b := s.extract (Int.toNat 0) (Int.toNat 64)) h8
    have := ih (blk st (s.extract (Int.toNat 0) (Int.toNat 64))) (s.extract (Int.toNat 64) (Int.toNat (s.size : Int))) k2 b1 b2 (by omega) (by omega) (by omega)
    have c2 : (0 : Int) ≤ 64 ∧ (64 : Int) ≤ (s.size : Int) := ⟨by decide, c⟩
    revert this
    rw [qAG]
    generalize qAG _ k2 = G
    intro this
    simp only [c, c2, and_self, decide_true, if_true, hr, Option.bind_some]
    rw [this, e2]
    rw [show runD (n + 1) st (qAE s) = if 64 ≤ (qAE s).length then runD n (blk st (qAK ((qAE s).take 64))) ((qAE s).drop 64) else (st, qAE s) from rfl, if_pos (by rw [qAV]; omega), e1]
   ·rw [qAG]
    simp only [c, decide_false, Bool.false_eq_true, if_false]
    rw [qCl (by rw [qAV]; omega), qCE]
 intro n st s h8 hW hs hn hk2
 exact key n st s k h8 hW hs hn hk2
theorem qE1 (k : Nat) (s : ByteArray) (hs : s.size ≤ 1500000) (hk : 2097152 < k) : qBO k (s, ()) = some (dg s, ((), ())) := by
 unfold qBO
 simp only [firstState_is k (by omega), padding_is k s.size (by omega), Option.bind_some]
 have hp := padL_len s.size
 rw [if_pos (qBv _ _ (by rw [qAX]; omega))]
 have hb : qAE (s ++ qAK (padL s.size)) = qAE s ++ padL (qAE s).length := by rw [qD3, qBI (padL_isB _), qAV]
 have hsz : (s ++ qAK (padL s.size)).size = s.size + (padL s.size).length := by rw [ByteArray.size_append, qAX]
 have := rounds_is k (by omega) ((qAE s).length + 200) H0 (s ++ qAK (padL s.size)) rfl H0_W (by omega) (by rw [qAV]; omega) (by rw [qAV]; omega)
 rw [hb] at this
 simp only [this, Option.bind_some]
 rfl
theorem HasherOk_is (k : Nat) (S R : ByteArray) (c : Int) (hS : S.size = 32) (hR : R.size < 64) (hc : 0 ≤ c ∧ c ≤ 1000000000) (hr : c % 64 = R.size) : qC5 k ((S, (R, (c, ()))), ()) = some (true, ((), ())) := by
 unfold qC5
 have c1 : (S.size : Int) = 32 := by omega
 have c2 : (R.size : Int) < 64 := by omega
 have c3 : Int.tmod c 64 = (R.size : Int) := by rw [Int.tmod_eq_emod_of_nonneg hc.1]; exact hr
 simp only [c1, c2, c3, qBg, hc, and_self, decide_true, Bool.not_true, Bool.false_eq_true, if_true, if_false, Option.bind_some]
/-- A loop over blocks of 64 bytes. -/
theorem blocks_loop {X R : Type} {step : (X → Option R) → X → Option R} (mk : List Int → Nat → X) (l : List Int) (fin : List Int → List Int → Option R)
  (h1 : ∀ again st (p : Nat), p % 64 = 0 → st.length = 8 → allW st → p + 64 ≤ l.length → step again (mk st p) = again (mk (blk st (qAK ((l.drop p).take 64))) (p + 64)))
  (h2 : ∀ again st (p : Nat), p % 64 = 0 → st.length = 8 → allW st → ¬ p + 64 ≤ l.length → p ≤ l.length → step again (mk st p) = fin st (l.drop p)) :
  ∀ (n p : Nat) (st : List Int) (k : Nat), p % 64 = 0 → st.length = 8 → allW st → p ≤ l.length → (l.length - p) / 64 ≤ n → n < k → qAG step k (mk st p) = fin (runD n st (l.drop p)).1 (runD n st (l.drop p)).2 := by
 intro n
 induction n with
 | zero =>
  intro p st k hp64 h8 hW hp hn hk
  obtain ⟨k, rfl⟩ : ∃ k', k = k' + 1 := ⟨k - 1, by omega⟩
  show step _ _ = _
  rw [h2 _ _ _ hp64 h8 hW (by omega) hp]
  rfl
 | succ n ih =>
  intro p st k hp64 h8 hW hp hn hk
  obtain ⟨k, rfl⟩ : ∃ k', k = k' + 1 := ⟨k - 1, by omega⟩
  show step _ _ = _
  by_cases c : p + 64 ≤ l.length
  ·obtain ⟨b1, b2⟩ := blk_inv (b := qAK ((l.drop p).take 64)) h8
   rw [h1 _ _ _ hp64 h8 hW c, ih (p + 64) _ k (by omega) b1 b2 c (by omega) (by omega)]
   rw [show runD (n + 1) st (l.drop p) = if 64 ≤ (l.drop p).length then runD n (blk st (qAK ((l.drop p).take 64))) ((l.drop p).drop 64) else (st, l.drop p) from rfl, if_pos (by rw [List.length_drop]; omega), List.drop_drop]
  ·rw [h2 _ _ _ hp64 h8 hW c hp, qCl (by rw [List.length_drop]; omega)]
theorem HashMore_is (k : Nat) (st0 : List Int) (R s : ByteArray) (c : Nat) (h8 : st0.length = 8) (hW : allW st0) (hR : R.size < 64) (hc : c % 64 = R.size) (hcs : c + s.size ≤ 1048576 + 100) (hsz : R.size + s.size ≤ 2000000) (hk : 2097152 < k) :
  qC7 k ((qAK (fl st0), (R, ((c : Int), ()))), (s, ())) = some ((qAK (fl (runD (R.size + s.size) st0 (qAE (R ++ s))).1), (qAK (runD (R.size + s.size) st0 (qAE (R ++ s))).2, (((c + s.size : Nat) : Int), ()))), ((), ((), ()))) := by
 unfold qC7
 have hS : (qAK (fl st0)).size = 32 := by rw [qAX, fl_len, h8]
 have w0 : wi64 ((c : Int) + (s.size : Int)) = ((c + s.size : Nat) : Int) := (qAH _ (by omega)).trans (by omega)
 have c0 : ¬ (1000000000 : Int) < ((c + s.size : Nat) : Int) := by omega
 have hw := qG6 k (qAK (fl st0)) (by omega) (by omega)
 rw [qBI (fl_isB st0), wd_fl hW] at hw
 have hm : R.size + s.size ≤ maxStr := qBv _ _ (by omega)
 simp only [HasherOk_is k _ R (c : Int) hS hR (by omega) (by omega), w0, c0, hw, l04K_is, hm, Bool.not_true, decide_false, Bool.false_eq_true, if_true, if_false, Option.bind_some]
 have hB : (R ++ s).size = R.size + s.size := ByteArray.size_append
 generalize R ++ s = buf at *
 rw [← hB]
 have hl : (qAE buf).length = buf.size := qAV buf
 refine (blocks_loop (fun st p => (s, ((qAK (fl st0), (R, ((c : Int), ()))), (((⟨#[]⟩ : ByteArray), ((⟨#[]⟩ : ByteArray), ((0 : Int), ()))), (st, (KL, (buf, ((p : Int), ())))))))) (qAE buf) (fun st r => some ((qAK (fl st), (qAK r, (((c + s.size : Nat) : Int), ()))), ((), ((), ())))) ?_ ?_ buf.size 0 st0 k rfl h8 hW (by omega) (by omega) (by omega)).trans rfl
 ·intro again st p _ h8 hW hp
  rw [hl] at hp
  have w1 : wi64 ((p : Int) + 64) = ((p + 64 : Nat) : Int) := (qAH _ (by omega)).trans (by omega)
  have c1 : ((p + 64 : Nat) : Int) ≤ (buf.size : Int) := by omega
  have c2 : (0 : Int) ≤ ((p + 64 : Nat) : Int) := by omega
  have c3 : (0 : Int) ≤ (p : Int) ∧ (p : Int) ≤ ((p + 64 : Nat) : Int) := by omega
  have he : (buf.extract p (p + 64)).size = 64 := by rw [ByteArray.size_extract]; omega
  have e1 : buf.extract p (p + 64) = qAK (((qAE buf).drop p).take 64) := by rw [qE0, List.drop_take]; congr 2; omega
  have hr := s_round_is k st _ h8 hW (show (qAK (((qAE buf).drop p).take 64)).size = 64 by rw [← e1]; exact he) (by omega)
  simp only [w1, c1, c2, c3, Int.toNat_natCast, e1, hr, and_self, decide_true, if_true, Option.bind_some]
 ·intro again st p _ h8 hW hp hp2
  rw [hl] at hp hp2
  have w1 : wi64 ((p : Int) + 64) = ((p + 64 : Nat) : Int) := (qAH _ (by omega)).trans (by omega)
  have c1 : ¬ ((p + 64 : Nat) : Int) ≤ (buf.size : Int) := by omega
  have c2 : (0 : Int) ≤ (p : Int) ∧ (p : Int) ≤ (buf.size : Int) := by omega
  have e1 : buf.extract p buf.size = qAK ((qAE buf).drop p) := by rw [qE0, List.take_of_length_le (by omega)]
  simp only [w1, c1, c2, w0, Int.toNat_natCast, qG7 k st (by omega) hW (by omega), e1, and_self, decide_false, Bool.false_eq_true, if_false, if_true, Option.bind_some]
def dvG (_ : Nat) (x : Int) : Int := wi64 (Int.tdiv x 256)
def byG (b : Int) (j : Nat) (l : List Int) : List Int := l ++ [wu8 (Int.tmod (iterN dvG (7 - j) 0 b) 256)]
theorem dv_is (b : Nat) (h : b < 9223372036854775808) : dvG 0 (b : Int) = ((b / 256 : Nat) : Int) := by
 unfold dvG
 rw [Int.tdiv_eq_ediv_of_nonneg (by omega)]
 have : wi64 ((b : Int) / 256) = (b : Int) / 256 := qAH _ (by omega)
 rw [this]
 omega
theorem iterdv (n i b : Nat) (h : b < 9223372036854775808) : iterN dvG n i (b : Int) = ((b / 256 ^ n : Nat) : Int) := by
 induction n generalizing i b with
 | zero => simp [iterN]
 | succ n ih =>
  rw [iterN, show dvG i (b : Int) = dvG 0 (b : Int) from rfl, dv_is b h, ih (i + 1) (b / 256) (by omega), Nat.div_div_eq_div_mul, ← Nat.pow_succ']
theorem byG_is (b j : Nat) (l : List Int) (h : b < 9223372036854775808) : byG (b : Int) j l = l ++ [((b / 256 ^ (7 - j) % 256 : Nat) : Int)] := by
 unfold byG
 rw [iterdv _ _ _ h, Int.tmod_eq_emod_of_nonneg (Int.natCast_nonneg _)]
 generalize b / 256 ^ (7 - j) = q
 congr 2
 have : wu8 ((q : Int) % 256) = ((q : Int) % 256) % 256 := w8_mod _
 rw [this]
 omega
theorem bits8 (b : Nat) (l : List Int) (h : b < 9223372036854775808) : iterN (byG (b : Int)) 8 0 l = l ++ (four ((b / 4294967296 : Nat) : Int) ++ four ((b % 4294967296 : Nat) : Int)) := by
 simp only [iterN, byG_is _ _ _ h, List.append_assoc, four]
 congr 1
 simp only [List.cons_append, List.nil_append, List.cons.injEq, and_true]
 have p7 : 256 ^ (7 - 0) = 72057594037927936 := by decide
 have p6 : 256 ^ (7 - (0 + 1)) = 281474976710656 := by decide
 have p5 : 256 ^ (7 - (0 + 1 + 1)) = 1099511627776 := by decide
 have p4 : 256 ^ (7 - (0 + 1 + 1 + 1)) = 4294967296 := by decide
 have p3 : 256 ^ (7 - (0 + 1 + 1 + 1 + 1)) = 16777216 := by decide
 have p2 : 256 ^ (7 - (0 + 1 + 1 + 1 + 1 + 1)) = 65536 := by decide
 have p1 : 256 ^ (7 - (0 + 1 + 1 + 1 + 1 + 1 + 1)) = 256 := by decide
 have p0 : 256 ^ (7 - (0 + 1 + 1 + 1 + 1 + 1 + 1 + 1)) = 1 := by decide
 rw [p7, p6, p5, p4, p3, p2, p1, p0]
 omega
theorem HashEnd_is (k : Nat) (st0 : List Int) (R : ByteArray) (c : Nat) (h8 : st0.length = 8) (hW : allW st0) (hR : R.size < 64) (hc : c % 64 = R.size) (hcs : c ≤ 1048576 + 100) (hk : 2097152 < k) :
  qFT k ((qAK (fl st0), (R, ((c : Int), ()))), ()) = some (qAK (fl (runD 2 st0 (qAE R ++ padL c)).1), ((), ())) := by
 unfold qFT
 have hS : (qAK (fl st0)).size = 32 := by rw [qAX, fl_len, h8]
 have hm : R.size ≤ maxStr := by have := qBv R.size 0 (by omega); omega
 have hB : (qAE R).length = R.size := qAV R
 have hcap : (qAE R).length + List.length ([128] : List Int) ≤ capMax := qC0 _ _ (by rw [hB]; simp; omega)
 simp only [HasherOk_is k _ R (c : Int) hS hR (by omega) (by omega), hm, hcap, Bool.not_true, Bool.false_eq_true, if_true, if_false, Option.bind_some]
 have w8 : wi64 ((8 : Int) * (c : Int)) = ((8 * c : Nat) : Int) := (qAH _ (by omega)).trans (by omega)
 generalize hz : (119 - c % 64) % 64 = z
 have hpad : qAE R ++ padL c = iterN (byG ((8 * c : Nat) : Int)) 8 0 (qAE R ++ ([128] ++ List.replicate z 0)) := by
  rw [bits8 _ _ (by omega), padL, hz]
  simp [List.append_assoc]
 have hpl : (qAE R ++ padL c).length = R.size + z + 9 := by rw [List.length_append, hB, padL_len, hz]; omega
 refine (qB8 (A := Unit) (fun j _ => ((qAK (fl st0), (R, ((c : Int), ()))), (qAE R ++ ([128] ++ List.replicate j 0), ()))) z (fun _ _ => ()) (fun _ => some (qAK (fl (runD 2 st0 (qAE R ++ padL c)).1), ((), ()))) (fun _ _ => True) ?_ ?_ z 0 () k (by omega) trivial (by omega)).trans rfl
 ·intro again j _ hj _
  have hl : (qAE R ++ ([128] ++ List.replicate j 0)).length = R.size + 1 + j := by simp [hB]; omega
  have g : ¬ Int.tmod (((qAE R ++ ([128] ++ List.replicate j 0)).length : Nat) : Int) 64 = 56 := by rw [hl, Int.tmod_eq_emod_of_nonneg (by omega)]; omega
  have hc2 : (qAE R ++ ([128] ++ List.replicate j 0)).length + List.length ([0] : List Int) ≤ capMax := qC0 _ _ (by rw [hl]; simp; omega)
  refine ⟨?_, trivial⟩
  simp only [g, hc2, decide_false, Bool.not_false, if_true]
  rw [List.replicate_succ']
  simp [List.append_assoc]
 ·intro again _ _
  have hl : (qAE R ++ ([128] ++ List.replicate z 0)).length = R.size + 1 + z := by simp [hB]; omega
  have g : Int.tmod (((qAE R ++ ([128] ++ List.replicate z 0)).length : Nat) : Int) 64 = 56 := by rw [hl, Int.tmod_eq_emod_of_nonneg (by omega)]; omega
  simp only [g, w8, decide_true, Bool.not_true, Bool.false_eq_true, if_false]
  refine (qB8 (A := List Int) (fun j l => ((qAK (fl st0), (R, ((c : Int), ()))), (l, (((8 * c : Nat) : Int), ((7 : Int) - (j : Int), ()))))) 8 (byG ((8 * c : Nat) : Int)) (fun l => some (qAK (fl (runD 2 st0 l).1), ((), ()))) (fun j l => l.length = R.size + 1 + z + j) ?_ ?_ 8 0 (qAE R ++ ([128] ++ List.replicate z 0)) k (by omega) (by rw [hl]; rfl) (by omega)).trans ?_
  ·intro again j l hj hjl
   have g0 : (0 : Int) ≤ 7 - (j : Int) := by omega
   have w1 : wi64 ((7 : Int) - (j : Int) - 1) = (7 : Int) - ((j + 1 : Nat) : Int) := (qAH _ (by omega)).trans (by omega)
   refine ⟨?_, by unfold byG; rw [List.length_append, hjl]; rfl⟩
   simp only [g0, decide_true, if_true]
   refine (qB8 (A := Int) (fun i x => ((qAK (fl st0), (R, ((c : Int), ()))), (l, (((8 * c : Nat) : Int), ((7 : Int) - (j : Int), (x, ((i : Int), ()))))))) (7 - j) dvG (fun x => again ((qAK (fl st0), (R, ((c : Int), ()))), (l ++ [wu8 (Int.tmod x 256)], (((8 * c : Nat) : Int), ((7 : Int) - ((j + 1 : Nat) : Int), ()))))) (fun _ _ => True) ?_ ?_ (7 - j) 0 _ k (by omega) trivial (by omega)).trans rfl
   ·intro again2 i x hi _
    have q1 : (i : Int) < 7 - (j : Int) := by omega
    have q2 : wi64 ((i : Int) + 1) = ((i + 1 : Nat) : Int) := (qAH _ (by omega)).trans (by omega)
    refine ⟨?_, trivial⟩
    simp only [q1, q2, decide_true, if_true]
    rfl
   ·intro again2 x _
    have q1 : ¬ ((7 - j : Nat) : Int) < 7 - (j : Int) := by omega
    have hc3 : l.length + List.length ([wu8 (Int.tmod x 256)] : List Int) ≤ capMax := qC0 _ _ (by rw [hjl]; simp; omega)
    simp only [q1, w1, hc3, decide_false, Bool.false_eq_true, if_true, if_false]
  ·intro again l hll
   have g0 : ¬ (0 : Int) ≤ 7 - ((8 : Nat) : Int) := by decide
   have hw := qG6 k (qAK (fl st0)) (by omega) (by omega)
   rw [qBI (fl_isB st0), wd_fl hW] at hw
   simp only [g0, hw, l04K_is, decide_false, Bool.false_eq_true, if_false, Option.bind_some]
   refine (blocks_loop (fun st p => (l, (st, (KL, ((p : Int), ()))))) l (fun st _ => some (qAK (fl st), ((), ()))) ?_ ?_ 2 0 st0 k rfl h8 hW (by omega) (by omega) (by omega)).trans rfl
   ·intro again2 st p _ h8 hW hp
    have w1 : wi64 ((p : Int) + 64) = ((p + 64 : Nat) : Int) := (qAH _ (by omega)).trans (by omega)
    have c0 : (p : Int) < (l.length : Int) := by omega
    have c1 : (0 : Int) ≤ ((p + 64 : Nat) : Int) ∧ ((p + 64 : Nat) : Int) ≤ (l.length : Int) := by omega
    have c3 : (0 : Int) ≤ (p : Int) ∧ (p : Int) ≤ ((p + 64 : Nat) : Int) := by omega
    have e1 : (l.take (p + 64)).drop p = (l.drop p).take 64 := by rw [List.drop_take]; congr 1; omega
    have hr := s_round_is k st (qAK ((l.drop p).take 64)) h8 hW (by rw [qAX, List.length_take, List.length_drop]; omega) (by omega)
    simp only [w1, c0, c1, c3, Int.toNat_natCast, e1, hr, and_self, decide_true, if_true, Option.bind_some]
   ·intro again2 st p hp64 h8 hW hp hp2
    have c0 : ¬ (p : Int) < (l.length : Int) := by omega
    simp only [c0, qG7 k st (by omega) hW (by omega), decide_false, Bool.false_eq_true, if_false, Option.bind_some]
  ·rw [← hpad]
theorem qE2 (k : Nat) (s : ByteArray) (hs : s.size ≤ 1048576 + 100) (hk : 2097152 < k) : qCe k (s, ()) = some (dg s, ((), ())) := by
 unfold qCe qEj
 have hB := qG7 k H0 (by decide) H0_W (by show 8 < k; omega)
 have h1 : qGH k () = some (H0, ()) := rfl
 have hm := HashMore_is k H0 (⟨#[]⟩ : ByteArray) s 0 rfl H0_W (by decide) rfl (by omega) (by show 0 + s.size ≤ _; omega) hk
 have he : (⟨#[]⟩ : ByteArray) ++ s = s := by apply bytesOf_inj; rw [qD3]; rfl
 rw [he] at hm
 simp only [h1, hB, Option.bind_some]
 have hm' : qC7 k ((qAK (fl H0), ((⟨#[]⟩ : ByteArray), ((0 : Int), ()))), (s, ())) = _ := hm
 rw [hm']
 simp only [Option.bind_some]
 have hl := qAV s
 obtain ⟨i1, i2, i3⟩ := runD_inv (n := (⟨#[]⟩ : ByteArray).size + s.size) (st := H0) (l := qAE s) rfl H0_W (by rw [hl]; show _ ≤ 0 + s.size; omega)
 have hR : (qAK (runD ((⟨#[]⟩ : ByteArray).size + s.size) H0 (qAE s)).2).size = s.size % 64 := by rw [qAX, i3, hl]
 have hE := HashEnd_is k _ (qAK (runD ((⟨#[]⟩ : ByteArray).size + s.size) H0 (qAE s)).2) (0 + s.size) i1 i2 (by omega) (by omega) (by omega) hk
 rw [hE]
 simp only [Option.bind_some]
 rw [qBI (runD_isB (qCj s))]
 unfold dg digL
 have hp := padL_len (qAE s).length
 have key := runD_append (n := (⟨#[]⟩ : ByteArray).size + s.size) (m := (qAE s).length + 200) (st := H0) (a := qAE s) (b := padL (qAE s).length) (by rw [hl]; show _ ≤ 0 + s.size; omega) (by rw [List.length_append]; omega)
 rw [key]
 have hz : 0 + s.size = (qAE s).length := by omega
 rw [hz]
 rw [runD_fuel (n := 2) (m := (qAE s).length + 200) (by rw [List.length_append, hp, i3]; omega) (by rw [List.length_append, hp, i3]; omega)]
def gSeen (a : List Int) (i : Nat) (_ : Unit) : (Bool × Unit × Unit) ⊕ Unit :=
 if decide (1 ≤ Ty.rd (t := (.int .i64)) a i ∧ Ty.rd (t := (.int .i64)) a i ≤ 1000000000) && !(decide (0 < (i : Int)) && decide (Ty.rd (t := (.int .i64)) a (wi64 ((i : Int) - 1)) ≤ Ty.rd (t := (.int .i64)) a i)) && !decide (Ty.rd (t := (.int .i64)) a i ≤ wi64 (Ty.rd (t := (.int .i64)) a 0 - 6)) then .inr () else .inl (false, ((), ()))
def seenB (a : List Int) : Bool := (qBx (gSeen a) (fun _ => (decide ((a.length : Int) ≤ 6), ((), ()))) a.length 0 ()).1
theorem s_SeenOk_is (k : Nat) (a : List Int) (hk : 1048576 < k) (hl : a.length ≤ 1048576) : qGI k (a, ()) = some (seenB a, ((), ())) := by
 unfold qGI
 refine (qD6 (A := Unit) (fun i _ => (a, (((i : Nat) : Int), ()))) a.length (gSeen a) (fun _ => (decide ((a.length : Int) ≤ 6), ((), ()))) (fun _ _ => True) ?_ (fun _ _ _ _ _ _ => trivial) ?_ k () trivial (by omega)).trans rfl
 ·intro again i _ hi _
  have w2 : wi64 ((i : Int) + 1) = ((i + 1 : Nat) : Int) := (qAH _ (by omega)).trans (by omega)
  have w1 : wi64 ((i : Int) - 1) = (i : Int) - 1 := qAH _ (by omega)
  have g1 : (0 : Int) ≤ (i : Int) ∧ (i : Int) < (a.length : Int) := by omega
  have g0 : (0 : Int) ≤ 0 ∧ (0 : Int) < (a.length : Int) := by omega
  unfold gSeen
  simp only [g1, g0, qBg, w2, and_self, decide_true, if_true, Option.bind_some]
  by_cases h1 : 1 ≤ Ty.rd (t := (.int .i64)) a i ∧ Ty.rd (t := (.int .i64)) a i ≤ 1000000000
  ·by_cases h2 : 0 < (i : Int)
   ·have g3 : (0 : Int) ≤ wi64 ((i : Int) - 1) ∧ wi64 ((i : Int) - 1) < (a.length : Int) := by rw [w1]; omega
    simp only [h1, h2, g3, and_self, decide_true, Bool.not_true, if_true]
    by_cases h4 : Ty.rd (t := (.int .i64)) a (wi64 ((i : Int) - 1)) ≤ Ty.rd (t := (.int .i64)) a i <;> by_cases h5 : Ty.rd (t := (.int .i64)) a i ≤ wi64 (Ty.rd (t := (.int .i64)) a 0 - 6) <;> simp [h4, h5]
   ·simp only [h1, h2, and_self, decide_true, decide_false, Bool.not_true, if_true]
    by_cases h5 : Ty.rd (t := (.int .i64)) a i ≤ wi64 (Ty.rd (t := (.int .i64)) a 0 - 6) <;> simp [h5]
  ·simp [h1]
 ·intro again _ _
  simp
theorem i_SeenOk_is (k : Nat) (a : List Int) (hk : 1048576 < k) (hl : a.length ≤ 1048576) : qGK k (a, ()) = some (seenB a, ((), ())) := by
 unfold qGK
 refine (qD6 (A := Unit) (fun i _ => (a, (a, ((a.length : Int), (((i : Nat) : Int), ()))))) a.length (gSeen a) (fun _ => (decide ((a.length : Int) ≤ 6), ((), ()))) (fun _ _ => True) ?_ (fun _ _ _ _ _ _ => trivial) ?_ k () trivial (by omega)).trans rfl
 ·intro again i _ hi _
  have w2 : wi64 ((i : Int) + 1) = ((i + 1 : Nat) : Int) := (qAH _ (by omega)).trans (by omega)
  have w1 : wi64 ((i : Int) - 1) = (i : Int) - 1 := qAH _ (by omega)
  have g1 : (0 : Int) ≤ (i : Int) ∧ (i : Int) < (a.length : Int) := by omega
  have g0 : (0 : Int) ≤ 0 ∧ (0 : Int) < (a.length : Int) := by omega
  unfold gSeen
  simp only [g1, g0, qBD, w2, and_self, decide_true, if_true, Option.bind_some]
  by_cases h1 : 1 ≤ Ty.rd (t := (.int .i64)) a i ∧ Ty.rd (t := (.int .i64)) a i ≤ 1000000000
  ·by_cases h2 : 0 < (i : Int)
   ·have g3 : (0 : Int) ≤ wi64 ((i : Int) - 1) ∧ wi64 ((i : Int) - 1) < (a.length : Int) := by rw [w1]; omega
    simp only [h1, h2, g3, and_self, decide_true, Bool.not_true, if_true]
    by_cases h4 : Ty.rd (t := (.int .i64)) a (wi64 ((i : Int) - 1)) ≤ Ty.rd (t := (.int .i64)) a i <;> by_cases h5 : Ty.rd (t := (.int .i64)) a i ≤ wi64 (Ty.rd (t := (.int .i64)) a 0 - 6) <;> simp [h4, h5]
   ·simp only [h1, h2, and_self, decide_true, decide_false, Bool.not_true, if_true]
    by_cases h5 : Ty.rd (t := (.int .i64)) a i ≤ wi64 (Ty.rd (t := (.int .i64)) a 0 - 6) <;> simp [h5]
  ·simp [h1]
 ·intro again _ _
  simp
/-- The bytes of a number: seven bits each, the lowest first. -/
def enc (n : Nat) : List Int := if h : 127 < n then ((n % 128 + 128 : Nat) : Int) :: enc (n / 128) else [(n : Int)]
theorem enc_big {n : Nat} (h : 127 < n) : enc n = ((n % 128 + 128 : Nat) : Int) :: enc (n / 128) := by rw [enc, dif_pos h]
theorem qH6 {n : Nat} (h : ¬ 127 < n) : enc n = [(n : Int)] := by rw [enc, dif_neg h]
theorem enc_len (j n : Nat) (h : n < 128 ^ (j + 1)) : (enc n).length ≤ j + 1 := by
 induction j generalizing n with
 | zero => rw [qH6 (by omega)]; simp
 | succ j ih =>
  by_cases c : 127 < n
  ·rw [enc_big c]
   have := ih (n / 128) (by rw [Nat.pow_succ] at h; exact Nat.div_lt_of_lt_mul (by omega))
   simpa using this
  ·rw [qH6 c]; simp
theorem w8_id (n : Int) (h : 0 ≤ n ∧ n < 256) : wu8 n = n := by
 show IntKind.u8.wrap n = n
 rw [IntKind.wrap_u8]
 omega
theorem tmod_pos (a b : Int) (h : 0 ≤ a) : Int.tmod a b = a % b := Int.tmod_eq_emod_of_nonneg h
theorem tdiv_pos (a b : Int) (h : 0 ≤ a) : Int.tdiv a b = a / b := Int.tdiv_eq_ediv_of_nonneg h
/-- The loop that writes a number. -/
theorem var_loop {R : Type} {step : (Int × List Int × Unit → Option R) → Int × List Int × Unit → Option R} (fin : List Int → Option R)
  (hs : ∀ again (n : Nat) (out : List Int), 127 < n → n < 128 ^ 8 → out.length ≤ 100 → step again ((n : Int), (out, ())) = again (((n / 128 : Nat) : Int), (out ++ [((n % 128 + 128 : Nat) : Int)], ())))
  (he : ∀ again (n : Nat) (out : List Int), ¬ 127 < n → out.length ≤ 100 → step again ((n : Int), (out, ())) = fin (out ++ [(n : Int)])) :
  ∀ (j n : Nat) (out : List Int) (k : Nat), n < 128 ^ (j + 1) → j ≤ 7 → out.length + j ≤ 100 → j < k → qAG step k ((n : Int), (out, ())) = fin (out ++ enc n) := by
 intro j
 induction j with
 | zero =>
  intro n out k h _ ho hk
  obtain ⟨k, rfl⟩ : ∃ k', k = k' + 1 := ⟨k - 1, by omega⟩
  show step _ _ = _
  rw [he _ _ _ (by omega) (by omega), qH6 (by omega)]
 | succ j ih =>
  intro n out k h hj ho hk
  obtain ⟨k, rfl⟩ : ∃ k', k = k' + 1 := ⟨k - 1, by omega⟩
  show step _ _ = _
  by_cases c : 127 < n
  ·have hp : 128 ^ (j + 1 + 1) ≤ 128 ^ 8 := Nat.pow_le_pow_right (by omega) (by omega)
   rw [hs _ _ _ c (by omega) (by omega), enc_big c]
   have := ih (n / 128) (out ++ [((n % 128 + 128 : Nat) : Int)]) k (by rw [Nat.pow_succ] at h; exact Nat.div_lt_of_lt_mul (by omega)) (by omega) (by simp; omega) (by omega)
   rw [this]
   simp
  ·rw [he _ _ _ c (by omega), qH6 c]
theorem var_step (n : Nat) (h : n < 128 ^ 8) (c : 127 < n) : wi64 (Int.tdiv (n : Int) 128) = ((n / 128 : Nat) : Int) ∧ wu8 (wi64 (Int.tmod (n : Int) 128 + 128)) = ((n % 128 + 128 : Nat) : Int) := by
 have h8 : (128 : Nat) ^ 8 = 72057594037927936 := by decide
 rw [tdiv_pos _ _ (by omega), tmod_pos _ _ (by omega)]
 constructor
 ·rw [show wi64 ((n : Int) / 128) = (n : Int) / 128 from qAH _ (by omega)]; omega
 ·rw [show wi64 ((n : Int) % 128 + 128) = (n : Int) % 128 + 128 from qAH _ (by omega), w8_id _ (by omega)]; omega
theorem l01Var_is (k n : Nat) (hn : n < 128 ^ 8) (hk : 1048576 < k) : qGS k ((n : Int), ()) = some (qAK (enc n), ((), ())) := by
 unfold qGS
 have := var_loop (fun l => (some (qAK l, ((), ())) : Option (ByteArray × Unit × Unit))) (step := fun (rec0 : (Int × List (Int) × Unit) → Option (ByteArray × Unit × Unit)) (y0 : Int × List (Int) × Unit) =>
(if (decide ((127 : Int) < y0.1)) = true then
(if List.length y0.2.1 + List.length ([(wu8 ((wi64 ((Int.tmod y0.1 (128 : Int)) + (128 : Int)))))] : List (Int)) ≤ capMax then
(rec0 ((wi64 (Int.tdiv y0.1 (128 : Int))), ((y0.2.1 ++ ([(wu8 ((wi64 ((Int.tmod y0.1 (128 : Int)) + (128 : Int)))))] : List (Int))), ())))
else none)
else
((fun (z1 : Int × List (Int) × Unit) =>
(if List.length z1.2.1 + List.length ([(wu8 (z1.1))] : List (Int)) ≤ capMax then
some ((qAK (z1.2.1 ++ ([(wu8 (z1.1))] : List (Int)))), ((), ()))
else none)) (y0.1, (y0.2.1, ()))))) ?_ ?_ 7 n [] k hn (by omega) (by simp) (by omega)
 ·exact this
 ·intro again n out c h ho
  obtain ⟨e1, e2⟩ := var_step n h c
  have g : (127 : Int) < (n : Int) := by omega
  simp only [g, e1, e2, decide_true, if_true]
  rw [if_pos (qC0 _ _ (by simp; omega))]
 ·intro again n out c ho
  have g : ¬ (127 : Int) < (n : Int) := by omega
  have e : wu8 (n : Int) = (n : Int) := w8_id _ (by omega)
  simp only [g, e, decide_false, Bool.false_eq_true, if_false]
  rw [if_pos (qC0 _ _ (by simp; omega))]
/-- A list is turned place by place. -/
theorem set_loop {X R : Type} {step : (X → Option R) → X → Option R} (mk : List Int → Nat → X) (L L' : List Int) (fin : Option R) (hl : L'.length = L.length)
  (hs : ∀ again (W : List Int) (i : Nat), i < L.length → W.length = L.length → rdI W (i : Int) = rdI L (i : Int) → step again (mk W i) = again (mk (W.set i (rdI L' (i : Int))) (i + 1)))
  (he : ∀ again, step again (mk L' L.length) = fin) (k : Nat) (hk : L.length < k) : qAG step k (mk L 0) = fin := by
 have key : ∀ m i k, i + m = L.length → m < k → qAG step k (mk (L'.take i ++ L.drop i) i) = fin := by
  intro m
  induction m with
  | zero =>
   intro i k h hk
   obtain ⟨k, rfl⟩ : ∃ k', k = k' + 1 := ⟨k - 1, by omega⟩
   have : i = L.length := by omega
   subst this
   show step _ _ = _
   rw [List.take_of_length_le (by omega), List.drop_eq_nil_of_le (by omega), List.append_nil, he]
  | succ m ih =>
   intro i k h hk
   obtain ⟨k, rfl⟩ : ∃ k', k = k' + 1 := ⟨k - 1, by omega⟩
   have ht : (L'.take i).length = i := by rw [List.length_take]; omega
   have hi : i < L.length := by omega
   have hlen : (L'.take i ++ L.drop i).length = L.length := by rw [List.length_append, ht, List.length_drop]; omega
   have e1 : rdI (L'.take i ++ L.drop i) (i : Int) = rdI L (i : Int) := by
    rw [qAt _ i (by omega), qAt L i hi, List.getElem_append_right (by omega), List.getElem_drop]
    congr 1
    omega
   have e2 : (L'.take i ++ L.drop i).set i (rdI L' (i : Int)) = L'.take (i + 1) ++ L.drop (i + 1) := by
    rw [qAt L' i (by omega), List.set_append_right _ _ (by omega), ht, Nat.sub_self, List.drop_eq_getElem_cons hi, List.set_cons_zero, List.take_succ_eq_append_getElem (by omega), List.append_assoc]
    rfl
   show step _ _ = _
   rw [hs _ _ i hi hlen e1, e2]
   exact ih (i + 1) k (by omega) (by omega)
 have := key L.length 0 k (by omega) hk
 simpa using this
def bx (v x : Int) : Int := qAR .xor .u8 v x
def keyS (key : ByteArray) : ByteArray := if 64 < key.size then dg key else key
def keyL (key : ByteArray) : List Int := qAE (keyS key) ++ List.replicate (64 - (keyS key).size) 0
theorem keyS_size (key : ByteArray) : (keyS key).size ≤ 64 := by
 unfold keyS
 split
 ·rw [qF3]; decide
 ·omega
theorem keyL_len (key : ByteArray) : (keyL key).length = 64 := by
 have := keyS_size key
 unfold keyL
 rw [List.length_append, qAV, List.length_replicate]
 omega
def mk64 (key : ByteArray) (x : Int) : ByteArray := qAK ((keyL key).map fun v => bx v x)
theorem qCu (key : ByteArray) (x : Int) : (mk64 key x).size = 64 := by rw [mk64, qAX, List.length_map, keyL_len]
def macS (key s : ByteArray) : ByteArray := dg (mk64 key 92 ++ dg (mk64 key 54 ++ s))
theorem qEa (key s : ByteArray) : (macS key s).size = 32 := qF3 _
theorem masked_is (k : Nat) (s : ByteArray) (x : Int) (hs : s.size ≤ 1048576) (hk : 2097152 < k) : qB7 k (s, (x, ())) = some (qAK ((qAE s).map fun v => bx v x), ((), ((), ()))) := by
 unfold qB7
 have hm : s.size ≤ maxStr := by have := qBv s.size 0 (by omega); omega
 have hl := qAV s
 simp only [hm, if_true]
 refine set_loop (fun W i => (x, (W, (((qAE s).length : Int), ((i : Int), ()))))) (qAE s) ((qAE s).map fun v => bx v x) _ (by simp) ?_ ?_ k (by omega)
 ·intro again W i hi hW hWi
  have c1 : (i : Int) < ((qAE s).length : Int) := by omega
  have c2 : (0 : Int) ≤ (i : Int) ∧ (i : Int) < (W.length : Int) := by omega
  have w1 : wi64 ((i : Int) + 1) = ((i + 1 : Nat) : Int) := (qAH _ (by omega)).trans (by omega)
  have e : rdI ((qAE s).map fun v => bx v x) (i : Int) = qAR .xor .u8 (rdI (qAE s) (i : Int)) x := by
   rw [qAt _ i (by simpa using hi), qAt _ i hi, List.getElem_map]
   rfl
  simp only [c1, c2, w1, qDf, hWi, e, Int.toNat_natCast, and_self, decide_true, if_true]
 ·intro again
  simp
theorem repeat0_is (k n : Nat) (hn : n ≤ 1000) : qAs k ((⟨#[0]⟩ : ByteArray), ((n : Int), ())) = some (qAK (List.replicate n 0), ((), ((), ()))) := by
 unfold qAs repF
 have cond : (0 : Int) ≤ (n : Int) ∧ (n : Int) ≤ 9223372036854775807 ∧ (⟨#[0]⟩ : ByteArray).size * (n : Int).toNat ≤ 140737488355328 := by
  refine ⟨by omega, by omega, ?_⟩
  rw [Int.toNat_natCast]
  show 1 * _ ≤ _
  omega
 simp only []
 rw [if_pos cond, Int.toNat_natCast]
 have hrep : (⟨(Lib.repeatL (⟨#[0]⟩ : ByteArray).data.toList n).toArray⟩ : ByteArray) = qAK (List.replicate n 0) := by rw [← qGp, qCE]
 rw [hrep]
theorem key_pad (key : ByteArray) : qAE (keyS key ++ qAK (List.replicate (64 - (keyS key).size) 0)) = keyL key := by
 rw [qD3, qBI (by intro x hx; have := List.eq_of_mem_replicate hx; omega)]
 rfl
theorem i_MacOf_is (k : Nat) (key s : ByteArray) (hkey : key.size ≤ 1048576) (hs : s.size ≤ 1048576 - 100) (hk : 2097152 < k) : i_MacOf k (key, (s, ())) = some (macS key s, ((), ((), ()))) := by
 unfold i_MacOf
 have body : ∀ K : ByteArray, K = keyS key → K.size ≤ 64 → ((qAs k ((⟨#[0]⟩ : ByteArray), ((wi64 ((64 : Int) - (ByteArray.size K : Int))), ()))).bind fun p12 =>
(if ByteArray.size K + ByteArray.size p12.1 ≤ maxStr then
((qB7 k ((K ++ p12.1), ((92 : Int), ()))).bind fun p13 =>
((qB7 k ((K ++ p12.1), ((54 : Int), ()))).bind fun p14 =>
(if ByteArray.size p14.1 + ByteArray.size s ≤ maxStr then
((qBO k ((p14.1 ++ s), ())).bind fun p15 =>
(if ByteArray.size p13.1 + ByteArray.size p15.1 ≤ maxStr then
((qBO k ((p13.1 ++ p15.1), ())).bind fun p16 =>
some (p16.1, ((), ((), ()))))
else none))
else none)))
else none)) = some (macS key s, ((), ((), ()))) := by
  intro K hK hK64
  have w : wi64 ((64 : Int) - (K.size : Int)) = ((64 - K.size : Nat) : Int) := (qAH _ (by omega)).trans (by omega)
  have sz : (K ++ qAK (List.replicate (64 - K.size) 0)).size = 64 := by rw [ByteArray.size_append, qAX, List.length_replicate]; omega
  have hb : qAE (K ++ qAK (List.replicate (64 - K.size) 0)) = keyL key := by rw [hK]; exact key_pad key
  have m1 := masked_is k (K ++ qAK (List.replicate (64 - K.size) 0)) 92 (by omega) hk
  have m2 := masked_is k (K ++ qAK (List.replicate (64 - K.size) 0)) 54 (by omega) hk
  rw [hb] at m1 m2
  have m1' : qB7 k (K ++ qAK (List.replicate (64 - K.size) 0), ((92 : Int), ())) = some (mk64 key 92, ((), ((), ()))) := m1
  have m2' : qB7 k (K ++ qAK (List.replicate (64 - K.size) 0), ((54 : Int), ())) = some (mk64 key 54, ((), ((), ()))) := m2
  have d1 := qE1 k (mk64 key 54 ++ s) (by rw [ByteArray.size_append, qCu]; omega) hk
  have d2 := qE1 k (mk64 key 92 ++ dg (mk64 key 54 ++ s)) (by rw [ByteArray.size_append, qCu, qF3]; omega) hk
  have c1 : K.size + (qAK (List.replicate (64 - K.size) 0)).size ≤ maxStr := qBv _ _ (by rw [qAX, List.length_replicate]; omega)
  have c2 : (mk64 key 54).size + s.size ≤ maxStr := qBv _ _ (by rw [qCu]; omega)
  have c3 : (mk64 key 92).size + (dg (mk64 key 54 ++ s)).size ≤ maxStr := qBv _ _ (by rw [qCu, qF3]; omega)
  simp only [w, repeat0_is k _ (show 64 - K.size ≤ 1000 by omega), c1, m1', m2', d1, d2, c2, c3, if_true, Option.bind_some]
  rfl
 by_cases c : (64 : Int) < (key.size : Int)
 ·have hK : dg key = keyS key := by unfold keyS; rw [if_pos (by omega)]
  simp only [c, decide_true, if_true, qE1 k key (by omega) hk, Option.bind_some]
  exact body _ hK (by rw [qF3]; decide)
 ·have hK : key = keyS key := by unfold keyS; rw [if_neg (by omega)]
  simp only [c, decide_false, Bool.false_eq_true, if_false]
  exact body _ hK (by omega)
theorem l05Mask_is (k : Nat) (key : ByteArray) (x : Int) (hkey : key.size ≤ 1048576) (hk : 2097152 < k) : qEH k (key, (x, ())) = some (mk64 key x, ((), ((), ()))) := by
 unfold qEH jn
 have hcap : (0 : Int) ≤ 64 ∧ (64 : Int) ≤ (capMax : Int) := ⟨by decide, by decide⟩
 simp only [hcap, and_self, if_true]
 have body : ∀ K : ByteArray, K = keyS key → K.size ≤ 64 → (qAG (fun (rec0 : (ByteArray × Int × List (Int) × Int × Unit) → Option (ByteArray × Unit × Unit × Unit)) (y0 : ByteArray × Int × List (Int) × Int × Unit) =>
(if (decide (y0.2.2.2.1 < (64 : Int))) = true then
(if (decide (y0.2.2.2.1 < (ByteArray.size y0.1 : Int))) = true then
(if 0 ≤ y0.2.2.2.1 ∧ y0.2.2.2.1 < (ByteArray.size y0.1 : Int) then
(if 0 ≤ y0.2.2.2.1 ∧ y0.2.2.2.1 < (List.length y0.2.2.1 : Int) then
(if 0 ≤ y0.2.2.2.1 ∧ y0.2.2.2.1 < (List.length (List.set y0.2.2.1 (Int.toNat y0.2.2.2.1) (bt y0.1 y0.2.2.2.1)) : Int) then
(if 0 ≤ y0.2.2.2.1 ∧ y0.2.2.2.1 < (List.length (List.set y0.2.2.1 (Int.toNat y0.2.2.2.1) (bt y0.1 y0.2.2.2.1)) : Int) then
(rec0 (y0.1, (y0.2.1, ((List.set (List.set y0.2.2.1 (Int.toNat y0.2.2.2.1) (bt y0.1 y0.2.2.2.1)) (Int.toNat y0.2.2.2.1) (qAR .xor .u8 (Ty.rd (t := (.int .u8)) (List.set y0.2.2.1 (Int.toNat y0.2.2.2.1) (bt y0.1 y0.2.2.2.1)) y0.2.2.2.1) y0.2.1)), ((wi64 (y0.2.2.2.1 + (1 : Int))), ())))))
else none)
else none)
else none)
else none)
else
(if 0 ≤ y0.2.2.2.1 ∧ y0.2.2.2.1 < (List.length y0.2.2.1 : Int) then
(if 0 ≤ y0.2.2.2.1 ∧ y0.2.2.2.1 < (List.length y0.2.2.1 : Int) then
(rec0 (y0.1, (y0.2.1, ((List.set y0.2.2.1 (Int.toNat y0.2.2.2.1) (qAR .xor .u8 (Ty.rd (t := (.int .u8)) y0.2.2.1 y0.2.2.2.1) y0.2.1)), ((wi64 (y0.2.2.2.1 + (1 : Int))), ())))))
else none)
else none))
else
((fun (z2 : List (Int) × Unit) =>
some ((qAK z2.1), ((), ((), ())))) (y0.2.2.1, ())))) k (K, (x, ((List.replicate (Int.toNat (64 : Int)) (0 : Int)), ((0 : Int), ()))))) = some (mk64 key x, ((), ((), ()))) := by
  intro K hK hK64
  have hL : (List.replicate (Int.toNat (64 : Int)) (0 : Int)).length = 64 := by rw [List.length_replicate]; rfl
  have kl := keyL_len key
  refine set_loop (fun W i => (K, (x, (W, ((i : Int), ()))))) (List.replicate (Int.toNat (64 : Int)) (0 : Int)) ((keyL key).map fun v => bx v x) _ (by rw [List.length_map, kl, hL]) ?_ ?_ k (by omega)
  ·intro again W i hi hW hWi
   have c0 : (i : Int) < 64 := by omega
   have c2 : (0 : Int) ≤ (i : Int) ∧ (i : Int) < (W.length : Int) := by omega
   have w1 : wi64 ((i : Int) + 1) = ((i + 1 : Nat) : Int) := (qAH _ (by omega)).trans (by omega)
   have hz : rdI W (i : Int) = 0 := by rw [hWi, qAt _ i hi]; exact List.getElem_replicate ..
   have e : rdI ((keyL key).map fun v => bx v x) (i : Int) = qAR .xor .u8 (rdI (keyL key) (i : Int)) x := by
    rw [qAt _ i (by simp; omega), qAt _ i (by omega), List.getElem_map]
    rfl
   by_cases c1 : (i : Int) < (K.size : Int)
   ·have c3 : (0 : Int) ≤ (i : Int) ∧ (i : Int) < (K.size : Int) := by omega
    have c4 : (i : Int) < (((W.set i (bt K (i : Int))).length : Nat) : Int) := by rw [List.length_set]; exact c2.2
    have hbk : (qAE K).length = K.size := qAV K
    have e2 : rdI (keyL key) (i : Int) = bt K (i : Int) := by
     rw [qAt _ i (by omega), qH1 K i (by omega)]
     unfold keyL
     simp only [← hK]
     rw [List.getElem_append_left (by omega)]
    have e3 : rdI (W.set i (bt K (i : Int))) (i : Int) = bt K (i : Int) := by rw [qAt _ i (by rw [List.length_set]; omega), List.getElem_set_self]
    simp only [c0, c1, c2, c3, c4, w1, qDf, Int.toNat_natCast, e3, e, e2, and_self, decide_true, if_true, List.set_set]
   ·have hbk : (qAE K).length = K.size := qAV K
    have e2 : rdI (keyL key) (i : Int) = 0 := by
     rw [qAt _ i (by omega)]
     unfold keyL
     simp only [← hK]
     rw [List.getElem_append_right (by omega)]
     simp
    simp only [c0, c1, c2, w1, qDf, hz, Int.toNat_natCast, e, e2, and_self, decide_true, decide_false, Bool.false_eq_true, if_true, if_false]
  ·intro again
   have c0 : ¬ (((List.replicate (Int.toNat (64 : Int)) (0 : Int)).length : Nat) : Int) < 64 := by rw [hL]; decide
   simp only [c0, decide_false, Bool.false_eq_true, if_false]
   rfl
 by_cases c : (64 : Int) < (key.size : Int)
 ·have hK : dg key = keyS key := by unfold keyS; rw [if_pos (by omega)]
  simp only [c, decide_true, if_true, qE2 k key (by omega) hk, Option.bind_some]
  exact body _ hK (by rw [qF3]; decide)
 ·have hK : key = keyS key := by unfold keyS; rw [if_neg (by omega)]
  simp only [c, decide_false, Bool.false_eq_true, if_false]
  exact body _ hK (by omega)
theorem s_MacOf_is (k : Nat) (key s : ByteArray) (hkey : key.size ≤ 1048576) (hs : s.size ≤ 1048576 - 100) (hk : 2097152 < k) : s_MacOf k (key, (s, ())) = some (macS key s, ((), ((), ()))) := by
 unfold s_MacOf
 have d1 := qE2 k (mk64 key 54 ++ s) (by rw [ByteArray.size_append, qCu]; omega) hk
 have d2 := qE2 k (mk64 key 92 ++ dg (mk64 key 54 ++ s)) (by rw [ByteArray.size_append, qCu, qF3]; omega) hk
 have c2 : (mk64 key 54).size + s.size ≤ maxStr := qBv _ _ (by rw [qCu]; omega)
 have c3 : (mk64 key 92).size + (dg (mk64 key 54 ++ s)).size ≤ maxStr := qBv _ _ (by rw [qCu, qF3]; omega)
 simp only [l05Mask_is k key _ hkey hk, d1, d2, c2, c3, if_true, Option.bind_some]
 rfl
theorem i_VarText_is (k n : Nat) (hn : n ≤ 1000000000) (hk : 1048576 < k) : qEJ k ((n : Int), ()) = some ((qAK (enc n), (true, ())), ((), ())) := by
 unfold qEJ
 have c0 : (0 : Int) ≤ (n : Int) ∧ (n : Int) ≤ 1000000000 := by omega
 have hn8 : n < 128 ^ 8 := by
  have : (128 : Nat) ^ 8 = 72057594037927936 := by decide
  omega
 simp only [qBD, c0, and_self, decide_true, Bool.not_true, Bool.false_eq_true, if_false, Option.bind_some]
 refine (var_loop (fun l => (some ((qAK l, (true, ())), ((), ())) : Option ((ByteArray × Bool × Unit) × Unit × Unit))) ?_ ?_ 7 n [] k hn8 (by omega) (by simp) (by omega)).trans rfl
 ·intro again n out c h ho
  obtain ⟨e1, e2⟩ := var_step n h c
  have g : (127 : Int) < (n : Int) := by omega
  simp only [g, e1, e2, decide_true, if_true]
  rw [if_pos (qC0 _ _ (by simp; omega))]
 ·intro again n out c ho
  have g : ¬ (127 : Int) < (n : Int) := by omega
  have e : wu8 (n : Int) = (n : Int) := w8_id _ (by omega)
  simp only [g, e, decide_false, Bool.false_eq_true, if_false]
  rw [if_pos (qC0 _ _ (by simp; omega))]
def mskB (key : ByteArray) (num i : Nat) : List Int := qAE (macS key (((⟨#[109]⟩ : ByteArray) ++ qAK (enc num)) ++ qAK [((i % 256 : Nat) : Int)]))
def mskC (key : ByteArray) (num : Nat) : Nat → List Int
 | 0 => []
 | m + 1 => mskC key num m ++ mskB key num m
theorem mskB_len (key : ByteArray) (num i : Nat) : (mskB key num i).length = 32 := by rw [mskB, qAV, qEa]
theorem qH7 (key : ByteArray) (num m : Nat) : (mskC key num m).length = 32 * m := by
 induction m with
 | zero => rfl
 | succ m ih => rw [mskC, List.length_append, ih, mskB_len]; omega
theorem mskC_isB (key : ByteArray) (num m : Nat) : isB (mskC key num m) := by
 induction m with
 | zero => exact isB_nil
 | succ m ih => rw [mskC, qGU]; exact ⟨ih, qCj _⟩
def mskL (key : ByteArray) (num n : Nat) : List Int := (mskC key num ((n + 31) / 32)).take n
theorem mskL_len (key : ByteArray) (num n : Nat) : (mskL key num n).length = n := by rw [mskL, List.length_take, qH7]; omega
theorem mskL_isB (key : ByteArray) (num n : Nat) : isB (mskL key num n) := isB_take (mskC_isB _ _ _) _
theorem enc_le (n : Nat) (h : n ≤ 1000000000) : (enc n).length ≤ 8 := by
 have p : (128 : Nat) ^ (7 + 1) = 72057594037927936 := by decide
 exact enc_len 7 n (by omega)
theorem i_Mask_is (k num n : Nat) (key : ByteArray) (hkey : key.size ≤ 1048576) (hnum : num ≤ 1000000000) (hn : n ≤ 8000) (hk : 2097152 < k) :
  i_Mask k (key, ((num : Int), ((n : Int), ()))) = some ((qAK (mskL key num n), (true, ())), ((), ((), ((), ())))) := by
 unfold i_Mask
 have c0 : (0 : Int) ≤ (n : Int) ∧ (n : Int) ≤ 8000 := by omega
 have he := enc_le num hnum
 simp only [i_VarText_is k num hnum (by omega), qBD, c0, and_self, decide_true, Bool.not_true, Bool.false_eq_true, if_true, if_false, Option.bind_some]
 refine (qB8 (A := Unit) (fun i _ => (key, ((n : Int), (qAK (enc num), (mskC key num i, ((i : Int), ())))))) ((n + 31) / 32) (fun _ _ => ()) (fun _ => some ((qAK (mskL key num n), (true, ())), ((), ((), ((), ()))))) (fun _ _ => True) ?_ ?_ ((n + 31) / 32) 0 () k (by omega) trivial (by omega)).trans rfl
 ·intro again i _ hi _
  have hl := qH7 key num i
  have c1 : ((mskC key num i).length : Int) < (n : Int) := by omega
  have w1 : wi64 ((i : Int) + 1) = ((i + 1 : Nat) : Int) := (qAH _ (by omega)).trans (by omega)
  have b1 : qEI k ((i : Int), ()) = some (qAK [((i % 256 : Nat) : Int)], ((), ())) := by
   unfold qEI
   have : wu8 (i : Int) = ((i % 256 : Nat) : Int) := (w8_mod _).trans (by omega)
   simp only [this]
  have sz1 : (⟨#[109]⟩ : ByteArray).size = 1 := rfl
  have s1 : (⟨#[109]⟩ : ByteArray).size + (qAK (enc num)).size ≤ maxStr := qBv _ _ (by rw [sz1, qAX]; omega)
  have s2 : ((⟨#[109]⟩ : ByteArray) ++ qAK (enc num)).size + (qAK [((i % 256 : Nat) : Int)]).size ≤ maxStr := qBv _ _ (by rw [ByteArray.size_append, sz1, qAX, qAX]; simp; omega)
  have hm := i_MacOf_is k key (((⟨#[109]⟩ : ByteArray) ++ qAK (enc num)) ++ qAK [((i % 256 : Nat) : Int)]) hkey (by rw [ByteArray.size_append, ByteArray.size_append, sz1, qAX, qAX]; simp; omega) hk
  have hc : (mskC key num i).length + (qAE (macS key (((⟨#[109]⟩ : ByteArray) ++ qAK (enc num)) ++ qAK [((i % 256 : Nat) : Int)]))).length ≤ capMax := qC0 _ _ (by rw [hl, qAV, qEa]; omega)
  refine ⟨?_, trivial⟩
  simp only [c1, w1, s1, b1, s2, hm, hc, decide_true, if_true, Option.bind_some]
  rfl
 ·intro again _ _
  have hl := qH7 key num ((n + 31) / 32)
  have c1 : ¬ ((mskC key num ((n + 31) / 32)).length : Int) < (n : Int) := by omega
  have c2 : (0 : Int) ≤ (n : Int) ∧ (n : Int) ≤ ((mskC key num ((n + 31) / 32)).length : Int) := by omega
  simp only [c1, c2, and_self, decide_false, Bool.false_eq_true, if_true, if_false, Int.toNat_natCast]
  rfl
theorem s_Mask_is (k num n : Nat) (key : ByteArray) (hkey : key.size ≤ 1048576) (hnum : num ≤ 1000000000) (hn : n ≤ 8000) (hk : 2097152 < k) :
  s_Mask k (key, ((num : Int), ((n : Int), ()))) = some ((qAK (mskL key num n), (true, ())), ((), ((), ((), ())))) := by
 unfold s_Mask
 have c0 : (0 : Int) ≤ (n : Int) ∧ (n : Int) ≤ 8000 := by omega
 have c00 : (0 : Int) ≤ (num : Int) ∧ (num : Int) ≤ 1000000000 := by omega
 have he := enc_le num hnum
 have hn8 : num < 128 ^ 8 := by
  have : (128 : Nat) ^ 8 = 72057594037927936 := by decide
  omega
 simp only [qBg, c00, c0, and_self, decide_true, Bool.not_true, Bool.false_eq_true, if_true, if_false, Option.bind_some]
 refine (qB8 (A := Unit) (fun i _ => (key, ((num : Int), ((n : Int), (mskC key num i, ((i : Int), ())))))) ((n + 31) / 32) (fun _ _ => ()) (fun _ => some ((qAK (mskL key num n), (true, ())), ((), ((), ((), ()))))) (fun _ _ => True) ?_ ?_ ((n + 31) / 32) 0 () k (by omega) trivial (by omega)).trans rfl
 ·intro again i _ hi _
  have hl := qH7 key num i
  have c1 : ((mskC key num i).length : Int) < (n : Int) := by omega
  have w1 : wi64 ((i : Int) + 1) = ((i + 1 : Nat) : Int) := (qAH _ (by omega)).trans (by omega)
  have b1 : qFt k ((i : Int), ()) = some (qAK [((i % 256 : Nat) : Int)], ((), ())) := by
   unfold qFt
   have t : Int.tmod (i : Int) 256 = ((i % 256 : Nat) : Int) := (Int.tmod_eq_emod_of_nonneg (by omega)).trans (by omega)
   have q : ¬ ((i % 256 : Nat) : Int) < 0 := by omega
   have u : wu8 ((i % 256 : Nat) : Int) = ((i % 256 : Nat) : Int) := (w8_mod _).trans (by omega)
   simp only [t, q, u, decide_false, Bool.false_eq_true, if_false]
  have sz1 : (⟨#[109]⟩ : ByteArray).size = 1 := rfl
  have s1 : (⟨#[109]⟩ : ByteArray).size + (qAK (enc num)).size ≤ maxStr := qBv _ _ (by rw [sz1, qAX]; omega)
  have s2 : ((⟨#[109]⟩ : ByteArray) ++ qAK (enc num)).size + (qAK [((i % 256 : Nat) : Int)]).size ≤ maxStr := qBv _ _ (by rw [ByteArray.size_append, sz1, qAX, qAX]; simp; omega)
  have hm := s_MacOf_is k key (((⟨#[109]⟩ : ByteArray) ++ qAK (enc num)) ++ qAK [((i % 256 : Nat) : Int)]) hkey (by rw [ByteArray.size_append, ByteArray.size_append, sz1, qAX, qAX]; simp; omega) hk
  have s3 : (macS key (((⟨#[109]⟩ : ByteArray) ++ qAK (enc num)) ++ qAK [((i % 256 : Nat) : Int)])).size ≤ maxStr := by rw [qEa]; decide
  have hc : (mskC key num i).length + (qAE (macS key (((⟨#[109]⟩ : ByteArray) ++ qAK (enc num)) ++ qAK [((i % 256 : Nat) : Int)]))).length ≤ capMax := qC0 _ _ (by rw [hl, qAV, qEa]; omega)
  refine ⟨?_, trivial⟩
  simp only [c1, w1, l01Var_is k num hn8 (by omega), s1, b1, s2, hm, s3, hc, decide_true, if_true, Option.bind_some]
  rfl
 ·intro again _ _
  have hl := qH7 key num ((n + 31) / 32)
  have c1 : ¬ ((mskC key num ((n + 31) / 32)).length : Int) < (n : Int) := by omega
  have c2 : (0 : Int) ≤ (n : Int) ∧ (n : Int) ≤ ((mskC key num ((n + 31) / 32)).length : Int) := by omega
  simp only [c1, c2, and_self, decide_false, Bool.false_eq_true, if_true, if_false, Int.toNat_natCast]
  rfl
/-- A text under its mask. -/
def hidS (key : ByteArray) (num : Nat) (s : ByteArray) : ByteArray := qAK (List.zipWith bx (qAE s) (mskL key num s.size))
def tagS (key : ByteArray) (num : Nat) (s : ByteArray) : ByteArray := (macS key (((⟨#[116]⟩ : ByteArray) ++ qAK (enc num)) ++ s)).extract 0 16
theorem i_hidden_is (k num : Nat) (key s : ByteArray) (hkey : key.size ≤ 1048576) (hnum : num ≤ 1000000000) (hn : s.size ≤ 8000) (hk : 2097152 < k) :
  qHn k (key, ((num : Int), (s, ()))) = some ((hidS key num s, (true, ())), ((), ((), ((), ())))) := by
 unfold qHn
 have hm : s.size ≤ maxStr := by have := qBv s.size 0 (by omega); omega
 have hl := qAV s
 have ml := mskL_len key num s.size
 simp only [i_Mask_is k num s.size key hkey hnum hn hk, hm, Bool.not_true, Bool.false_eq_true, if_true, if_false, Option.bind_some]
 refine set_loop (fun W i => (qAK (mskL key num s.size), (W, (((qAE s).length : Int), ((i : Int), ()))))) (qAE s) (List.zipWith bx (qAE s) (mskL key num s.size)) _ (by rw [List.length_zipWith]; omega) ?_ ?_ k (by omega)
 ·intro again W i hi hW hWi
  have c1 : (i : Int) < ((qAE s).length : Int) := by omega
  have c2 : (0 : Int) ≤ (i : Int) ∧ (i : Int) < (W.length : Int) := by omega
  have c3 : (i : Int) < ((qAK (mskL key num s.size)).size : Int) := by rw [qAX]; omega
  have w1 : wi64 ((i : Int) + 1) = ((i + 1 : Nat) : Int) := (qAH _ (by omega)).trans (by omega)
  have eb : bt (qAK (mskL key num s.size)) (i : Int) = rdI (mskL key num s.size) (i : Int) := by
   rw [qH1 _ i (by rw [qAX]; omega), qAt _ i (by omega)]
   simp only [qBI (mskL_isB key num s.size)]
  have e : rdI (List.zipWith bx (qAE s) (mskL key num s.size)) (i : Int) = qAR .xor .u8 (rdI (qAE s) (i : Int)) (rdI (mskL key num s.size) (i : Int)) := by
   rw [qAt _ i (by rw [List.length_zipWith]; omega), qAt _ i hi, qAt _ i (by omega), List.getElem_zipWith]
   rfl
  simp only [c1, c2, c3, w1, qDf, hWi, eb, e, Int.toNat_natCast, and_self, decide_true, if_true]
 ·intro again
  simp
  rfl
theorem l06Xor_is (k num : Nat) (key s : ByteArray) (hn : s.size ≤ 8000) (hk : 2097152 < k) : qHl k (s, (qAK (mskL key num s.size), ())) = some (hidS key num s, ((), ((), ()))) := by
 unfold qHl
 have hm : s.size ≤ maxStr := by have := qBv s.size 0 (by omega); omega
 have hl := qAV s
 have ml := mskL_len key num s.size
 simp only [hm, if_true]
 refine set_loop (fun W i => (qAK (mskL key num s.size), (W, ((i : Int), ())))) (qAE s) (List.zipWith bx (qAE s) (mskL key num s.size)) _ (by rw [List.length_zipWith]; omega) ?_ ?_ k (by omega)
 ·intro again W i hi hW hWi
  have c2 : (0 : Int) ≤ (i : Int) ∧ (i : Int) < (W.length : Int) := by omega
  have c3 : (i : Int) < ((qAK (mskL key num s.size)).size : Int) := by rw [qAX]; omega
  have w1 : wi64 ((i : Int) + 1) = ((i + 1 : Nat) : Int) := (qAH _ (by omega)).trans (by omega)
  have eb : bt (qAK (mskL key num s.size)) (i : Int) = rdI (mskL key num s.size) (i : Int) := by
   rw [qH1 _ i (by rw [qAX]; omega), qAt _ i (by omega)]
   simp only [qBI (mskL_isB key num s.size)]
  have e : rdI (List.zipWith bx (qAE s) (mskL key num s.size)) (i : Int) = qAR .xor .u8 (rdI (qAE s) (i : Int)) (rdI (mskL key num s.size) (i : Int)) := by
   rw [qAt _ i (by rw [List.length_zipWith]; omega), qAt _ i hi, qAt _ i (by omega), List.getElem_zipWith]
   rfl
  simp only [c2, c3, w1, qDf, hWi, eb, e, Int.toNat_natCast, and_self, decide_true, if_true]
 ·intro again
  have hz : (List.zipWith bx (qAE s) (mskL key num s.size)).length = (qAE s).length := by rw [List.length_zipWith]; omega
  simp [hz]
  rfl
theorem i_macText_is (k num : Nat) (key s : ByteArray) (hkey : key.size ≤ 1048576) (hnum : num ≤ 1000000000) (hn : s.size ≤ 8000) (hk : 2097152 < k) :
  qFu k (key, ((num : Int), (s, ()))) = some (tagS key num s, ((), ((), ((), ())))) := by
 unfold qFu
 have he := enc_le num hnum
 have sz1 : (⟨#[116]⟩ : ByteArray).size = 1 := rfl
 have s1 : (⟨#[116]⟩ : ByteArray).size + (qAK (enc num)).size ≤ maxStr := qBv _ _ (by rw [sz1, qAX]; omega)
 have s2 : ((⟨#[116]⟩ : ByteArray) ++ qAK (enc num)).size + s.size ≤ maxStr := qBv _ _ (by rw [ByteArray.size_append, sz1, qAX]; omega)
 have hm := i_MacOf_is k key (((⟨#[116]⟩ : ByteArray) ++ qAK (enc num)) ++ s) hkey (by rw [ByteArray.size_append, ByteArray.size_append, sz1, qAX]; omega) hk
 have c : (0 : Int) ≤ 16 ∧ (16 : Int) ≤ ((macS key (((⟨#[116]⟩ : ByteArray) ++ qAK (enc num)) ++ s)).size : Int) := by rw [qEa]; decide
 simp only [i_VarText_is k num hnum (by omega), s1, s2, hm, c, and_self, if_true, Option.bind_some]
 rfl
theorem l06Tag_is (k num : Nat) (key s : ByteArray) (hkey : key.size ≤ 1048576) (hnum : num ≤ 1000000000) (hn : s.size ≤ 8000) (hk : 2097152 < k) :
  qHm k (key, ((num : Int), (s, ()))) = some (tagS key num s, ((), ((), ((), ())))) := by
 unfold qHm
 have he := enc_le num hnum
 have hn8 : num < 128 ^ 8 := by
  have : (128 : Nat) ^ 8 = 72057594037927936 := by decide
  omega
 have sz1 : (⟨#[116]⟩ : ByteArray).size = 1 := rfl
 have s1 : (⟨#[116]⟩ : ByteArray).size + (qAK (enc num)).size ≤ maxStr := qBv _ _ (by rw [sz1, qAX]; omega)
 have s2 : ((⟨#[116]⟩ : ByteArray) ++ qAK (enc num)).size + s.size ≤ maxStr := qBv _ _ (by rw [ByteArray.size_append, sz1, qAX]; omega)
 have hm := s_MacOf_is k key (((⟨#[116]⟩ : ByteArray) ++ qAK (enc num)) ++ s) hkey (by rw [ByteArray.size_append, ByteArray.size_append, sz1, qAX]; omega) hk
 have c : (0 : Int) ≤ 16 ∧ (16 : Int) ≤ ((macS key (((⟨#[116]⟩ : ByteArray) ++ qAK (enc num)) ++ s)).size : Int) := by rw [qEa]; decide
 simp only [l01Var_is k num hn8 (by omega), s1, s2, hm, c, and_self, if_true, Option.bind_some]
 rfl
def noneB (x : Int × ByteArray × ByteArray × Int × List Int × Int × Unit) : Bool := decide (x.1 = 0 ∧ x.2.1 = (⟨#[]⟩ : ByteArray) ∧ x.2.2.1 = (⟨#[]⟩ : ByteArray) ∧ x.2.2.2.1 = 0 ∧ (x.2.2.2.2.1.length : Int) = 0 ∧ x.2.2.2.2.2.1 = 0)
theorem qEb (k : Nat) (x) : qBm k (x, ()) = some (noneB x, ((), ())) := by
 obtain ⟨e, s, o, c, q, u, w⟩ := x
 unfold qBm noneB
 simp only []
 by_cases h1 : e = 0
 rotate_left
 ·simp [h1]
 by_cases h2 : s = (⟨#[]⟩ : ByteArray)
 rotate_left
 ·simp [h2]
 by_cases h3 : o = (⟨#[]⟩ : ByteArray)
 rotate_left
 ·simp [h3]
 by_cases h4 : c = 0
 rotate_left
 ·simp [h4]
 by_cases h5 : (q.length : Int) = 0
 rotate_left
 ·simp only [h1, h2, h3, h4, h5, decide_true, decide_false, if_true, true_and, false_and]
  rfl
 simp only [h1, h2, h3, h4, h5, decide_true, if_true, true_and]
def qH8 (x : Int × ByteArray × ByteArray × Int × List Int × Int × Unit) : Bool :=
 noneB x || (decide ((1 ≤ x.1 ∧ x.1 ≤ 1000000000) ∧ (x.2.1.size : Int) = 32 ∧ (x.2.2.1.size : Int) = 32 ∧ (0 ≤ x.2.2.2.1 ∧ x.2.2.2.1 ≤ 12)) && (seenB x.2.2.2.2.1 && decide (0 ≤ x.2.2.2.2.2.1 ∧ x.2.2.2.2.2.1 ≤ 1000000000)))
theorem s_SlotOk_is (k : Nat) (x : Int × ByteArray × ByteArray × Int × List Int × Int × Unit) (hk : 1048576 < k) (hl : x.2.2.2.2.1.length ≤ 1048576) : qGJ k (x, ()) = some (qH8 x, ((), ())) := by
 obtain ⟨e, s, o, c, q, u, w⟩ := x
 have hl : q.length ≤ 1048576 := hl
 unfold qGJ qH8
 simp only [qEb, qBg, s_SeenOk_is k q hk hl, Option.bind_some]
 cases hn : noneB (e, (s, (o, (c, (q, (u, ())))))) with
 | true => simp
 | false =>
  by_cases h1 : 1 ≤ e ∧ e ≤ 1000000000
  rotate_left
  ·simp [h1]
  by_cases h2 : (s.size : Int) = 32
  rotate_left
  ·simp [h2]
  by_cases h3 : (o.size : Int) = 32
  rotate_left
  ·simp [h3]
  by_cases h4 : 0 ≤ c ∧ c ≤ 12
  rotate_left
  ·simp [h4]
  simp only [h1, h2, h3, h4, and_self, decide_true, if_true, Bool.false_or, Bool.true_and]
  cases seenB q <;> simp
theorem i_SlotOk_is (k : Nat) (x : Int × ByteArray × ByteArray × Int × List Int × Int × Unit) (hk : 1048576 < k) (hl : x.2.2.2.2.1.length ≤ 1048576) : qGL k (x, ()) = some (qH8 x, ((), ())) := by
 obtain ⟨e, s, o, c, q, u, w⟩ := x
 have hl : q.length ≤ 1048576 := hl
 have hn := qEb k (e, (s, (o, (c, (q, (u, ()))))))
 unfold qBm at hn
 unfold qGL qH8
 simp only [qBD, i_SeenOk_is k q hk hl, Option.bind_some] at hn ⊢
 by_cases h0 : e = 0
 ·subst h0
  simp only [decide_true, if_true] at hn ⊢
  rw [hn]
  simp
 ·have hnf : noneB (e, (s, (o, (c, (q, (u, ())))))) = false := by simp [noneB, h0]
  simp only [hnf, h0, decide_false, Bool.false_or, Bool.false_eq_true, if_false]
  by_cases h2 : (s.size : Int) = 32
  rotate_left
  ·simp [h2]
  by_cases h1 : 1 ≤ e ∧ e ≤ 1000000000
  rotate_left
  ·simp [h1, h2]
  by_cases h3 : (o.size : Int) = 32
  rotate_left
  ·simp [h1, h2, h3]
  by_cases h4 : 0 ≤ c ∧ c ≤ 12
  rotate_left
  ·simp [h1, h2, h3, h4]
  simp only [h1, h2, h3, h4, and_self, decide_true, if_true, Bool.true_and]
  cases seenB q <;> simp
abbrev qBd : Type := Int × ByteArray × ByteArray × Int × List Int × Int × Int × ByteArray × ByteArray × Int × List Int × Int × Unit
def qH9 (x : qBd) : Int × ByteArray × ByteArray × Int × List Int × Int × Unit := (x.1, (x.2.1, (x.2.2.1, (x.2.2.2.1, (x.2.2.2.2.1, (x.2.2.2.2.2.1, ()))))))
def qGq (x : qBd) : Int × ByteArray × ByteArray × Int × List Int × Int × Unit := x.2.2.2.2.2.2
def qIA (x : qBd) : Bool := qH8 (qH9 x) && qH8 (qGq x) && (decide (x.2.2.2.2.2.2.1 = 0) || decide (x.2.2.2.2.2.2.1 < x.1))
theorem slot_zero {x : Int × ByteArray × ByteArray × Int × List Int × Int × Unit} (h : qH8 x = true) : noneB x = decide (x.1 = 0) := by
 cases hn : noneB x with
 | true =>
  have : x.1 = 0 := by
   unfold noneB at hn
   exact (of_decide_eq_true hn).1
  simp [this]
 | false =>
  unfold qH8 at h
  rw [hn, Bool.false_or, Bool.and_eq_true] at h
  have := (of_decide_eq_true h.1).1.1
  have : ¬ x.1 = 0 := by omega
  simp [this]
theorem s_SlotsOk_is (k : Nat) (x : qBd) (hk : 1048576 < k) (h1 : x.2.2.2.2.1.length ≤ 1048576) (h2 : x.2.2.2.2.2.2.2.2.2.2.1.length ≤ 1048576) : qFX k (x, ()) = some (qIA x, ((), ())) := by
 have e1 := s_SlotOk_is k (qH9 x) hk h1
 have e2 := s_SlotOk_is k (qGq x) hk h2
 have e3 := qEb k (qGq x)
 simp only [qH9, qGq] at e1 e2 e3
 unfold qFX qIA
 simp only [e1, e2, e3, Option.bind_some, qH9, qGq]
 cases a : qH8 (x.1, (x.2.1, (x.2.2.1, (x.2.2.2.1, (x.2.2.2.2.1, (x.2.2.2.2.2.1, ())))))) with
 | false => simp
 | true =>
  cases b : qH8 x.2.2.2.2.2.2 with
  | false => simp
  | true =>
   rw [slot_zero b]
   by_cases z : x.2.2.2.2.2.2.1 = 0 <;> simp [z]
theorem i_SlotsOk_is (k : Nat) (x : qBd) (hk : 1048576 < k) (h1 : x.2.2.2.2.1.length ≤ 1048576) (h2 : x.2.2.2.2.2.2.2.2.2.2.1.length ≤ 1048576) : qFc k (x, ()) = some (qIA x, ((), ())) := by
 have e1 := i_SlotOk_is k (qH9 x) hk h1
 have e2 := i_SlotOk_is k (qGq x) hk h2
 simp only [qH9, qGq] at e1 e2
 unfold qFc qIA
 simp only [e1, e2, Option.bind_some, qH9, qGq]
 cases a : qH8 (x.1, (x.2.1, (x.2.2.1, (x.2.2.2.1, (x.2.2.2.2.1, (x.2.2.2.2.2.1, ())))))) with
 | false => simp
 | true =>
  cases b : qH8 x.2.2.2.2.2.2 with
  | false => simp
  | true => by_cases z : x.2.2.2.2.2.2.1 = 0 <;> simp [z]
def qG8 (a : List (Int)) : Prop := a.length ≤ 9223372036854775807
def qE3 (a : List (Int)) : Prop := a.length ≤ 1048576
abbrev qAP : Ty := (.pair (.int .i64) (.pair (.int .i64) (.pair (.int .i64) (.pair (.list .str) (.pair (.list .bool) (.int .i64))))))
def qAe (r : qAP.den) : Int × Int × Int × List (ByteArray) × List (Bool) × Int × Unit := (r.1, (r.2.1, (r.2.2.1, (r.2.2.2.1, (r.2.2.2.2.1, (r.2.2.2.2.2, ()))))))
theorem ag_Held_inj (r r' : qAP.den) : (qAe r = qAe r') ↔ r = r' := by
 constructor
 ·intro h
  obtain ⟨x0, ⟨x1, ⟨x2, ⟨x3, ⟨x4, x5⟩⟩⟩⟩⟩ := r
  obtain ⟨y0, ⟨y1, ⟨y2, ⟨y3, ⟨y4, y5⟩⟩⟩⟩⟩ := r'
  simp only [qAe, Prod.mk.injEq, and_true] at h
  simp only [Prod.mk.injEq]
  simp_all
 ·intro h
  rw [h]
def Wf_StringS (a : List (ByteArray)) : Prop := a.length ≤ 9223372036854775807 ∧ ∀ r ∈ a, ByteArray.size r ≤ 9223372036854775807
def qGW (a : List (ByteArray)) : Prop := a.length ≤ 1048576
def Wf_BoolS (a : List (Bool)) : Prop := a.length ≤ 9223372036854775807
def Bd_BoolS (a : List (Bool)) : Prop := a.length ≤ 1048576
def Wf_Held (x : Int × Int × Int × List (ByteArray) × List (Bool) × Int × Unit) : Prop := Wf_StringS x.2.2.2.1 ∧ Wf_BoolS x.2.2.2.2.1 ∧ True
def qF4 (x : Int × Int × Int × List (ByteArray) × List (Bool) × Int × Unit) : Prop := qGW x.2.2.2.1 ∧ Bd_BoolS x.2.2.2.2.1 ∧ True
def Wf_HeldS (a : List (Int × Int × Int × List (ByteArray) × List (Bool) × Int)) : Prop := a.length ≤ 9223372036854775807 ∧ ∀ r ∈ a, Wf_Held (qAe r)
def qBJ (a : List (Int × Int × Int × List (ByteArray) × List (Bool) × Int)) : Prop := a.length ≤ 1048576 ∧ ∀ r ∈ a, qF4 (qAe r)
def Wf_User (x : Int × Int × Int × ByteArray × ByteArray × Int × List (Int) × Int × Int × ByteArray × ByteArray × Int × List (Int) × Int × (List (Int × Int × Int × List (ByteArray) × List (Bool) × Int)) × Int × Unit) : Prop := ByteArray.size x.2.2.2.1 ≤ 9223372036854775807 ∧ ByteArray.size x.2.2.2.2.1 ≤ 9223372036854775807 ∧ qG8 x.2.2.2.2.2.2.1 ∧ ByteArray.size x.2.2.2.2.2.2.2.2.2.1 ≤ 9223372036854775807 ∧ ByteArray.size x.2.2.2.2.2.2.2.2.2.2.1 ≤ 9223372036854775807 ∧ qG8 x.2.2.2.2.2.2.2.2.2.2.2.2.1 ∧ Wf_HeldS x.2.2.2.2.2.2.2.2.2.2.2.2.2.2.1 ∧ True
def qCF (x : Int × Int × Int × ByteArray × ByteArray × Int × List (Int) × Int × Int × ByteArray × ByteArray × Int × List (Int) × Int × (List (Int × Int × Int × List (ByteArray) × List (Bool) × Int)) × Int × Unit) : Prop := ByteArray.size x.2.2.2.1 ≤ 1048576 ∧ ByteArray.size x.2.2.2.2.1 ≤ 1048576 ∧ qE3 x.2.2.2.2.2.2.1 ∧ ByteArray.size x.2.2.2.2.2.2.2.2.2.1 ≤ 1048576 ∧ ByteArray.size x.2.2.2.2.2.2.2.2.2.2.1 ≤ 1048576 ∧ qE3 x.2.2.2.2.2.2.2.2.2.2.2.2.1 ∧ qBJ x.2.2.2.2.2.2.2.2.2.2.2.2.2.2.1 ∧ True
def Wf_Slots (x : Int × ByteArray × ByteArray × Int × List (Int) × Int × Int × ByteArray × ByteArray × Int × List (Int) × Int × Unit) : Prop := ByteArray.size x.2.1 ≤ 9223372036854775807 ∧ ByteArray.size x.2.2.1 ≤ 9223372036854775807 ∧ qG8 x.2.2.2.2.1 ∧ ByteArray.size x.2.2.2.2.2.2.2.1 ≤ 9223372036854775807 ∧ ByteArray.size x.2.2.2.2.2.2.2.2.1 ≤ 9223372036854775807 ∧ qG8 x.2.2.2.2.2.2.2.2.2.2.1 ∧ True
def qBL (x : Int × ByteArray × ByteArray × Int × List (Int) × Int × Int × ByteArray × ByteArray × Int × List (Int) × Int × Unit) : Prop := ByteArray.size x.2.1 ≤ 1048576 ∧ ByteArray.size x.2.2.1 ≤ 1048576 ∧ qE3 x.2.2.2.2.1 ∧ ByteArray.size x.2.2.2.2.2.2.2.1 ≤ 1048576 ∧ ByteArray.size x.2.2.2.2.2.2.2.2.1 ≤ 1048576 ∧ qE3 x.2.2.2.2.2.2.2.2.2.2.1 ∧ True
def Wf_Slot (x : Int × ByteArray × ByteArray × Int × List (Int) × Int × Unit) : Prop := ByteArray.size x.2.1 ≤ 9223372036854775807 ∧ ByteArray.size x.2.2.1 ≤ 9223372036854775807 ∧ qG8 x.2.2.2.2.1 ∧ True
def Bd_Slot (x : Int × ByteArray × ByteArray × Int × List (Int) × Int × Unit) : Prop := ByteArray.size x.2.1 ≤ 1048576 ∧ ByteArray.size x.2.2.1 ≤ 1048576 ∧ qE3 x.2.2.2.2.1 ∧ True
theorem szIntS_le (k : Nat) (a : List (Int)) (n : Int) (h : 0 ≤ n ∧ n ≤ 1048576) (hk : 1048576 < k) (hw : qG8 a) : ∃ m : Int, qGM k (a, (n, ())) = some (m, ((), ((), ()))) ∧ (0 ≤ m → m ≤ n ∧ qE3 a) := by
 unfold qGM
 have hl : a.length ≤ 9223372036854775807 := hw
 have e : wi64 (n - (List.length a : Int)) = n - (List.length a : Int) := qAH _ (by omega)
 simp only [e]
 by_cases hc : n - (List.length a : Int) < 0
 ·simp only [hc, decide_true, if_true]
  exact ⟨_, rfl, fun h => by omega⟩
 ·simp only [hc, decide_false, Bool.false_eq_true, if_false]
  exact ⟨_, rfl, fun _ => ⟨by omega, by show a.length ≤ 1048576; omega⟩⟩
theorem szSlot_le (k : Nat) (x : Int × ByteArray × ByteArray × Int × List (Int) × Int × Unit) (n : Int) (h : 0 ≤ n ∧ n ≤ 1048576) (hk : 1048576 < k) (hw : Wf_Slot x) : ∃ m : Int, qGN k (x, (n, ())) = some (m, ((), ((), ()))) ∧ (0 ≤ m → m ≤ n ∧ Bd_Slot x) := by
 obtain ⟨a0, a1, a2, a3, a4, a5, u⟩ := x
 unfold qGN
 unfold Wf_Slot at hw
 unfold Bd_Slot
 simp only [] at hw ⊢
 obtain ⟨w1, w2, w4, _⟩ := hw
 have e0 : wi64 (n - (ByteArray.size a1 : Int)) = n - (ByteArray.size a1 : Int) := qAH _ (by omega)
 simp only [e0]
 by_cases c0 : (n - (ByteArray.size a1 : Int)) < 0
 ·simp only [c0, decide_true, if_true]
  exact ⟨_, rfl, fun h => by omega⟩
 simp only [c0, decide_false, Bool.false_eq_true, if_false]
 have e1 : wi64 ((n - (ByteArray.size a1 : Int)) - (ByteArray.size a2 : Int)) = (n - (ByteArray.size a1 : Int)) - (ByteArray.size a2 : Int) := qAH _ (by omega)
 simp only [e1]
 by_cases c1 : ((n - (ByteArray.size a1 : Int)) - (ByteArray.size a2 : Int)) < 0
 ·simp only [c1, decide_true, if_true]
  exact ⟨_, rfl, fun h => by omega⟩
 simp only [c1, decide_false, Bool.false_eq_true, if_false]
 obtain ⟨m2, e2, b2⟩ := szIntS_le k a4 ((n - (ByteArray.size a1 : Int)) - (ByteArray.size a2 : Int)) ⟨by omega, by omega⟩ hk w4
 simp only [e2, Option.bind_some]
 by_cases c2 : m2 < 0
 ·simp only [c2, decide_true, if_true]
  exact ⟨_, rfl, fun h => by omega⟩
 have d2 := b2 (by omega)
 simp only [c2, decide_false, Bool.false_eq_true, if_false]
 exact ⟨_, rfl, fun _ => ⟨by omega, ⟨by omega, by omega, d2.2, trivial⟩⟩⟩
theorem szSlots_le (k : Nat) (x : Int × ByteArray × ByteArray × Int × List (Int) × Int × Int × ByteArray × ByteArray × Int × List (Int) × Int × Unit) (n : Int) (h : 0 ≤ n ∧ n ≤ 1048576) (hk : 1048576 < k) (hw : Wf_Slots x) : ∃ m : Int, qFd k (x, (n, ())) = some (m, ((), ((), ()))) ∧ (0 ≤ m → m ≤ n ∧ qBL x) := by
 obtain ⟨a0, a1, a2, a3, a4, a5, a6, a7, a8, a9, a10, a11, u⟩ := x
 unfold qFd
 unfold Wf_Slots at hw
 unfold qBL
 simp only [] at hw ⊢
 obtain ⟨w1, w2, w4, w7, w8, w10, _⟩ := hw
 obtain ⟨m0, e0, b0⟩ := szSlot_le k (a0, (a1, (a2, (a3, (a4, (a5, ())))))) n ⟨by omega, by omega⟩ hk ⟨w1, w2, w4, trivial⟩
 simp only [e0, Option.bind_some]
 by_cases c0 : m0 < 0
 ·simp only [c0, decide_true, if_true]
  exact ⟨_, rfl, fun h => by omega⟩
 have d0 := b0 (by omega)
 simp only [c0, decide_false, Bool.false_eq_true, if_false]
 obtain ⟨m1, e1, b1⟩ := szSlot_le k (a6, (a7, (a8, (a9, (a10, (a11, ())))))) m0 ⟨by omega, by omega⟩ hk ⟨w7, w8, w10, trivial⟩
 simp only [e1, Option.bind_some]
 by_cases c1 : m1 < 0
 ·simp only [c1, decide_true, if_true]
  exact ⟨_, rfl, fun h => by omega⟩
 have d1 := b1 (by omega)
 simp only [c1, decide_false, Bool.false_eq_true, if_false]
 exact ⟨_, rfl, fun _ => ⟨by omega, ⟨d0.2.1, d0.2.2.1, d0.2.2.2.1, d1.2.1, d1.2.2.1, d1.2.2.2.1, trivial⟩⟩⟩
def Wf_Shelf (x : (List (Int × Int × Int × List (ByteArray) × List (Bool) × Int)) × Unit) : Prop := Wf_HeldS x.1 ∧ True
def qGX (x : (List (Int × Int × Int × List (ByteArray) × List (Bool) × Int)) × Unit) : Prop := qBJ x.1 ∧ True
theorem szStringS_le (k : Nat) (a : List (ByteArray)) (n : Int) (h : 0 ≤ n ∧ n ≤ 1048576) (hk : 1048576 < k) (hw : Wf_StringS a) : ∃ m : Int, qDR k (a, (n, ())) = some (m, ((), ((), ()))) ∧ (0 ≤ m → m ≤ n ∧ qGW a) := by
 unfold qDR
 have hl : a.length ≤ 9223372036854775807 := hw.1
 have e : wi64 (n - (List.length a : Int)) = n - (List.length a : Int) := qAH _ (by omega)
 simp only [e]
 by_cases hc : n - (List.length a : Int) < 0
 ·simp only [hc, decide_true, if_true]
  exact ⟨_, rfl, fun h => by omega⟩
 ·simp only [hc, decide_false, Bool.false_eq_true, if_false]
  refine (loop_sz (t := .str) a (fun m => (m, ((), ((), ())))) (fun _ => True) ?_ ?_ (n - a.length) (by omega) (by omega) k (by omega)).imp fun m hm => ⟨hm.1, fun h0 => ⟨by have := (hm.2 h0).1; omega, by show a.length ≤ 1048576; omega⟩⟩
  ·intro again n' i hn0 hn1 hi hl'
   have w : wi64 (i + 1) = i + 1 := qAH _ (by omega)
   have hr := qD5 (t := .str) a i (by omega)
   have hs : ByteArray.size (Ty.rd (t := .str) a i) ≤ 9223372036854775807 := by rw [hr]; exact hw.2 _ (List.getElem_mem _)
   have w2 : wi64 (n' - (ByteArray.size (Ty.rd (t := .str) a i) : Int)) = n' - (ByteArray.size (Ty.rd (t := .str) a i) : Int) := qAH _ (by omega)
   refine ⟨n' - (ByteArray.size (Ty.rd (t := .str) a i) : Int), fun hm => ⟨by omega, trivial⟩, ?_⟩
   simp only [hl', hi, w2, w, decide_true, and_self, if_true, decide_eq_true_eq]
  ·intro again n' i hi
   have : ¬ i < (a.length : Int) := by omega
   simp [this]
theorem szBoolS_le (k : Nat) (a : List (Bool)) (n : Int) (h : 0 ≤ n ∧ n ≤ 1048576) (hk : 1048576 < k) (hw : Wf_BoolS a) : ∃ m : Int, qFe k (a, (n, ())) = some (m, ((), ((), ()))) ∧ (0 ≤ m → m ≤ n ∧ Bd_BoolS a) := by
 unfold qFe
 have hl : a.length ≤ 9223372036854775807 := hw
 have e : wi64 (n - (List.length a : Int)) = n - (List.length a : Int) := qAH _ (by omega)
 simp only [e]
 by_cases hc : n - (List.length a : Int) < 0
 ·simp only [hc, decide_true, if_true]
  exact ⟨_, rfl, fun h => by omega⟩
 ·simp only [hc, decide_false, Bool.false_eq_true, if_false]
  exact ⟨_, rfl, fun _ => ⟨by omega, by show a.length ≤ 1048576; omega⟩⟩
theorem szHeld_le (k : Nat) (x : Int × Int × Int × List (ByteArray) × List (Bool) × Int × Unit) (n : Int) (h : 0 ≤ n ∧ n ≤ 1048576) (hk : 1048576 < k) (hw : Wf_Held x) : ∃ m : Int, qHb k (x, (n, ())) = some (m, ((), ((), ()))) ∧ (0 ≤ m → m ≤ n ∧ qF4 x) := by
 obtain ⟨a0, a1, a2, a3, a4, a5, u⟩ := x
 unfold qHb
 unfold Wf_Held at hw
 unfold qF4
 simp only [] at hw ⊢
 obtain ⟨w3, w4, _⟩ := hw
 obtain ⟨m0, e0, b0⟩ := szStringS_le k a3 n ⟨by omega, by omega⟩ hk w3
 simp only [e0, Option.bind_some]
 by_cases c0 : m0 < 0
 ·simp only [c0, decide_true, if_true]
  exact ⟨_, rfl, fun h => by omega⟩
 have d0 := b0 (by omega)
 simp only [c0, decide_false, Bool.false_eq_true, if_false]
 obtain ⟨m1, e1, b1⟩ := szBoolS_le k a4 m0 ⟨by omega, by omega⟩ hk w4
 simp only [e1, Option.bind_some]
 by_cases c1 : m1 < 0
 ·simp only [c1, decide_true, if_true]
  exact ⟨_, rfl, fun h => by omega⟩
 have d1 := b1 (by omega)
 simp only [c1, decide_false, Bool.false_eq_true, if_false]
 exact ⟨_, rfl, fun _ => ⟨by omega, ⟨d0.2, d1.2, trivial⟩⟩⟩
theorem szHeldS_le (k : Nat) (a : List (Int × Int × Int × List (ByteArray) × List (Bool) × Int)) (n : Int) (h : 0 ≤ n ∧ n ≤ 1048576) (hk : 1048576 < k) (hw : Wf_HeldS a) : ∃ m : Int, qFf k (a, (n, ())) = some (m, ((), ((), ()))) ∧ (0 ≤ m → m ≤ n ∧ qBJ a) := by
 unfold qFf
 have hl : a.length ≤ 9223372036854775807 := hw.1
 have e : wi64 (n - (List.length a : Int)) = n - (List.length a : Int) := qAH _ (by omega)
 simp only [e]
 by_cases hc : n - (List.length a : Int) < 0
 ·simp only [hc, decide_true, if_true]
  exact ⟨_, rfl, fun h => by omega⟩
 ·simp only [hc, decide_false, Bool.false_eq_true, if_false]
  refine (loop_sz (t := (.pair (.int .i64) (.pair (.int .i64) (.pair (.int .i64) (.pair (.list .str) (.pair (.list .bool) (.int .i64))))))) a (fun m => (m, ((), ((), ())))) (fun r => qF4 (qAe r)) ?_ ?_ (n - a.length) (by omega) (by omega) k (by omega)).imp fun m hm => ⟨hm.1, fun h0 => ⟨by have := (hm.2 h0).1; omega, ⟨by omega, (hm.2 h0).2⟩⟩⟩
  ·intro again n' i hn0 hn1 hi hl'
   have w : wi64 (i + 1) = i + 1 := qAH _ (by omega)
   have hr := qD5 (t := (.pair (.int .i64) (.pair (.int .i64) (.pair (.int .i64) (.pair (.list .str) (.pair (.list .bool) (.int .i64))))))) a i (by omega)
   obtain ⟨m, e1, e2⟩ := szHeld_le k (qAe (Ty.rd (t := (.pair (.int .i64) (.pair (.int .i64) (.pair (.int .i64) (.pair (.list .str) (.pair (.list .bool) (.int .i64))))))) a i)) n' ⟨hn0, hn1⟩ hk (by rw [hr]; exact hw.2 _ (List.getElem_mem _))
   simp only [qAe] at e1
   refine ⟨m, fun hm => e2 hm, ?_⟩
   simp only [hl', hi, e1, w, decide_true, and_self, if_true, Option.bind_some, decide_eq_true_eq]
  ·intro again n' i hi
   have : ¬ i < (a.length : Int) := by omega
   simp [this]
theorem szShelf_le (k : Nat) (x : (List (Int × Int × Int × List (ByteArray) × List (Bool) × Int)) × Unit) (n : Int) (h : 0 ≤ n ∧ n ≤ 1048576) (hk : 1048576 < k) (hw : Wf_Shelf x) : ∃ m : Int, qFg k (x, (n, ())) = some (m, ((), ((), ()))) ∧ (0 ≤ m → m ≤ n ∧ qGX x) := by
 obtain ⟨a0, u⟩ := x
 unfold qFg
 unfold Wf_Shelf at hw
 unfold qGX
 simp only [] at hw ⊢
 obtain ⟨w0, _⟩ := hw
 obtain ⟨m0, e0, b0⟩ := szHeldS_le k a0 n ⟨by omega, by omega⟩ hk w0
 simp only [e0, Option.bind_some]
 by_cases c0 : m0 < 0
 ·simp only [c0, decide_true, if_true]
  exact ⟨_, rfl, fun h => by omega⟩
 have d0 := b0 (by omega)
 simp only [c0, decide_false, Bool.false_eq_true, if_false]
 exact ⟨_, rfl, fun _ => ⟨by omega, ⟨d0.2, trivial⟩⟩⟩
theorem szUser_le (k : Nat) (x : Int × Int × Int × ByteArray × ByteArray × Int × List (Int) × Int × Int × ByteArray × ByteArray × Int × List (Int) × Int × (List (Int × Int × Int × List (ByteArray) × List (Bool) × Int)) × Int × Unit) (n : Int) (h : 0 ≤ n ∧ n ≤ 1048576) (hk : 1048576 < k) (hw : Wf_User x) : ∃ m : Int, qHc k (x, (n, ())) = some (m, ((), ((), ()))) ∧ (0 ≤ m → m ≤ n ∧ qCF x) := by
 obtain ⟨a0, a1, a2, a3, a4, a5, a6, a7, a8, a9, a10, a11, a12, a13, a14, a15, u⟩ := x
 unfold qHc
 unfold Wf_User at hw
 unfold qCF
 simp only [] at hw ⊢
 obtain ⟨w3, w4, w6, w9, w10, w12, w14, _⟩ := hw
 obtain ⟨m0, e0, b0⟩ := szSlots_le k (a2, (a3, (a4, (a5, (a6, (a7, (a8, (a9, (a10, (a11, (a12, (a13, ())))))))))))) n ⟨by omega, by omega⟩ hk ⟨w3, w4, w6, w9, w10, w12, trivial⟩
 simp only [e0, Option.bind_some]
 by_cases c0 : m0 < 0
 ·simp only [c0, decide_true, if_true]
  exact ⟨_, rfl, fun h => by omega⟩
 have d0 := b0 (by omega)
 simp only [c0, decide_false, Bool.false_eq_true, if_false]
 obtain ⟨m1, e1, b1⟩ := szShelf_le k (a14, ()) m0 ⟨by omega, by omega⟩ hk ⟨w14, trivial⟩
 simp only [e1, Option.bind_some]
 by_cases c1 : m1 < 0
 ·simp only [c1, decide_true, if_true]
  exact ⟨_, rfl, fun h => by omega⟩
 have d1 := b1 (by omega)
 simp only [c1, decide_false, Bool.false_eq_true, if_false]
 exact ⟨_, rfl, fun _ => ⟨by omega, ⟨d0.2.1, d0.2.2.1, d0.2.2.2.1, d0.2.2.2.2.1, d0.2.2.2.2.2.1, d0.2.2.2.2.2.2.1, d1.2.1, trivial⟩⟩⟩
theorem toIntS_is (k : Nat) (a : List (Int)) (hk : 1048576 < k) (hb : qE3 a) : qGO k (a, ()) = some (a, ((), ())) := by
 unfold qGO
 have hl : a.length ≤ 1048576 := hb
 have hcap : (capMax : Int) = 274877906944 := rfl
 simp only [if_true]
 rw [if_pos (by omega)]
 refine loop_to (t := (.int .i64)) a (fun out => (out, ((), ()))) ?_ ?_ _ (by simp) k (by omega)
 ·intro again out i hi hl' ho
  have w : wi64 (i + 1) = i + 1 := qAH _ (by omega)
  simp only [hl', hi, ho, w, decide_true, and_self, if_true]
 ·intro again out i hi
  have : ¬ i < (a.length : Int) := by omega
  simp [this]
theorem toSlot_is (k : Nat) (x : Int × ByteArray × ByteArray × Int × List (Int) × Int × Unit) (hk : 1048576 < k) (hb : Bd_Slot x) : qGP k (x, ()) = some (x, ((), ())) := by
 obtain ⟨a0, a1, a2, a3, a4, a5, u⟩ := x
 unfold qGP
 unfold Bd_Slot at hb
 obtain ⟨b1, b2, b4, b⟩ := hb
 simp only [] at b1 b2 b4
 simp only [toIntS_is k a4 hk b4, Option.bind_some]
theorem toSlots_is (k : Nat) (x : Int × ByteArray × ByteArray × Int × List (Int) × Int × Int × ByteArray × ByteArray × Int × List (Int) × Int × Unit) (hk : 1048576 < k) (hb : qBL x) : qFh k (x, ()) = some (x, ((), ())) := by
 obtain ⟨a0, a1, a2, a3, a4, a5, a6, a7, a8, a9, a10, a11, u⟩ := x
 unfold qFh
 unfold qBL at hb
 obtain ⟨b1, b2, b4, b7, b8, b10, b⟩ := hb
 simp only [] at b1 b2 b4 b7 b8 b10
 simp only [toSlot_is k (a0, (a1, (a2, (a3, (a4, (a5, ())))))) hk ⟨b1, b2, b4, trivial⟩, toSlot_is k (a6, (a7, (a8, (a9, (a10, (a11, ())))))) hk ⟨b7, b8, b10, trivial⟩, Option.bind_some]
theorem toStringS_is (k : Nat) (a : List (ByteArray)) (hk : 1048576 < k) (hb : qGW a) : qDS k (a, ()) = some (a, ((), ())) := by
 unfold qDS
 have hl : a.length ≤ 1048576 := hb
 have hcap : (capMax : Int) = 274877906944 := rfl
 simp only [if_true]
 rw [if_pos (by omega)]
 refine loop_to (t := .str) a (fun out => (out, ((), ()))) ?_ ?_ _ (by simp) k (by omega)
 ·intro again out i hi hl' ho
  have w : wi64 (i + 1) = i + 1 := qAH _ (by omega)
  simp only [hl', hi, ho, w, decide_true, and_self, if_true]
 ·intro again out i hi
  have : ¬ i < (a.length : Int) := by omega
  simp [this]
theorem toBoolS_is (k : Nat) (a : List (Bool)) (hk : 1048576 < k) (hb : Bd_BoolS a) : qFi k (a, ()) = some (a, ((), ())) := by
 unfold qFi
 have hl : a.length ≤ 1048576 := hb
 have hcap : (capMax : Int) = 274877906944 := rfl
 simp only [if_true]
 rw [if_pos (by omega)]
 refine loop_to (t := .bool) a (fun out => (out, ((), ()))) ?_ ?_ _ (by simp) k (by omega)
 ·intro again out i hi hl' ho
  have w : wi64 (i + 1) = i + 1 := qAH _ (by omega)
  simp only [hl', hi, ho, w, decide_true, and_self, if_true]
 ·intro again out i hi
  have : ¬ i < (a.length : Int) := by omega
  simp [this]
theorem toHeld_is (k : Nat) (x : Int × Int × Int × List (ByteArray) × List (Bool) × Int × Unit) (hk : 1048576 < k) (hb : qF4 x) : qHe k (x, ()) = some (x, ((), ())) := by
 obtain ⟨a0, a1, a2, a3, a4, a5, u⟩ := x
 unfold qHe
 unfold qF4 at hb
 obtain ⟨b3, b4, b⟩ := hb
 simp only [] at b3 b4
 simp only [toStringS_is k a3 hk b3, toBoolS_is k a4 hk b4, Option.bind_some]
theorem toHeldS_is (k : Nat) (a : List (Int × Int × Int × List (ByteArray) × List (Bool) × Int)) (hk : 1048576 < k) (hb : qBJ a) : qFj k (a, ()) = some (a, ((), ())) := by
 unfold qFj
 have hl : a.length ≤ 1048576 := hb.1
 have hcap : (capMax : Int) = 274877906944 := rfl
 simp only [if_true]
 rw [if_pos (by omega)]
 refine loop_to (t := (.pair (.int .i64) (.pair (.int .i64) (.pair (.int .i64) (.pair (.list .str) (.pair (.list .bool) (.int .i64))))))) a (fun out => (out, ((), ()))) ?_ ?_ _ (by simp) k (by omega)
 ·intro again out i hi hl' ho
  have w : wi64 (i + 1) = i + 1 := qAH _ (by omega)
  have hr := qD5 (t := (.pair (.int .i64) (.pair (.int .i64) (.pair (.int .i64) (.pair (.list .str) (.pair (.list .bool) (.int .i64))))))) a i (by omega)
  have e := toHeld_is k (qAe (Ty.rd (t := (.pair (.int .i64) (.pair (.int .i64) (.pair (.int .i64) (.pair (.list .str) (.pair (.list .bool) (.int .i64))))))) a i)) hk (by rw [hr]; exact hb.2 _ (List.getElem_mem _))
  simp only [qAe] at e
  simp only [hl', hi, ho, e, w, decide_true, and_self, if_true, Option.bind_some]
 ·intro again out i hi
  have : ¬ i < (a.length : Int) := by omega
  simp [this]
theorem toShelf_is (k : Nat) (x : (List (Int × Int × Int × List (ByteArray) × List (Bool) × Int)) × Unit) (hk : 1048576 < k) (hb : qGX x) : qFk k (x, ()) = some (x, ((), ())) := by
 obtain ⟨a0, u⟩ := x
 unfold qFk
 unfold qGX at hb
 obtain ⟨b0, b⟩ := hb
 simp only [] at b0
 simp only [toHeldS_is k a0 hk b0, Option.bind_some]
theorem toUser_is (k : Nat) (x : Int × Int × Int × ByteArray × ByteArray × Int × List (Int) × Int × Int × ByteArray × ByteArray × Int × List (Int) × Int × (List (Int × Int × Int × List (ByteArray) × List (Bool) × Int)) × Int × Unit) (hk : 1048576 < k) (hb : qCF x) : qDq k (x, ()) = some (x, ((), ())) := by
 obtain ⟨a0, a1, a2, a3, a4, a5, a6, a7, a8, a9, a10, a11, a12, a13, a14, a15, u⟩ := x
 unfold qDq
 unfold qCF at hb
 obtain ⟨b3, b4, b6, b9, b10, b12, b14, b⟩ := hb
 simp only [] at b3 b4 b6 b9 b10 b12 b14
 simp only [toSlots_is k (a2, (a3, (a4, (a5, (a6, (a7, (a8, (a9, (a10, (a11, (a12, (a13, ())))))))))))) hk ⟨b3, b4, b6, b9, b10, b12, trivial⟩, toShelf_is k (a14, ()) hk ⟨b14, trivial⟩, Option.bind_some]
theorem eqIntS_is (k : Nat) (a b : List ((.int .i64) : Ty).den) (hk : 1048576 < k) (hb : qE3 a) : qGQ k (a, (b, ())) = some (dq a b, ((), ((), ()))) := by
 unfold qGQ
 have hl : a.length ≤ 1048576 := hb
 by_cases hab : a.length = b.length
 ·simp only [hab, decide_true, Bool.not_true]
  refine (loop_dq (t := (.int .i64)) (R := Bool × Unit × Unit × Unit) a b hab (false, ((), ((), ()))) (true, ((), ((), ()))) ?_ ?_ k (by omega)).trans ?_
  ·intro again i hi hl'
   have w : wi64 (i + 1) = i + 1 := qAH _ (by omega)
   have hlb : i < (b.length : Int) := by omega
   simp only [hl', hi, hlb, w, decide_true, and_self, if_true]
   by_cases e : Ty.rd (t := (.int .i64)) a i = Ty.rd (t := (.int .i64)) b i <;> simp [e, qDx, qAW]
  ·intro again i hi
   have : ¬ i < (a.length : Int) := by omega
   simp only [this, decide_false]
   rfl
  ·cases dq a b <;> simp
 ·have : ¬ ((a.length : Int) = (b.length : Int)) := by omega
  have h2 : a ≠ b := fun h => hab (by rw [h])
  simp [this, qAW h2]
theorem eqSlot_is (k : Nat) (x y : Int × ByteArray × ByteArray × Int × List (Int) × Int × Unit) (hk : 1048576 < k) (hb : Bd_Slot x) : qGR k (x, (y, ())) = some (dq x y, ((), ((), ()))) := by
 obtain ⟨a0, a1, a2, a3, a4, a5, u⟩ := x
 obtain ⟨b0, b1, b2, b3, b4, b5, u'⟩ := y
 unfold qGR
 unfold Bd_Slot at hb
 obtain ⟨w1, w2, w4, _⟩ := hb
 simp only [] at w1 w2 w4
 simp only [eqIntS_is k a4 b4 hk w4, Option.bind_some]
 by_cases h0 : a0 = b0
 rotate_left
 ·have hn : (a0, (a1, (a2, (a3, (a4, (a5, ())))))) ≠ (b0, (b1, (b2, (b3, (b4, (b5, ())))))) := fun h => h0 (by simp only [Prod.mk.injEq] at h; simp_all)
  rw [qAW hn]
  simp [h0]
 subst h0
 by_cases h1 : a1 = b1
 rotate_left
 ·have hn : (a0, (a1, (a2, (a3, (a4, (a5, ())))))) ≠ (a0, (b1, (b2, (b3, (b4, (b5, ())))))) := fun h => h1 (by simp only [Prod.mk.injEq] at h; simp_all)
  rw [qAW hn]
  simp [h1]
 subst h1
 by_cases h2 : a2 = b2
 rotate_left
 ·have hn : (a0, (a1, (a2, (a3, (a4, (a5, ())))))) ≠ (a0, (a1, (b2, (b3, (b4, (b5, ())))))) := fun h => h2 (by simp only [Prod.mk.injEq] at h; simp_all)
  rw [qAW hn]
  simp [h2]
 subst h2
 by_cases h3 : a3 = b3
 rotate_left
 ·have hn : (a0, (a1, (a2, (a3, (a4, (a5, ())))))) ≠ (a0, (a1, (a2, (b3, (b4, (b5, ())))))) := fun h => h3 (by simp only [Prod.mk.injEq] at h; simp_all)
  rw [qAW hn]
  simp [h3]
 subst h3
 by_cases h4 : a4 = b4
 rotate_left
 ·have hn : (a0, (a1, (a2, (a3, (a4, (a5, ())))))) ≠ (a0, (a1, (a2, (a3, (b4, (b5, ())))))) := fun h => h4 (by simp only [Prod.mk.injEq] at h; simp_all)
  rw [qAW hn]
  simp [h4, qAW]
 subst h4
 by_cases h5 : a5 = b5
 rotate_left
 ·have hn : (a0, (a1, (a2, (a3, (a4, (a5, ())))))) ≠ (a0, (a1, (a2, (a3, (a4, (b5, ())))))) := fun h => h5 (by simp only [Prod.mk.injEq] at h; simp_all)
  rw [qAW hn]
  simp [h5]
 subst h5
 simp [qDx]
theorem eqSlots_is (k : Nat) (x y : Int × ByteArray × ByteArray × Int × List (Int) × Int × Int × ByteArray × ByteArray × Int × List (Int) × Int × Unit) (hk : 1048576 < k) (hb : qBL x) : qFl k (x, (y, ())) = some (dq x y, ((), ((), ()))) := by
 obtain ⟨a0, a1, a2, a3, a4, a5, a6, a7, a8, a9, a10, a11, u⟩ := x
 obtain ⟨b0, b1, b2, b3, b4, b5, b6, b7, b8, b9, b10, b11, u'⟩ := y
 unfold qFl
 unfold qBL at hb
 obtain ⟨w1, w2, w4, w7, w8, w10, _⟩ := hb
 simp only [] at w1 w2 w4 w7 w8 w10
 simp only [eqSlot_is k (a0, (a1, (a2, (a3, (a4, (a5, ())))))) (b0, (b1, (b2, (b3, (b4, (b5, ())))))) hk ⟨w1, w2, w4, trivial⟩, eqSlot_is k (a6, (a7, (a8, (a9, (a10, (a11, ())))))) (b6, (b7, (b8, (b9, (b10, (b11, ())))))) hk ⟨w7, w8, w10, trivial⟩, Option.bind_some]
 by_cases h0 : (a0, (a1, (a2, (a3, (a4, (a5, ())))))) = (b0, (b1, (b2, (b3, (b4, (b5, ()))))))
 rotate_left
 ·have hn : (a0, (a1, (a2, (a3, (a4, (a5, (a6, (a7, (a8, (a9, (a10, (a11, ())))))))))))) ≠ (b0, (b1, (b2, (b3, (b4, (b5, (b6, (b7, (b8, (b9, (b10, (b11, ())))))))))))) := fun h => h0 (by simp only [Prod.mk.injEq] at h; simp_all)
  rw [qAW hn]
  simp [h0, qAW]
 simp only [Prod.mk.injEq, and_true] at h0
 obtain ⟨rfl, rfl, rfl, rfl, rfl, rfl⟩ := h0
 by_cases h1 : (a6, (a7, (a8, (a9, (a10, (a11, ())))))) = (b6, (b7, (b8, (b9, (b10, (b11, ()))))))
 rotate_left
 ·have hn : (a0, (a1, (a2, (a3, (a4, (a5, (a6, (a7, (a8, (a9, (a10, (a11, ())))))))))))) ≠ (a0, (a1, (a2, (a3, (a4, (a5, (b6, (b7, (b8, (b9, (b10, (b11, ())))))))))))) := fun h => h1 (by simp only [Prod.mk.injEq] at h; simp_all)
  rw [qAW hn]
  simp [h1, qAW]
 simp only [Prod.mk.injEq, and_true] at h1
 obtain ⟨rfl, rfl, rfl, rfl, rfl, rfl⟩ := h1
 simp [qDx]
theorem eqStringS_is (k : Nat) (a b : List (.str : Ty).den) (hk : 1048576 < k) (hb : qGW a) : qDT k (a, (b, ())) = some (dq a b, ((), ((), ()))) := by
 unfold qDT
 have hl : a.length ≤ 1048576 := hb
 by_cases hab : a.length = b.length
 ·simp only [hab, decide_true, Bool.not_true]
  refine (loop_dq (t := .str) (R := Bool × Unit × Unit × Unit) a b hab (false, ((), ((), ()))) (true, ((), ((), ()))) ?_ ?_ k (by omega)).trans ?_
  ·intro again i hi hl'
   have w : wi64 (i + 1) = i + 1 := qAH _ (by omega)
   have hlb : i < (b.length : Int) := by omega
   simp only [hl', hi, hlb, w, decide_true, and_self, if_true]
   by_cases e : Ty.rd (t := .str) a i = Ty.rd (t := .str) b i <;> simp [e, qDx, qAW]
  ·intro again i hi
   have : ¬ i < (a.length : Int) := by omega
   simp only [this, decide_false]
   rfl
  ·cases dq a b <;> simp
 ·have : ¬ ((a.length : Int) = (b.length : Int)) := by omega
  have h2 : a ≠ b := fun h => hab (by rw [h])
  simp [this, qAW h2]
theorem eqBoolS_is (k : Nat) (a b : List (.bool : Ty).den) (hk : 1048576 < k) (hb : Bd_BoolS a) : qFm k (a, (b, ())) = some (dq a b, ((), ((), ()))) := by
 unfold qFm
 have hl : a.length ≤ 1048576 := hb
 by_cases hab : a.length = b.length
 ·simp only [hab, decide_true, Bool.not_true]
  refine (loop_dq (t := .bool) (R := Bool × Unit × Unit × Unit) a b hab (false, ((), ((), ()))) (true, ((), ((), ()))) ?_ ?_ k (by omega)).trans ?_
  ·intro again i hi hl'
   have w : wi64 (i + 1) = i + 1 := qAH _ (by omega)
   have hlb : i < (b.length : Int) := by omega
   simp only [hl', hi, hlb, w, decide_true, and_self, if_true]
   by_cases e : Ty.rd (t := .bool) a i = Ty.rd (t := .bool) b i <;> simp [e, qDx, qAW]
  ·intro again i hi
   have : ¬ i < (a.length : Int) := by omega
   simp only [this, decide_false]
   rfl
  ·cases dq a b <;> simp
 ·have : ¬ ((a.length : Int) = (b.length : Int)) := by omega
  have h2 : a ≠ b := fun h => hab (by rw [h])
  simp [this, qAW h2]
theorem eqHeld_is (k : Nat) (x y : Int × Int × Int × List (ByteArray) × List (Bool) × Int × Unit) (hk : 1048576 < k) (hb : qF4 x) : qHg k (x, (y, ())) = some (dq x y, ((), ((), ()))) := by
 obtain ⟨a0, a1, a2, a3, a4, a5, u⟩ := x
 obtain ⟨b0, b1, b2, b3, b4, b5, u'⟩ := y
 unfold qHg
 unfold qF4 at hb
 obtain ⟨w3, w4, _⟩ := hb
 simp only [] at w3 w4
 simp only [eqStringS_is k a3 b3 hk w3, eqBoolS_is k a4 b4 hk w4, Option.bind_some]
 by_cases h0 : a0 = b0
 rotate_left
 ·have hn : (a0, (a1, (a2, (a3, (a4, (a5, ())))))) ≠ (b0, (b1, (b2, (b3, (b4, (b5, ())))))) := fun h => h0 (by simp only [Prod.mk.injEq] at h; simp_all)
  rw [qAW hn]
  simp [h0]
 subst h0
 by_cases h1 : a1 = b1
 rotate_left
 ·have hn : (a0, (a1, (a2, (a3, (a4, (a5, ())))))) ≠ (a0, (b1, (b2, (b3, (b4, (b5, ())))))) := fun h => h1 (by simp only [Prod.mk.injEq] at h; simp_all)
  rw [qAW hn]
  simp [h1]
 subst h1
 by_cases h2 : a2 = b2
 rotate_left
 ·have hn : (a0, (a1, (a2, (a3, (a4, (a5, ())))))) ≠ (a0, (a1, (b2, (b3, (b4, (b5, ())))))) := fun h => h2 (by simp only [Prod.mk.injEq] at h; simp_all)
  rw [qAW hn]
  simp [h2]
 subst h2
 by_cases h3 : a3 = b3
 rotate_left
 ·have hn : (a0, (a1, (a2, (a3, (a4, (a5, ())))))) ≠ (a0, (a1, (a2, (b3, (b4, (b5, ())))))) := fun h => h3 (by simp only [Prod.mk.injEq] at h; simp_all)
  rw [qAW hn]
  simp [h3, qAW]
 subst h3
 by_cases h4 : a4 = b4
 rotate_left
 ·have hn : (a0, (a1, (a2, (a3, (a4, (a5, ())))))) ≠ (a0, (a1, (a2, (a3, (b4, (b5, ())))))) := fun h => h4 (by simp only [Prod.mk.injEq] at h; simp_all)
  rw [qAW hn]
  simp [h4, qAW]
 subst h4
 by_cases h5 : a5 = b5
 rotate_left
 ·have hn : (a0, (a1, (a2, (a3, (a4, (a5, ())))))) ≠ (a0, (a1, (a2, (a3, (a4, (b5, ())))))) := fun h => h5 (by simp only [Prod.mk.injEq] at h; simp_all)
  rw [qAW hn]
  simp [h5]
 subst h5
 simp [qDx]
theorem eqHeldS_is (k : Nat) (a b : List qAP.den) (hk : 1048576 < k) (hb : qBJ a) : qFn k (a, (b, ())) = some (dq a b, ((), ((), ()))) := by
 unfold qFn
 have hl : a.length ≤ 1048576 := hb.1
 by_cases hab : a.length = b.length
 ·simp only [hab, decide_true, Bool.not_true]
  refine (loop_dq (t := qAP) (R := Bool × Unit × Unit × Unit) a b hab (false, ((), ((), ()))) (true, ((), ((), ()))) ?_ ?_ k (by omega)).trans ?_
  ·intro again i hi hl'
   have w : wi64 (i + 1) = i + 1 := qAH _ (by omega)
   have hlb : i < (b.length : Int) := by omega
   have hr := qD5 (t := qAP) a i (by omega)
   have e := eqHeld_is k (qAe (Ty.rd (t := qAP) a i)) (qAe (Ty.rd (t := qAP) b i)) hk (by rw [hr]; exact hb.2 _ (List.getElem_mem _))
   rw [show (dq (qAe (Ty.rd (t := qAP) a i)) (qAe (Ty.rd (t := qAP) b i))) = dq (Ty.rd (t := qAP) a i) (Ty.rd (t := qAP) b i) from dq_of (ag_Held_inj _ _)] at e
   simp only [qAe] at e
   simp only [hl', hi, hlb, e, w, decide_true, and_self, if_true, Option.bind_some]
   cases dq (Ty.rd (t := qAP) a i) (Ty.rd (t := qAP) b i) <;> simp
  ·intro again i hi
   have : ¬ i < (a.length : Int) := by omega
   simp only [this, decide_false]
   rfl
  ·cases dq a b <;> simp
 ·have : ¬ ((a.length : Int) = (b.length : Int)) := by omega
  have h2 : a ≠ b := fun h => hab (by rw [h])
  simp [this, qAW h2]
theorem eqShelf_is (k : Nat) (x y : (List (Int × Int × Int × List (ByteArray) × List (Bool) × Int)) × Unit) (hk : 1048576 < k) (hb : qGX x) : qFo k (x, (y, ())) = some (dq x y, ((), ((), ()))) := by
 obtain ⟨a0, u⟩ := x
 obtain ⟨b0, u'⟩ := y
 unfold qFo
 unfold qGX at hb
 obtain ⟨w0, _⟩ := hb
 simp only [] at w0
 simp only [eqHeldS_is k a0 b0 hk w0, Option.bind_some]
 by_cases h0 : a0 = b0
 rotate_left
 ·have hn : (a0, ()) ≠ (b0, ()) := fun h => h0 (by simp only [Prod.mk.injEq] at h; simp_all)
  rw [qAW hn]
  simp [h0, qAW]
 subst h0
 simp [qDx]
theorem eqUser_is (k : Nat) (x y : Int × Int × Int × ByteArray × ByteArray × Int × List (Int) × Int × Int × ByteArray × ByteArray × Int × List (Int) × Int × (List (Int × Int × Int × List (ByteArray) × List (Bool) × Int)) × Int × Unit) (hk : 1048576 < k) (hb : qCF x) : qDr k (x, (y, ())) = some (dq x y, ((), ((), ()))) := by
 obtain ⟨a0, a1, a2, a3, a4, a5, a6, a7, a8, a9, a10, a11, a12, a13, a14, a15, u⟩ := x
 obtain ⟨b0, b1, b2, b3, b4, b5, b6, b7, b8, b9, b10, b11, b12, b13, b14, b15, u'⟩ := y
 unfold qDr
 unfold qCF at hb
 obtain ⟨w3, w4, w6, w9, w10, w12, w14, _⟩ := hb
 simp only [] at w3 w4 w6 w9 w10 w12 w14
 simp only [eqSlots_is k (a2, (a3, (a4, (a5, (a6, (a7, (a8, (a9, (a10, (a11, (a12, (a13, ())))))))))))) (b2, (b3, (b4, (b5, (b6, (b7, (b8, (b9, (b10, (b11, (b12, (b13, ())))))))))))) hk ⟨w3, w4, w6, w9, w10, w12, trivial⟩, eqShelf_is k (a14, ()) (b14, ()) hk ⟨w14, trivial⟩, Option.bind_some]
 by_cases h0 : a0 = b0
 rotate_left
 ·have hn : (a0, (a1, (a2, (a3, (a4, (a5, (a6, (a7, (a8, (a9, (a10, (a11, (a12, (a13, (a14, (a15, ())))))))))))))))) ≠ (b0, (b1, (b2, (b3, (b4, (b5, (b6, (b7, (b8, (b9, (b10, (b11, (b12, (b13, (b14, (b15, ())))))))))))))))) := fun h => h0 (by simp only [Prod.mk.injEq] at h; simp_all)
  rw [qAW hn]
  simp [h0]
 subst h0
 by_cases h1 : a1 = b1
 rotate_left
 ·have hn : (a0, (a1, (a2, (a3, (a4, (a5, (a6, (a7, (a8, (a9, (a10, (a11, (a12, (a13, (a14, (a15, ())))))))))))))))) ≠ (a0, (b1, (b2, (b3, (b4, (b5, (b6, (b7, (b8, (b9, (b10, (b11, (b12, (b13, (b14, (b15, ())))))))))))))))) := fun h => h1 (by simp only [Prod.mk.injEq] at h; simp_all)
  rw [qAW hn]
  simp [h1]
 subst h1
 by_cases h2 : (a2, (a3, (a4, (a5, (a6, (a7, (a8, (a9, (a10, (a11, (a12, (a13, ())))))))))))) = (b2, (b3, (b4, (b5, (b6, (b7, (b8, (b9, (b10, (b11, (b12, (b13, ()))))))))))))
 rotate_left
 ·have hn : (a0, (a1, (a2, (a3, (a4, (a5, (a6, (a7, (a8, (a9, (a10, (a11, (a12, (a13, (a14, (a15, ())))))))))))))))) ≠ (a0, (a1, (b2, (b3, (b4, (b5, (b6, (b7, (b8, (b9, (b10, (b11, (b12, (b13, (b14, (b15, ())))))))))))))))) := fun h => h2 (by simp only [Prod.mk.injEq] at h; simp_all)
  rw [qAW hn]
  simp [h2, qAW]
 simp only [Prod.mk.injEq, and_true] at h2
 obtain ⟨rfl, rfl, rfl, rfl, rfl, rfl, rfl, rfl, rfl, rfl, rfl, rfl⟩ := h2
 by_cases h3 : (a14, ()) = (b14, ())
 rotate_left
 ·have hn : (a0, (a1, (a2, (a3, (a4, (a5, (a6, (a7, (a8, (a9, (a10, (a11, (a12, (a13, (a14, (a15, ())))))))))))))))) ≠ (a0, (a1, (a2, (a3, (a4, (a5, (a6, (a7, (a8, (a9, (a10, (a11, (a12, (a13, (b14, (b15, ())))))))))))))))) := fun h => h3 (by simp only [Prod.mk.injEq] at h; simp_all)
  rw [qAW hn]
  simp [h3, qAW]
 simp only [Prod.mk.injEq, and_true] at h3
 obtain ⟨rfl⟩ := h3
 by_cases h4 : a15 = b15
 rotate_left
 ·have hn : (a0, (a1, (a2, (a3, (a4, (a5, (a6, (a7, (a8, (a9, (a10, (a11, (a12, (a13, (a14, (a15, ())))))))))))))))) ≠ (a0, (a1, (a2, (a3, (a4, (a5, (a6, (a7, (a8, (a9, (a10, (a11, (a12, (a13, (a14, (b15, ())))))))))))))))) := fun h => h4 (by simp only [Prod.mk.injEq] at h; simp_all)
  rw [qAW hn]
  simp [h4]
 subst h4
 simp [qDx]
def qIB (x : Int × Int × Int × Int × Int × List (Int) × ByteArray × Unit) : Prop := qG8 x.2.2.2.2.2.1 ∧ ByteArray.size x.2.2.2.2.2.2.1 ≤ 9223372036854775807 ∧ True
def qDh (x : Int × Int × Int × Int × Int × List (Int) × ByteArray × Unit) : Prop := qE3 x.2.2.2.2.2.1 ∧ ByteArray.size x.2.2.2.2.2.2.1 ≤ 1048576 ∧ True
end Go.Proofs.YtnfllchbpechlaaGreat
