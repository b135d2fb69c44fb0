import Derived.Test.YtodnoiblplnpcaaEngB
import Derived.Laws.BitsLemmas
/- Plain facts of whole numbers, bytes and loops. Conditions: none beyond each theorem's own. -/
namespace Go.Eng
theorem w64_id (n : Int) (h : -9223372036854775808 ≤ n ∧ n ≤ 9223372036854775807) : IntKind.i64.wrap n = n := by rw [IntKind.wrap_i64]; omega
theorem w64_range (n : Int) : -9223372036854775808 ≤ IntKind.i64.wrap n ∧ IntKind.i64.wrap n ≤ 9223372036854775807 := by rw [IntKind.wrap_i64]; omega
theorem w8_mod (n : Int) : IntKind.u8.wrap n = n % 256 := IntKind.wrap_u8 n
theorem wraps_i64 (n : Int) (h₀ : 0 ≤ n) (h₁ : n < 2 ^ 63) : IntKind.i64.wrap n = n := by rw [IntKind.wrap_i64]; omega
theorem bt_ge (s : ByteArray) (i : Int) : 0 ≤ bt s i := by unfold bt; split <;> omega
theorem bt_le (s : ByteArray) (i : Int) : bt s i ≤ 255 := by
  unfold bt
  split
  · have := (s[i.toNat]).toNat_lt; omega
  · omega
theorem bt_lt (s : ByteArray) (i : Int) : bt s i < 256 := by have := bt_le s i; omega
theorem bitsI_and (k : IntKind) (x y : Int) : bitsI .and k x y = bits .and k x y := rfl
theorem bitsI_or (k : IntKind) (x y : Int) : bitsI .or k x y = bits .or k x y := rfl
theorem and_mask (i : Nat) (hi : i ≤ 63) (x : Int) (h₀ : 0 ≤ x) (h₁ : x < 2 ^ 63) : bitsI .and .i64 x (2 ^ i - 1) = x % 2 ^ i := bits_mask .i64 63 (by decide) wraps_i64 i hi x h₀ h₁
theorem or_join (i : Nat) (x y : Int) (hx₀ : 0 ≤ x) (hx : x % 2 ^ i = 0) (hx₁ : x < 2 ^ 63) (hy₀ : 0 ≤ y) (hy : y < 2 ^ i) (hy₁ : y < 2 ^ 63) : bitsI .or .i64 x y = x + y :=
  bits_join .i64 63 (by decide) wraps_i64 i x y hx₀ hx hx₁ hy₀ hy hy₁

/-- A loop ends, with what 'f' says, where each round does and its measure falls. -/
theorem whileK_run {X R : Type} {step : (X → Option R) → X → Option R} (m : X → Nat) (Inv : X → Prop) (f : X → R)
    (h : ∀ x, Inv x → ∀ again : X → Option R, (∀ y, Inv y → m y < m x → again y = some (f y)) → step again x = some (f x)) :
    ∀ k x, Inv x → m x < k → whileK step k x = some (f x) := by
  intro k
  induction k with
  | zero => intro x _ hm; omega
  | succ k ih => intro x hx hm; exact h x hx _ fun y hy hlt => ih y hy (by omega)
/-- The same, where the answer is only told. -/
theorem whileK_ends {X R : Type} {step : (X → Option R) → X → Option R} (m : X → Nat) (Inv : X → Prop) (Q : X → R → Prop)
    (h : ∀ x, Inv x → ∀ again : X → Option R, (∀ y, Inv y → m y < m x → ∃ r, again y = some r ∧ Q y r) → ∃ r, step again x = some r ∧ Q x r) :
    ∀ k x, Inv x → m x < k → ∃ r, whileK step k x = some r ∧ Q x r := by
  intro k
  induction k with
  | zero => intro x _ hm; omega
  | succ k ih => intro x hx hm; exact h x hx _ fun y hy hlt => ih y hy (by omega)
theorem rd_get {t : Ty} (xs : List t.den) (i : Int) (h : i.toNat < xs.length) : Ty.rd (t := t) xs i = xs[i.toNat] := by
  unfold Ty.rd
  simp [List.getD, h]
end Go.Eng
