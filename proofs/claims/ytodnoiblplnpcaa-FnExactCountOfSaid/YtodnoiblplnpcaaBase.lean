import Derived.Test.YtodnoiblplnpcaaEngB
import Derived.Laws.BitsLemmas
/- Plain facts of whole numbers, bytes and loops. Conditions: none beyond each theorem's own. -/
namespace Go.Eng
theorem w64_id (n : Int) (h : -9223372036854775808 ≤ n ∧ n ≤ 9223372036854775807) : IntKind.i64.wrap n = n := by rw [IntKind.wrap_i64]; omega
theorem w64_range (n : Int) : -9223372036854775808 ≤ IntKind.i64.wrap n ∧ IntKind.i64.wrap n ≤ 9223372036854775807 := by rw [IntKind.wrap_i64]; omega
theorem w8_mod (n : Int) : IntKind.u8.wrap n = n % 256 := IntKind.wrap_u8 n
theorem wraps_i64 (n : Int) (h₀ : 0 ≤ n) (h₁ : n < 2 ^ 63) : IntKind.i64.wrap n = n := by rw [IntKind.wrap_i64]; omega
theorem bt_ge (s : ByteArray) (i : Int) : 0 ≤ bt s i := by unfold bt; split <;> omega
theorem bt_le (s : ByteArray) (i : Int) : bt s i ≤ 255 := by
  unfold bt
  split
  · have := (s[i.toNat]).toNat_lt; omega
  · omega
theorem bt_lt (s : ByteArray) (i : Int) : bt s i < 256 := by have := bt_le s i; omega
theorem bitsI_and (k : IntKind) (x y : Int) : bitsI .and k x y = bits .and k x y := rfl
theorem bitsI_or (k : IntKind) (x y : Int) : bitsI .or k x y = bits .or k x y := rfl
theorem and_mask (i : Nat) (hi : i ≤ 63) (x : Int) (h₀ : 0 ≤ x) (h₁ : x < 2 ^ 63) : bitsI .and .i64 x (2 ^ i - 1) = x % 2 ^ i := bits_mask .i64 63 (by decide) wraps_i64 i hi x h₀ h₁
theorem or_join (i : Nat) (x y : Int) (hx₀ : 0 ≤ x) (hx : x % 2 ^ i = 0) (hx₁ : x < 2 ^ 63) (hy₀ : 0 ≤ y) (hy : y < 2 ^ i) (hy₁ : y < 2 ^ 63) : bitsI .or .i64 x y = x + y :=
  bits_join .i64 63 (by decide) wraps_i64 i x y hx₀ hx hx₁ hy₀ hy hy₁

/-- A loop ends, with what 'f' says, where each round does and its measure falls. -/
theorem whileK_run {X R : Type} {step : (X → Option R) → X → Option R} (m : X → Nat) (Inv : X → Prop) (f : X → R)
    (h : ∀ x, Inv x → ∀ again : X → Option R, (∀ y, Inv y → m y < m x → again y = some (f y)) → step again x = some (f x)) :
    ∀ k x, Inv x → m x < k → whileK step k x = some (f x) := by
  intro k
  induction k with
  | zero => intro x _ hm; omega
  | succ k ih => intro x hx hm; exact h x hx _ fun y hy hlt => ih y hy (by omega)
/-- The same, where the answer is only told. -/
theorem whileK_ends {X R : Type} {step : (X → Option R) → X → Option R} (m : X → Nat) (Inv : X → Prop) (Q : X → R → Prop)
    (h : ∀ x, Inv x → ∀ again : X → Option R, (∀ y, Inv y → m y < m x → ∃ r, again y = some r ∧ Q y r) → ∃ r, step again x = some r ∧ Q x r) :
    ∀ k x, Inv x → m x < k → ∃ r, whileK step k x = some r ∧ Q x r := by
  intro k
  induction k with
  | zero => intro x _ hm; omega
  | succ k ih => intro x hx hm; exact h x hx _ fun y hy hlt => ih y hy (by omega)
theorem rd_get {t : Ty} (xs : List t.den) (i : Int) (h : i.toNat < xs.length) : Ty.rd (t := t) xs i = xs[i.toNat] := by
  unfold Ty.rd
  simp [List.getD, h]
end Go.Eng
namespace Go.Eng
theorem w64_succ (i : Int) (h : -9223372036854775808 ≤ i) (h' : i < 9223372036854775807) : IntKind.i64.wrap (i + 1) = i + 1 := w64_id _ (by omega)
/-- A list is copied, place by place. -/
theorem loop_to {t : Ty} {R : Type} {step : (List t.den × List t.den × Int × Unit → Option R) → List t.den × List t.den × Int × Unit → Option R} (a : List t.den) (fin : List t.den → R)
    (hs : ∀ again out (i : Int), 0 ≤ i → i < a.length → out.length = a.length → step again (a, (out, (i, ()))) = again (a, (out.set i.toNat (Ty.rd (t := t) a i), (i + 1, ()))))
    (he : ∀ again out (i : Int), (a.length : Int) ≤ i → step again (a, (out, (i, ()))) = some (fin out)) (out : List t.den) (ho : out.length = a.length) :
    ∀ k, a.length < k → whileK step k (a, (out, (0, ()))) = some (fin a) := by
  have key : ∀ (n : Nat) (out : List t.den) (i : Nat) (k : Nat), out.length = a.length → i ≤ a.length → a.length - i = n → out.take i = a.take i → n < k → whileK step k (a, (out, ((i : Int), ()))) = some (fin a) := by
    intro n
    induction n with
    | zero =>
      intro out i k ho hi hn ht hk
      obtain ⟨k, rfl⟩ : ∃ k', k = k' + 1 := ⟨k - 1, by omega⟩
      have e : i = a.length := by omega
      subst e
      rw [List.take_length, ← ho, List.take_length] at ht
      subst ht
      exact he _ _ _ (by omega)
    | succ n ih =>
      intro out i k ho hi hn ht hk
      obtain ⟨k, rfl⟩ : ∃ k', k = k' + 1 := ⟨k - 1, by omega⟩
      have hlt : i < a.length := by omega
      show step _ _ = _
      rw [hs _ _ _ (by omega) (by omega) ho, rd_get _ _ (by simpa using hlt)]
      have := ih (out.set i a[i]) (i + 1) k (by simp [ho]) (by omega) (by omega) (by
        rw [List.take_succ_eq_append_getElem (by rw [List.length_set, ho]; exact hlt), List.take_succ_eq_append_getElem hlt, List.getElem_set_self, List.take_set, ht, List.set_eq_of_length_le (by rw [List.length_take]; omega)]) (by omega)
      simpa using this
  intro k hk
  simpa using key a.length out 0 k ho (by omega) (by omega) (by simp) hk
/-- Two lists are compared, place by place. -/
theorem loop_eq {t : Ty} [DecidableEq t.den] {R : Type} {step : (List t.den × List t.den × Int × Unit → Option R) → List t.den × List t.den × Int × Unit → Option R} (a b : List t.den) (hab : a.length = b.length) (no yes : R)
    (hs : ∀ again (i : Int), 0 ≤ i → i < a.length → step again (a, (b, (i, ()))) = if Ty.rd (t := t) a i = Ty.rd (t := t) b i then again (a, (b, (i + 1, ()))) else some no)
    (he : ∀ again (i : Int), (a.length : Int) ≤ i → step again (a, (b, (i, ()))) = some yes) :
    ∀ k, a.length < k → whileK step k (a, (b, (0, ()))) = some (if a = b then yes else no) := by
  have key : ∀ (n : Nat) (i : Nat) (k : Nat), i ≤ a.length → a.length - i = n → a.take i = b.take i → n < k → whileK step k (a, (b, ((i : Int), ()))) = some (if a = b then yes else no) := by
    intro n
    induction n with
    | zero =>
      intro i k hi hn ht hk
      obtain ⟨k, rfl⟩ : ∃ k', k = k' + 1 := ⟨k - 1, by omega⟩
      have e : i = a.length := by omega
      subst e
      rw [List.take_length, hab, List.take_length] at ht
      rw [if_pos ht]
      exact he _ _ (by omega)
    | succ n ih =>
      intro i k hi hn ht hk
      obtain ⟨k, rfl⟩ : ∃ k', k = k' + 1 := ⟨k - 1, by omega⟩
      have hlt : i < a.length := by omega
      have hlb : i < b.length := by omega
      show step _ _ = _
      rw [hs _ _ (by omega) (by omega), rd_get a _ (by simpa using hlt), rd_get b _ (by simpa using hlb)]
      by_cases e : a[i] = b[i]
      · have := ih (i + 1) k (by omega) (by omega) (by rw [List.take_succ_eq_append_getElem hlt, List.take_succ_eq_append_getElem hlb, ht, e]) (by omega)
        simpa [e] using this
      · have hne : a ≠ b := by
          intro h
          subst h
          exact e rfl
        simp [e, hne]
  intro k hk
  simpa using key a.length 0 k (by omega) (by omega) (by simp) hk
/-- The sum of the sizes, each place's by a function that goes down from what is left, or gives up. -/
theorem loop_sz {t : Ty} {R : Type} {step : (List t.den × Int × Int × Unit → Option R) → List t.den × Int × Int × Unit → Option R} (a : List t.den) (fin : Int → R) (P : t.den → Prop)
    (hs : ∀ again (n i : Int), 0 ≤ n → n ≤ 1048576 → 0 ≤ i → i < a.length → ∃ m : Int, (0 ≤ m → m ≤ n ∧ P (Ty.rd (t := t) a i)) ∧ step again (a, (n, (i, ()))) = if m < 0 then some (fin (-1)) else again (a, (m, (i + 1, ()))))
    (he : ∀ again (n i : Int), (a.length : Int) ≤ i → step again (a, (n, (i, ()))) = some (fin n)) (n : Int) (hn : 0 ≤ n) (hn' : n ≤ 1048576) :
    ∀ k, a.length < k → ∃ m, whileK step k (a, (n, (0, ()))) = some (fin m) ∧ (0 ≤ m → m ≤ n ∧ ∀ x ∈ a, P x) := by
  have key : ∀ (d : Nat) (n : Int) (i : Nat) (k : Nat), 0 ≤ n → n ≤ 1048576 → i ≤ a.length → a.length - i = d → (∀ x ∈ a.take i, P x) → d < k → ∃ m, whileK step k (a, (n, ((i : Int), ()))) = some (fin m) ∧ (0 ≤ m → m ≤ n ∧ ∀ x ∈ a, P x) := by
    intro d
    induction d with
    | zero =>
      intro n i k hn hn' hi hd hp hk
      obtain ⟨k, rfl⟩ : ∃ k', k = k' + 1 := ⟨k - 1, by omega⟩
      refine ⟨n, he _ _ _ (by omega), fun _ => ⟨by omega, fun x hx => hp x ?_⟩⟩
      rw [List.take_of_length_le (by omega)]
      exact hx
    | succ d ih =>
      intro n i k hn hn' hi hd hp hk
      obtain ⟨k, rfl⟩ : ∃ k', k = k' + 1 := ⟨k - 1, by omega⟩
      have hlt : i < a.length := by omega
      obtain ⟨m, h1, h2⟩ := hs (whileK step k) n i hn hn' (by omega) (by omega)
      by_cases hm : m < 0
      · exact ⟨-1, by show step _ _ = _; rw [h2, if_pos hm], fun h => by omega⟩
      · obtain ⟨g1, g2⟩ := h1 (by omega)
        rw [rd_get _ _ (by simpa using hlt)] at g2
        obtain ⟨m', e1, e2⟩ := ih m (i + 1) k (by omega) (by omega) (by omega) (by omega) (by
          intro x hx
          rw [List.take_succ_eq_append_getElem hlt, List.mem_append, List.mem_singleton] at hx
          rcases hx with hx | hx
          · exact hp x hx
          · subst hx; exact g2) (by omega)
        refine ⟨m', ?_, fun h => ⟨by have := (e2 h).1; omega, (e2 h).2⟩⟩
        show step _ _ = _
        rw [h2, if_neg hm]
        simpa using e1
  intro k hk
  simpa using key a.length n 0 k hn hn' (by omega) (by omega) (by simp) hk
end Go.Eng
