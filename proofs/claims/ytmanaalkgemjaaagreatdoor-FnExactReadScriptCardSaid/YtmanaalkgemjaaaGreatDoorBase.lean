import Derived.Test.YtmanaalkgemjaaaGreatDoorEngC
import Derived.Laws.BitsLemmas
/- Plain facts of whole numbers, bytes and loops. Conditions: none beyond each theorem's own. -/
namespace Go.Eng
theorem w64_id (n : Int) (h : -9223372036854775808 ≤ n ∧ n ≤ 9223372036854775807) : IntKind.i64.wrap n = n := by rw [IntKind.wrap_i64]; omega
theorem w64_range (n : Int) : -9223372036854775808 ≤ IntKind.i64.wrap n ∧ IntKind.i64.wrap n ≤ 9223372036854775807 := by rw [IntKind.wrap_i64]; omega
theorem w8_mod (n : Int) : IntKind.u8.wrap n = n % 256 := IntKind.wrap_u8 n
theorem wraps_i64 (n : Int) (h₀ : 0 ≤ n) (h₁ : n < 2 ^ 63) : IntKind.i64.wrap n = n := by rw [IntKind.wrap_i64]; omega
theorem bt_ge (s : ByteArray) (i : Int) : 0 ≤ bt s i := by unfold bt; split <;> omega
theorem bt_le (s : ByteArray) (i : Int) : bt s i ≤ 255 := by
  unfold bt
  split
  · have := (s[i.toNat]).toNat_lt; omega
  · omega
theorem bt_lt (s : ByteArray) (i : Int) : bt s i < 256 := by have := bt_le s i; omega
theorem bitsI_and (k : IntKind) (x y : Int) : bitsI .and k x y = bits .and k x y := rfl
theorem bitsI_or (k : IntKind) (x y : Int) : bitsI .or k x y = bits .or k x y := rfl
theorem and_mask (i : Nat) (hi : i ≤ 63) (x : Int) (h₀ : 0 ≤ x) (h₁ : x < 2 ^ 63) : bitsI .and .i64 x (2 ^ i - 1) = x % 2 ^ i := bits_mask .i64 63 (by decide) wraps_i64 i hi x h₀ h₁
theorem or_join (i : Nat) (x y : Int) (hx₀ : 0 ≤ x) (hx : x % 2 ^ i = 0) (hx₁ : x < 2 ^ 63) (hy₀ : 0 ≤ y) (hy : y < 2 ^ i) (hy₁ : y < 2 ^ 63) : bitsI .or .i64 x y = x + y :=
  bits_join .i64 63 (by decide) wraps_i64 i x y hx₀ hx hx₁ hy₀ hy hy₁

/-- A loop ends, with what 'f' says, where each round does and its measure falls. -/
theorem whileK_run {X R : Type} {step : (X → Option R) → X → Option R} (m : X → Nat) (Inv : X → Prop) (f : X → R)
    (h : ∀ x, Inv x → ∀ again : X → Option R, (∀ y, Inv y → m y < m x → again y = some (f y)) → step again x = some (f x)) :
    ∀ k x, Inv x → m x < k → whileK step k x = some (f x) := by
  intro k
  induction k with
  | zero => intro x _ hm; omega
  | succ k ih => intro x hx hm; exact h x hx _ fun y hy hlt => ih y hy (by omega)
/-- The same, where the answer is only told. -/
theorem whileK_ends {X R : Type} {step : (X → Option R) → X → Option R} (m : X → Nat) (Inv : X → Prop) (Q : X → R → Prop)
    (h : ∀ x, Inv x → ∀ again : X → Option R, (∀ y, Inv y → m y < m x → ∃ r, again y = some r ∧ Q y r) → ∃ r, step again x = some r ∧ Q x r) :
    ∀ k x, Inv x → m x < k → ∃ r, whileK step k x = some r ∧ Q x r := by
  intro k
  induction k with
  | zero => intro x _ hm; omega
  | succ k ih => intro x hx hm; exact h x hx _ fun y hy hlt => ih y hy (by omega)
theorem rd_get {t : Ty} (xs : List t.den) (i : Int) (h : i.toNat < xs.length) : Ty.rd (t := t) xs i = xs[i.toNat] := by
  unfold Ty.rd
  simp [List.getD, h]
end Go.Eng
namespace Go.Eng
theorem w64_succ (i : Int) (h : -9223372036854775808 ≤ i) (h' : i < 9223372036854775807) : IntKind.i64.wrap (i + 1) = i + 1 := w64_id _ (by omega)
/-- A list is copied, place by place. -/
theorem loop_to {t : Ty} {R : Type} {step : (List t.den × List t.den × Int × Unit → Option R) → List t.den × List t.den × Int × Unit → Option R} (a : List t.den) (fin : List t.den → R)
    (hs : ∀ again out (i : Int), 0 ≤ i → i < a.length → out.length = a.length → step again (a, (out, (i, ()))) = again (a, (out.set i.toNat (Ty.rd (t := t) a i), (i + 1, ()))))
    (he : ∀ again out (i : Int), (a.length : Int) ≤ i → step again (a, (out, (i, ()))) = some (fin out)) (out : List t.den) (ho : out.length = a.length) :
    ∀ k, a.length < k → whileK step k (a, (out, (0, ()))) = some (fin a) := by
  have key : ∀ (n : Nat) (out : List t.den) (i : Nat) (k : Nat), out.length = a.length → i ≤ a.length → a.length - i = n → out.take i = a.take i → n < k → whileK step k (a, (out, ((i : Int), ()))) = some (fin a) := by
    intro n
    induction n with
    | zero =>
      intro out i k ho hi hn ht hk
      obtain ⟨k, rfl⟩ : ∃ k', k = k' + 1 := ⟨k - 1, by omega⟩
      have e : i = a.length := by omega
      subst e
      rw [List.take_length, ← ho, List.take_length] at ht
      subst ht
      exact he _ _ _ (by omega)
    | succ n ih =>
      intro out i k ho hi hn ht hk
      obtain ⟨k, rfl⟩ : ∃ k', k = k' + 1 := ⟨k - 1, by omega⟩
      have hlt : i < a.length := by omega
      show step _ _ = _
      rw [hs _ _ _ (by omega) (by omega) ho, rd_get _ _ (by simpa using hlt)]
      have := ih (out.set i a[i]) (i + 1) k (by simp [ho]) (by omega) (by omega) (by
        rw [List.take_succ_eq_append_getElem (by rw [List.length_set, ho]; exact hlt), List.take_succ_eq_append_getElem hlt, List.getElem_set_self, List.take_set, ht, List.set_eq_of_length_le (by rw [List.length_take]; omega)]) (by omega)
      simpa using this
  intro k hk
  simpa using key a.length out 0 k ho (by omega) (by omega) (by simp) hk
/-- Two lists are compared, place by place. -/
theorem loop_eq {t : Ty} [DecidableEq t.den] {R : Type} {step : (List t.den × List t.den × Int × Unit → Option R) → List t.den × List t.den × Int × Unit → Option R} (a b : List t.den) (hab : a.length = b.length) (no yes : R)
    (hs : ∀ again (i : Int), 0 ≤ i → i < a.length → step again (a, (b, (i, ()))) = if Ty.rd (t := t) a i = Ty.rd (t := t) b i then again (a, (b, (i + 1, ()))) else some no)
    (he : ∀ again (i : Int), (a.length : Int) ≤ i → step again (a, (b, (i, ()))) = some yes) :
    ∀ k, a.length < k → whileK step k (a, (b, (0, ()))) = some (if a = b then yes else no) := by
  have key : ∀ (n : Nat) (i : Nat) (k : Nat), i ≤ a.length → a.length - i = n → a.take i = b.take i → n < k → whileK step k (a, (b, ((i : Int), ()))) = some (if a = b then yes else no) := by
    intro n
    induction n with
    | zero =>
      intro i k hi hn ht hk
      obtain ⟨k, rfl⟩ : ∃ k', k = k' + 1 := ⟨k - 1, by omega⟩
      have e : i = a.length := by omega
      subst e
      rw [List.take_length, hab, List.take_length] at ht
      rw [if_pos ht]
      exact he _ _ (by omega)
    | succ n ih =>
      intro i k hi hn ht hk
      obtain ⟨k, rfl⟩ : ∃ k', k = k' + 1 := ⟨k - 1, by omega⟩
      have hlt : i < a.length := by omega
      have hlb : i < b.length := by omega
      show step _ _ = _
      rw [hs _ _ (by omega) (by omega), rd_get a _ (by simpa using hlt), rd_get b _ (by simpa using hlb)]
      by_cases e : a[i] = b[i]
      · have := ih (i + 1) k (by omega) (by omega) (by rw [List.take_succ_eq_append_getElem hlt, List.take_succ_eq_append_getElem hlb, ht, e]) (by omega)
        simpa [e] using this
      · have hne : a ≠ b := by
          intro h
          subst h
          exact e rfl
        simp [e, hne]
  intro k hk
  simpa using key a.length 0 k (by omega) (by omega) (by simp) hk
/-- The sum of the sizes, each place's by a function that goes down from what is left, or gives up. -/
theorem loop_sz {t : Ty} {R : Type} {step : (List t.den × Int × Int × Unit → Option R) → List t.den × Int × Int × Unit → Option R} (a : List t.den) (fin : Int → R) (P : t.den → Prop)
    (hs : ∀ again (n i : Int), 0 ≤ n → n ≤ 1048576 → 0 ≤ i → i < a.length → ∃ m : Int, (0 ≤ m → m ≤ n ∧ P (Ty.rd (t := t) a i)) ∧ step again (a, (n, (i, ()))) = if m < 0 then some (fin (-1)) else again (a, (m, (i + 1, ()))))
    (he : ∀ again (n i : Int), (a.length : Int) ≤ i → step again (a, (n, (i, ()))) = some (fin n)) (n : Int) (hn : 0 ≤ n) (hn' : n ≤ 1048576) :
    ∀ k, a.length < k → ∃ m, whileK step k (a, (n, (0, ()))) = some (fin m) ∧ (0 ≤ m → m ≤ n ∧ ∀ x ∈ a, P x) := by
  have key : ∀ (d : Nat) (n : Int) (i : Nat) (k : Nat), 0 ≤ n → n ≤ 1048576 → i ≤ a.length → a.length - i = d → (∀ x ∈ a.take i, P x) → d < k → ∃ m, whileK step k (a, (n, ((i : Int), ()))) = some (fin m) ∧ (0 ≤ m → m ≤ n ∧ ∀ x ∈ a, P x) := by
    intro d
    induction d with
    | zero =>
      intro n i k hn hn' hi hd hp hk
      obtain ⟨k, rfl⟩ : ∃ k', k = k' + 1 := ⟨k - 1, by omega⟩
      refine ⟨n, he _ _ _ (by omega), fun _ => ⟨by omega, fun x hx => hp x ?_⟩⟩
      rw [List.take_of_length_le (by omega)]
      exact hx
    | succ d ih =>
      intro n i k hn hn' hi hd hp hk
      obtain ⟨k, rfl⟩ : ∃ k', k = k' + 1 := ⟨k - 1, by omega⟩
      have hlt : i < a.length := by omega
      obtain ⟨m, h1, h2⟩ := hs (whileK step k) n i hn hn' (by omega) (by omega)
      by_cases hm : m < 0
      · exact ⟨-1, by show step _ _ = _; rw [h2, if_pos hm], fun h => by omega⟩
      · obtain ⟨g1, g2⟩ := h1 (by omega)
        rw [rd_get _ _ (by simpa using hlt)] at g2
        obtain ⟨m', e1, e2⟩ := ih m (i + 1) k (by omega) (by omega) (by omega) (by omega) (by
          intro x hx
          rw [List.take_succ_eq_append_getElem hlt, List.mem_append, List.mem_singleton] at hx
          rcases hx with hx | hx
          · exact hp x hx
          · subst hx; exact g2) (by omega)
        refine ⟨m', ?_, fun h => ⟨by have := (e2 h).1; omega, (e2 h).2⟩⟩
        show step _ _ = _
        rw [h2, if_neg hm]
        simpa using e1
  intro k hk
  simpa using key a.length n 0 k hn hn' (by omega) (by omega) (by simp) hk
end Go.Eng
namespace Go.Eng
/-- A loop ends, with something of a form. -/
theorem whileK_some {X R T : Type} {step : (X → Option R) → X → Option R} {g : T → R} (m : X → Nat) (Inv : X → Prop) (Q : X → T → Prop)
    (h : ∀ x, Inv x → ∀ again : X → Option R, (∀ y, Inv y → m y < m x → ∃ t, again y = some (g t) ∧ Q y t) → ∃ t, step again x = some (g t) ∧ Q x t) :
    ∀ k x, Inv x → m x < k → ∃ t, whileK step k x = some (g t) ∧ Q x t := by
  intro k
  induction k with
  | zero => intro x _ hm; omega
  | succ k ih => intro x hx hm; exact h x hx _ fun y hy hlt => ih y hy (by omega)
/-- Are two things the same? -/
noncomputable def dq {A : Type} (x y : A) : Bool := @decide (x = y) (Classical.propDecidable _)
theorem dq_eq {A : Type} [DecidableEq A] (x y : A) : dq x y = decide (x = y) := by unfold dq; congr
theorem dq_self {A : Type} (x : A) : dq x x = true := by simp [dq]
theorem dq_true {A : Type} (x y : A) : dq x y = true ↔ x = y := by simp [dq]
theorem dq_of {A B : Type} {x y : A} {x' y' : B} (h : x = y ↔ x' = y') : dq x y = dq x' y' := by
  rw [Bool.eq_iff_iff, dq_true, dq_true, h]
theorem dq_false {A : Type} {x y : A} (h : x ≠ y) : dq x y = false := by simp [dq, h]
theorem loop_dq {t : Ty} {R : Type} {step : (List t.den × List t.den × Int × Unit → Option R) → List t.den × List t.den × Int × Unit → Option R} (a b : List t.den) (hab : a.length = b.length) (no yes : R)
    (hs : ∀ again (i : Int), 0 ≤ i → i < a.length → step again (a, (b, (i, ()))) = if dq (Ty.rd (t := t) a i) (Ty.rd (t := t) b i) = true then again (a, (b, (i + 1, ()))) else some no)
    (he : ∀ again (i : Int), (a.length : Int) ≤ i → step again (a, (b, (i, ()))) = some yes) (k : Nat) (hk : a.length < k) : whileK step k (a, (b, (0, ()))) = some (if dq a b = true then yes else no) := by
  letI inst : DecidableEq t.den := fun a b => Classical.propDecidable (a = b)
  refine (loop_eq (t := t) a b hab no yes (fun again i h0 h1 => (hs again i h0 h1).trans ?_) he k hk).trans ?_
  · simp only [dq_true]
  · simp only [dq_true]
/-- Each place of a list is marked with what 'M' says of the next number. -/
theorem loop_mark {t : Ty} {R : Type} {step : (List t.den × Int × Int × Unit → Option R) → List t.den × Int × Int × Unit → Option R} (M : Int → t.den) (fin : List t.den → Int → R) (N : Int)
    (hs : ∀ again (out : List t.den) (n i : Int), 0 ≤ i → i < out.length → i ≤ n → n < N → step again (out, (n, (i, ()))) = again (out.set i.toNat (M n), (n + 1, (i + 1, ()))))
    (he : ∀ again (out : List t.den) (n i : Int), (out.length : Int) ≤ i → step again (out, (n, (i, ()))) = some (fin out n)) (a : List t.den) (n : Int) (hn : 0 ≤ n) (hN : n + a.length ≤ N) :
    ∀ k, a.length < k → whileK step k (a, (n, (0, ()))) = some (fin ((List.range a.length).map fun i => M (n + (i : Nat))) (n + a.length)) := by
  have key : ∀ (d : Nat) (out : List t.den) (i : Nat) (k : Nat), out.length = a.length → i ≤ a.length → a.length - i = d → out.take i = (List.range i).map (fun j => M (n + (j : Nat))) → d < k →
      whileK step k (out, (n + (i : Nat), ((i : Int), ()))) = some (fin ((List.range a.length).map fun i => M (n + (i : Nat))) (n + a.length)) := by
    intro d
    induction d with
    | zero =>
      intro out i k ho hi hd ht hk
      obtain ⟨k, rfl⟩ : ∃ k', k = k' + 1 := ⟨k - 1, by omega⟩
      have e : i = a.length := by omega
      subst e
      rw [← ho, List.take_length] at ht
      have : step (whileK step k) (out, (n + (a.length : Nat), ((a.length : Int), ()))) = some (fin out (n + (a.length : Nat))) := he _ _ _ _ (by omega)
      refine this.trans ?_
      rw [← ho, ← ht]
    | succ d ih =>
      intro out i k ho hi hd ht hk
      obtain ⟨k, rfl⟩ : ∃ k', k = k' + 1 := ⟨k - 1, by omega⟩
      have hlt : i < a.length := by omega
      show step _ _ = _
      rw [hs _ _ _ _ (by omega) (by omega) (by omega) (by omega)]
      have := ih (out.set i (M (n + (i : Nat)))) (i + 1) k (by simp [ho]) (by omega) (by omega) (by
        rw [List.take_succ_eq_append_getElem (by rw [List.length_set, ho]; exact hlt), List.getElem_set_self, List.take_set, ht, List.set_eq_of_length_le (by simp), List.range_succ, List.map_append]
        rfl) (by omega)
      have e1 : n + ((i + 1 : Nat) : Int) = n + (i : Nat) + 1 := by omega
      have e2 : ((i + 1 : Nat) : Int) = (i : Int) + 1 := by omega
      rw [e1, e2] at this
      simpa using this
  intro k hk
  have := key a.length a 0 k rfl (by omega) (by omega) (by simp) hk
  simpa using this
/-- A list that holds the marks is seen to. -/
theorem loop_held {t : Ty} [DecidableEq t.den] {R : Type} {step : (List t.den × Int × Int × Unit → Option R) → List t.den × Int × Int × Unit → Option R} (M : Int → t.den) (fin : Int → R) (no : R) (N : Int) (a : List t.den)
    (hs : ∀ again (n i : Int), 0 ≤ i → i < a.length → i ≤ n → n < N → step again (a, (n, (i, ()))) = if Ty.rd (t := t) a i = M n then again (a, (n + 1, (i + 1, ()))) else some no)
    (he : ∀ again (n i : Int), (a.length : Int) ≤ i → step again (a, (n, (i, ()))) = some (fin n)) (n : Int) (hn : 0 ≤ n) (hN : n + a.length ≤ N) (ha : a = (List.range a.length).map fun i => M (n + (i : Nat))) :
    ∀ k, a.length < k → whileK step k (a, (n, (0, ()))) = some (fin (n + a.length)) := by
  have key : ∀ (d : Nat) (i : Nat) (k : Nat), i ≤ a.length → a.length - i = d → d < k → whileK step k (a, (n + (i : Nat), ((i : Int), ()))) = some (fin (n + a.length)) := by
    intro d
    induction d with
    | zero =>
      intro i k hi hd hk
      obtain ⟨k, rfl⟩ : ∃ k', k = k' + 1 := ⟨k - 1, by omega⟩
      have e : i = a.length := by omega
      subst e
      exact he _ _ _ (by omega)
    | succ d ih =>
      intro i k hi hd hk
      obtain ⟨k, rfl⟩ : ∃ k', k = k' + 1 := ⟨k - 1, by omega⟩
      have hlt : i < a.length := by omega
      have hg : a[i] = M (n + (i : Nat)) := by
        have : a[i]? = ((List.range a.length).map fun i => M (n + (i : Nat)))[i]? := by rw [← ha]
        rw [List.getElem?_eq_getElem hlt, List.getElem?_eq_getElem (by simpa using hlt)] at this
        simpa using this
      show step _ _ = _
      rw [hs _ _ _ (by omega) (by omega) (by omega) (by omega), rd_get a _ (by simpa using hlt)]
      have := ih (i + 1) k (by omega) (by omega) (by omega)
      have e1 : n + ((i + 1 : Nat) : Int) = n + (i : Nat) + 1 := by omega
      have e2 : ((i + 1 : Nat) : Int) = (i : Int) + 1 := by omega
      rw [e1, e2] at this
      simpa [hg] using this
  intro k hk
  have := key a.length 0 k (by omega) (by omega) hk
  simpa using this
end Go.Eng
namespace Go.Eng
/-- A fold with an early end. -/
def foldE {A R : Type} (g : Nat → A → R ⊕ A) (fin : A → R) : Nat → Nat → A → R
  | 0, _, a => fin a
  | m + 1, i, a => match g i a with
    | .inl r => r
    | .inr a' => foldE g fin m (i + 1) a'
theorem foldE_congr {A R : Type} {g g' : Nat → A → R ⊕ A} {fin fin' : A → R} {n : Nat} (I : Nat → A → Prop) (hg : ∀ i a, i < n → I i a → g i a = g' i a) (hI : ∀ i a a', i < n → I i a → g i a = .inr a' → I (i + 1) a') (hf : ∀ a, I n a → fin a = fin' a) :
    ∀ m i a, i + m = n → I i a → foldE g fin m i a = foldE g' fin' m i a := by
  intro m
  induction m with
  | zero => intro i a h hi; exact hf a (by rw [← h]; exact hi)
  | succ m ih =>
    intro i a h hi
    unfold foldE
    rw [← hg i a (by omega) hi]
    cases hq : g i a with
    | inl r => rfl
    | inr a' => exact ih (i + 1) a' (by omega) (hI i a a' (by omega) hi hq)
theorem loop_fold {X R A : Type} {step : (X → Option R) → X → Option R} (st : Nat → A → X) (n : Nat) (g : Nat → A → R ⊕ A) (fin : A → R) (I : Nat → A → Prop)
    (hs : ∀ again i a, i < n → I i a → step again (st i a) = match g i a with | .inl r => some r | .inr a' => again (st (i + 1) a'))
    (hI : ∀ i a a', i < n → I i a → g i a = .inr a' → I (i + 1) a') (he : ∀ again a, I n a → step again (st n a) = some (fin a)) :
    ∀ k a, I 0 a → n < k → whileK step k (st 0 a) = some (foldE g fin n 0 a) := by
  have key : ∀ m i k a, i + m = n → I i a → m < k → whileK step k (st i a) = some (foldE g fin m i a) := by
    intro m
    induction m with
    | zero =>
      intro i k a h hi hk
      obtain ⟨k, rfl⟩ : ∃ k', k = k' + 1 := ⟨k - 1, by omega⟩
      have : i = n := by omega
      subst this
      exact he _ _ hi
    | succ m ih =>
      intro i k a h hi hk
      obtain ⟨k, rfl⟩ : ∃ k', k = k' + 1 := ⟨k - 1, by omega⟩
      show step _ _ = _
      rw [hs _ i a (by omega) hi]
      unfold foldE
      cases hq : g i a with
      | inl r => rfl
      | inr a' => exact ih (i + 1) k a' (by omega) (hI i a a' (by omega) hi hq) (by omega)
  intro k a ha hk
  exact key n 0 k a (by omega) ha hk
theorem loop_find {X R : Type} {step : (X → Option R) → X → Option R} (st : Nat → X) (n : Nat) (p : Nat → Bool) (hit : Nat → R) (miss : R)
    (hs : ∀ again i, i < n → step again (st i) = if p i = true then some (hit i) else again (st (i + 1))) (he : ∀ again, step again (st n) = some miss) (k : Nat) (hk : n < k) :
    whileK step k (st 0) = some (match (List.range n).find? p with | some i => hit i | none => miss) := by
  have key : ∀ m i k, i + m = n → m < k → whileK step k (st i) = some (match (List.range' i m).find? p with | some i => hit i | none => miss) := by
    intro m
    induction m with
    | zero =>
      intro i k h hk
      obtain ⟨k, rfl⟩ : ∃ k', k = k' + 1 := ⟨k - 1, by omega⟩
      have : i = n := by omega
      subst this
      exact he _
    | succ m ih =>
      intro i k h hk
      obtain ⟨k, rfl⟩ : ∃ k', k = k' + 1 := ⟨k - 1, by omega⟩
      show step _ _ = _
      rw [hs _ i (by omega), List.range'_succ, List.find?_cons]
      cases hp : p i with
      | true => simp
      | false => simp only [Bool.false_eq_true, if_false]; exact ih (i + 1) k (by omega) (by omega)
  rw [List.range_eq_range']
  exact key n 0 k (by omega) hk
theorem find_at {n i : Nat} {p : Nat → Bool} (hi : i < n) (hp : p i = true) : ((List.range n).find? p = some i) ↔ ∀ j, j < i → p j = false := by
  rw [List.find?_range_eq_some]
  constructor
  · intro h j hj
    have := h.2.2 j hj
    simpa using this
  · intro h
    exact ⟨hp, by simpa using hi, fun j hj => by simp [h j hj]⟩
end Go.Eng
namespace Go.Eng
/-- A search within a loop: it ends the outer one, or goes on. -/
theorem find_loop_opt {X R : Type} {step : (X → Option R) → X → Option R} (st : Nat → X) (n : Nat) (p : Nat → Bool) (hit miss : Option R)
    (hs : ∀ again i, i < n → step again (st i) = if p i = true then hit else again (st (i + 1))) (he : ∀ again, step again (st n) = miss) (k : Nat) (hk : n < k) :
    whileK step k (st 0) = if (List.range n).all (fun j => !p j) = true then miss else hit := by
  have key : ∀ m i k, i + m = n → m < k → whileK step k (st i) = if (List.range' i m).all (fun j => !p j) = true then miss else hit := by
    intro m
    induction m with
    | zero =>
      intro i k h hk
      obtain ⟨k, rfl⟩ : ∃ k', k = k' + 1 := ⟨k - 1, by omega⟩
      have : i = n := by omega
      subst this
      exact he _
    | succ m ih =>
      intro i k h hk
      obtain ⟨k, rfl⟩ : ∃ k', k = k' + 1 := ⟨k - 1, by omega⟩
      show step _ _ = _
      rw [hs _ i (by omega), List.range'_succ, List.all_cons]
      cases hp : p i with
      | true => simp
      | false =>
        simp only [Bool.false_eq_true, if_false, Bool.not_false, Bool.true_and]
        exact ih (i + 1) k (by omega) (by omega)
  rw [List.range_eq_range']
  exact key n 0 k (by omega) hk
end Go.Eng
namespace Go.Eng
theorem foldE_sim {A B R : Type} {g : Nat → A → R ⊕ A} {g' : Nat → B → R ⊕ B} {fin : A → R} {fin' : B → R} {n : Nat} (S : A → B → Prop)
    (hg : ∀ i a b, i < n → S a b → (∃ r, g i a = .inl r ∧ g' i b = .inl r) ∨ ∃ a' b', g i a = .inr a' ∧ g' i b = .inr b' ∧ S a' b') (hf : ∀ a b, S a b → fin a = fin' b) :
    ∀ m i a b, i + m = n → S a b → foldE g fin m i a = foldE g' fin' m i b := by
  intro m
  induction m with
  | zero => intro i a b h hs; exact hf a b hs
  | succ m ih =>
    intro i a b h hs
    unfold foldE
    rcases hg i a b (by omega) hs with ⟨r, h1, h2⟩ | ⟨a', b', h1, h2, h3⟩
    · rw [h1, h2]
    · rw [h1, h2]; exact ih (i + 1) a' b' (by omega) h3
end Go.Eng
