import Derived.Test.YtjmpbkkomiebhaaRows
import Derived.Test.YtjmpbkkomiebhaaFun1
import Derived.Test.YtjmpbkkomiebhaaBase
import Derived.Test.YtjmpbkkomiebhaaFacts
import Derived.WalkKit
import Derived.ProofKit
import Derived.OpenShut
import Derived.ShutString
import Derived.ChangeOld
import Derived.Below
import Derived.SizedLaws
/- FnPackets answers true for every input, and its arguments read behind the call as they did ahead of it. Conditions: none. -/
set_option linter.unusedVariables false
namespace Go.Proofs.Ytjmpbkkomiebhaa
open Go Go.Eng Go.Proofs
abbrev pars_FnPackets : List Par := [(false, (.list (.int .u8)))]
theorem l01In_is (k : Nat) (a b c : Int) : s_l01In k (a, (b, (c, ()))) = some (decide (b ≤ a ∧ a ≤ c), ((), ((), ((), ())))) := by
  unfold s_l01In
  by_cases h : b ≤ a <;> simp [h]
theorem within_is (k : Nat) (a b c : Int) : i_within k (a, (b, (c, ()))) = some (decide (b ≤ a ∧ a ≤ c), ((), ((), ((), ())))) := l01In_is k a b c
/-- Bytes as whole numbers. -/
def isB (l : List Int) : Prop := ∀ x ∈ l, 0 ≤ x ∧ x < 256
theorem bytesOf_len (s : ByteArray) : (bytesOf s).length = s.size := by
  unfold bytesOf
  rw [List.length_map, Array.length_toList]
  rfl
theorem strOf_len (l : List Int) : (strOf l).size = l.length := by simp [strOf, ByteArray.size]
theorem bytesOf_isB (s : ByteArray) : isB (bytesOf s) := by
  intro x hx
  unfold bytesOf at hx
  obtain ⟨b, _, rfl⟩ := List.mem_map.1 hx
  have := b.toNat_lt
  exact ⟨by omega, by omega⟩
theorem isB_nil : isB [] := by intro x hx; cases hx
theorem isB_cons {x : Int} {l : List Int} : isB (x :: l) ↔ (0 ≤ x ∧ x < 256) ∧ isB l := by simp [isB]
theorem isB_append {a b : List Int} : isB (a ++ b) ↔ isB a ∧ isB b := by
  simp only [isB, List.mem_append]
  exact ⟨fun h => ⟨fun x hx => h x (.inl hx), fun x hx => h x (.inr hx)⟩, fun h x hx => hx.elim (h.1 x) (h.2 x)⟩
theorem isB_drop {l : List Int} (h : isB l) (n : Nat) : isB (l.drop n) := fun x hx => h x (List.mem_of_mem_drop hx)
theorem isB_take {l : List Int} (h : isB l) (n : Nat) : isB (l.take n) := fun x hx => h x (List.mem_of_mem_take hx)
theorem bytesOf_strOf {l : List Int} (h : isB l) : bytesOf (strOf l) = l := by
  unfold bytesOf strOf
  rw [List.map_map]
  have : ∀ m : List Int, isB m → m.map ((fun b : UInt8 => ((b.toNat : Nat) : Int)) ∘ fun x => UInt8.ofNat x.toNat) = m := by
    intro m
    induction m with
    | nil => intro _; rfl
    | cons a m ih =>
      intro hm
      obtain ⟨h1, h2⟩ := isB_cons.1 hm
      rw [List.map_cons, ih h2]
      congr 1
      simp only [Function.comp, UInt8.toNat_ofNat']
      omega
  simpa using this l h
theorem strOf_bytes (s : ByteArray) : strOf (bytesOf s) = s := by
  have e : (fun x : Int => UInt8.ofNat x.toNat) ∘ (fun b : UInt8 => ((b.toNat : Nat) : Int)) = id := by
    funext b
    simp
  apply ByteArray.ext
  simp only [strOf, bytesOf, List.map_map, e, List.map_id]
theorem bytesOf_inj {s t : ByteArray} (h : bytesOf s = bytesOf t) : s = t := by rw [← strOf_bytes s, h, strOf_bytes]
theorem strOf_inj {a b : List Int} (ha : isB a) (hb : isB b) (h : strOf a = strOf b) : a = b := by rw [← bytesOf_strOf ha, h, bytesOf_strOf hb]
theorem bytesOf_append (a b : ByteArray) : bytesOf (a ++ b) = bytesOf a ++ bytesOf b := by
  simp [bytesOf, ByteArray.data_append]
theorem strOf_append (a b : List Int) : strOf (a ++ b) = strOf a ++ strOf b := by
  apply ByteArray.ext
  simp [strOf, ByteArray.data_append]
theorem bytesOf_extract (s : ByteArray) (a b : Nat) : bytesOf (s.extract a b) = ((bytesOf s).take b).drop a := by
  simp [bytesOf, ByteArray.data_extract, List.map_drop, List.map_take, List.drop_take]
theorem bt_get (s : ByteArray) (i : Nat) (h : i < s.size) : bt s (i : Int) = (bytesOf s)[i]'(by rw [bytesOf_len]; exact h) := by
  unfold bt
  rw [dif_pos (by simpa using h)]
  simp [bytesOf, ByteArray.getElem_eq_getElem_data]
theorem bytesOf_nil : bytesOf (⟨#[]⟩ : ByteArray) = [] := rfl
theorem strOf_nil : strOf [] = (⟨#[]⟩ : ByteArray) := rfl
theorem strOf_eq_iff {s : ByteArray} {l : List Int} (h : isB l) : strOf l = s ↔ bytesOf s = l :=
  ⟨fun e => by rw [← e, bytesOf_strOf h], fun e => by rw [← e, strOf_bytes]⟩
theorem cap_ok (n m : Nat) (h : n + m ≤ 4194304) : n + m ≤ capMax := by
  have : capMax = 274877906944 := rfl
  omega
theorem max_ok (n m : Nat) (h : n + m ≤ 4194304) : n + m ≤ maxStr := by
  have : maxStr = 9223372036854775807 := rfl
  omega
/-- A loop that counts up to n and turns its state each round. -/
def iterN {A : Type} (g : Nat → A → A) : Nat → Nat → A → A
  | 0, _, a => a
  | m + 1, i, a => iterN g m (i + 1) (g i a)
theorem run_loop {X R A : Type} {step : (X → Option R) → X → Option R} (st : Nat → A → X) (n : Nat) (g : Nat → A → A) (fin : A → Option R) (Inv : Nat → A → Prop)
    (hs : ∀ again i a, i < n → Inv i a → step again (st i a) = again (st (i + 1) (g i a)) ∧ Inv (i + 1) (g i a)) (he : ∀ again a, Inv n a → step again (st n a) = fin a) :
    ∀ m i a k, i + m = n → Inv i a → m < k → whileK step k (st i a) = fin (iterN g m i a) := by
  intro m
  induction m with
  | zero =>
    intro i a k h hI hk
    obtain ⟨k, rfl⟩ : ∃ k', k = k' + 1 := ⟨k - 1, by omega⟩
    have : i = n := by omega
    subst this
    exact he _ _ hI
  | succ m ih =>
    intro i a k h hI hk
    obtain ⟨k, rfl⟩ : ∃ k', k = k' + 1 := ⟨k - 1, by omega⟩
    obtain ⟨h1, h2⟩ := hs (whileK step k) i a (by omega) hI
    show step _ _ = _
    rw [h1]
    exact ih (i + 1) _ k (by omega) h2 (by omega)
theorem iterN_inv {A : Type} (g : Nat → A → A) (Inv : Nat → A → Prop) (n : Nat) (hs : ∀ i a, i < n → Inv i a → Inv (i + 1) (g i a)) : ∀ m i a, i + m = n → Inv i a → Inv n (iterN g m i a) := by
  intro m
  induction m with
  | zero => intro i a h hI; have : i = n := by omega
            subst this; exact hI
  | succ m ih => intro i a h hI; exact ih (i + 1) _ (by omega) (hs i a (by omega) hI)
/-- A loop that looks at each place, and gives up at the first that is not as it should be. -/
theorem all_loop {X R : Type} {step : (X → Option R) → X → Option R} (st : Nat → X) (n : Nat) (p : Nat → Bool) (no fin : Option R)
    (hs : ∀ again i, i < n → step again (st i) = if p i = true then again (st (i + 1)) else no) (he : ∀ again, step again (st n) = fin) (k : Nat) (hk : n < k) :
    whileK step k (st 0) = if (List.range n).all p = true then fin else no := by
  rw [find_loop_opt st n (fun i => !p i) no fin (fun again i hi => by rw [hs again i hi]; cases p i <;> simp) he k hk]
  simp
theorem all_rd {t : Ty} (l : List t.den) (p : t.den → Bool) : (List.range l.length).all (fun i => p (Ty.rd (t := t) l ((i : Nat) : Int))) = l.all p := by
  rw [Bool.eq_iff_iff, List.all_eq_true, List.all_eq_true]
  constructor
  · intro h x hx
    obtain ⟨i, hi, rfl⟩ := List.mem_iff_getElem.1 hx
    have := h i (by simpa using hi)
    rw [rd_get (t := t) l _ (by simpa using hi)] at this
    exact this
  · intro h i hi
    have hi' : i < l.length := by simpa using hi
    rw [rd_get (t := t) l _ (by simpa using hi')]
    exact h _ (List.getElem_mem _)
/-- Four bytes, the highest first. -/
def four (n : Int) : List Int := [n / 16777216 % 256, n / 65536 % 256, n / 256 % 256, n % 256]
theorem four_isB (n : Int) : isB (four n) := by
  unfold four
  simp only [isB_cons]
  refine ⟨by omega, by omega, by omega, by omega, isB_nil⟩
theorem four_inj {a b : Int} (ha : 0 ≤ a ∧ a < 4294967296) (hb : 0 ≤ b ∧ b < 4294967296) (h : four a = four b) : a = b := by
  unfold four at h
  simp only [List.cons.injEq, and_true] at h
  omega
/-- The bytes of a number: seven bits each, the lowest first. -/
def enc (n : Nat) : List Int := if h : 127 < n then ((n % 128 + 128 : Nat) : Int) :: enc (n / 128) else [(n : Int)]
theorem enc_big {n : Nat} (h : 127 < n) : enc n = ((n % 128 + 128 : Nat) : Int) :: enc (n / 128) := by rw [enc, dif_pos h]
theorem enc_small {n : Nat} (h : ¬ 127 < n) : enc n = [(n : Int)] := by rw [enc, dif_neg h]
theorem enc_isB (n : Nat) : isB (enc n) := by
  induction n using Nat.strongRecOn with
  | ind n ih =>
    by_cases h : 127 < n
    · rw [enc_big h, isB_cons]
      exact ⟨by omega, ih _ (by omega)⟩
    · rw [enc_small h, isB_cons]
      exact ⟨by omega, isB_nil⟩
theorem enc_len (j n : Nat) (h : n < 128 ^ (j + 1)) : (enc n).length ≤ j + 1 := by
  induction j generalizing n with
  | zero => rw [enc_small (by omega)]; simp
  | succ j ih =>
    by_cases c : 127 < n
    · rw [enc_big c]
      have := ih (n / 128) (by rw [Nat.pow_succ] at h; exact Nat.div_lt_of_lt_mul (by omega))
      simpa using this
    · rw [enc_small c]; simp
theorem enc_pos (n : Nat) : 0 < (enc n).length := by
  by_cases c : 127 < n
  · rw [enc_big c]; simp
  · rw [enc_small c]; simp
theorem w8_id (n : Int) (h : 0 ≤ n ∧ n < 256) : wu8 n = n := by
  show IntKind.u8.wrap n = n
  rw [IntKind.wrap_u8]
  omega
theorem tmod_pos (a b : Int) (h : 0 ≤ a) : Int.tmod a b = a % b := Int.tmod_eq_emod_of_nonneg h
theorem tdiv_pos (a b : Int) (h : 0 ≤ a) : Int.tdiv a b = a / b := Int.tdiv_eq_ediv_of_nonneg h
/-- The loop that writes a number. -/
theorem var_loop {R : Type} {step : (Int × List Int × Unit → Option R) → Int × List Int × Unit → Option R} (fin : List Int → Option R)
    (hs : ∀ again (n : Nat) (out : List Int), 127 < n → n < 128 ^ 8 → out.length ≤ 100 → step again ((n : Int), (out, ())) = again (((n / 128 : Nat) : Int), (out ++ [((n % 128 + 128 : Nat) : Int)], ())))
    (he : ∀ again (n : Nat) (out : List Int), ¬ 127 < n → out.length ≤ 100 → step again ((n : Int), (out, ())) = fin (out ++ [(n : Int)])) :
    ∀ (j n : Nat) (out : List Int) (k : Nat), n < 128 ^ (j + 1) → j ≤ 7 → out.length + j ≤ 100 → j < k → whileK step k ((n : Int), (out, ())) = fin (out ++ enc n) := by
  intro j
  induction j with
  | zero =>
    intro n out k h _ ho hk
    obtain ⟨k, rfl⟩ : ∃ k', k = k' + 1 := ⟨k - 1, by omega⟩
    show step _ _ = _
    rw [he _ _ _ (by omega) (by omega), enc_small (by omega)]
  | succ j ih =>
    intro n out k h hj ho hk
    obtain ⟨k, rfl⟩ : ∃ k', k = k' + 1 := ⟨k - 1, by omega⟩
    show step _ _ = _
    by_cases c : 127 < n
    · have hp : 128 ^ (j + 1 + 1) ≤ 128 ^ 8 := Nat.pow_le_pow_right (by omega) (by omega)
      rw [hs _ _ _ c (by omega) (by omega), enc_big c]
      have := ih (n / 128) (out ++ [((n % 128 + 128 : Nat) : Int)]) k (by rw [Nat.pow_succ] at h; exact Nat.div_lt_of_lt_mul (by omega)) (by omega) (by simp; omega) (by omega)
      rw [this]
      simp
    · rw [he _ _ _ c (by omega), enc_small c]
theorem var_step (n : Nat) (h : n < 128 ^ 8) (c : 127 < n) : wi64 (Int.tdiv (n : Int) 128) = ((n / 128 : Nat) : Int) ∧ wu8 (wi64 (Int.tmod (n : Int) 128 + 128)) = ((n % 128 + 128 : Nat) : Int) := by
  have h8 : (128 : Nat) ^ 8 = 72057594037927936 := by decide
  rw [tdiv_pos _ _ (by omega), tmod_pos _ _ (by omega)]
  constructor
  · rw [show wi64 ((n : Int) / 128) = (n : Int) / 128 from w64_id _ (by omega)]; omega
  · rw [show wi64 ((n : Int) % 128 + 128) = (n : Int) % 128 + 128 from w64_id _ (by omega), w8_id _ (by omega)]; omega
theorem l01Var_is (k n : Nat) (hn : n < 128 ^ 8) (hk : 1048576 < k) : s_l01Var k ((n : Int), ()) = some (strOf (enc n), ((), ())) := by
  unfold s_l01Var
  have := var_loop (fun l => (some (strOf l, ((), ())) : Option (ByteArray × Unit × Unit))) (step := fun (rec0 : (Int × List (Int) × Unit) → Option (ByteArray × Unit × Unit)) (y0 : Int × List (Int) × Unit) =>
(if (decide ((127 : Int) < y0.1)) = true then
(if List.length y0.2.1 + List.length ([(wu8 ((wi64 ((Int.tmod y0.1 (128 : Int)) + (128 : Int)))))] : List (Int)) ≤ capMax then
(rec0 ((wi64 (Int.tdiv y0.1 (128 : Int))), ((y0.2.1 ++ ([(wu8 ((wi64 ((Int.tmod y0.1 (128 : Int)) + (128 : Int)))))] : List (Int))), ())))
else none)
else
((fun (z1 : Int × List (Int) × Unit) =>
(if List.length z1.2.1 + List.length ([(wu8 (z1.1))] : List (Int)) ≤ capMax then
some ((strOf (z1.2.1 ++ ([(wu8 (z1.1))] : List (Int)))), ((), ()))
else none)) (y0.1, (y0.2.1, ()))))) ?_ ?_ 7 n [] k hn (by omega) (by simp) (by omega)
  · exact this
  · intro again n out c h ho
    obtain ⟨e1, e2⟩ := var_step n h c
    have g : (127 : Int) < (n : Int) := by omega
    simp only [g, e1, e2, decide_true, if_true]
    rw [if_pos (cap_ok _ _ (by simp; omega))]
  · intro again n out c ho
    have g : ¬ (127 : Int) < (n : Int) := by omega
    have e : wu8 (n : Int) = (n : Int) := w8_id _ (by omega)
    simp only [g, e, decide_false, Bool.false_eq_true, if_false]
    rw [if_pos (cap_ok _ _ (by simp; omega))]
/-- A number out of bytes: its value, and how many bytes it took. -/
def decL : Nat → List Int → Option (Nat × Nat)
  | 0, _ => none
  | _ + 1, [] => none
  | f + 1, c :: r => if 127 < c then (decL f r).map fun p => ((c % 128).toNat + 128 * p.1, p.2 + 1) else some (c.toNat, 1)
theorem decL_len : ∀ {f : Nat} {l : List Int} {v m : Nat}, decL f l = some (v, m) → 1 ≤ m ∧ m ≤ f ∧ m ≤ l.length
  | 0, _, _, _, h => by simp [decL] at h
  | _ + 1, [], _, _, h => by simp [decL] at h
  | f + 1, c :: r, v, m, h => by
    unfold decL at h
    split at h
    · cases hd : decL f r with
      | none => rw [hd] at h; cases h
      | some p =>
        obtain ⟨v', m'⟩ := p
        rw [hd] at h
        cases h
        have := decL_len hd
        simp only [List.length_cons]
        omega
    · cases h
      simp
theorem decL_last {f : Nat} {l : List Int} {m : Nat} (hB : isB l) (h : decL f l = some (0, m)) : l[m - 1]? = some 0 := by
  induction f generalizing l m with
  | zero => simp [decL] at h
  | succ f ih =>
    cases l with
    | nil => simp [decL] at h
    | cons c r =>
      have hb := isB_cons.1 hB
      unfold decL at h
      split at h
      · cases hd : decL f r with
        | none => rw [hd] at h; cases h
        | some p =>
          obtain ⟨v', m'⟩ := p
          rw [hd] at h
          simp only [Option.map_some, Option.some.injEq, Prod.mk.injEq] at h
          have hl := decL_len hd
          have hv : v' = 0 := by omega
          subst hv
          have := ih hb.2 hd
          obtain ⟨m'', rfl⟩ : ∃ q, m' = q + 1 := ⟨m' - 1, by omega⟩
          have hm : m = m'' + 1 + 1 := by omega
          subst hm
          simpa using this
      · simp only [Option.some.injEq, Prod.mk.injEq] at h
        obtain ⟨h1, rfl⟩ := h
        simp
        omega
/-- The bytes are the number's own just where they are no longer form of it. -/
theorem enc_iff {f : Nat} {l : List Int} {v m : Nat} (hB : isB l) (h : decL f l = some (v, m)) : enc v = l.take m ↔ (m = 1 ∨ l[m - 1]? ≠ some 0) := by
  induction f generalizing l v m with
  | zero => simp [decL] at h
  | succ f ih =>
    cases l with
    | nil => simp [decL] at h
    | cons c r =>
      have hb := isB_cons.1 hB
      unfold decL at h
      split at h
      · rename_i hc
        cases hd : decL f r with
        | none => rw [hd] at h; cases h
        | some p =>
          obtain ⟨v', m'⟩ := p
          rw [hd] at h
          simp only [Option.map_some, Option.some.injEq, Prod.mk.injEq] at h
          obtain ⟨rfl, rfl⟩ := h
          have hl := decL_len hd
          obtain ⟨m'', rfl⟩ : ∃ q, m' = q + 1 := ⟨m' - 1, by omega⟩
          have ih' := ih hb.2 hd
          have e1 : (c :: r)[m'' + 1 + 1 - 1]? = r[m'' + 1 - 1]? := by simp
          rw [e1, List.take_succ_cons]
          by_cases hv : v' = 0
          · subst hv
            have h0 := decL_last hb.2 hd
            rw [h0]
            constructor
            · intro he
              rw [enc_small (by omega)] at he
              have := congrArg List.length he
              simp only [List.length_cons, List.length_take, List.length_nil] at this
              omega
            · rintro (h1 | h1)
              · omega
              · exact absurd rfl h1
          · rw [enc_big (by omega)]
            have q1 : (((c % 128).toNat + 128 * v') % 128 + 128 : Nat) = c.toNat := by omega
            have q2 : ((c % 128).toNat + 128 * v') / 128 = v' := by omega
            rw [q1, q2, show ((c.toNat : Nat) : Int) = c by omega]
            constructor
            · intro he
              have := ih'.1 (List.cons.inj he).2
              rcases this with h1 | h1
              · have h2 : m'' = 0 := by omega
                subst h2
                refine .inr fun h3 => hv ?_
                cases f with
                | zero => simp [decL] at hd
                | succ f =>
                  cases r with
                  | nil => simp [decL] at hd
                  | cons c' r' =>
                    unfold decL at hd
                    split at hd
                    · cases hd2 : decL f r' with
                      | none => rw [hd2] at hd; cases hd
                      | some p =>
                        rw [hd2] at hd
                        simp only [Option.map_some, Option.some.injEq, Prod.mk.injEq] at hd
                        have := decL_len hd2
                        omega
                    · simp only [Option.some.injEq, Prod.mk.injEq] at hd
                      simp at h3
                      omega
              · exact .inr h1
            · rintro (h1 | h1)
              · omega
              · rw [ih'.2 (.inr h1)]
      · simp only [Option.some.injEq, Prod.mk.injEq] at h
        obtain ⟨rfl, rfl⟩ := h
        rw [enc_small (by omega)]
        simp
        omega
/-- What is written is read back. -/
theorem decL_enc (f n : Nat) (r : List Int) (h : (enc n).length ≤ f) : decL f (enc n ++ r) = some (n, (enc n).length) := by
  induction f generalizing n with
  | zero => have := enc_pos n; omega
  | succ f ih =>
    by_cases c : 127 < n
    · rw [enc_big c, List.length_cons] at h
      rw [enc_big c, List.cons_append, decL, if_pos (by omega), ih (n / 128) (by omega)]
      simp only [Option.map_some, List.length_cons, Option.some.injEq, Prod.mk.injEq, and_true]
      omega
    · rw [enc_small c, List.singleton_append, decL, if_neg (by omega)]
      simp
abbrev RV : Type := Int × Int × Bool × Unit
def rvNo : RV := (0, (0, (false, ())))
/-- What ReadVar reads. -/
def rvL (s : ByteArray) (a : Nat) : RV :=
  match decL 5 ((bytesOf s).drop a) with
  | none => rvNo
  | some (v, m) => if v ≤ 1000000000 ∧ enc v = ((bytesOf s).drop a).take m then ((v : Int), (((a + m : Nat) : Int), (true, ()))) else rvNo
theorem drop_get {s : ByteArray} {n : Nat} (h : n < s.size) : (bytesOf s).drop n = bt s (n : Int) :: (bytesOf s).drop (n + 1) := by
  rw [bt_get s n h]
  exact List.drop_eq_getElem_cons _
theorem sv_loop {step : (ByteArray × Int × Int × Int × Int × Unit → Option (RV × Unit × Unit × Unit)) → ByteArray × Int × Int × Int × Int × Unit → Option (RV × Unit × Unit × Unit)} (s : ByteArray) (a : Nat)
    (h0 : ∀ again (n sc i : Int), ((s.size : Int) ≤ i ∨ (a : Int) + 5 ≤ i) → step again (s, ((a : Int), (n, (sc, (i, ()))))) = some (rvNo, ((), ((), ()))))
    (hs : ∀ again (i acc : Nat), a + i < s.size → i < 5 → acc < 128 ^ i → 128 ≤ bt s ((a + i : Nat) : Int) →
      step again (s, ((a : Int), ((acc : Int), ((((128 ^ i : Nat)) : Int), (((a + i : Nat) : Int), ()))))) = again (s, ((a : Int), (((acc + 128 ^ i * (bt s ((a + i : Nat) : Int) % 128).toNat : Nat) : Int), ((((128 ^ (i + 1) : Nat)) : Int), (((a + (i + 1) : Nat) : Int), ()))))))
    (he : ∀ again (i acc : Nat), a + i < s.size → i < 5 → acc < 128 ^ i → bt s ((a + i : Nat) : Int) < 128 →
      step again (s, ((a : Int), ((acc : Int), ((((128 ^ i : Nat)) : Int), (((a + i : Nat) : Int), ()))))) =
        some (if acc + 128 ^ i * (bt s ((a + i : Nat) : Int)).toNat ≤ 1000000000 ∧ enc (acc + 128 ^ i * (bt s ((a + i : Nat) : Int)).toNat) = ((bytesOf s).drop a).take (i + 1) then (((acc + 128 ^ i * (bt s ((a + i : Nat) : Int)).toNat : Nat) : Int), (((a + i + 1 : Nat) : Int), (true, ()))) else rvNo, ((), ((), ())))) :
    ∀ (f i acc k : Nat), i + f = 5 → acc < 128 ^ i → f < k → whileK step k (s, ((a : Int), ((acc : Int), ((((128 ^ i : Nat)) : Int), (((a + i : Nat) : Int), ()))))) =
      some (match decL f ((bytesOf s).drop (a + i)) with
        | none => rvNo
        | some (v, m) => if acc + 128 ^ i * v ≤ 1000000000 ∧ enc (acc + 128 ^ i * v) = ((bytesOf s).drop a).take (i + m) then (((acc + 128 ^ i * v : Nat) : Int), (((a + i + m : Nat) : Int), (true, ()))) else rvNo, ((), ((), ()))) := by
  intro f
  induction f with
  | zero =>
    intro i acc k hi hacc hk
    obtain ⟨k, rfl⟩ : ∃ k', k = k' + 1 := ⟨k - 1, by omega⟩
    show step _ _ = _
    rw [h0 _ _ _ _ (.inr (by omega))]
    rfl
  | succ f ih =>
    intro i acc k hi hacc hk
    obtain ⟨k, rfl⟩ : ∃ k', k = k' + 1 := ⟨k - 1, by omega⟩
    show step _ _ = _
    by_cases hlt : a + i < s.size
    · have hb := bt_ge s ((a + i : Nat) : Int)
      have hb' := bt_lt s ((a + i : Nat) : Int)
      rw [drop_get hlt, decL]
      by_cases hc : 128 ≤ bt s ((a + i : Nat) : Int)
      · have hp : acc + 128 ^ i * (bt s ((a + i : Nat) : Int) % 128).toNat < 128 ^ (i + 1) := by
          have h1 : (bt s ((a + i : Nat) : Int) % 128).toNat ≤ 127 := by omega
          have h2 := Nat.mul_le_mul_left (128 ^ i) h1
          rw [Nat.pow_succ]
          omega
        rw [hs _ _ _ hlt (by omega) hacc hc, ih (i + 1) _ k (by omega) hp (by omega), if_pos (show (127 : Int) < _ by omega)]
        cases hd : decL f ((bytesOf s).drop (a + (i + 1))) with
        | none => rfl
        | some p =>
          obtain ⟨v, m⟩ := p
          simp only [Option.map_some]
          have e : acc + 128 ^ i * (bt s ((a + i : Nat) : Int) % 128).toNat + 128 ^ (i + 1) * v = acc + 128 ^ i * ((bt s ((a + i : Nat) : Int) % 128).toNat + 128 * v) := by
            rw [Nat.pow_succ, Nat.mul_add, Nat.mul_assoc]; omega
          have e2 : i + 1 + m = i + (m + 1) := by omega
          have e3 : a + (i + 1) + m = a + i + (m + 1) := by omega
          rw [e, e2, e3]
      · rw [he _ _ _ hlt (by omega) hacc (by omega), if_neg (show ¬ (127 : Int) < _ by omega)]
    · rw [h0 _ _ _ _ (.inl (by omega)), List.drop_of_length_le (by rw [bytesOf_len]; omega)]
      rfl
theorem s_ReadVar_is (k : Nat) (s : ByteArray) (a : Nat) (ha : a ≤ s.size) (hs : s.size ≤ 4194304) (hk : 1048576 < k) : s_ReadVar k (s, ((a : Int), ())) = some (rvL s a, ((), ((), ()))) := by
  unfold s_ReadVar rvL
  have g : (0 : Int) ≤ (a : Int) ∧ (a : Int) ≤ (s.size : Int) := by omega
  have w5 : wi64 ((a : Int) + 5) = (a : Int) + 5 := w64_id _ (by omega)
  simp only [l01In_is, Option.bind_some, g, and_self, decide_true, Bool.not_true, Bool.false_eq_true, if_false]
  have := sv_loop (step := fun (rec0 : (ByteArray × Int × Int × Int × Int × Unit) → Option (RV × Unit × Unit × Unit)) (y0 : ByteArray × Int × Int × Int × Int × Unit) =>
(if (decide (y0.2.2.2.2.1 < (ByteArray.size y0.1 : Int))) = true then
(if (decide (y0.2.2.2.2.1 < (wi64 (y0.2.1 + (5 : Int))))) = true then
(if 0 ≤ y0.2.2.2.2.1 ∧ y0.2.2.2.2.1 < (ByteArray.size y0.1 : Int) then
(if 0 ≤ y0.2.2.2.2.1 ∧ y0.2.2.2.2.1 < (ByteArray.size y0.1 : Int) then
(if (decide ((bt y0.1 y0.2.2.2.2.1) < (128 : Int))) = true then
(if (decide ((1000000000 : Int) < (wi64 (y0.2.2.1 + (wi64 ((Int.tmod (wi64 ((bt y0.1 y0.2.2.2.2.1))) (128 : Int)) * y0.2.2.2.1)))))) = false then
((s_l01Var k ((wi64 (y0.2.2.1 + (wi64 ((Int.tmod (wi64 ((bt y0.1 y0.2.2.2.2.1))) (128 : Int)) * y0.2.2.2.1)))), ())).bind fun p2 =>
(if 0 ≤ (wi64 (y0.2.2.2.2.1 + (1 : Int))) ∧ (wi64 (y0.2.2.2.2.1 + (1 : Int))) ≤ (ByteArray.size y0.1 : Int) then
(if 0 ≤ y0.2.1 ∧ y0.2.1 ≤ (wi64 (y0.2.2.2.2.1 + (1 : Int))) then
(if (!decide (p2.1 = (ByteArray.extract y0.1 (Int.toNat y0.2.1) (Int.toNat (wi64 (y0.2.2.2.2.1 + (1 : Int))))))) = true then
some (((0 : Int), ((0 : Int), (false, ()))), ((), ((), ())))
else
some (((wi64 (y0.2.2.1 + (wi64 ((Int.tmod (wi64 ((bt y0.1 y0.2.2.2.2.1))) (128 : Int)) * y0.2.2.2.1)))), ((wi64 (y0.2.2.2.2.1 + (1 : Int))), (true, ()))), ((), ((), ()))))
else none)
else none))
else
some (((0 : Int), ((0 : Int), (false, ()))), ((), ((), ()))))
else
(rec0 (y0.1, (y0.2.1, ((wi64 (y0.2.2.1 + (wi64 ((Int.tmod (wi64 ((bt y0.1 y0.2.2.2.2.1))) (128 : Int)) * y0.2.2.2.1)))), ((wi64 (y0.2.2.2.1 * (128 : Int))), ((wi64 (y0.2.2.2.2.1 + (1 : Int))), ())))))))
else none)
else none)
else
((fun (z1 : Unit) =>
some (((0 : Int), ((0 : Int), (false, ()))), ((), ((), ())))) ()))
else
((fun (z1 : Unit) =>
some (((0 : Int), ((0 : Int), (false, ()))), ((), ((), ())))) ()))) s a ?_ ?_ ?_ 5 0 0 k (by omega) (by simp) (by omega)
  · simp only [Nat.pow_zero, Nat.add_zero, Nat.one_mul, Nat.zero_add] at this
    exact this
  · intro again n sc i h
    rcases h with h | h
    · have q : ¬ i < (s.size : Int) := by omega
      simp only [q, decide_false, Bool.false_eq_true, if_false, rvNo]
    · have q : ¬ i < (a : Int) + 5 := by omega
      simp only [w5, q, decide_false, Bool.false_eq_true, if_false, rvNo]
      split <;> rfl
  · intro again i acc h1 h2 h3 h4
    have hb := bt_ge s ((a + i : Nat) : Int)
    have hb' := bt_lt s ((a + i : Nat) : Int)
    have hp : (128 : Nat) ^ i ≤ 128 ^ 4 := Nat.pow_le_pow_right (by omega) (by omega)
    have hp4 : (128 : Nat) ^ 4 = 268435456 := by decide
    have c1 : ((a + i : Nat) : Int) < (s.size : Int) := by omega
    have c2 : ((a + i : Nat) : Int) < (a : Int) + 5 := by omega
    have c3 : (0 : Int) ≤ ((a + i : Nat) : Int) := by omega
    have c4 : ¬ bt s ((a + i : Nat) : Int) < 128 := by omega
    have w1 : wi64 (bt s ((a + i : Nat) : Int)) = bt s ((a + i : Nat) : Int) := w64_id _ (by omega)
    have m1 : bt s ((a + i : Nat) : Int) % 128 * ((128 ^ i : Nat) : Int) = ((128 ^ i * (bt s ((a + i : Nat) : Int) % 128).toNat : Nat) : Int) := by
      rw [Int.natCast_mul, Int.mul_comm]; congr 1; omega
    have m2 : 128 ^ i * (bt s ((a + i : Nat) : Int) % 128).toNat ≤ 268435456 * 127 := Nat.mul_le_mul (by omega) (by omega)
    have w2 : wi64 (bt s ((a + i : Nat) : Int) % 128 * ((128 ^ i : Nat) : Int)) = ((128 ^ i * (bt s ((a + i : Nat) : Int) % 128).toNat : Nat) : Int) := by rw [m1]; exact w64_id _ (by omega)
    have w3 : wi64 ((acc : Int) + ((128 ^ i * (bt s ((a + i : Nat) : Int) % 128).toNat : Nat) : Int)) = ((acc + 128 ^ i * (bt s ((a + i : Nat) : Int) % 128).toNat : Nat) : Int) := (w64_id _ (by omega)).trans (by omega)
    have w4 : wi64 (((128 ^ i : Nat) : Int) * 128) = ((128 ^ (i + 1) : Nat) : Int) := (w64_id _ (by omega)).trans (by rw [Nat.pow_succ]; omega)
    have w6 : wi64 (((a + i : Nat) : Int) + 1) = ((a + (i + 1) : Nat) : Int) := (w64_id _ (by omega)).trans (by omega)
    simp only [c1, w5, c2, c3, c4, w1, tmod_pos _ _ hb, w2, w3, w4, w6, and_self, decide_true, decide_false, Bool.false_eq_true, if_true, if_false]
  · intro again i acc h1 h2 h3 h4
    have hb := bt_ge s ((a + i : Nat) : Int)
    have hp : (128 : Nat) ^ i ≤ 128 ^ 4 := Nat.pow_le_pow_right (by omega) (by omega)
    have hp4 : (128 : Nat) ^ 4 = 268435456 := by decide
    have c1 : ((a + i : Nat) : Int) < (s.size : Int) := by omega
    have c2 : ((a + i : Nat) : Int) < (a : Int) + 5 := by omega
    have c3 : (0 : Int) ≤ ((a + i : Nat) : Int) := by omega
    have w1 : wi64 (bt s ((a + i : Nat) : Int)) = bt s ((a + i : Nat) : Int) := w64_id _ (by omega)
    have m0 : bt s ((a + i : Nat) : Int) % 128 = bt s ((a + i : Nat) : Int) := by omega
    have m1 : bt s ((a + i : Nat) : Int) * ((128 ^ i : Nat) : Int) = ((128 ^ i * (bt s ((a + i : Nat) : Int)).toNat : Nat) : Int) := by
      rw [Int.natCast_mul, Int.mul_comm]; congr 1; omega
    have m2 : 128 ^ i * (bt s ((a + i : Nat) : Int)).toNat ≤ 268435456 * 127 := Nat.mul_le_mul (by omega) (by omega)
    have w2 : wi64 (bt s ((a + i : Nat) : Int) * ((128 ^ i : Nat) : Int)) = ((128 ^ i * (bt s ((a + i : Nat) : Int)).toNat : Nat) : Int) := by rw [m1]; exact w64_id _ (by omega)
    have w3 : wi64 ((acc : Int) + ((128 ^ i * (bt s ((a + i : Nat) : Int)).toNat : Nat) : Int)) = ((acc + 128 ^ i * (bt s ((a + i : Nat) : Int)).toNat : Nat) : Int) := (w64_id _ (by omega)).trans (by omega)
    have w6 : wi64 (((a + i : Nat) : Int) + 1) = ((a + i + 1 : Nat) : Int) := (w64_id _ (by omega)).trans (by omega)
    have c5 : (0 : Int) ≤ ((a + i + 1 : Nat) : Int) ∧ ((a + i + 1 : Nat) : Int) ≤ (s.size : Int) := by omega
    have c6 : (0 : Int) ≤ (a : Int) ∧ (a : Int) ≤ ((a + i + 1 : Nat) : Int) := by omega
    simp only [c1, w5, c2, c3, h4, w1, tmod_pos _ _ hb, m0, w2, w3, w6, and_self, decide_true, if_true]
    generalize hN : acc + 128 ^ i * (bt s ((a + i : Nat) : Int)).toNat = N
    have hN8 : N < 128 ^ 8 := by have : (128 : Nat) ^ 8 = 72057594037927936 := by decide
                                 omega
    by_cases hm : N ≤ 1000000000
    · have hm' : ¬ (1000000000 : Int) < (N : Int) := by omega
      simp only [hm', hm, l01Var_is k N hN8 hk, c5, c6, and_self, true_and, decide_false, if_true, Option.bind_some]
      have ex : bytesOf (s.extract (Int.toNat (a : Int)) (Int.toNat ((a + i + 1 : Nat) : Int))) = ((bytesOf s).drop a).take (i + 1) := by
        rw [bytesOf_extract, Int.toNat_natCast, Int.toNat_natCast, List.drop_take]
        congr 1
        omega
      by_cases q : enc N = ((bytesOf s).drop a).take (i + 1)
      · have : strOf (enc N) = s.extract (Int.toNat (a : Int)) (Int.toNat ((a + i + 1 : Nat) : Int)) := (strOf_eq_iff (enc_isB N)).2 (ex.trans q.symm)
        simp only [this, decide_true, Bool.not_true, Bool.false_eq_true, if_false]
        rw [if_pos q]
      · have : ¬ strOf (enc N) = s.extract (Int.toNat (a : Int)) (Int.toNat ((a + i + 1 : Nat) : Int)) := fun e => q (((strOf_eq_iff (enc_isB N)).1 e).symm.trans ex)
        simp only [q, this, decide_false, Bool.not_false, if_true, if_false, rvNo]
    · have hm' : (1000000000 : Int) < (N : Int) := by omega
      simp only [hm', hm, false_and, decide_true, Bool.true_eq_false, if_false, rvNo]
theorem iv_loop {step : (ByteArray × Int × Int × Int × Unit → Option (RV × Unit × Unit × Unit)) → ByteArray × Int × Int × Int × Unit → Option (RV × Unit × Unit × Unit)} (s : ByteArray) (a : Nat)
    (h0 : ∀ again (n : Int) (i : Nat), (s.size ≤ a + i ∨ 5 ≤ i) → i ≤ 5 → step again (s, ((a : Int), (n, ((i : Int), ())))) = some (rvNo, ((), ((), ()))))
    (hs : ∀ again (i acc : Nat), a + i < s.size → i < 5 → acc < 128 ^ i → 128 ≤ bt s ((a + i : Nat) : Int) →
      step again (s, ((a : Int), ((acc : Int), ((i : Int), ())))) = again (s, ((a : Int), (((acc + 128 ^ i * (bt s ((a + i : Nat) : Int) % 128).toNat : Nat) : Int), (((i + 1 : Nat) : Int), ())))))
    (he : ∀ again (i acc : Nat), a + i < s.size → i < 5 → acc < 128 ^ i → bt s ((a + i : Nat) : Int) < 128 →
      step again (s, ((a : Int), ((acc : Int), ((i : Int), ())))) =
        some (if acc + 128 ^ i * (bt s ((a + i : Nat) : Int)).toNat ≤ 1000000000 ∧ ¬ (0 < i ∧ bt s ((a + i : Nat) : Int) = 0) then (((acc + 128 ^ i * (bt s ((a + i : Nat) : Int)).toNat : Nat) : Int), (((a + i + 1 : Nat) : Int), (true, ()))) else rvNo, ((), ((), ())))) :
    ∀ (f i acc k : Nat), i + f = 5 → acc < 128 ^ i → f < k → whileK step k (s, ((a : Int), ((acc : Int), ((i : Int), ())))) =
      some (match decL f ((bytesOf s).drop (a + i)) with
        | none => rvNo
        | some (v, m) => if acc + 128 ^ i * v ≤ 1000000000 ∧ ¬ (0 < i + m - 1 ∧ ((bytesOf s).drop (a + i))[m - 1]? = some 0) then (((acc + 128 ^ i * v : Nat) : Int), (((a + i + m : Nat) : Int), (true, ()))) else rvNo, ((), ((), ()))) := by
  intro f
  induction f with
  | zero =>
    intro i acc k hi hacc hk
    obtain ⟨k, rfl⟩ : ∃ k', k = k' + 1 := ⟨k - 1, by omega⟩
    show step _ _ = _
    rw [h0 _ _ _ (.inr (by omega)) (by omega)]
    rfl
  | succ f ih =>
    intro i acc k hi hacc hk
    obtain ⟨k, rfl⟩ : ∃ k', k = k' + 1 := ⟨k - 1, by omega⟩
    show step _ _ = _
    by_cases hlt : a + i < s.size
    · have hb := bt_ge s ((a + i : Nat) : Int)
      have hb' := bt_lt s ((a + i : Nat) : Int)
      rw [drop_get hlt, decL]
      by_cases hc : 128 ≤ bt s ((a + i : Nat) : Int)
      · have hp : acc + 128 ^ i * (bt s ((a + i : Nat) : Int) % 128).toNat < 128 ^ (i + 1) := by
          have h1 : (bt s ((a + i : Nat) : Int) % 128).toNat ≤ 127 := by omega
          have h2 := Nat.mul_le_mul_left (128 ^ i) h1
          rw [Nat.pow_succ]
          omega
        rw [hs _ _ _ hlt (by omega) hacc hc, ih (i + 1) _ k (by omega) hp (by omega), if_pos (show (127 : Int) < _ by omega)]
        cases hd : decL f ((bytesOf s).drop (a + (i + 1))) with
        | none => rfl
        | some p =>
          obtain ⟨v, m⟩ := p
          have hl := decL_len hd
          obtain ⟨m', rfl⟩ : ∃ q, m = q + 1 := ⟨m - 1, by omega⟩
          simp only [Option.map_some]
          have e : acc + 128 ^ i * (bt s ((a + i : Nat) : Int) % 128).toNat + 128 ^ (i + 1) * v = acc + 128 ^ i * ((bt s ((a + i : Nat) : Int) % 128).toNat + 128 * v) := by
            rw [Nat.pow_succ, Nat.mul_add, Nat.mul_assoc]; omega
          have e2 : i + 1 + (m' + 1) - 1 = i + (m' + 1 + 1) - 1 := by omega
          have e3 : a + (i + 1) + (m' + 1) = a + i + (m' + 1 + 1) := by omega
          have e4 : (bt s ((a + i : Nat) : Int) :: (bytesOf s).drop (a + i + 1))[m' + 1 + 1 - 1]? = ((bytesOf s).drop (a + (i + 1)))[m' + 1 - 1]? := rfl
          rw [e, e2, e3, e4]
      · rw [he _ _ _ hlt (by omega) hacc (by omega), if_neg (show ¬ (127 : Int) < _ by omega)]
        simp only [Nat.add_sub_cancel, Nat.sub_self, List.getElem?_cons_zero, Option.some.injEq]
    · rw [h0 _ _ _ (.inl (by omega)) (by omega), List.drop_of_length_le (by rw [bytesOf_len]; omega)]
      rfl
theorem i_ReadVar_is (k : Nat) (s : ByteArray) (a : Nat) (ha : a ≤ s.size) (hs : s.size ≤ 4194304) (hk : 1048576 < k) : i_ReadVar k (s, ((a : Int), ())) = some (rvL s a, ((), ((), ()))) := by
  unfold i_ReadVar rvL
  have g : (0 : Int) ≤ (a : Int) ∧ (a : Int) ≤ (s.size : Int) := by omega
  simp only [within_is, Option.bind_some, g, and_self, decide_true, Bool.not_true, Bool.false_eq_true, if_false]
  refine (iv_loop s a ?_ ?_ ?_ 5 0 0 k (by omega) (by simp) (by omega)).trans ?_
  · intro again n i h hi
    have w1 : wi64 ((a : Int) + (i : Int)) = (a : Int) + (i : Int) := w64_id _ (by omega)
    rcases h with h | h
    · have q : ¬ (a : Int) + (i : Int) < (s.size : Int) := by omega
      simp only [w1, q, decide_false, Bool.false_eq_true, if_false, rvNo]
      split <;> rfl
    · have q : ¬ (i : Int) < 5 := by omega
      simp only [q, decide_false, Bool.false_eq_true, if_false, rvNo]
  · intro again i acc h1 h2 h3 h4
    have e0 : (a : Int) + (i : Int) = ((a + i : Nat) : Int) := by omega
    have hb := bt_ge s ((a + i : Nat) : Int)
    have hb' := bt_lt s ((a + i : Nat) : Int)
    have hp : (128 : Nat) ^ i ≤ 128 ^ 4 := Nat.pow_le_pow_right (by omega) (by omega)
    have hp4 : (128 : Nat) ^ 4 = 268435456 := by decide
    have wa : wi64 ((a : Int) + (i : Int)) = ((a + i : Nat) : Int) := (w64_id _ (by omega)).trans e0
    have w7 : wi64 (7 * (i : Int)) = ((7 * i : Nat) : Int) := (w64_id _ (by omega)).trans (by omega)
    have p7 : (2 : Int) ^ (min (Int.toNat ((7 * i : Nat) : Int)) (IntKind.bits .i64)) = ((128 ^ i : Nat) : Int) := by
      rw [show min (Int.toNat ((7 * i : Nat) : Int)) (IntKind.bits .i64) = 7 * i by simp only [Int.toNat_natCast]; show min (7 * i) 64 = _; omega]
      rw [Int.pow_mul]
      simp
    have c1 : ((a + i : Nat) : Int) < (s.size : Int) := by omega
    have c2 : (i : Int) < 5 := by omega
    have c3 : (0 : Int) ≤ ((a + i : Nat) : Int) := by omega
    have c4 : (127 : Int) < bt s ((a + i : Nat) : Int) := by omega
    have c7 : ¬ ((7 * i : Nat) : Int) < 0 := by omega
    have w1 : wi64 (bt s ((a + i : Nat) : Int)) = bt s ((a + i : Nat) : Int) := w64_id _ (by omega)
    have m1 : bt s ((a + i : Nat) : Int) % 128 * ((128 ^ i : Nat) : Int) = ((128 ^ i * (bt s ((a + i : Nat) : Int) % 128).toNat : Nat) : Int) := by
      rw [Int.natCast_mul, Int.mul_comm]; congr 1; omega
    have m2 : 128 ^ i * (bt s ((a + i : Nat) : Int) % 128).toNat ≤ 268435456 * 127 := Nat.mul_le_mul (by omega) (by omega)
    have w2 : wi64 (bt s ((a + i : Nat) : Int) % 128 * ((128 ^ i : Nat) : Int)) = ((128 ^ i * (bt s ((a + i : Nat) : Int) % 128).toNat : Nat) : Int) := by rw [m1]; exact w64_id _ (by omega)
    have w3 : wi64 ((acc : Int) + ((128 ^ i * (bt s ((a + i : Nat) : Int) % 128).toNat : Nat) : Int)) = ((acc + 128 ^ i * (bt s ((a + i : Nat) : Int) % 128).toNat : Nat) : Int) := (w64_id _ (by omega)).trans (by omega)
    have w6 : wi64 ((i : Int) + 1) = ((i + 1 : Nat) : Int) := (w64_id _ (by omega)).trans (by omega)
    simp only [c1, c2, c3, c4, c7, wa, w7, p7, w1, tmod_pos _ _ hb, w2, w3, w6, and_self, decide_true, if_true, if_false]
  · intro again i acc h1 h2 h3 h4
    have e0 : (a : Int) + (i : Int) = ((a + i : Nat) : Int) := by omega
    have hb := bt_ge s ((a + i : Nat) : Int)
    have hp : (128 : Nat) ^ i ≤ 128 ^ 4 := Nat.pow_le_pow_right (by omega) (by omega)
    have hp4 : (128 : Nat) ^ 4 = 268435456 := by decide
    have wa : wi64 ((a : Int) + (i : Int)) = ((a + i : Nat) : Int) := (w64_id _ (by omega)).trans e0
    have w7 : wi64 (7 * (i : Int)) = ((7 * i : Nat) : Int) := (w64_id _ (by omega)).trans (by omega)
    have p7 : (2 : Int) ^ (min (Int.toNat ((7 * i : Nat) : Int)) (IntKind.bits .i64)) = ((128 ^ i : Nat) : Int) := by
      rw [show min (Int.toNat ((7 * i : Nat) : Int)) (IntKind.bits .i64) = 7 * i by simp only [Int.toNat_natCast]; show min (7 * i) 64 = _; omega]
      rw [Int.pow_mul]
      simp
    have c1 : ((a + i : Nat) : Int) < (s.size : Int) := by omega
    have c2 : (i : Int) < 5 := by omega
    have c3 : (0 : Int) ≤ ((a + i : Nat) : Int) := by omega
    have c4 : ¬ (127 : Int) < bt s ((a + i : Nat) : Int) := by omega
    have c7 : ¬ ((7 * i : Nat) : Int) < 0 := by omega
    have w1 : wi64 (bt s ((a + i : Nat) : Int)) = bt s ((a + i : Nat) : Int) := w64_id _ (by omega)
    have m0 : bt s ((a + i : Nat) : Int) % 128 = bt s ((a + i : Nat) : Int) := by omega
    have m1 : bt s ((a + i : Nat) : Int) * ((128 ^ i : Nat) : Int) = ((128 ^ i * (bt s ((a + i : Nat) : Int)).toNat : Nat) : Int) := by
      rw [Int.natCast_mul, Int.mul_comm]; congr 1; omega
    have m2 : 128 ^ i * (bt s ((a + i : Nat) : Int)).toNat ≤ 268435456 * 127 := Nat.mul_le_mul (by omega) (by omega)
    have w2 : wi64 (bt s ((a + i : Nat) : Int) * ((128 ^ i : Nat) : Int)) = ((128 ^ i * (bt s ((a + i : Nat) : Int)).toNat : Nat) : Int) := by rw [m1]; exact w64_id _ (by omega)
    have w3 : wi64 ((acc : Int) + ((128 ^ i * (bt s ((a + i : Nat) : Int)).toNat : Nat) : Int)) = ((acc + 128 ^ i * (bt s ((a + i : Nat) : Int)).toNat : Nat) : Int) := (w64_id _ (by omega)).trans (by omega)
    have w6 : wi64 (((a + i : Nat) : Int) + 1) = ((a + i + 1 : Nat) : Int) := (w64_id _ (by omega)).trans (by omega)
    simp only [c1, c2, c3, c4, c7, wa, w7, p7, w1, tmod_pos _ _ hb, m0, w2, w3, w6, and_self, decide_true, decide_false, Bool.false_eq_true, if_true, if_false]
    generalize acc + 128 ^ i * (bt s ((a + i : Nat) : Int)).toNat = N
    have hi' : ((0 : Int) < (i : Int)) ↔ 0 < i := by omega
    have hm' : ((1000000000 : Int) < (N : Int)) ↔ ¬ N ≤ 1000000000 := by omega
    simp only [hi', hm']
    generalize bt s ((a + i : Nat) : Int) = c
    generalize ((a + i + 1 : Nat) : Int) = e
    by_cases hi : 0 < i <;> by_cases hz : c = 0 <;> by_cases hm : N ≤ 1000000000 <;> simp [hi, hz, hm, rvNo]
  · simp only [Nat.pow_zero, Nat.add_zero, Nat.one_mul, Nat.zero_add]
    cases hd : decL 5 ((bytesOf s).drop a) with
    | none => rfl
    | some p =>
      obtain ⟨v, m⟩ := p
      have hl := decL_len hd
      have hi := enc_iff (isB_drop (bytesOf_isB s) a) hd
      have : ¬ (0 < m - 1 ∧ ((bytesOf s).drop a)[m - 1]? = some 0) ↔ enc v = ((bytesOf s).drop a).take m := by
        rw [hi]
        constructor
        · intro h
          by_cases h1 : m = 1
          · exact .inl h1
          · exact .inr fun h2 => h ⟨by omega, h2⟩
        · rintro (h | h) ⟨h1, h2⟩
          · omega
          · exact h h2
      simp only [this]
def stepS (x : Int) : Int := if Int.tmod x 2 = 1 then bitsI .xor .u32 (wu32 (Int.tdiv x 2)) 3558460437 else wu32 (Int.tdiv x 2)
def step8 (x : Int) : Int := stepS (stepS (stepS (stepS (stepS (stepS (stepS (stepS x)))))))
def sumG (s : ByteArray) (i : Nat) (x : Int) : Int := step8 (bitsI .xor .u32 x (wu32 (bt s (i : Int))))
def sumL (x : Int) (s : ByteArray) : Int := iterN (sumG s) s.size 0 x
theorem u32_range (n : Int) : 0 ≤ IntKind.u32.wrap n ∧ IntKind.u32.wrap n < 4294967296 := by rw [IntKind.wrap_u32]; omega
theorem xor32_range (x y : Int) : 0 ≤ bitsI .xor .u32 x y ∧ bitsI .xor .u32 x y < 4294967296 := u32_range _
theorem stepS_range (x : Int) : 0 ≤ stepS x ∧ stepS x < 4294967296 := by
  unfold stepS
  split
  · exact xor32_range _ _
  · exact u32_range _
theorem step8_range (x : Int) : 0 ≤ step8 x ∧ step8 x < 4294967296 := stepS_range _
theorem sumL_range (x : Int) (s : ByteArray) (h : 0 ≤ x ∧ x < 4294967296) : 0 ≤ sumL x s ∧ sumL x s < 4294967296 :=
  iterN_inv (sumG s) (fun _ x => 0 ≤ x ∧ x < 4294967296) s.size (fun _ _ _ _ => step8_range _) s.size 0 x (by omega) h
theorem s_SumMore_is (k : Nat) (x : Int) (s : ByteArray) (hs : s.size ≤ 1048576) (hk : 1048576 < k) : s_SumMore k (x, (s, ())) = some (sumL x s, ((), ((), ()))) := by
  unfold s_SumMore sumL
  refine run_loop (A := Int) (fun i x => (x, (s, ((i : Int), ())))) s.size (sumG s) (fun x => some (x, ((), ((), ())))) (fun _ _ => True) ?_ ?_ s.size 0 x k (by omega) trivial (by omega)
  · intro again i x hi _
    have c1 : (i : Int) < (s.size : Int) := by omega
    have c2 : (0 : Int) ≤ (i : Int) := by omega
    have w1 : wi64 ((i : Int) + 1) = ((i + 1 : Nat) : Int) := (w64_id _ (by omega)).trans (by omega)
    simp only [c1, c2, and_self, decide_true, if_true]
    refine ⟨?_, trivial⟩
    refine (run_loop (A := Int) (fun j x => (x, (s, ((i : Int), ((j : Int), ()))))) 8 (fun _ x => stepS x) (fun x => again (x, (s, (((i + 1 : Nat) : Int), ())))) (fun _ _ => True) ?_ ?_ 8 0 _ k (by omega) trivial (by omega)).trans ?_
    · intro again j x hj _
      have c3 : (j : Int) < 8 := by omega
      have w2 : wi64 ((j : Int) + 1) = ((j + 1 : Nat) : Int) := (w64_id _ (by omega)).trans (by omega)
      unfold stepS
      by_cases q : Int.tmod x 2 = 1 <;> simp only [c3, w2, q, decide_true, decide_false, Bool.false_eq_true, if_true, if_false, and_true]
    · intro again x _
      simp [w1]
    · rfl
  · intro again x _
    simp
theorem i_SumMore_is (k : Nat) (x : Int) (s : ByteArray) (hs : s.size ≤ 1048576) (hk : 1048576 < k) : i_SumMore k (x, (s, ())) = some (sumL x s, ((), ((), ()))) := s_SumMore_is k x s hs hk
theorem s_SumOf_is (k : Nat) (s : ByteArray) (hs : s.size ≤ 1048576) (hk : 1048576 < k) : s_SumOf k (s, ()) = some (sumL 4294967295 s, ((), ())) := by
  unfold s_SumOf
  simp only [s_SumMore_is k _ s hs hk, Option.bind_some]
theorem i_SumOf_is (k : Nat) (s : ByteArray) (hs : s.size ≤ 1048576) (hk : 1048576 < k) : i_SumOf k (s, ()) = some (sumL 4294967295 s, ((), ())) := by
  unfold i_SumOf
  simp only [i_SumMore_is k _ s hs hk, Option.bind_some]
theorem l02Four_is (k : Nat) (n : Int) (h : 0 ≤ n ∧ n < 4294967296) : s_l02Four k (n, ()) = some (strOf (four n), ((), ())) := by
  unfold s_l02Four four
  have e24 : Int.fdiv n (2 ^ (min (Int.toNat (24 : Int)) (IntKind.bits .u32))) = n / 16777216 := by rw [Int.fdiv_eq_ediv_of_nonneg _ (by decide)]; rfl
  have e16 : Int.fdiv n (2 ^ (min (Int.toNat (16 : Int)) (IntKind.bits .u32))) = n / 65536 := by rw [Int.fdiv_eq_ediv_of_nonneg _ (by decide)]; rfl
  have e8 : Int.fdiv n (2 ^ (min (Int.toNat (8 : Int)) (IntKind.bits .u32))) = n / 256 := by rw [Int.fdiv_eq_ediv_of_nonneg _ (by decide)]; rfl
  simp only [e24, e16, e8, wu8, w8_mod]
theorem highFirst_is (k : Nat) (n : Int) (h : 0 ≤ n ∧ n < 4294967296) (hk : 1048576 < k) : i_highFirst k (n, (4, ())) = some (strOf (four n), ((), ((), ()))) := by
  unfold i_highFirst
  have hc : (capMax : Int) = 274877906944 := rfl
  have g : (0 : Int) ≤ 4 ∧ (4 : Int) ≤ (capMax : Int) := by omega
  have r4 : List.replicate (Int.toNat 4) (0 : Int) = [0, 0, 0, 0] := rfl
  have w3 : wi64 ((4 : Int) - 1) = 3 := rfl
  obtain ⟨k, rfl⟩ : ∃ k', k = k' + 5 := ⟨k - 5, by omega⟩
  have e8 : ∀ m : Int, Int.fdiv m (2 ^ (min (Int.toNat (8 : Int)) (IntKind.bits .i64))) = m / 256 := fun m => by rw [Int.fdiv_eq_ediv_of_nonneg _ (by decide)]; rfl
  have a8 : ∀ m : Int, 0 ≤ m → m < 4294967296 → wu8 (bitsI .and .i64 m 255) = m % 256 := fun m h0 h1 => by
    have := and_mask 8 (by omega) m h0 (by omega)
    rw [show ((2 : Int) ^ 8 - 1) = 255 by decide, show ((2 : Int) ^ 8) = 256 by decide] at this
    rw [this, w8_id _ (by omega)]
  simp only [g, r4, w3, and_self, if_true]
  have d3 : wi64 ((3 : Int) - 1) = 2 := rfl
  have d2 : wi64 ((2 : Int) - 1) = 1 := rfl
  have d1 : wi64 ((1 : Int) - 1) = 0 := rfl
  have d0 : wi64 ((0 : Int) - 1) = -1 := rfl
  simp only [whileK, e8, d3, d2, d1, d0]
  rw [a8 n (by omega) (by omega), a8 (n / 256) (by omega) (by omega), a8 (n / 256 / 256) (by omega) (by omega), a8 (n / 256 / 256 / 256) (by omega) (by omega)]
  have t3 : Int.toNat 3 = 3 := rfl
  have t2 : Int.toNat 2 = 2 := rfl
  have t1 : Int.toNat 1 = 1 := rfl
  have t0 : Int.toNat 0 = 0 := rfl
  simp [t3, t2, t1, t0, four]
  congr 1
  simp only [List.cons.injEq, and_true]
  omega
abbrev Pk : Type := Int × Int × Int × Int × Int × List Int × ByteArray × Unit
theorem fourS_size (n : Int) : (strOf (four n)).size = 4 := by rw [strOf_len]; rfl
theorem s_Sealed_is (k : Nat) (s : ByteArray) (hs : s.size ≤ 1048576) (hk : 1048576 < k) : s_Sealed k (s, ()) = some (if s.size ≤ 20000 then (s ++ strOf (four (sumL 4294967295 s)), (true, ())) else ((⟨#[]⟩ : ByteArray), (false, ())), ((), ())) := by
  have hr := sumL_range 4294967295 s (by omega)
  unfold s_Sealed
  by_cases q : s.size ≤ 20000
  · have q' : ¬ (20000 : Int) < (s.size : Int) := by omega
    simp only [q, q', s_SumOf_is k s hs hk, l02Four_is k _ hr, decide_false, Bool.false_eq_true, if_true, if_false, Option.bind_some]
    rw [if_pos (max_ok _ _ (by rw [fourS_size]; omega))]
  · have q' : (20000 : Int) < (s.size : Int) := by omega
    simp only [q, q', decide_true, if_true, if_false]
theorem i_Sealed_is (k : Nat) (s : ByteArray) (hs : s.size ≤ 1048576) (hk : 1048576 < k) : i_Sealed k (s, ()) = some (if s.size ≤ 20000 then (s ++ strOf (four (sumL 4294967295 s)), (true, ())) else ((⟨#[]⟩ : ByteArray), (false, ())), ((), ())) := by
  have hr := sumL_range 4294967295 s (by omega)
  have w : wi64 (sumL 4294967295 s) = sumL 4294967295 s := w64_id _ (by omega)
  unfold i_Sealed
  by_cases q : s.size ≤ 20000
  · have q' : ¬ (20000 : Int) < (s.size : Int) := by omega
    simp only [q, q', i_SumOf_is k s hs hk, w, highFirst_is k _ hr hk, decide_false, Bool.false_eq_true, if_true, if_false, Option.bind_some]
    rw [if_pos (max_ok _ _ (by rw [fourS_size]; omega))]
  · have q' : (20000 : Int) < (s.size : Int) := by omega
    simp only [q, q', decide_true, if_true, if_false]
theorem ext_join (s : ByteArray) (n : Nat) (h : n ≤ s.size) : s.extract 0 n ++ s.extract n s.size = s := by
  apply bytesOf_inj
  rw [bytesOf_append, bytesOf_extract, bytesOf_extract, List.drop_zero]
  have : (bytesOf s).take s.size = bytesOf s := List.take_of_length_le (by rw [bytesOf_len]; exact Nat.le_refl _)
  rw [this, List.take_append_drop]
theorem ext_size (s : ByteArray) (a b : Nat) (h : a ≤ b) (hb : b ≤ s.size) : (s.extract a b).size = b - a := by
  rw [← bytesOf_len, bytesOf_extract, List.length_drop, List.length_take, bytesOf_len]
  omega
theorem app_inj (s t u v : ByteArray) (h : s ++ t = u ++ v) (hl : s.size = u.size) : s = u ∧ t = v := by
  have := congrArg bytesOf h
  rw [bytesOf_append, bytesOf_append] at this
  obtain ⟨h1, h2⟩ := List.append_inj this (by rw [bytesOf_len, bytesOf_len, hl])
  exact ⟨bytesOf_inj h1, bytesOf_inj h2⟩
/-- A sealed text is taken apart. -/
def unS (s : ByteArray) : ByteArray × Bool × Unit :=
  if 4 ≤ s.size ∧ s.size ≤ 20004 ∧ s.extract (s.size - 4) s.size = strOf (four (sumL 4294967295 (s.extract 0 (s.size - 4)))) then (s.extract 0 (s.size - 4), (true, ())) else ((⟨#[]⟩ : ByteArray), (false, ()))
theorem s_Unsealed_is (k : Nat) (s : ByteArray) (hs : s.size ≤ 1048576) (hk : 1048576 < k) : s_Unsealed k (s, ()) = some (unS s, ((), ())) := by
  unfold s_Unsealed unS
  have w : wi64 ((s.size : Int) - 4) = (s.size : Int) - 4 := w64_id _ (by omega)
  simp only [w]
  by_cases c1 : 4 ≤ s.size
  · have c1' : ¬ (s.size : Int) - 4 < 0 := by omega
    by_cases c2 : s.size ≤ 20004
    · have c2' : ¬ (20000 : Int) < (s.size : Int) - 4 := by omega
      have c3 : (0 : Int) ≤ (s.size : Int) - 4 ∧ (s.size : Int) - 4 ≤ (s.size : Int) := by omega
      have t : ((s.size : Int) - 4).toNat = s.size - 4 := by omega
      have hx : (s.extract 0 (s.size - 4)).size ≤ 1048576 := by rw [ext_size _ _ _ (by omega) (by omega)]; omega
      have hr := sumL_range 4294967295 (s.extract 0 (s.size - 4)) (by omega)
      simp only [c1, c1', c2, c2', c3, t, Int.toNat_natCast, Int.toNat_zero, s_SumOf_is k _ hx hk, l02Four_is k _ hr, and_self, true_and, decide_false, if_true, Option.bind_some]
      by_cases q : s.extract (s.size - 4) s.size = strOf (four (sumL 4294967295 (s.extract 0 (s.size - 4))))
      · simp only [q, decide_true, Bool.not_true, Bool.false_eq_true, if_true, if_false]
      · simp only [q, decide_false, Bool.not_false, if_true, if_false]
    · have c2' : (20000 : Int) < (s.size : Int) - 4 := by omega
      simp only [c1', c2, c2', decide_true, decide_false, Bool.true_eq_false, false_and, and_false, if_true, if_false]
  · have c1' : (s.size : Int) - 4 < 0 := by omega
    simp only [c1, c1', decide_true, Bool.true_eq_false, false_and, if_false]
theorem i_Unsealed_is (k : Nat) (s : ByteArray) (hs : s.size ≤ 1048576) (hk : 1048576 < k) : i_Unsealed k (s, ()) = some (unS s, ((), ())) := by
  unfold i_Unsealed unS
  have w : wi64 ((s.size : Int) - 4) = (s.size : Int) - 4 := w64_id _ (by omega)
  simp only [w]
  by_cases c1 : 4 ≤ s.size
  · have c1' : ¬ (s.size : Int) - 4 < 0 := by omega
    have c3 : (0 : Int) ≤ (s.size : Int) - 4 ∧ (s.size : Int) - 4 ≤ (s.size : Int) := by omega
    have t : ((s.size : Int) - 4).toNat = s.size - 4 := by omega
    have hxs : (s.extract 0 (s.size - 4)).size = s.size - 4 := by rw [ext_size _ _ _ (by omega) (by omega)]; omega
    have hx : (s.extract 0 (s.size - 4)).size ≤ 1048576 := by omega
    simp only [c1, c1', c3, t, Int.toNat_zero, i_Sealed_is k _ hx hk, and_self, true_and, decide_false, Bool.false_eq_true, if_true, if_false, Option.bind_some, hxs]
    by_cases c2 : s.size ≤ 20004
    · have c2' : s.size - 4 ≤ 20000 := by omega
      have e : s.extract 0 (s.size - 4) ++ strOf (four (sumL 4294967295 (s.extract 0 (s.size - 4)))) = s ↔ s.extract (s.size - 4) s.size = strOf (four (sumL 4294967295 (s.extract 0 (s.size - 4)))) := by
        constructor
        · intro h
          have h2 := ext_join s (s.size - 4) (by omega)
          exact ((app_inj _ _ _ _ (h2.trans h.symm) rfl).2)
        · intro h
          rw [← h]
          exact ext_join s (s.size - 4) (by omega)
      by_cases q : s.extract (s.size - 4) s.size = strOf (four (sumL 4294967295 (s.extract 0 (s.size - 4))))
      · have q' := e.2 q
        simp only [c2, c2', q', decide_true, Bool.not_true, Bool.false_eq_true, if_true, if_false, true_and]
        rw [if_pos q]
      · have q' : ¬ _ := fun h => q (e.1 h)
        simp only [c2, c2', q', decide_false, Bool.not_false, Bool.not_true, Bool.false_eq_true, if_true, if_false, true_and]
        rw [if_neg q]
    · have c2' : ¬ s.size - 4 ≤ 20000 := by omega
      simp only [c2, c2', Bool.not_false, Bool.true_eq_false, if_false, false_and]
  · have c1' : (s.size : Int) - 4 < 0 := by omega
    simp only [c1, c1', decide_true, false_and, if_true, if_false]
/-- Is a packet right? -/
def pkB (p : Pk) : Bool := decide (1 ≤ p.1 ∧ p.1 ≤ 3) && (decide (0 ≤ p.2.1 ∧ p.2.1 ≤ 7) && (decide (1 ≤ p.2.2.1 ∧ p.2.2.1 ≤ 99) && (decide (1 ≤ p.2.2.2.1 ∧ p.2.2.2.1 ≤ 99) && (decide (0 ≤ p.2.2.2.2.1 ∧ p.2.2.2.2.1 ≤ 1000000000) && (decide (p.2.2.2.2.2.1.length ≤ 4) && (decide (p.2.2.2.2.2.2.1.size ≤ 120) && (p.2.2.2.2.2.1.all (fun n => decide (1 ≤ n ∧ n ≤ 1000000000)) && ((decide (p.2.2.2.2.2.1 = []) || decide (p.1 ≠ 3)) && ((decide (p.1 ≠ 2) || (decide (p.2.2.2.2.2.2.1 = (⟨#[]⟩ : ByteArray)) && decide (p.2.2.2.2.1 = 0))))))))))))
theorem s_PacketOk_is (k : Nat) (p : Pk) (hk : 1048576 < k) : s_PacketOk k (p, ()) = some (pkB p, ((), ())) := by
  obtain ⟨op, key, fr, dst, num, acks, body, u⟩ := p
  unfold s_PacketOk pkB
  simp only [l01In_is, Option.bind_some]
  by_cases c1 : 1 ≤ op ∧ op ≤ 3
  · by_cases c2 : 0 ≤ key ∧ key ≤ 7
    · by_cases c3 : 1 ≤ fr ∧ fr ≤ 99
      · by_cases c4 : 1 ≤ dst ∧ dst ≤ 99
        · by_cases c5 : 0 ≤ num ∧ num ≤ 1000000000
          · by_cases c6 : acks.length ≤ 4
            · have c6' : ¬ (4 : Int) < (acks.length : Int) := by omega
              by_cases c7 : body.size ≤ 120
              · have c7' : ¬ (120 : Int) < (body.size : Int) := by omega
                simp only [c1, c2, c3, c4, c5, c6, c6', c7, c7', and_self, decide_true, decide_false, Bool.not_true, Bool.false_eq_true, if_true, if_false, Bool.true_and]
                refine (all_loop (fun i => ((op, (key, (fr, (dst, (num, (acks, (body, ()))))))), ((i : Int), ()))) acks.length (fun i => decide (1 ≤ Ty.rd (t := .int .i64) acks (i : Int) ∧ Ty.rd (t := .int .i64) acks (i : Int) ≤ 1000000000) && decide (op ≠ 3)) (some (false, ((), ())))
                  (some (decide (op ≠ 2) || (decide (body = (⟨#[]⟩ : ByteArray)) && decide (num = 0)), ((), ()))) ?_ ?_ k (by omega)).trans ?_
                · intro again i hi
                  have g1 : (i : Int) < (acks.length : Int) := by omega
                  have g2 : (0 : Int) ≤ (i : Int) := by omega
                  have w : wi64 ((i : Int) + 1) = ((i + 1 : Nat) : Int) := (w64_id _ (by omega)).trans (by omega)
                  simp only [g1, g2, w, and_self, decide_true, if_true]
                  by_cases q1 : 1 ≤ Ty.rd (t := .int .i64) acks (i : Int) ∧ Ty.rd (t := .int .i64) acks (i : Int) ≤ 1000000000 <;> by_cases q2 : op = 3 <;> simp [q1, q2]
                · intro again
                  by_cases q1 : op = 2 <;> by_cases q2 : body = (⟨#[]⟩ : ByteArray) <;> simp [q1, q2]
                · have ha : (List.range acks.length).all (fun i => decide (1 ≤ Ty.rd (t := .int .i64) acks (i : Int) ∧ Ty.rd (t := .int .i64) acks (i : Int) ≤ 1000000000) && decide (op ≠ 3)) = (acks.all (fun n => decide (1 ≤ n ∧ n ≤ 1000000000)) && (decide (acks = []) || decide (op ≠ 3))) := by
                    rw [all_rd (t := .int .i64) acks (fun n => decide (1 ≤ n ∧ n ≤ 1000000000) && decide (op ≠ 3))]
                    by_cases q2 : op = 3
                    · cases acks <;> simp [q2]
                    · simp [q2]
                  rw [ha]
                  cases acks.all (fun n => decide (1 ≤ n ∧ n ≤ 1000000000)) <;> cases (decide (acks = []) || decide (op ≠ 3)) <;> simp
              · have c7' : (120 : Int) < (body.size : Int) := by omega
                simp [c1, c2, c3, c4, c5, c6, c6', c7, c7']
            · have c6' : (4 : Int) < (acks.length : Int) := by omega
              simp [c1, c2, c3, c4, c5, c6, c6']
          · simp [c1, c2, c3, c4, c5]
        · simp [c1, c2, c3, c4]
      · simp [c1, c2, c3]
    · simp [c1, c2]
  · simp [c1]
theorem isId_is (k : Nat) (n : Int) : i_isId k (n, ()) = some (decide (1 ≤ n ∧ n ≤ 99), ((), ())) := by
  unfold i_isId
  simp only [within_is, Option.bind_some]
def pkT (op key fr dst num : Int) (acks : List Int) (body : ByteArray) : Bool := decide (1 ≤ op ∧ op ≤ 3) && (decide (0 ≤ key ∧ key ≤ 7) && (decide (1 ≤ fr ∧ fr ≤ 99) && (decide (1 ≤ dst ∧ dst ≤ 99) && (decide (0 ≤ num ∧ num ≤ 1000000000) && ((decide (acks = []) || (decide (op ≠ 3) && decide (acks.length ≤ 4))) && (decide (body.size ≤ 120) && ((decide (op ≠ 2) || (decide (body = (⟨#[]⟩ : ByteArray)) && decide (num = 0))))))))))
theorem i_PacketOk_is (k : Nat) (p : Pk) (hl : p.2.2.2.2.2.1.length ≤ 1048576) (hk : 1048576 < k) : i_PacketOk k (p, ()) = some (pkB p, ((), ())) := by
  obtain ⟨op, key, fr, dst, num, acks, body, u⟩ := p
  simp only at hl
  unfold i_PacketOk
  refine (all_loop (fun i => ((op, (key, (fr, (dst, (num, (acks, (body, ()))))))), (acks, ((acks.length : Int), ((i : Int), ()))))) acks.length (fun i => decide (1 ≤ Ty.rd (t := .int .i64) acks (i : Int) ∧ Ty.rd (t := .int .i64) acks (i : Int) ≤ 1000000000)) (some (false, ((), ())))
    (some (pkT op key fr dst num acks body, ((), ()))) ?_ ?_ k (by omega)).trans ?_
  · intro again i hi
    have g1 : (i : Int) < (acks.length : Int) := by omega
    have g2 : (0 : Int) ≤ (i : Int) := by omega
    have w : wi64 ((i : Int) + 1) = ((i + 1 : Nat) : Int) := (w64_id _ (by omega)).trans (by omega)
    simp only [g1, g2, w, within_is, and_self, decide_true, if_true, Option.bind_some]
    by_cases q1 : 1 ≤ Ty.rd (t := .int .i64) acks (i : Int) ∧ Ty.rd (t := .int .i64) acks (i : Int) ≤ 1000000000 <;> simp [q1]
  · intro again
    have hne : (decide ((acks.length : Int) = 0)) = decide (acks = []) := by cases acks <;> simp; omega
    have h4 : (decide ((acks.length : Int) ≤ 4)) = decide (acks.length ≤ 4) := by congr 1; exact propext (by omega)
    have h7 : (decide ((body.size : Int) ≤ 120)) = decide (body.size ≤ 120) := by congr 1; exact propext (by omega)
    have hz : (⟨#[]⟩ : ByteArray).size = 0 := rfl
    unfold pkT
    simp only [Int.lt_irrefl, decide_false, Bool.false_eq_true, if_false, within_is, isId_is, Option.bind_some, hne, h4, h7]
    by_cases c1 : 1 ≤ op ∧ op ≤ 3
    · by_cases c2 : 0 ≤ key ∧ key ≤ 7
      · by_cases c3 : 1 ≤ fr ∧ fr ≤ 99
        · by_cases c4 : 1 ≤ dst ∧ dst ≤ 99
          · by_cases c5 : 0 ≤ num ∧ num ≤ 1000000000
            · by_cases c6 : acks = [] <;> by_cases c7 : body.size ≤ 120 <;> by_cases c8 : op = 3 <;> by_cases c9 : op = 2 <;> by_cases c10 : body = (⟨#[]⟩ : ByteArray) <;> by_cases c11 : acks.length ≤ 4 <;> simp [c1, c2, c3, c4, c5, c6, c7, c8, c9, c10, c11, hz]
            · simp [c1, c2, c3, c4, c5]
          · simp [c1, c2, c3, c4]
        · simp [c1, c2, c3]
      · simp [c1, c2]
    · simp [c1]
  · rw [all_rd (t := .int .i64) acks (fun n => decide (1 ≤ n ∧ n ≤ 1000000000))]
    unfold pkB pkT
    by_cases ha : acks = []
    · subst ha; simp
    · cases acks.all (fun n => decide (1 ≤ n ∧ n ≤ 1000000000)) <;> simp [ha]
      · by_cases c11 : acks.length ≤ 4 <;> by_cases c8 : op = 3 <;> simp [c11, c8]
abbrev Cu : Type := ByteArray × Int × Bool × Unit
def CuW (c : Cu) : Prop := 0 ≤ c.2.1 ∧ c.2.1 ≤ (c.1.size : Int) ∧ c.1.size ≤ 1048576
def oneL (c : Cu) : Int × Cu := if c.2.2.1 = false ∧ c.2.1 < (c.1.size : Int) then (bt c.1 c.2.1, (c.1, (c.2.1 + 1, (false, ())))) else (0, (c.1, (c.2.1, (true, ()))))
def numL (c : Cu) : Int × Cu := if c.2.2.1 = false ∧ (rvL c.1 c.2.1.toNat).2.2.1 = true then ((rvL c.1 c.2.1.toNat).1, (c.1, ((rvL c.1 c.2.1.toNat).2.1, (false, ())))) else (0, (c.1, (c.2.1, (true, ()))))
theorem s_One_is (k : Nat) (c : Cu) (h : CuW c) : s_l12One k (c, ()) = some ((oneL c).1, ((oneL c).2, ())) := by
  obtain ⟨s, a, b, u⟩ := c
  obtain ⟨h0, h1, h2⟩ := h
  simp only at h0 h1 h2
  unfold s_l12One oneL
  have w1 : wi64 (a + 1) = a + 1 := w64_id _ (by omega)
  have w2 : wi64 (a + 1 - 1) = a := (w64_id _ (by omega)).trans (by omega)
  have w3 : wi64 (bt s a) = bt s a := w64_id _ (by have := bt_ge s a; have := bt_lt s a; omega)
  cases b with
  | true => simp
  | false =>
    by_cases c : a < (s.size : Int)
    · have c' : ¬ (s.size : Int) ≤ a := by omega
      simp only [w1, w2, w3, c, c', h0, and_self, decide_false, Bool.false_eq_true, if_true, if_false]
    · have c' : (s.size : Int) ≤ a := by omega
      simp only [c, c', and_false, decide_true, if_true, if_false]
theorem i_One_is (k : Nat) (c : Cu) (h : CuW c) : i_scan_one k (c, ()) = some ((oneL c).1, ((oneL c).2, ())) := s_One_is k c h
theorem rvL_ok (s : ByteArray) (a : Nat) : (rvL s a).2.2.1 = true → ∃ v m : Nat, (rvL s a).1 = (v : Int) ∧ (rvL s a).2.1 = ((a + m : Nat) : Int) ∧ v ≤ 1000000000 ∧ a + m ≤ s.size ∧ enc v = ((bytesOf s).drop a).take m ∧ m ≤ 5 := by
  unfold rvL
  cases hd : decL 5 ((bytesOf s).drop a) with
  | none => intro h; cases h
  | some p =>
    obtain ⟨v, m⟩ := p
    dsimp only
    split
    · rename_i hc
      intro _
      have hl := decL_len hd
      rw [List.length_drop, bytesOf_len] at hl
      exact ⟨v, m, rfl, rfl, hc.1, by omega, hc.2, hl.2.1⟩
    · intro h; cases h
theorem s_Var_is (k : Nat) (c : Cu) (h : CuW c) (hk : 1048576 < k) : s_l12Var k (c, ()) = some ((numL c).1, ((numL c).2, ())) := by
  obtain ⟨s, a, b, u⟩ := c
  obtain ⟨h0, h1, h2⟩ := h
  simp only at h0 h1 h2
  obtain ⟨n, rfl⟩ : ∃ n : Nat, a = (n : Int) := ⟨a.toNat, by omega⟩
  unfold s_l12Var numL
  simp only [s_ReadVar_is k s n (by omega) (by omega) hk, Option.bind_some, Int.toNat_natCast]
  cases b <;> cases (rvL s n).2.2.1 <;> simp
theorem i_Var_is (k : Nat) (c : Cu) (h : CuW c) (hk : 1048576 < k) : i_scan_number k (c, ()) = some ((numL c).1, ((numL c).2, ())) := by
  obtain ⟨s, a, b, u⟩ := c
  obtain ⟨h0, h1, h2⟩ := h
  simp only at h0 h1 h2
  obtain ⟨n, rfl⟩ : ∃ n : Nat, a = (n : Int) := ⟨a.toNat, by omega⟩
  unfold i_scan_number numL
  simp only [i_ReadVar_is k s n (by omega) (by omega) hk, Option.bind_some, Int.toNat_natCast]
  cases b <;> cases (rvL s n).2.2.1 <;> simp
theorem oneL_W {c : Cu} (h : CuW c) : CuW (oneL c).2 ∧ (oneL c).2.1 = c.1 ∧ 0 ≤ (oneL c).1 ∧ (oneL c).1 < 256 := by
  obtain ⟨h0, h1, h2⟩ := h
  unfold oneL
  split
  · rename_i hc
    exact ⟨⟨by simp only; omega, by simp only; omega, h2⟩, rfl, bt_ge _ _, bt_lt _ _⟩
  · exact ⟨⟨h0, h1, h2⟩, rfl, by simp, by simp⟩
theorem numL_W {c : Cu} (h : CuW c) : CuW (numL c).2 ∧ (numL c).2.1 = c.1 ∧ 0 ≤ (numL c).1 ∧ (numL c).1 ≤ 1000000000 := by
  obtain ⟨h0, h1, h2⟩ := h
  unfold numL
  split
  · rename_i hc
    obtain ⟨v, m, e1, e2, e3, e4, _⟩ := rvL_ok _ _ hc.2
    exact ⟨⟨by simp only [e2]; omega, by simp only [e2]; omega, h2⟩, rfl, by rw [e1]; omega, by rw [e1]; omega⟩
  · exact ⟨⟨h0, h1, h2⟩, rfl, by simp, by simp⟩
theorem oneL_bad {c : Cu} (h : c.2.2.1 = true) : (oneL c).2.2.2.1 = true := by unfold oneL; rw [if_neg (by simp [h])]
theorem numL_bad {c : Cu} (h : c.2.2.1 = true) : (numL c).2.2.2.1 = true := by unfold numL; rw [if_neg (by simp [h])]
/-- As many numbers as are told. -/
def acksL : Nat → Cu → List Int × Cu
  | 0, c => ([], c)
  | m + 1, c => ((numL c).1 :: (acksL m (numL c).2).1, (acksL m (numL c).2).2)
theorem acksL_bad : ∀ (m : Nat) {c : Cu}, c.2.2.1 = true → (acksL m c).2.2.2.1 = true
  | 0, _, h => h
  | m + 1, _, h => acksL_bad m (numL_bad h)
theorem acksL_len : ∀ (m : Nat) (c : Cu), (acksL m c).1.length = m
  | 0, _ => rfl
  | m + 1, c => by simp [acksL, acksL_len m]
theorem acksL_W : ∀ (m : Nat) {c : Cu}, CuW c → CuW (acksL m c).2 ∧ (acksL m c).2.1 = c.1
  | 0, _, h => ⟨h, rfl⟩
  | m + 1, _, h => ⟨(acksL_W m (numL_W h).1).1, (acksL_W m (numL_W h).1).2.trans (numL_W h).2.1⟩
theorem acksL_more : ∀ (m j : Nat) (c : Cu), m ≤ j → (acksL m c).2.2.2.1 = true → (acksL j c).2.2.2.1 = true
  | 0, j, c, _, h => acksL_bad j h
  | m + 1, 0, c, hj, _ => by omega
  | m + 1, j + 1, c, hj, h => acksL_more m j (numL c).2 (by omega) h
/-- As long as nothing is amiss. -/
def spL : Nat → Cu → List Int → Cu × List Int
  | 0, c, l => (c, l)
  | m + 1, c, l => if c.2.2.1 = true then (c, l) else spL m (numL c).2 (l ++ [(numL c).1])
theorem spL_is : ∀ (m : Nat) (c : Cu) (l : List Int), if (acksL m c).2.2.2.1 = true then (spL m c l).1.2.2.1 = true else spL m c l = ((acksL m c).2, l ++ (acksL m c).1)
  | 0, c, l => by
    unfold acksL spL
    split
    · assumption
    · simp
  | m + 1, c, l => by
    by_cases hb : c.2.2.1 = true
    · rw [if_pos (acksL_bad (m + 1) hb)]
      unfold spL
      rw [if_pos hb]
      exact hb
    · have ih := spL_is m (numL c).2 (l ++ [(numL c).1])
      have e : spL (m + 1) c l = spL m (numL c).2 (l ++ [(numL c).1]) := by
        show (if c.2.2.1 = true then (c, l) else _) = _
        rw [if_neg hb]
      rw [e]
      show if (acksL m (numL c).2).2.2.2.1 = true then _ else _
      split
      · rename_i h; rw [if_pos h] at ih; exact ih
      · rename_i h
        rw [if_neg h] at ih
        rw [ih]
        show _ = ((acksL m (numL c).2).2, l ++ ((numL c).1 :: (acksL m (numL c).2).1))
        simp
def pkZ : Pk := (0, (0, (0, (0, (0, ([], ((⟨#[]⟩ : ByteArray), ())))))))
abbrev PkR : Type := Pk × Bool × Unit
def pkNo : PkR := (pkZ, (false, ()))
/-- What stands behind the numbers is the body. -/
def restL (c : Cu) : ByteArray := c.1.extract c.2.1.toNat c.1.size
/-- What is read of a packet's bytes, ahead of how many there are dst be acknowledged. -/
structure Hd where
  op : Int
  key : Int
  fr : Int
  dst : Int
  num : Int
  n : Int
  c : Cu
def hdL (t : ByteArray) : Hd :=
  let c0 : Cu := ((unS t).1, (0, (!(unS t).2.1, ())))
  let r1 := oneL c0
  let r2 := oneL r1.2
  let r3 := oneL r2.2
  let r4 := numL r3.2
  let r5 := numL r4.2
  ⟨r1.1 / 8, r1.1 % 8, r2.1, r3.1, r4.1, r5.1, r5.2⟩
def pkOf (h : Hd) (m : Nat) : Pk := (h.op, (h.key, (h.fr, (h.dst, (h.num, ((acksL m h.c).1, (restL (acksL m h.c).2, ())))))))
def readI (h : Hd) : PkR := if (acksL (min h.n.toNat 5) h.c).2.2.2.1 = true then pkNo else if pkB (pkOf h (min h.n.toNat 5)) = true then (pkOf h (min h.n.toNat 5), (true, ())) else pkNo
theorem pkB_len {p : Pk} (h : pkB p = true) : p.2.2.2.2.2.1.length ≤ 4 := by
  unfold pkB at h
  simp only [Bool.and_eq_true, decide_eq_true_eq] at h
  exact h.2.2.2.2.2.1
theorem unS_size (t : ByteArray) : (unS t).1.size ≤ t.size := by
  unfold unS
  split
  · rename_i h; rw [ext_size _ _ _ (by omega) (by omega)]; omega
  · exact Nat.zero_le _
theorem i_ReadPacket_is (k : Nat) (t : ByteArray) (ht : t.size ≤ 1048576) (hk : 1048576 < k) : i_ReadPacket k (t, ()) = some (readI (hdL t), ((), ())) := by
  have hu := unS_size t
  have W0 : CuW ((unS t).1, (0, (!(unS t).2.1, ()))) := ⟨by simp, by simp, by simp only; omega⟩
  have W1 := oneL_W W0
  have W2 := oneL_W W1.1
  have W3 := oneL_W W2.1
  have W4 := numL_W W3.1
  have W5 := numL_W W4.1
  have e1 := i_One_is k _ W0
  have e2 := i_One_is k _ W1.1
  have e3 := i_One_is k _ W2.1
  have e4 := i_Var_is k _ W3.1 hk
  have e5 := i_Var_is k _ W4.1 hk
  unfold i_ReadPacket
  simp only [i_Unsealed_is k t ht hk, Option.bind_some, e1]
  rw [show i_scan_one k (((oneL ((unS t).1, (0, (!(unS t).2.1, ())))).2.1, ((oneL ((unS t).1, (0, (!(unS t).2.1, ())))).2.2.1, ((oneL ((unS t).1, (0, (!(unS t).2.1, ())))).2.2.2.1, ()))), ()) = _ from e2]
  simp only [Option.bind_some]
  rw [show i_scan_one k (((oneL (oneL ((unS t).1, (0, (!(unS t).2.1, ())))).2).2.1, ((oneL (oneL ((unS t).1, (0, (!(unS t).2.1, ())))).2).2.2.1, ((oneL (oneL ((unS t).1, (0, (!(unS t).2.1, ())))).2).2.2.2.1, ()))), ()) = _ from e3]
  simp only [Option.bind_some]
  generalize hc0 : (((unS t).1, ((0 : Int), (!(unS t).2.1, ()))) : Cu) = c0 at *
  have hin : c0.1 = (unS t).1 := by rw [← hc0]
  rw [show i_scan_number k (((oneL (oneL (oneL c0).2).2).2.1, ((oneL (oneL (oneL c0).2).2).2.2.1, ((oneL (oneL (oneL c0).2).2).2.2.2.1, ()))), ()) = _ from e4]
  simp only [Option.bind_some]
  rw [show i_scan_number k (((numL (oneL (oneL (oneL c0).2).2).2).2.1, ((numL (oneL (oneL (oneL c0).2).2).2).2.2.1, ((numL (oneL (oneL (oneL c0).2).2).2).2.2.2.1, ()))), ()) = _ from e5]
  simp only [Option.bind_some]
  have hh : hdL t = ⟨(oneL c0).1 / 8, (oneL c0).1 % 8, (oneL (oneL c0).2).1, (oneL (oneL (oneL c0).2).2).1, (numL (oneL (oneL (oneL c0).2).2).2).1, (numL (numL (oneL (oneL (oneL c0).2).2).2).2).1, (numL (numL (oneL (oneL (oneL c0).2).2).2).2).2⟩ := by
    unfold hdL; rw [hc0]
  rw [hh]
  have q8 : wi64 (Int.tdiv (oneL c0).1 8) = (oneL c0).1 / 8 := by rw [tdiv_pos _ _ W1.2.2.1]; exact w64_id _ (by omega)
  have m8 : Int.tmod (oneL c0).1 8 = (oneL c0).1 % 8 := tmod_pos _ _ W1.2.2.1
  rw [q8, m8]
  generalize hnn : (numL (numL (oneL (oneL (oneL c0).2).2).2).2).1 = n at *
  generalize hcc : (numL (numL (oneL (oneL (oneL c0).2).2).2).2).2 = c at *
  generalize (oneL c0).1 / 8 = op
  generalize (oneL c0).1 % 8 = key
  generalize (oneL (oneL c0).2).1 = fr
  generalize (oneL (oneL (oneL c0).2).2).1 = dst
  generalize (numL (oneL (oneL (oneL c0).2).2).2).1 = num
  have hcs : c.1 = (unS t).1 := by rw [W5.2.1, W4.2.1, W3.2.1, W2.2.1, W1.2.1, hin]
  have hn0 := W5.2.2.1
  have hnM := W5.2.2.2
  unfold jn
  have key2 : ∀ m (l : List Int) (c : Cu), iterN (fun _ (a : Cu × List Int) => ((numL a.1).2, a.2 ++ [(numL a.1).1])) m 0 (c, l) = ((acksL m c).2, l ++ (acksL m c).1) := by
    have : ∀ m i (l : List Int) (c : Cu), iterN (fun _ (a : Cu × List Int) => ((numL a.1).2, a.2 ++ [(numL a.1).1])) m i (c, l) = ((acksL m c).2, l ++ (acksL m c).1) := by
      intro m
      induction m with
      | zero => intro i l c; simp [iterN, acksL]
      | succ m ih => intro i l c; simp only [iterN, ih, acksL, List.append_assoc, List.singleton_append]
    exact fun m l c => this m 0 l c
  refine (run_loop (A := Cu × List Int) (fun i a => (pkZ, ((unS t).1, (a.1, ((op, (key, (fr, (dst, (num, (a.2, ((⟨#[]⟩ : ByteArray), ()))))))), (n, ((i : Int), ()))))))) (min n.toNat 5) (fun _ a => ((numL a.1).2, a.2 ++ [(numL a.1).1]))
    (fun a => some (if a.1.2.2.1 = true then pkNo else if pkB (op, (key, (fr, (dst, (num, (a.2, (restL a.1, ()))))))) = true then ((op, (key, (fr, (dst, (num, (a.2, (restL a.1, ()))))))), (true, ())) else pkNo, ((), ())))
    (fun i a => CuW a.1 ∧ a.1.1 = (unS t).1 ∧ a.2.length = i) ?_ ?_ (min n.toNat 5) 0 (c, []) k (by omega) ⟨W5.1, hcs, rfl⟩ (by omega)).trans ?_
  · rintro again i ⟨c, l⟩ hi ⟨h1, h2, h3⟩
    simp only at h1 h2 h3
    have g1 : (i : Int) < n := by omega
    have g2 : (i : Int) ≤ 4 := by omega
    have w : wi64 ((i : Int) + 1) = ((i + 1 : Nat) : Int) := (w64_id _ (by omega)).trans (by omega)
    have ev : i_scan_number k ((c.1, (c.2.1, (c.2.2.1, ()))), ()) = _ := i_Var_is k c h1 hk
    simp only [g1, g2, w, ev, decide_true, if_true, Option.bind_some]
    rw [if_pos (cap_ok _ _ (by simp; omega))]
    exact ⟨rfl, (numL_W h1).1, (numL_W h1).2.1.trans h2, by simp [h3]⟩
  · rintro again ⟨c, l⟩ ⟨h1, h2, h3⟩
    simp only at h1 h2 h3
    have hfin : ∀ (X : Option (PkR × Unit × Unit)), X = (if c.2.2.1 = true then some (pkNo, ((), ())) else if 0 ≤ c.2.1 ∧ c.2.1 ≤ (((unS t).1).size : Int) then ((i_PacketOk k ((op, (key, (fr, (dst, (num, (l, (ByteArray.extract (unS t).1 (Int.toNat c.2.1) (Int.toNat (((unS t).1).size : Int)), ()))))))), ())).bind fun p8 => if (!p8.1) = true then some (pkNo, ((), ())) else some (((op, (key, (fr, (dst, (num, (l, (ByteArray.extract (unS t).1 (Int.toNat c.2.1) (Int.toNat (((unS t).1).size : Int)), ()))))))), (true, ())), ((), ()))) else none) →
        X = some (if c.2.2.1 = true then pkNo else if pkB (op, (key, (fr, (dst, (num, (l, (restL c, ()))))))) = true then ((op, (key, (fr, (dst, (num, (l, (restL c, ()))))))), (true, ())) else pkNo, ((), ())) := by
      rintro X rfl
      have er : ByteArray.extract (unS t).1 (Int.toNat c.2.1) (Int.toNat (((unS t).1).size : Int)) = restL c := by unfold restL; rw [h2, Int.toNat_natCast]
      obtain ⟨g0, g1, g2⟩ := h1
      rw [h2] at g1
      cases c.2.2.1 with
      | true => rfl
      | false =>
        simp only [g0, g1, er, and_self, Bool.false_eq_true, if_true, if_false]
        rw [i_PacketOk_is k _ (by simp only; omega) hk]
        simp only [Option.bind_some]
        cases pkB (op, (key, (fr, (dst, (num, (l, (restL c, ()))))))) <;> rfl
    refine hfin _ ?_
    by_cases g1 : ((min n.toNat 5 : Nat) : Int) < n
    · have g2 : ¬ ((min n.toNat 5 : Nat) : Int) ≤ 4 := by omega
      simp only [g1, g2, decide_true, decide_false, Bool.false_eq_true, if_true, if_false]
      rfl
    · simp only [g1, decide_false, Bool.false_eq_true, if_false]
      rfl
  · rw [key2]
    unfold readI pkOf
    simp only [List.nil_append]
def encs (l : List Int) : List Int := l.flatMap fun n => enc n.toNat
theorem encs_isB (l : List Int) : isB (encs l) := by
  intro x hx
  obtain ⟨n, _, h⟩ := List.mem_flatMap.1 hx
  exact enc_isB _ x h
theorem encs_cons (n : Int) (l : List Int) : encs (n :: l) = enc n.toNat ++ encs l := by simp [encs]
/-- The bytes of a packet, not sealed yet. -/
def pkBy (p : Pk) : List Int := [8 * p.1 + p.2.1, p.2.2.1, p.2.2.2.1] ++ (enc p.2.2.2.2.1.toNat ++ (enc p.2.2.2.2.2.1.length ++ (encs p.2.2.2.2.2.1 ++ bytesOf p.2.2.2.2.2.2.1)))
def pkS (p : Pk) : ByteArray := strOf (pkBy p) ++ strOf (four (sumL 4294967295 (strOf (pkBy p))))
structure PkOk (p : Pk) : Prop where
  op : 1 ≤ p.1 ∧ p.1 ≤ 3
  key : 0 ≤ p.2.1 ∧ p.2.1 ≤ 7
  fr : 1 ≤ p.2.2.1 ∧ p.2.2.1 ≤ 99
  dst : 1 ≤ p.2.2.2.1 ∧ p.2.2.2.1 ≤ 99
  num : 0 ≤ p.2.2.2.2.1 ∧ p.2.2.2.2.1 ≤ 1000000000
  len : p.2.2.2.2.2.1.length ≤ 4
  body : p.2.2.2.2.2.2.1.size ≤ 120
  acks : ∀ n ∈ p.2.2.2.2.2.1, 1 ≤ n ∧ n ≤ 1000000000
theorem pkB_ok {p : Pk} (h : pkB p = true) : PkOk p := by
  unfold pkB at h
  simp only [Bool.and_eq_true, decide_eq_true_eq, List.all_eq_true] at h
  obtain ⟨h1, h2, h3, h4, h5, h6, h7, h8, _⟩ := h
  exact ⟨h1, h2, h3, h4, h5, h6, h7, h8⟩
theorem enc5 (n : Nat) (h : n ≤ 1000000000) : (enc n).length ≤ 5 := enc_len 4 n (by
  have h5 : (128 : Nat) ^ (4 + 1) = 34359738368 := by decide
  omega)
theorem encs_len : ∀ (l : List Int), (∀ n ∈ l, 1 ≤ n ∧ n ≤ 1000000000) → (encs l).length ≤ 5 * l.length
  | [], _ => by simp [encs]
  | n :: l, h => by
    rw [encs_cons, List.length_append, List.length_cons]
    have h1 := enc5 n.toNat (by have := h n (by simp); omega)
    have h2 := encs_len l (fun m hm => h m (by simp [hm]))
    omega
theorem pkBy_len {p : Pk} (h : PkOk p) : (pkBy p).length ≤ 300 := by
  unfold pkBy
  have h1 := enc5 p.2.2.2.2.1.toNat (by have := h.num; omega)
  have h2 := enc5 p.2.2.2.2.2.1.length (by have := h.len; omega)
  have h3 := encs_len _ h.acks
  have h4 := h.len
  have h5 := h.body
  simp only [List.length_append, List.length_cons, List.length_nil, bytesOf_len]
  omega
theorem pkBy_isB {p : Pk} (h : PkOk p) : isB (pkBy p) := by
  unfold pkBy
  rw [isB_append, isB_append, isB_append, isB_append]
  refine ⟨?_, enc_isB _, enc_isB _, encs_isB _, bytesOf_isB _⟩
  have h1 := h.op; have h2 := h.key; have h3 := h.fr; have h4 := h.dst
  simp only [isB_cons]
  refine ⟨by omega, by omega, by omega, isB_nil⟩
theorem l05Byte_is (k : Nat) (n : Int) (h : 0 ≤ n ∧ n < 256) : s_l05Byte k (n, ()) = some (strOf [n], ((), ())) := by
  unfold s_l05Byte
  have m : Int.tmod n 256 = n := by rw [tmod_pos _ _ h.1]; omega
  have q : ¬ n < 0 := by omega
  simp only [m, q, decide_false, Bool.false_eq_true, if_false, w8_id n h]
theorem s_PacketText_is (k : Nat) (p : Pk) (hk : 1048576 < k) : s_PacketText k (p, ()) = some (if pkB p = true then (pkS p, (true, ())) else ((⟨#[]⟩ : ByteArray), (false, ())), ((), ())) := by
  unfold s_PacketText
  rw [show s_PacketOk k ((p.1, (p.2.1, (p.2.2.1, (p.2.2.2.1, (p.2.2.2.2.1, (p.2.2.2.2.2.1, (p.2.2.2.2.2.2.1, ()))))))), ()) = _ from s_PacketOk_is k p hk]
  simp only [Option.bind_some]
  by_cases hb : pkB p = true
  · have h := pkB_ok hb
    have L := pkBy_len h
    obtain ⟨op, key, fr, dst, num, acks, body, ⟨⟩⟩ := p
    obtain ⟨h1, h2, h3, h4, h5, h6, h7, h8⟩ := h
    simp only at h1 h2 h3 h4 h5 h6 h7 h8
    have L : (pkBy (op, (key, (fr, (dst, (num, (acks, (body, ())))))))).length ≤ 300 := L
    have w8 : wi64 (8 * op) = 8 * op := w64_id _ (by omega)
    have w9 : wi64 (8 * op + key) = 8 * op + key := w64_id _ (by omega)
    have hp : (128 : Nat) ^ 8 = 72057594037927936 := by decide
    have en : s_l01Var k (num, ()) = some (strOf (enc num.toNat), ((), ())) := by
      have := l01Var_is k num.toNat (by omega) hk
      rwa [show ((num.toNat : Nat) : Int) = num by omega] at this
    have el := l01Var_is k acks.length (by omega) hk
    have n5 := enc5 num.toNat (by omega)
    have l5 := enc5 acks.length (by omega)
    have z1 : ∀ x : Int, (strOf [x]).size = 1 := fun x => by rw [strOf_len]; rfl
    simp only [hb, w8, w9, l05Byte_is k (8 * op + key) (by omega), l05Byte_is k fr (by omega), l05Byte_is k dst (by omega), en, el, Bool.not_true, Bool.false_eq_true, if_true, if_false, Option.bind_some]
    rw [if_pos (max_ok _ _ (by rw [z1, z1]; omega)), if_pos (max_ok _ _ (by rw [ByteArray.size_append, z1, z1, z1]; omega)), if_pos (max_ok _ _ (by rw [ByteArray.size_append, ByteArray.size_append, z1, z1, z1, strOf_len]; omega)),
      if_pos (max_ok _ _ (by rw [ByteArray.size_append, ByteArray.size_append, ByteArray.size_append, z1, z1, z1, strOf_len, strOf_len]; omega))]
    have hit : ∀ m i (s : ByteArray), i + m = acks.length → iterN (fun i (s : ByteArray) => s ++ strOf (enc (Ty.rd (t := .int .i64) acks (i : Int)).toNat)) m i s = s ++ strOf (encs (acks.drop i)) := by
      intro m
      induction m with
      | zero =>
        intro i s hi
        rw [List.drop_of_length_le (by omega)]
        apply bytesOf_inj
        show bytesOf s = _
        rw [bytesOf_append]
        have : bytesOf (strOf (encs [])) = [] := rfl
        rw [this, List.append_nil]
      | succ m ih =>
        intro i s hi
        have hl : i < acks.length := by omega
        have er : Ty.rd (t := .int .i64) acks (i : Int) = acks[i] := by exact rd_get (t := .int .i64) acks _ (by simpa using hl)
        show iterN _ m (i + 1) (s ++ strOf (enc (Ty.rd (t := .int .i64) acks (i : Int)).toNat)) = _
        rw [ih (i + 1) _ (by omega), List.drop_eq_getElem_cons hl, encs_cons, strOf_append, er, ByteArray.append_assoc]
    have hall : strOf [8 * op + key] ++ strOf [fr] ++ strOf [dst] ++ strOf (enc num.toNat) ++ strOf (enc acks.length) ++ strOf (encs acks) ++ body = strOf (pkBy (op, (key, (fr, (dst, (num, (acks, (body, ())))))))) := by
      unfold pkBy
      rw [strOf_append, strOf_append, strOf_append, strOf_append, strOf_bytes]
      rw [show strOf [8 * op + key, fr, dst] = strOf [8 * op + key] ++ strOf [fr] ++ strOf [dst] by rw [← strOf_append, ← strOf_append]; rfl]
      simp only [ByteArray.append_assoc]
    refine (run_loop (A := ByteArray) (fun i s => ((op, (key, (fr, (dst, (num, (acks, (body, ()))))))), (s, ((i : Int), ())))) acks.length (fun i s => s ++ strOf (enc (Ty.rd (t := .int .i64) acks (i : Int)).toNat))
      (fun s => if s.size + body.size ≤ maxStr then (s_Sealed k (s ++ body, ())).bind fun p8 => some ((p8.1.1, (p8.1.2.1, ())), ((), ())) else none) (fun i s => s.size ≤ 20 + 5 * i) ?_ ?_ acks.length 0 _ k (by omega) ?_ (by omega)).trans ?_
    · intro again i s hi hs
      have g1 : (i : Int) < (acks.length : Int) := by omega
      have g2 : (0 : Int) ≤ (i : Int) := by omega
      have w : wi64 ((i : Int) + 1) = ((i + 1 : Nat) : Int) := (w64_id _ (by omega)).trans (by omega)
      have er : Ty.rd (t := .int .i64) acks (i : Int) = acks[i] := by exact rd_get (t := .int .i64) acks _ (by simpa using hi)
      have ha := h8 acks[i] (List.getElem_mem hi)
      have ev : s_l01Var k (Ty.rd (t := .int .i64) acks (i : Int), ()) = some (strOf (enc (Ty.rd (t := .int .i64) acks (i : Int)).toNat), ((), ())) := by
        have := l01Var_is k (Ty.rd (t := .int .i64) acks (i : Int)).toNat (by rw [er]; omega) hk
        rwa [show (((Ty.rd (t := .int .i64) acks (i : Int)).toNat : Nat) : Int) = Ty.rd (t := .int .i64) acks (i : Int) by rw [er]; omega] at this
      have l5 := enc5 (Ty.rd (t := .int .i64) acks (i : Int)).toNat (by rw [er]; omega)
      simp only [g1, g2, w, ev, and_self, decide_true, if_true, Option.bind_some]
      rw [if_pos (max_ok _ _ (by rw [strOf_len]; omega))]
      exact ⟨rfl, by rw [ByteArray.size_append, strOf_len]; omega⟩
    · intro again s hs
      simp
    · simp only [ByteArray.size_append, strOf_len, List.length_cons, List.length_nil]; omega
    · rw [hit acks.length 0 _ (by omega), List.drop_zero]
      have hsz : (strOf [8 * op + key] ++ strOf [fr] ++ strOf [dst] ++ strOf (enc num.toNat) ++ strOf (enc acks.length) ++ strOf (encs acks)).size ≤ 300 := by
        have := congrArg ByteArray.size hall
        rw [ByteArray.size_append, strOf_len] at this
        omega
      rw [if_pos (max_ok _ _ (by omega)), hall, s_Sealed_is k _ (by rw [strOf_len]; omega) hk]
      rw [if_pos (show (strOf (pkBy (op, (key, (fr, (dst, (num, (acks, (body, ()))))))))).size ≤ 20000 by rw [strOf_len]; omega)]
      rfl
  · simp only [hb, Bool.not_false, if_true, Bool.false_eq_true, if_false]
theorem one_adv {c : Cu} (h : CuW c) (hb : (oneL c).2.2.2.1 = false) : c.2.2.1 = false ∧ (bytesOf c.1).drop c.2.1.toNat = (oneL c).1 :: (bytesOf c.1).drop (oneL c).2.2.1.toNat := by
  obtain ⟨s, a, b, u⟩ := c
  obtain ⟨h0, h1, h2⟩ := h
  simp only at h0 h1 h2
  unfold oneL at hb ⊢
  split at hb
  · rename_i hc
    simp only at hc
    simp only [hc, and_self, if_true]
    refine ⟨trivial, ?_⟩
    obtain ⟨n, rfl⟩ : ∃ n : Nat, a = (n : Int) := ⟨a.toNat, by omega⟩
    rw [show ((n : Int) + 1).toNat = n + 1 by omega, Int.toNat_natCast]
    exact drop_get (by omega)
  · cases hb
theorem num_adv {c : Cu} (h : CuW c) (hb : (numL c).2.2.2.1 = false) : c.2.2.1 = false ∧ (bytesOf c.1).drop c.2.1.toNat = enc (numL c).1.toNat ++ (bytesOf c.1).drop (numL c).2.2.1.toNat := by
  obtain ⟨s, a, b, u⟩ := c
  obtain ⟨h0, h1, h2⟩ := h
  simp only at h0 h1 h2
  unfold numL at hb ⊢
  split at hb
  · rename_i hc
    simp only at hc
    obtain ⟨v, m, e1, e2, e3, e4, e5, _⟩ := rvL_ok _ _ hc.2
    simp only [hc, and_self, if_true]
    refine ⟨trivial, ?_⟩
    rw [e1, e2, Int.toNat_natCast, Int.toNat_natCast, e5, ← List.drop_drop, List.take_append_drop]
  · cases hb
theorem acks_adv : ∀ (m : Nat) {c : Cu}, CuW c → (acksL m c).2.2.2.1 = false → c.2.2.1 = false ∧ (bytesOf c.1).drop c.2.1.toNat = encs (acksL m c).1 ++ (bytesOf c.1).drop (acksL m c).2.2.1.toNat
  | 0, _, _, hb => ⟨hb, by simp [acksL, encs]⟩
  | m + 1, c, h, hb => by
    have W := numL_W h
    obtain ⟨i1, i2⟩ := acks_adv m W.1 hb
    obtain ⟨j1, j2⟩ := num_adv h i1
    refine ⟨j1, ?_⟩
    show _ = encs ((numL c).1 :: (acksL m (numL c).2).1) ++ (bytesOf c.1).drop (acksL m (numL c).2).2.2.1.toNat
    rw [encs_cons, List.append_assoc, j2]
    rw [W.2.1] at i2
    rw [i2]
/-- What was read without a fault is of the text's own bytes. -/
theorem read_back (t : ByteArray) (ht : t.size ≤ 1048576) (m : Nat) (hm : m = (hdL t).n.toNat) (hb : (acksL m (hdL t).c).2.2.2.1 = false) : pkS (pkOf (hdL t) m) = t ∧ (acksL m (hdL t).c).1.length = m := by
  refine ⟨?_, acksL_len _ _⟩
  have hu := unS_size t
  have W0 : CuW ((unS t).1, (0, (!(unS t).2.1, ()))) := ⟨by simp, by simp, by simp only; omega⟩
  have W1 := oneL_W W0
  have W2 := oneL_W W1.1
  have W3 := oneL_W W2.1
  have W4 := numL_W W3.1
  have W5 := numL_W W4.1
  have hh : hdL t = hdL t := rfl
  unfold hdL at hb hm ⊢
  simp only at hb hm ⊢
  generalize hc0 : (((unS t).1, ((0 : Int), (!(unS t).2.1, ()))) : Cu) = c0 at *
  have hin : c0.1 = (unS t).1 := by rw [← hc0]
  obtain ⟨a1, a2⟩ := acks_adv m W5.1 hb
  obtain ⟨b1, b2⟩ := num_adv W4.1 a1
  obtain ⟨d1, d2⟩ := num_adv W3.1 b1
  obtain ⟨e1, e2⟩ := one_adv W2.1 d1
  obtain ⟨f1, f2⟩ := one_adv W1.1 e1
  obtain ⟨g1, g2⟩ := one_adv W0 f1
  have s1 := W1.2.1
  have s2 := W2.2.1.trans s1
  have s3 := W3.2.1.trans s2
  have s4 := W4.2.1.trans s3
  have s5 := W5.2.1.trans s4
  have s6 := (acksL_W m W5.1).2.trans s5
  rw [s5] at a2
  rw [s4] at b2
  rw [s3] at d2
  rw [s2] at e2
  rw [s1] at f2
  have z0 : c0.2.1.toNat = 0 := by rw [← hc0]; rfl
  have hrest : bytesOf (restL (acksL m (numL (numL (oneL (oneL (oneL c0).2).2).2).2).2).2) = (bytesOf c0.1).drop (acksL m (numL (numL (oneL (oneL (oneL c0).2).2).2).2).2).2.2.1.toNat := by
    unfold restL
    rw [s6, bytesOf_extract, List.take_of_length_le (by rw [bytesOf_len]; exact Nat.le_refl _)]
  have hby : bytesOf c0.1 = pkBy (pkOf ⟨(oneL c0).1 / 8, (oneL c0).1 % 8, (oneL (oneL c0).2).1, (oneL (oneL (oneL c0).2).2).1, (numL (oneL (oneL (oneL c0).2).2).2).1, (numL (numL (oneL (oneL (oneL c0).2).2).2).2).1, (numL (numL (oneL (oneL (oneL c0).2).2).2).2).2⟩ m) := by
    have : bytesOf c0.1 = (bytesOf c0.1).drop c0.2.1.toNat := by rw [z0, List.drop_zero]
    rw [this, g2, f2, e2, d2, b2, a2]
    unfold pkBy pkOf
    simp only [acksL_len, hrest]
    rw [← hm, show 8 * ((oneL c0).1 / 8) + (oneL c0).1 % 8 = (oneL c0).1 by omega]
    rfl
  unfold pkS
  rw [← hby, strOf_bytes, hin]
  have hok : (unS t).2.1 = true := by
    rw [← hc0] at g1
    simpa using g1
  unfold unS at hok ⊢
  split at hok
  · rename_i hc
    rw [if_pos hc]
    show t.extract 0 (t.size - 4) ++ _ = t
    rw [← hc.2.2]
    exact ext_join t (t.size - 4) (by omega)
  · cases hok
theorem hdL_W (t : ByteArray) (ht : t.size ≤ 1048576) : CuW (hdL t).c ∧ (hdL t).c.1 = (unS t).1 ∧ 0 ≤ (hdL t).n ∧ (hdL t).n ≤ 1000000000 := by
  have hu := unS_size t
  have W0 : CuW ((unS t).1, (0, (!(unS t).2.1, ()))) := ⟨by simp, by simp, by simp only; omega⟩
  have W1 := oneL_W W0
  have W2 := oneL_W W1.1
  have W3 := oneL_W W2.1
  have W4 := numL_W W3.1
  have W5 := numL_W W4.1
  exact ⟨W5.1, W5.2.1.trans (W4.2.1.trans (W3.2.1.trans (W2.2.1.trans W1.2.1))), W5.2.2⟩
/-- What the reference reads. -/
def readS (t : ByteArray) (h : Hd) : PkR :=
  let r := spL (min h.n.toNat 20) h.c []
  if r.1.2.2.1 = true then pkNo else
    let p : Pk := (h.op, (h.key, (h.fr, (h.dst, (h.num, (r.2, (restL r.1, ())))))))
    if pkB p = true ∧ pkS p = t then (p, (true, ())) else pkNo
theorem readS_readI (t : ByteArray) (ht : t.size ≤ 1048576) : readS t (hdL t) = readI (hdL t) := by
  obtain ⟨W, _, hn0, hnM⟩ := hdL_W t ht
  have sp := spL_is (min (hdL t).n.toNat 20) (hdL t).c []
  unfold readS readI
  dsimp only
  by_cases h5 : (hdL t).n.toNat ≤ 4
  · have e1 : min (hdL t).n.toNat 20 = (hdL t).n.toNat := by omega
    have e2 : min (hdL t).n.toNat 5 = (hdL t).n.toNat := by omega
    rw [e1] at sp
    rw [e1, e2]
    by_cases hb : (acksL (hdL t).n.toNat (hdL t).c).2.2.2.1 = true
    · rw [if_pos hb] at sp
      rw [if_pos hb, if_pos sp]
    · rw [if_neg hb] at sp
      rw [if_neg hb, sp, if_neg hb]
      have hb' : (acksL (hdL t).n.toNat (hdL t).c).2.2.2.1 = false := by simpa using hb
      have rb := (read_back t ht _ rfl hb').1
      unfold pkOf at rb ⊢
      simp only [List.nil_append]
      rw [rb]
      simp only [and_true]
  · have e2 : min (hdL t).n.toNat 5 = 5 := by omega
    rw [e2]
    have h1 : pkB (pkOf (hdL t) 5) = false := by
      cases hp : pkB (pkOf (hdL t) 5) with
      | false => rfl
      | true =>
        have := pkB_len hp
        unfold pkOf at this
        simp only [acksL_len] at this
        omega
    have hR : (if (acksL 5 (hdL t).c).2.2.2.1 = true then pkNo else if pkB (pkOf (hdL t) 5) = true then (pkOf (hdL t) 5, (true, ())) else pkNo) = pkNo := by rw [h1]; split <;> rfl
    rw [hR]
    by_cases hb : (acksL (min (hdL t).n.toNat 20) (hdL t).c).2.2.2.1 = true
    · rw [if_pos hb] at sp
      rw [if_pos sp]
    · rw [if_neg hb] at sp
      rw [sp]
      split
      · rfl
      · rw [if_neg]
        rintro ⟨h, _⟩
        have := pkB_len h
        simp only [List.nil_append, acksL_len] at this
        omega
theorem sp_loop {X : Type} {step : (X → Option (PkR × Unit × Unit)) → X → Option (PkR × Unit × Unit)} (st : Nat → Cu × List Int → X) (N : Nat) (I : ByteArray) (fin : Cu × List Int → Option (PkR × Unit × Unit))
    (hs : ∀ again i (a : Cu × List Int), i < N → CuW a.1 ∧ a.1.1 = I ∧ a.2.length = i → step again (st i a) = if a.1.2.2.1 = true then fin a else again (st (i + 1) ((numL a.1).2, a.2 ++ [(numL a.1).1])))
    (he : ∀ again (a : Cu × List Int), CuW a.1 ∧ a.1.1 = I ∧ a.2.length = N → step again (st N a) = fin a) :
    ∀ m i (a : Cu × List Int) k, i + m = N → CuW a.1 ∧ a.1.1 = I ∧ a.2.length = i → m < k → whileK step k (st i a) = fin (spL m a.1 a.2) := by
  intro m
  induction m with
  | zero =>
    intro i a k h hI hk
    obtain ⟨k, rfl⟩ : ∃ k', k = k' + 1 := ⟨k - 1, by omega⟩
    have : i = N := by omega
    subst this
    exact he _ _ hI
  | succ m ih =>
    intro i a k h hI hk
    obtain ⟨k, rfl⟩ : ∃ k', k = k' + 1 := ⟨k - 1, by omega⟩
    show step _ _ = _
    rw [hs _ i a (by omega) hI]
    unfold spL
    split
    · rfl
    · exact ih (i + 1) _ k (by omega) ⟨(numL_W hI.1).1, (numL_W hI.1).2.1.trans hI.2.1, by simp [hI.2.2]⟩ (by omega)
theorem s_ReadPacket_is (k : Nat) (t : ByteArray) (ht : t.size ≤ 1048576) (hk : 1048576 < k) : s_ReadPacket k (t, ()) = some (readI (hdL t), ((), ())) := by
  rw [← readS_readI t ht]
  have hu := unS_size t
  have W0 : CuW ((unS t).1, (0, (!(unS t).2.1, ()))) := ⟨by simp, by simp, by simp only; omega⟩
  have W1 := oneL_W W0
  have W2 := oneL_W W1.1
  have W3 := oneL_W W2.1
  have W4 := numL_W W3.1
  have W5 := numL_W W4.1
  have e1 := s_One_is k _ W0
  have e2 := s_One_is k _ W1.1
  have e3 := s_One_is k _ W2.1
  have e4 := s_Var_is k _ W3.1 hk
  have e5 := s_Var_is k _ W4.1 hk
  unfold s_ReadPacket
  simp only [s_Unsealed_is k t ht hk, Option.bind_some, e1]
  rw [show s_l12One k (((oneL ((unS t).1, (0, (!(unS t).2.1, ())))).2.1, ((oneL ((unS t).1, (0, (!(unS t).2.1, ())))).2.2.1, ((oneL ((unS t).1, (0, (!(unS t).2.1, ())))).2.2.2.1, ()))), ()) = _ from e2]
  simp only [Option.bind_some]
  rw [show s_l12One k (((oneL (oneL ((unS t).1, (0, (!(unS t).2.1, ())))).2).2.1, ((oneL (oneL ((unS t).1, (0, (!(unS t).2.1, ())))).2).2.2.1, ((oneL (oneL ((unS t).1, (0, (!(unS t).2.1, ())))).2).2.2.2.1, ()))), ()) = _ from e3]
  simp only [Option.bind_some]
  generalize hc0 : (((unS t).1, ((0 : Int), (!(unS t).2.1, ()))) : Cu) = c0 at *
  have hin : c0.1 = (unS t).1 := by rw [← hc0]
  rw [show s_l12Var k (((oneL (oneL (oneL c0).2).2).2.1, ((oneL (oneL (oneL c0).2).2).2.2.1, ((oneL (oneL (oneL c0).2).2).2.2.2.1, ()))), ()) = _ from e4]
  simp only [Option.bind_some]
  rw [show s_l12Var k (((numL (oneL (oneL (oneL c0).2).2).2).2.1, ((numL (oneL (oneL (oneL c0).2).2).2).2.2.1, ((numL (oneL (oneL (oneL c0).2).2).2).2.2.2.1, ()))), ()) = _ from e5]
  simp only [Option.bind_some]
  have hh : hdL t = ⟨(oneL c0).1 / 8, (oneL c0).1 % 8, (oneL (oneL c0).2).1, (oneL (oneL (oneL c0).2).2).1, (numL (oneL (oneL (oneL c0).2).2).2).1, (numL (numL (oneL (oneL (oneL c0).2).2).2).2).1, (numL (numL (oneL (oneL (oneL c0).2).2).2).2).2⟩ := by
    unfold hdL; rw [hc0]
  rw [hh]
  have q8 : wi64 (Int.tdiv (oneL c0).1 8) = (oneL c0).1 / 8 := by rw [tdiv_pos _ _ W1.2.2.1]; exact w64_id _ (by omega)
  have m8 : Int.tmod (oneL c0).1 8 = (oneL c0).1 % 8 := tmod_pos _ _ W1.2.2.1
  rw [q8, m8]
  generalize hnn : (numL (numL (oneL (oneL (oneL c0).2).2).2).2).1 = n at *
  generalize hcc : (numL (numL (oneL (oneL (oneL c0).2).2).2).2).2 = c at *
  generalize (oneL c0).1 / 8 = op
  generalize (oneL c0).1 % 8 = key
  generalize (oneL (oneL c0).2).1 = fr
  generalize (oneL (oneL (oneL c0).2).2).1 = dst
  generalize (numL (oneL (oneL (oneL c0).2).2).2).1 = num
  have hcs : c.1 = (unS t).1 := by rw [W5.2.1, W4.2.1, W3.2.1, W2.2.1, W1.2.1, hin]
  have hn0 := W5.2.2.1
  have hnM := W5.2.2.2
  unfold jn
  have hfin : ∀ (a : Cu × List Int) (X : Option (PkR × Unit × Unit)), CuW a.1 ∧ a.1.1 = (unS t).1 → X = (if a.1.2.2.1 = true then some (pkNo, ((), ())) else if 0 ≤ a.1.2.1 ∧ a.1.2.1 ≤ (((unS t).1).size : Int) then ((s_PacketText k ((op, (key, (fr, (dst, (num, (a.2, (ByteArray.extract (unS t).1 (Int.toNat a.1.2.1) (Int.toNat (((unS t).1).size : Int)), ()))))))), ())).bind fun p8 => if (!p8.1.2.1) = false then (if (!decide (p8.1.1 = t)) = true then some (pkNo, ((), ())) else some (((op, (key, (fr, (dst, (num, (a.2, (ByteArray.extract (unS t).1 (Int.toNat a.1.2.1) (Int.toNat (((unS t).1).size : Int)), ()))))))), (true, ())), ((), ()))) else some (pkNo, ((), ()))) else none) →
        X = some (if a.1.2.2.1 = true then pkNo else if pkB (op, (key, (fr, (dst, (num, (a.2, (restL a.1, ()))))))) = true ∧ pkS (op, (key, (fr, (dst, (num, (a.2, (restL a.1, ()))))))) = t then ((op, (key, (fr, (dst, (num, (a.2, (restL a.1, ()))))))), (true, ())) else pkNo, ((), ())) := by
    rintro ⟨c, l⟩ X ⟨h1, h2⟩ rfl
    simp only at h1 h2
    have er : ByteArray.extract (unS t).1 (Int.toNat c.2.1) (Int.toNat (((unS t).1).size : Int)) = restL c := by unfold restL; rw [h2, Int.toNat_natCast]
    obtain ⟨g0, g1, g2⟩ := h1
    rw [h2] at g1
    simp only
    cases c.2.2.1 with
    | true => rfl
    | false =>
      simp only [g0, g1, er, and_self, Bool.false_eq_true, if_true, if_false]
      rw [s_PacketText_is k _ hk]
      simp only [Option.bind_some]
      by_cases q1 : pkB (op, (key, (fr, (dst, (num, (l, (restL c, ()))))))) = true
      · by_cases q2 : pkS (op, (key, (fr, (dst, (num, (l, (restL c, ()))))))) = t
        · simp only [q1, q2, and_self, decide_true, Bool.not_true, Bool.false_eq_true, if_true, if_false]
        · simp only [q1, q2, and_false, decide_false, Bool.not_false, Bool.not_true, Bool.false_eq_true, if_true, if_false]
      · simp only [q1, false_and, Bool.not_false, Bool.true_eq_false, Bool.false_eq_true, if_false]
  refine (sp_loop (fun i a => (t, (pkZ, ((unS t).1, (a.1, ((op, (key, (fr, (dst, (num, (a.2, ((⟨#[]⟩ : ByteArray), ()))))))), (n, ((i : Int), ())))))))) (min n.toNat 20) (unS t).1
    (fun a => some (if a.1.2.2.1 = true then pkNo else if pkB (op, (key, (fr, (dst, (num, (a.2, (restL a.1, ()))))))) = true ∧ pkS (op, (key, (fr, (dst, (num, (a.2, (restL a.1, ()))))))) = t then ((op, (key, (fr, (dst, (num, (a.2, (restL a.1, ()))))))), (true, ())) else pkNo, ((), ()))) ?_ ?_ (min n.toNat 20) 0 (c, []) k (by omega) ⟨W5.1, hcs, rfl⟩ (by omega)).trans ?_
  · rintro again i ⟨c, l⟩ hi ⟨h1, h2, h3⟩
    simp only at h1 h2 h3
    have g1 : (i : Int) < n := by omega
    have g2 : (i : Int) < 20 := by omega
    have w : wi64 ((i : Int) + 1) = ((i + 1 : Nat) : Int) := (w64_id _ (by omega)).trans (by omega)
    have ev : s_l12Var k ((c.1, (c.2.1, (c.2.2.1, ()))), ()) = _ := s_Var_is k c h1 hk
    by_cases hb : c.2.2.1 = true
    · simp only [g1, g2, hb, decide_true, Bool.not_true, Bool.false_eq_true, if_true, if_false]
      refine (hfin (c, l) _ ⟨h1, h2⟩ ?_).trans ?_
      · simp only [hb, if_true]; rfl
      · simp only [hb, if_true]
    · have hb' : c.2.2.1 = false := by simpa using hb
      rw [hb'] at ev
      simp only [g1, g2, w, hb', ev, decide_true, Bool.not_false, Bool.false_eq_true, if_true, if_false, Option.bind_some]
      rw [if_pos (cap_ok _ _ (by simp; omega))]
  · rintro again ⟨c, l⟩ ⟨h1, h2, h3⟩
    simp only at h1 h2 h3
    refine hfin (c, l) _ ⟨h1, h2⟩ ?_
    by_cases g1 : ((min n.toNat 20 : Nat) : Int) < n
    · have g2 : ¬ ((min n.toNat 20 : Nat) : Int) < 20 := by omega
      simp only [g1, g2, decide_true, decide_false, Bool.false_eq_true, if_true, if_false]
      rfl
    · simp only [g1, decide_false, Bool.false_eq_true, if_false]
      rfl
  · rfl
def Wf_IntS (a : List (Int)) : Prop := a.length ≤ 9223372036854775807
def Bd_IntS (a : List (Int)) : Prop := a.length ≤ 1048576
def Wf_Packet (x : Int × Int × Int × Int × Int × List (Int) × ByteArray × Unit) : Prop := Wf_IntS x.2.2.2.2.2.1 ∧ ByteArray.size x.2.2.2.2.2.2.1 ≤ 9223372036854775807 ∧ True
def Bd_Packet (x : Int × Int × Int × Int × Int × List (Int) × ByteArray × Unit) : Prop := Bd_IntS x.2.2.2.2.2.1 ∧ ByteArray.size x.2.2.2.2.2.2.1 ≤ 1048576 ∧ True
def marksI (n : Int) (l : Nat) : List Int := (List.range l).map fun i => n + (i : Nat)
theorem marksI_len (n : Int) (l : Nat) : (marksI n l).length = l := by simp [marksI]
abbrev Cur : Type := List Int × Int × Int × Unit
def CurOk (c : Cur) : Prop := 0 ≤ c.2.1 ∧ c.2.1 ≤ (c.1.length : Int) ∧ c.1.length ≤ 1048576
theorem and255 (y : Int) : 0 ≤ bitsI .and .i64 y 255 ∧ bitsI .and .i64 y 255 ≤ 255 := by
  have h : (BitVec.ofInt 64 y &&& BitVec.ofInt 64 255).toNat ≤ 255 := by
    rw [BitVec.toNat_and]
    exact Nat.le_trans Nat.and_le_right (by decide)
  show 0 ≤ IntKind.i64.wrap ((BitVec.ofInt 64 y &&& BitVec.ofInt 64 255).toNat : Int) ∧ IntKind.i64.wrap ((BitVec.ofInt 64 y &&& BitVec.ofInt 64 255).toNat : Int) ≤ 255
  rw [w64_id _ (by omega)]
  omega
theorem Byte_is (k : Nat) (c : Cur) (hc : CurOk c) : ∃ (v : Int) (c' : Cur), s_l01Byte k (c, ()) = some (v, (c', ())) ∧ 0 ≤ v ∧ v ≤ 255 ∧ CurOk c' := by
  obtain ⟨h0, h1, h2⟩ := hc
  unfold s_l01Byte
  by_cases h : c.2.1 < (c.1.length : Int)
  · have w : wi64 (c.2.1 + 1) = c.2.1 + 1 := w64_id _ (by omega)
    simp only [h, h0, and_self, decide_true, if_true]
    refine ⟨_, _, rfl, (and255 _).1, (and255 _).2, ?_⟩
    exact ⟨by simp only [w]; omega, by simp only [w]; omega, h2⟩
  · simp only [h, decide_false, Bool.false_eq_true, if_false]
    exact ⟨_, _, rfl, (and255 _).1, (and255 _).2, h0, h1, h2⟩
theorem tmod_in (v n : Int) (h : 0 ≤ v) (hn : 0 < n) : 0 ≤ Int.tmod v n ∧ Int.tmod v n < n := by
  rw [Int.tmod_eq_emod_of_nonneg h]
  exact ⟨Int.emod_nonneg _ (by omega), Int.emod_lt_of_pos _ hn⟩
theorem Below_is (k : Nat) (c : Cur) (n : Int) (hc : CurOk c) : ∃ (v : Int) (c' : Cur), s_l01Below k (c, (n, ())) = some (v, (c', ((), ()))) ∧ 0 ≤ v ∧ (0 < n → v < n) ∧ CurOk c' := by
  unfold s_l01Below
  by_cases hn : n ≤ 0
  · simp only [hn, decide_true, if_true]
    exact ⟨0, c, rfl, by omega, fun h => by omega, hc⟩
  · have hz : ¬ n = 0 := by omega
    obtain ⟨v1, c1, e1, a1, b1, hc1⟩ := Byte_is k c hc
    by_cases hs : n ≤ 256
    · simp only [hn, hs, hz, e1, decide_true, decide_false, Bool.false_eq_true, if_true, if_false, Option.bind_some]
      exact ⟨_, _, rfl, (tmod_in v1 n a1 (by omega)).1, fun _ => (tmod_in v1 n a1 (by omega)).2, hc1⟩
    · obtain ⟨v2, c2, e2, a2, b2, hc2⟩ := Byte_is k c1 hc1
      obtain ⟨v3, c3, e3, a3, b3, hc3⟩ := Byte_is k c2 hc2
      obtain ⟨v4, c4, e4, a4, b4, hc4⟩ := Byte_is k c3 hc3
      have e : 0 ≤ wi64 (wi64 (wi64 (wi64 (v1 * 16777216) + wi64 (v2 * 65536)) + wi64 (v3 * 256)) + v4) := by
        simp only [wi64, IntKind.wrap_i64]
        omega
      simp only [hn, hs, hz, e1, e2, e3, e4, decide_false, Bool.false_eq_true, if_false, Option.bind_some]
      exact ⟨_, _, rfl, (tmod_in _ n e (by omega)).1, fun _ => (tmod_in _ n e (by omega)).2, hc4⟩
theorem New_is (k : Nat) (a : List Int) (hl : a.length ≤ 1048576) (hk : 1048576 < k) : ∃ c : Cur, s_l01New k (a, ()) = some (c, ((), ())) ∧ CurOk c := by
  unfold s_l01New
  refine whileK_some (g := fun c : Cur => (c, ((), ()))) (fun y : List Int × Int × Int × Unit => (a.length - y.2.2.1).toNat) (fun y => y.1 = a ∧ 0 ≤ y.2.2.1) (fun _ c => CurOk c) ?_ k _ ⟨rfl, by simp⟩ (by simp only; omega)
  rintro ⟨b, h, i, u⟩ ⟨g1, g2⟩ again hg
  simp only at g1 g2
  subst g1
  by_cases hi : i < (b.length : Int)
  · by_cases h4 : i < 4000
    · have w : wi64 (i + 1) = i + 1 := w64_id _ (by omega)
      simp only [hi, h4, g2, and_self, decide_true, if_true, w]
      exact hg _ ⟨rfl, by simp only; omega⟩ (by simp only; omega)
    · simp only [hi, h4, decide_true, decide_false, if_true, Bool.false_eq_true, if_false]
      exact ⟨_, rfl, by simp, by simp, hl⟩
  · simp only [hi, decide_false, Bool.false_eq_true, if_false]
    exact ⟨_, rfl, by simp, by simp, hl⟩
theorem Once_is (k : Nat) (c : Cur) (n : Int) (hc : CurOk c) : ∃ (v : Bool) (c' : Cur), s_l01Once k (c, (n, ())) = some (v, (c', ((), ()))) ∧ CurOk c' := by
  obtain ⟨v, c', e, _, _, h⟩ := Below_is k c n hc
  unfold s_l01Once
  simp only [e, Option.bind_some]
  exact ⟨_, _, rfl, h⟩
theorem PickInt_is (k : Nat) (c : Cur) (l : List Int) (hc : CurOk c) (hl : 0 < l.length) : ∃ (v : Int) (c' : Cur), s_l01PickInt k (c, (l, ())) = some (v, (c', ((), ()))) ∧ v ∈ l ∧ CurOk c' := by
  obtain ⟨v, c', e, h0, h1, h⟩ := Below_is k c (l.length : Int) hc
  have h1 := h1 (by omega)
  unfold s_l01PickInt
  simp only [e, h0, h1, and_self, if_true, Option.bind_some]
  refine ⟨_, _, rfl, ?_, h⟩
  rw [rd_get (t := .int .i64) l v (by omega)]
  exact List.getElem_mem _
theorem strOf_size (l : List Int) : (strOf l).size = l.length := by simp [strOf, ByteArray.size]
theorem Text_is (k : Nat) (c : Cur) (n : Int) (hc : CurOk c) (hk : 1048576 < k) : ∃ (t : ByteArray) (c' : Cur), s_l01Text k (c, (n, ())) = some (t, (c', ((), ()))) ∧ t.size ≤ 5000 ∧ CurOk c' := by
  have hcap : capMax = 274877906944 := rfl
  unfold s_l01Text
  simp only [decide_eq_true_eq]
  rw [jn_one]
  have hm : (if 5000 < n then (5000 : Int) else n) ≤ 5000 := by split <;> omega
  generalize (if 5000 < n then (5000 : Int) else n) = m at hm
  obtain ⟨r, h1, h2, h3⟩ := (whileK_some (T := ByteArray × Cur) (g := fun r => (r.1, (r.2, ((), ())))) (fun y : Cur × Int × List Int × Int × Unit => (m - y.2.2.2.1).toNat) (fun y => CurOk y.1 ∧ y.2.1 = m ∧ 0 ≤ y.2.2.2.1 ∧ (y.2.2.1.length : Int) = y.2.2.2.1 ∧ y.2.2.1.length ≤ 5000) (fun _ r => r.1.size ≤ 5000 ∧ CurOk r.2) (step := fun (rec0 : (Cur × Int × List (Int) × Int × Unit) → Option (ByteArray × Cur × Unit × Unit)) (y0 : Cur × Int × List (Int) × Int × Unit) =>
    (if y0.2.2.2.1 < y0.2.1 then
    ((s_l01Byte k ((y0.1.1, (y0.1.2.1, (y0.1.2.2.1, ()))), ())).bind fun p2 =>
    (if List.length y0.2.2.1 + List.length ([(wu8 (p2.1))] : List (Int)) ≤ capMax then
    (rec0 ((p2.2.1.1, (p2.2.1.2.1, (p2.2.1.2.2.1, ()))), (y0.2.1, ((y0.2.2.1 ++ ([(wu8 (p2.1))] : List (Int))), ((wi64 (y0.2.2.2.1 + (1 : Int))), ())))))
    else none))
    else
    some ((strOf y0.2.2.1), ((y0.1.1, (y0.1.2.1, (y0.1.2.2.1, ()))), ((), ()))))) (by
      rintro ⟨c, m', l, i, u⟩ ⟨g0, g1, g2, g3, g4⟩ again hg
      simp only at g0 g1 g2 g3 g4
      subst g1
      by_cases hi : i < m'
      · obtain ⟨v, c', e, _, _, hc'⟩ := Byte_is k c g0
        have w : wi64 (i + 1) = i + 1 := w64_id _ (by omega)
        simp only [hi, if_true, e, Option.bind_some, w]
        rw [if_pos (by simp only [List.length_singleton]; omega)]
        exact hg (c', (m', ((l ++ [wu8 v]), (i + 1, ())))) ⟨hc', rfl, by simp only; omega, by simp only [List.length_append, List.length_singleton]; omega, by simp only [List.length_append, List.length_singleton]; omega⟩ (by simp only; omega)
      · simp only [hi, if_false]
        exact ⟨(strOf l, c), rfl, by rw [strOf_size]; exact g4, g0⟩) k (c, (m, (([] : List Int), ((0 : Int), ())))) ⟨hc, rfl, by simp, by simp, by simp⟩ (by simp only; omega))
  exact ⟨r.1, r.2, h1, h2, h3⟩
theorem Long_is (k : Nat) (n x : Int) (h0 : 0 ≤ n) (h1 : n ≤ 5000) (hk : 1048576 < k) : ∃ t : ByteArray, s_l01Long k (n, (x, ())) = some (t, ((), ((), ()))) ∧ t.size ≤ 5000 := by
  have hcap : (capMax : Int) = 274877906944 := rfl
  unfold s_l01Long
  simp only [if_true]
  rw [if_pos (by omega)]
  refine whileK_some (g := fun t : ByteArray => (t, ((), ((), ())))) (fun y : Int × Int × List Int × Int × Unit => (n - y.2.2.2.1).toNat) (fun y => y.1 = n ∧ y.2.2.1.length = n.toNat ∧ 0 ≤ y.2.2.2.1) (fun _ t => t.size ≤ 5000) ?_ k _ ⟨rfl, by simp, by simp⟩ (by simp only; omega)
  rintro ⟨m, y, l, i, u⟩ ⟨g1, g2, g3⟩ again hg
  simp only at g1 g2 g3
  subst g1
  by_cases hi : i < m
  · have w : wi64 (i + 1) = i + 1 := w64_id _ (by omega)
    have q : (0 : Int) ≤ i ∧ i < (l.length : Int) := by omega
    simp only [hi, q, and_self, decide_true, if_true, w]
    exact hg _ ⟨rfl, by simp [g2], by simp only; omega⟩ (by simp only; omega)
  · simp only [hi, decide_false, Bool.false_eq_true, if_false]
    exact ⟨_, rfl, by rw [strOf_size]; omega⟩
theorem DrawPlaces_is (k : Nat) (a : List Int) (ha : a.length ≤ 1048576) (hk : 2097152 < k) : ∃ l : List Int, s_DrawPlaces k (a, ()) = some (l, ((), ())) ∧ l.length = 12 ∧ ∀ x ∈ l, 0 ≤ x ∧ x < 10000 := by
  unfold s_DrawPlaces
  obtain ⟨c, e1, hc⟩ := New_is k a ha (by omega)
  obtain ⟨v, c1, e2, _, _, hc1⟩ := Byte_is k c hc
  simp only [e1, e2, Option.bind_some]
  refine (fun (key : ∃ r, _ = some r ∧ (∃ l : List Int, r = (l, ((), ())) ∧ l.length = 12 ∧ ∀ x ∈ l, 0 ≤ x ∧ x < 10000)) => by obtain ⟨r, h1, l, rfl, h2⟩ := key; exact ⟨l, h1, h2⟩) ?_
  refine whileK_ends (X := Cur × List Int × Int × Unit) (R := List Int × Unit × Unit) (fun q => (12 - q.2.2.1).toNat) (fun q => CurOk q.1 ∧ (q.2.1.length : Int) = q.2.2.1 ∧ q.2.2.1 ≤ 12 ∧ ∀ x ∈ q.2.1, 0 ≤ x ∧ x < 10000) (fun _ r => ∃ l : List Int, r = (l, ((), ())) ∧ l.length = 12 ∧ ∀ x ∈ l, 0 ≤ x ∧ x < 10000)
    ?_ k (c1, ([], (0, ()))) ⟨hc1, rfl, by show (0 : Int) ≤ 12; decide, by intro x hx; cases hx⟩ (by show 12 < k; omega)
  rintro ⟨c2, out, i, ⟨⟩⟩ ⟨hc2, hl, i1, hin⟩ again hag
  simp only at hc2 hl i1 hin hag
  by_cases g : i < 12
  · obtain ⟨w, c3, b1, w0, w1, hc3⟩ := Below_is k c2 10000 hc2
    have w1 := w1 (by omega)
    have e2 : wi64 (i + 1) = i + 1 := w64_id _ (by omega)
    have hcap : out.length + ([w] : List Int).length ≤ capMax := cap_ok _ _ (by simp; omega)
    simp only [g, b1, e2, hcap, decide_true, if_true, Option.bind_some]
    refine hag (c3, (out ++ [w], (i + 1, ()))) ⟨hc3, by simp; omega, by show i + 1 ≤ 12; omega, fun x hx => ?_⟩ (by show (12 - (i + 1)).toNat < (12 - i).toNat; omega)
    rcases List.mem_append.1 hx with hx | hx
    · exact hin x hx
    · simp at hx; subst hx; exact ⟨w0, w1⟩
  · simp only [g, decide_false, Bool.false_eq_true, if_false]
    exact ⟨_, rfl, out, rfl, by omega, hin⟩
theorem l12Packet_is (k : Nat) (c : Cur) (hc : CurOk c) (hk : 1048576 < k) : ∃ (p : Pk) (c' : Cur), s_l12Packet k (c, ()) = some (p, (c', ())) ∧ (p.2.2.2.2.2.1.length ≤ 3 ∧ p.2.2.2.2.2.2.1.size ≤ 5000) ∧ CurOk c' := by
  unfold s_l12Packet
  obtain ⟨a1, c1, e1, u1, v1, hc1⟩ := Below_is k c 3 hc
  obtain ⟨a2, c2, e2, u2, v2, hc2⟩ := Below_is k c1 3 hc1
  obtain ⟨a3, c3, e3, u3, v3, hc3⟩ := Below_is k c2 3 hc2
  obtain ⟨a4, c4, e4, u4, v4, hc4⟩ := Below_is k c3 9 hc3
  have v1 := v1 (by omega)
  have w1 : wi64 (1 + a1) = 1 + a1 := w64_id _ (by omega)
  simp only [e1, e2, e3, e4, w1, Option.bind_some]
  unfold jn
  have body : ∀ (cc : Cur) (num : Int) (bd : ByteArray), CurOk cc → bd.size ≤ 5000 → ∃ (p : Pk) (c' : Cur), (fun (j1v0 : List (Int)) (j1v1 : Int) (j1v2 : Int) (j1v3 : Int) (j1v4 : ByteArray) =>
(if (!decide ((1 : Int) + a1 = (3 : Int))) = true then
(whileK (fun (rec0 : (Cur × Pk × Pk × Int × Unit) → Option (Pk × Cur × Unit)) (y0 : Cur × Pk × Pk × Int × Unit) =>
((s_l01Below k ((y0.1.1, (y0.1.2.1, (y0.1.2.2.1, ()))), ((4 : Int), ()))).bind fun p10 =>
(if (decide (y0.2.2.2.1 < p10.1)) = true then
((s_l01Below k ((p10.2.1.1, (p10.2.1.2.1, (p10.2.1.2.2.1, ()))), ((9 : Int), ()))).bind fun p11 =>
(if List.length y0.2.2.1.2.2.2.2.2.1 + List.length ([(wi64 ((1 : Int) + p11.1))] : List (Int)) ≤ capMax then
(rec0 ((p11.2.1.1, (p11.2.1.2.1, (p11.2.1.2.2.1, ()))), ((y0.2.1.1, (y0.2.1.2.1, (y0.2.1.2.2.1, (y0.2.1.2.2.2.1, (y0.2.1.2.2.2.2.1, (y0.2.1.2.2.2.2.2.1, (y0.2.1.2.2.2.2.2.2.1, ()))))))), ((y0.2.2.1.1, (y0.2.2.1.2.1, (y0.2.2.1.2.2.1, (y0.2.2.1.2.2.2.1, (y0.2.2.1.2.2.2.2.1, ((y0.2.2.1.2.2.2.2.2.1 ++ ([(wi64 ((1 : Int) + p11.1))] : List (Int))), (y0.2.2.1.2.2.2.2.2.2.1, ()))))))), ((wi64 (y0.2.2.2.1 + (1 : Int))), ())))))
else none))
else
some (y0.2.2.1, (p10.2.1, ()))))) k ((j1v0, (j1v1, (j1v2, ()))), (((0 : Int), ((0 : Int), ((0 : Int), ((0 : Int), ((0 : Int), ([], ((⟨#[]⟩ : ByteArray), ()))))))), (((1 : Int) + a1, ((0 : Int), ((wi64 ((1 : Int) + a2)), ((wi64 ((1 : Int) + a3)), (j1v3, ([], (j1v4, ()))))))), ((0 : Int), ())))))
else
((s_l01Below k ((j1v0, (j1v1, (j1v2, ()))), ((8 : Int), ()))).bind fun p12 =>
some (((1 : Int) + a1, (p12.1, ((wi64 ((1 : Int) + a2)), ((wi64 ((1 : Int) + a3)), (j1v3, ([], (j1v4, ()))))))), ((p12.2.1.1, (p12.2.1.2.1, (p12.2.1.2.2.1, ()))), ()))))) cc.1 cc.2.1 cc.2.2.1 num bd = some (p, (c', ())) ∧ (p.2.2.2.2.2.1.length ≤ 3 ∧ p.2.2.2.2.2.2.1.size ≤ 5000) ∧ CurOk c' := by
    intro cc num bd hcc hbd
    simp only []
    by_cases g : 1 + a1 = 3
    · obtain ⟨a5, c5, e5, _, _, hc5⟩ := Below_is k cc 8 hcc
      have e5' : s_l01Below k ((cc.1, (cc.2.1, (cc.2.2.1, ()))), ((8 : Int), ())) = _ := e5
      simp only [g, e5', decide_true, Bool.not_true, Bool.false_eq_true, if_false, Option.bind_some]
      exact ⟨_, _, rfl, ⟨by show ([] : List Int).length ≤ 3; decide, hbd⟩, hc5⟩
    · simp only [g, decide_false, Bool.not_false, if_true]
      refine (fun (key : ∃ r : Pk × Cur × Unit, _ = some r ∧ (r.1.2.2.2.2.2.1.length ≤ 3 ∧ r.1.2.2.2.2.2.2.1.size ≤ 5000) ∧ CurOk r.2.1) => ⟨key.choose.1, key.choose.2.1, key.choose_spec⟩) ?_
      refine whileK_ends (X := Cur × Pk × Pk × Int × Unit) (R := Pk × Cur × Unit) (fun q => (4 - q.2.2.2.1).toNat) (fun q => CurOk q.1 ∧ (q.2.2.1.2.2.2.2.2.1.length : Int) = q.2.2.2.1 ∧ q.2.2.2.1 ≤ 3 ∧ q.2.2.1.2.2.2.2.2.2.1.size ≤ 5000) (fun _ r => (r.1.2.2.2.2.2.1.length ≤ 3 ∧ r.1.2.2.2.2.2.2.1.size ≤ 5000) ∧ CurOk r.2.1)
        ?_ k _ ⟨hcc, rfl, by show (0 : Int) ≤ 3; decide, hbd⟩ (by show 4 < k; omega)
      rintro ⟨c2, z, x, i, ⟨⟩⟩ ⟨hc2, hl, i1, hb⟩ again hag
      simp only at hc2 hl i1 hb hag
      obtain ⟨v, d3, b1, v0, v1, hd3⟩ := Below_is k c2 4 hc2
      have v1 := v1 (by omega)
      simp only [b1, Option.bind_some]
      by_cases g2 : i < v
      · obtain ⟨w, d4, b2, w0, w1, hd4⟩ := Below_is k d3 9 hd3
        have e2 : wi64 (i + 1) = i + 1 := w64_id _ (by omega)
        have hcap : x.2.2.2.2.2.1.length + ([wi64 (1 + w)] : List Int).length ≤ capMax := cap_ok _ _ (by simp; omega)
        simp only [g2, b2, e2, hcap, decide_true, if_true, Option.bind_some]
        exact hag (d4, (z, ((x.1, (x.2.1, (x.2.2.1, (x.2.2.2.1, (x.2.2.2.2.1, (x.2.2.2.2.2.1 ++ [wi64 (1 + w)], (x.2.2.2.2.2.2.1, ()))))))), (i + 1, ())))) ⟨hd4, by simp; omega, by show i + 1 ≤ 3; omega, hb⟩ (by show (4 - (i + 1)).toNat < (4 - i).toNat; omega)
      · simp only [g2, decide_false, Bool.false_eq_true, if_false]
        exact ⟨_, rfl, ⟨by show x.2.2.2.2.2.1.length ≤ 3; omega, hb⟩, hd3⟩
  by_cases g : 1 + a1 = 2
  · simp only [g, decide_true, if_true]
    have := body c4 0 (⟨#[]⟩ : ByteArray) hc4 (by decide)
    rw [g] at this
    exact this
  · obtain ⟨a5, c5, e5, u5, v5, hc5⟩ := Below_is k c4 9 hc4
    obtain ⟨t, c6, e6, ht, hc6⟩ := Text_is k c5 a5 hc5 hk
    simp only [g, e5, e6, decide_false, Bool.false_eq_true, if_false, Option.bind_some]
    exact body c6 a4 t hc6 ht
theorem l12Any_is (k : Nat) (c : Cur) (hc : CurOk c) (hk : 1048576 < k) : ∃ (p : Pk) (c' : Cur), s_l12Any k (c, ()) = some (p, (c', ())) ∧ (p.2.2.2.2.2.1.length ≤ 4 ∧ p.2.2.2.2.2.2.1.size ≤ 5000) ∧ CurOk c' := by
  unfold s_l12Any
  obtain ⟨p, c1, e1, ⟨h1, h2⟩, hc1⟩ := l12Packet_is k c hc hk
  obtain ⟨a2, c2, e2, u2, v2, hc2⟩ := Below_is k c1 20 hc1
  simp only [e1, e2, Option.bind_some]
  have h1' : p.2.2.2.2.2.1.length ≤ 4 := by omega
  by_cases g0 : a2 = 0
  · obtain ⟨v, c3, e3, _, hc3⟩ := PickInt_is k c2 [0, 2, 3, 4] hc2 (by decide)
    simp only [g0, e3, decide_true, if_true, Option.bind_some]
    exact ⟨_, _, rfl, ⟨h1', h2⟩, hc3⟩
  by_cases g1 : a2 = 1
  · obtain ⟨v, c3, e3, _, hc3⟩ := PickInt_is k c2 [-1, 7, 8] hc2 (by decide)
    simp only [g0, g1, e3, decide_true, decide_false, Bool.false_eq_true, if_true, if_false, Option.bind_some]
    exact ⟨_, _, rfl, ⟨h1', h2⟩, hc3⟩
  by_cases g2 : a2 = 2
  · obtain ⟨v, c3, e3, _, hc3⟩ := PickInt_is k c2 [0, 99, 100] hc2 (by decide)
    simp only [g0, g1, g2, e3, decide_true, decide_false, Bool.false_eq_true, if_true, if_false, Option.bind_some]
    exact ⟨_, _, rfl, ⟨h1', h2⟩, hc3⟩
  by_cases g3 : a2 = 3
  · obtain ⟨v, c3, e3, _, hc3⟩ := PickInt_is k c2 [-1, 1000000000, 1000000001] hc2 (by decide)
    simp only [g0, g1, g2, g3, e3, decide_true, decide_false, Bool.false_eq_true, if_true, if_false, Option.bind_some]
    exact ⟨_, _, rfl, ⟨h1', h2⟩, hc3⟩
  by_cases g4 : a2 = 4
  · obtain ⟨v, c3, e3, _, _, hc3⟩ := Below_is k c2 3 hc2
    have hcap : p.2.2.2.2.2.1.length + ([v] : List Int).length ≤ capMax := cap_ok _ _ (by simp; omega)
    simp only [g0, g1, g2, g3, g4, e3, hcap, decide_true, decide_false, Bool.false_eq_true, if_true, if_false, Option.bind_some]
    exact ⟨_, _, rfl, ⟨by simp; omega, h2⟩, hc3⟩
  by_cases g5 : a2 = 5
  · obtain ⟨v, c3, e3, w0, w1, hc3⟩ := Below_is k c2 2 hc2
    have w1 := w1 (by omega)
    have w : wi64 (120 + v) = 120 + v := w64_id _ (by omega)
    obtain ⟨t, e4, ht⟩ := Long_is k (120 + v) 65 (by omega) (by omega) hk
    simp only [g0, g1, g2, g3, g4, g5, e3, w, e4, decide_true, decide_false, Bool.false_eq_true, if_true, if_false, Option.bind_some]
    exact ⟨_, _, rfl, ⟨h1', ht⟩, hc3⟩
  · simp only [g0, g1, g2, g3, g4, g5, decide_false, Bool.false_eq_true, if_false]
    exact ⟨_, _, rfl, ⟨h1', h2⟩, hc2⟩
theorem DrawPacketText_is (k : Nat) (a : List Int) (ha : a.length ≤ 1048576) (hk : 1048576 < k) : ∃ p : Pk, s_DrawPacketText k (a, ()) = some (p, ((), ())) ∧ p.2.2.2.2.2.1.length ≤ 4 ∧ p.2.2.2.2.2.2.1.size ≤ 5000 := by
  unfold s_DrawPacketText
  obtain ⟨c, e1, hc⟩ := New_is k a ha (by omega)
  obtain ⟨p, c', e2, hp, _⟩ := l12Any_is k c hc hk
  simp only [e1, e2, Option.bind_some]
  exact ⟨p, rfl, hp⟩
theorem Spoilt_is (k : Nat) (c : Cur) (s : ByteArray) (hc : CurOk c) (hs : s.size ≤ 30000) (hk : 1048576 < k) : ∃ (t : ByteArray) (c' : Cur), s_l02Spoilt k (c, (s, ())) = some (t, (c', ((), ()))) ∧ t.size ≤ 40000 ∧ CurOk c' := by
  unfold s_l02Spoilt
  obtain ⟨a1, c1, e1, u1, v1, hc1⟩ := Below_is k c 12 hc
  simp only [e1, Option.bind_some]
  by_cases g0 : a1 = 0
  · obtain ⟨t, c2, e2, ht, hc2⟩ := Text_is k c1 1 hc1 hk
    have hm : s.size + t.size ≤ maxStr := max_ok _ _ (by omega)
    simp only [g0, e2, hm, decide_true, if_true, Option.bind_some]
    exact ⟨_, _, rfl, by rw [ByteArray.size_append]; omega, hc2⟩
  by_cases g1 : a1 = 1
  · obtain ⟨v, c2, e2, w0, w1, hc2⟩ := Below_is k c1 ((s.size : Int) + 1) hc1
    have w1 := w1 (by omega)
    have w : wi64 ((s.size : Int) + 1) = (s.size : Int) + 1 := w64_id _ (by omega)
    have q : 0 ≤ v ∧ v ≤ (s.size : Int) := by omega
    simp only [g0, g1, w, e2, q, and_self, decide_true, decide_false, Bool.false_eq_true, if_true, if_false, Option.bind_some]
    exact ⟨_, _, rfl, by rw [ByteArray.size_extract]; omega, hc2⟩
  unfold jn
  have body : ∀ b : Bool, ∃ (t : ByteArray) (c' : Cur), (if b = true then
(if (decide ((0 : Int) < (ByteArray.size s : Int))) = true then
((s_l01Below k ((c1.1, (c1.2.1, (c1.2.2.1, ()))), ((ByteArray.size s : Int), ()))).bind fun p6 =>
(if 0 ≤ p6.1 ∧ p6.1 ≤ (ByteArray.size s : Int) then
((s_l01Text k ((p6.2.1.1, (p6.2.1.2.1, (p6.2.1.2.2.1, ()))), ((1 : Int), ()))).bind fun p7 =>
(if ByteArray.size (ByteArray.extract s (Int.toNat (0 : Int)) (Int.toNat p6.1)) + ByteArray.size p7.1 ≤ maxStr then
(if 0 ≤ (wi64 (p6.1 + (1 : Int))) ∧ (wi64 (p6.1 + (1 : Int))) ≤ (ByteArray.size s : Int) then
(if ByteArray.size ((ByteArray.extract s (Int.toNat (0 : Int)) (Int.toNat p6.1)) ++ p7.1) + ByteArray.size (ByteArray.extract s (Int.toNat (wi64 (p6.1 + (1 : Int)))) (Int.toNat (ByteArray.size s : Int))) ≤ maxStr then
some ((((ByteArray.extract s (Int.toNat (0 : Int)) (Int.toNat p6.1)) ++ p7.1) ++ (ByteArray.extract s (Int.toNat (wi64 (p6.1 + (1 : Int)))) (Int.toNat (ByteArray.size s : Int)))), ((p7.2.1.1, (p7.2.1.2.1, (p7.2.1.2.2.1, ()))), ((), ())))
else none)
else none)
else none))
else none))
else
some (s, ((c1.1, (c1.2.1, (c1.2.2.1, ()))), ((), ()))))
else
some (s, ((c1.1, (c1.2.1, (c1.2.2.1, ()))), ((), ())))) = some (t, (c', ((), ()))) ∧ t.size ≤ 40000 ∧ CurOk c' := by
    intro b
    cases b with
    | false => exact ⟨s, c1, rfl, by omega, hc1⟩
    | true =>
      by_cases g : (0 : Int) < (s.size : Int)
      · obtain ⟨v, c2, e2, w0, w1, hc2⟩ := Below_is k c1 (s.size : Int) hc1
        have w1 := w1 g
        have q : 0 ≤ v ∧ v ≤ (s.size : Int) := by omega
        obtain ⟨t, c3, e3, ht, hc3⟩ := Text_is k c2 1 hc2 hk
        have z1 : (s.extract (Int.toNat 0) (Int.toNat v)).size ≤ s.size := by rw [ByteArray.size_extract]; omega
        have w : wi64 (v + 1) = v + 1 := w64_id _ (by omega)
        have z2 : (s.extract (Int.toNat (v + 1)) (Int.toNat (s.size : Int))).size ≤ s.size := by rw [ByteArray.size_extract]; omega
        have q2 : 0 ≤ v + 1 ∧ v + 1 ≤ (s.size : Int) := by omega
        have m1 : (s.extract (Int.toNat 0) (Int.toNat v)).size + t.size ≤ maxStr := max_ok _ _ (by omega)
        have m2 : (s.extract (Int.toNat 0) (Int.toNat v) ++ t).size + (s.extract (Int.toNat (v + 1)) (Int.toNat (s.size : Int))).size ≤ maxStr := max_ok _ _ (by rw [ByteArray.size_append]; omega)
        simp only [g, e2, q, e3, w, m1, q2, m2, and_self, decide_true, if_true, Option.bind_some]
        have z3 : (s.extract (Int.toNat 0) (Int.toNat v)).size = v.toNat := by rw [ByteArray.size_extract]; omega
        have z4 : (s.extract (Int.toNat (v + 1)) (Int.toNat (s.size : Int))).size = s.size - (v + 1).toNat := by rw [ByteArray.size_extract]; omega
        exact ⟨_, _, rfl, by rw [ByteArray.size_append, ByteArray.size_append]; omega, hc3⟩
      · simp only [g, decide_false, Bool.false_eq_true, if_true, if_false]
        exact ⟨_, _, rfl, by omega, hc1⟩
  by_cases g2 : a1 = 2
  · simp only [g0, g1, g2, decide_true, decide_false, Bool.false_eq_true, if_true, if_false]
    exact body true
  · simp only [g0, g1, g2, decide_false, Bool.false_eq_true, if_false]
    exact body (decide (a1 = 3))
theorem DrawReadPacket_is (k : Nat) (a : List Int) (ha : a.length ≤ 1048576) (hk : 1048576 < k) : ∃ t : ByteArray, s_DrawReadPacket k (a, ()) = some (t, ((), ())) ∧ t.size ≤ 50000 := by
  unfold s_DrawReadPacket
  obtain ⟨c, e1, hc⟩ := New_is k a ha (by omega)
  obtain ⟨p, c1, e2, hp, hc1⟩ := l12Any_is k c hc hk
  have e3 := s_PacketText_is k p hk
  have hs : (if pkB p = true then (pkS p, (true, ())) else ((⟨#[]⟩ : ByteArray), (false, ()))).1.size ≤ 304 := by
    split
    · rename_i h
      have := pkBy_len (pkB_ok h)
      show (pkS p).size ≤ 304
      rw [pkS, ByteArray.size_append, fourS_size, strOf_len]
      omega
    · show (0 : Nat) ≤ 304; omega
  generalize (if pkB p = true then (pkS p, (true, ())) else ((⟨#[]⟩ : ByteArray), (false, ()))) = r at e3 hs
  obtain ⟨s, ok, ⟨⟩⟩ := r
  simp only at hs
  obtain ⟨o, c2, e4, hc2⟩ := Once_is k c1 3 hc1
  simp only [e1, e2, e3, e4, Option.bind_some]
  cases o with
  | true =>
    have hu := unS_size s
    simp only [s_Unsealed_is k s (by omega) hk, if_true, Option.bind_some]
    generalize unS s = u at hu
    obtain ⟨t, ok2, ⟨⟩⟩ := u
    simp only at hu
    cases ok2 with
    | true =>
      obtain ⟨t2, c3, e5, h5, hc3⟩ := Spoilt_is k c2 t hc2 (by omega) hk
      simp only [e5, s_Sealed_is k t2 (by omega) hk, if_true, Option.bind_some]
      refine ⟨_, rfl, ?_⟩
      split
      · show (t2 ++ _).size ≤ 50000
        rw [ByteArray.size_append, fourS_size]
        omega
      · show (0 : Nat) ≤ 50000; omega
    | false =>
      simp only [Bool.false_eq_true, if_false]
      exact ⟨_, rfl, by omega⟩
  | false =>
    obtain ⟨t2, c3, e5, h5, hc3⟩ := Spoilt_is k c2 s hc2 (by omega) hk
    simp only [e5, Bool.false_eq_true, if_false, Option.bind_some]
    exact ⟨_, rfl, by omega⟩
theorem unS_join (s : ByteArray) (h : s.size ≤ 20000) : unS (s ++ strOf (four (sumL 4294967295 s))) = (s, (true, ())) := by
  have hz : (s ++ strOf (four (sumL 4294967295 s))).size = s.size + 4 := by rw [ByteArray.size_append, fourS_size]
  have hl := bytesOf_len s
  have e1 : (s ++ strOf (four (sumL 4294967295 s))).extract 0 s.size = s := by
    apply bytesOf_inj
    rw [bytesOf_extract, bytesOf_append, List.drop_zero, List.take_append_of_le_length (by omega), List.take_of_length_le (by omega)]
  have e2 : (s ++ strOf (four (sumL 4294967295 s))).extract s.size (s.size + 4) = strOf (four (sumL 4294967295 s)) := by
    apply bytesOf_inj
    have h4 := bytesOf_len (strOf (four (sumL 4294967295 s)))
    rw [fourS_size] at h4
    rw [bytesOf_extract, bytesOf_append, List.take_of_length_le (by rw [List.length_append]; omega), List.drop_append_of_le_length (by omega), List.drop_eq_nil_of_le (by omega), List.nil_append]
  unfold unS
  rw [hz, Nat.add_sub_cancel, e1, e2, if_pos ⟨by omega, by omega, rfl⟩]
theorem oneL_at {I : ByteArray} {a : Nat} {x : Int} {r : List Int} (h : (bytesOf I).drop a = x :: r) : oneL (I, ((a : Int), (false, ()))) = (x, (I, (((a + 1 : Nat) : Int), (false, ())))) ∧ (bytesOf I).drop (a + 1) = r := by
  have hl := bytesOf_len I
  have ha : a < I.size := by
    have := congrArg List.length h
    rw [List.length_drop, List.length_cons] at this
    omega
  rw [drop_get ha] at h
  obtain ⟨h1, h2⟩ := List.cons.inj h
  refine ⟨?_, h2⟩
  unfold oneL
  rw [if_pos ⟨rfl, by show (a : Int) < (I.size : Int); omega⟩]
  show (bt I (a : Int), _) = _
  rw [h1]
  rfl
theorem numL_at {I : ByteArray} {a n : Nat} {r : List Int} (hn : n ≤ 1000000000) (h : (bytesOf I).drop a = enc n ++ r) : numL (I, ((a : Int), (false, ()))) = ((n : Int), (I, (((a + (enc n).length : Nat) : Int), (false, ())))) ∧ (bytesOf I).drop (a + (enc n).length) = r := by
  have hr : rvL I a = ((n : Int), (((a + (enc n).length : Nat) : Int), (true, ()))) := by
    unfold rvL
    rw [h, decL_enc 5 n r (enc5 n hn)]
    simp [hn]
  refine ⟨?_, ?_⟩
  · unfold numL
    simp only [Int.toNat_natCast, hr, and_self, if_true]
  · rw [← List.drop_drop, h, List.drop_left]
theorem acksL_at {I : ByteArray} : ∀ (l : List Int) {a : Nat} {r : List Int}, (∀ n ∈ l, 1 ≤ n ∧ n ≤ 1000000000) → (bytesOf I).drop a = encs l ++ r →
    acksL l.length (I, ((a : Int), (false, ()))) = (l, (I, (((a + (encs l).length : Nat) : Int), (false, ())))) ∧ (bytesOf I).drop (a + (encs l).length) = r
  | [], a, r, _, h => ⟨rfl, h⟩
  | n :: l, a, r, hn, h => by
    have h1 := hn n (by simp)
    rw [encs_cons, List.append_assoc] at h
    obtain ⟨e1, e2⟩ := numL_at (by omega : n.toNat ≤ 1000000000) h
    obtain ⟨e3, e4⟩ := acksL_at l (fun m hm => hn m (by simp [hm])) e2
    rw [encs_cons, List.length_append, ← Nat.add_assoc]
    refine ⟨?_, e4⟩
    show ((numL _).1 :: (acksL l.length (numL _).2).1, (acksL l.length (numL _).2).2) = _
    rw [e1]
    show ((n.toNat : Int) :: (acksL l.length _).1, (acksL l.length _).2) = _
    rw [e3, Int.toNat_of_nonneg (by omega)]
theorem read_of {p : Pk} (hp : pkB p = true) : readI (hdL (pkS p)) = (p, (true, ())) := by
  have h := pkB_ok hp
  have hl := pkBy_len h
  have hB := pkBy_isB h
  have hu : unS (pkS p) = (strOf (pkBy p), (true, ())) := unS_join (strOf (pkBy p)) (by rw [strOf_len]; omega)
  have hb : bytesOf (strOf (pkBy p)) = pkBy p := bytesOf_strOf hB
  have d0 : (bytesOf (strOf (pkBy p))).drop 0 = (8 * p.1 + p.2.1) :: p.2.2.1 :: p.2.2.2.1 :: (enc p.2.2.2.2.1.toNat ++ (enc p.2.2.2.2.2.1.length ++ (encs p.2.2.2.2.2.1 ++ bytesOf p.2.2.2.2.2.2.1))) := by rw [hb]; rfl
  obtain ⟨a1, d1⟩ := oneL_at d0
  obtain ⟨a2, d2⟩ := oneL_at d1
  obtain ⟨a3, d3⟩ := oneL_at d2
  have hnum := h.num
  obtain ⟨a4, d4⟩ := numL_at (by omega : p.2.2.2.2.1.toNat ≤ 1000000000) d3
  have hlen := h.len
  obtain ⟨a5, d5⟩ := numL_at (by omega : p.2.2.2.2.2.1.length ≤ 1000000000) d4
  obtain ⟨a6, d6⟩ := acksL_at p.2.2.2.2.2.1 h.acks d5
  have hh : hdL (pkS p) = ⟨p.1, p.2.1, p.2.2.1, p.2.2.2.1, p.2.2.2.2.1, (p.2.2.2.2.2.1.length : Int), (strOf (pkBy p), (((0 + 1 + 1 + 1 + (enc p.2.2.2.2.1.toNat).length + (enc p.2.2.2.2.2.1.length).length : Nat) : Int), (false, ())))⟩ := by
    unfold hdL
    rw [hu]
    simp only [Bool.not_true]
    have a1' : oneL (strOf (pkBy p), ((0 : Int), (false, ()))) = _ := a1
    rw [a1', a2, a3, a4, a5]
    have ho := h.op
    have hk := h.key
    have q1 : (8 * p.1 + p.2.1) / 8 = p.1 := by omega
    have q2 : (8 * p.1 + p.2.1) % 8 = p.2.1 := by omega
    simp only [q1, q2, Int.toNat_of_nonneg hnum.1]
  rw [hh]
  have hm : min ((p.2.2.2.2.2.1.length : Int)).toNat 5 = p.2.2.2.2.2.1.length := by rw [Int.toNat_natCast]; omega
  have hrest : restL (strOf (pkBy p), (((0 + 1 + 1 + 1 + (enc p.2.2.2.2.1.toNat).length + (enc p.2.2.2.2.2.1.length).length + (encs p.2.2.2.2.2.1).length : Nat) : Int), (false, ()))) = p.2.2.2.2.2.2.1 := by
    unfold restL
    simp only [Int.toNat_natCast]
    apply bytesOf_inj
    rw [bytesOf_extract, List.take_of_length_le (by rw [bytesOf_len]; exact Nat.le_refl _)]
    exact d6
  have hpk : pkOf ⟨p.1, p.2.1, p.2.2.1, p.2.2.2.1, p.2.2.2.2.1, (p.2.2.2.2.2.1.length : Int), (strOf (pkBy p), (((0 + 1 + 1 + 1 + (enc p.2.2.2.2.1.toNat).length + (enc p.2.2.2.2.2.1.length).length : Nat) : Int), (false, ())))⟩ p.2.2.2.2.2.1.length = p := by
    unfold pkOf
    simp only [a6, hrest]
  unfold readI
  simp only [hm, a6, hpk, hp, Bool.false_eq_true, if_true, if_false]
theorem read_none {t : ByteArray} (h : (unS t).2.1 = false) : (readI (hdL t)).2.1 = false := by
  unfold readI hdL
  simp only [h, Bool.not_false]
  rw [if_pos]
  · rfl
  · exact acksL_bad _ (numL_bad (numL_bad (oneL_bad (oneL_bad (oneL_bad rfl)))))
theorem read_some {t : ByteArray} (ht : t.size ≤ 1048576) (h : (readI (hdL t)).2.1 = true) : pkB (readI (hdL t)).1 = true ∧ pkS (readI (hdL t)).1 = t := by
  rw [← readS_readI t ht] at h ⊢
  unfold readS at h ⊢
  simp only at h ⊢
  split at h
  · cases h
  · rename_i h1
    rw [if_neg h1]
    split at h
    · rename_i h2
      rw [if_pos h2]
      exact h2
    · cases h
theorem i_byteText_is (k : Nat) (n : Int) (h : 0 ≤ n ∧ n < 256) : i_byteText k (n, ()) = some (strOf [n], ((), ())) := by
  unfold i_byteText
  simp only [w8_id n h]
theorem i_VarText_some (k n : Nat) (hn : n ≤ 1000000000) (hk : 1048576 < k) : i_VarText k ((n : Int), ()) = some ((strOf (enc n), (true, ())), ((), ())) := by
  unfold i_VarText
  have c0 : (0 : Int) ≤ (n : Int) ∧ (n : Int) ≤ 1000000000 := by omega
  have hn8 : n < 128 ^ 8 := by have : (128 : Nat) ^ 8 = 72057594037927936 := by decide
                               omega
  simp only [within_is, c0, and_self, decide_true, Bool.not_true, Bool.false_eq_true, if_false, Option.bind_some]
  refine (var_loop (fun l => (some ((strOf l, (true, ())), ((), ())) : Option ((ByteArray × Bool × Unit) × Unit × Unit))) ?_ ?_ 7 n [] k hn8 (by omega) (by simp) (by omega)).trans rfl
  · intro again n out c h ho
    obtain ⟨e1, e2⟩ := var_step n h c
    have g : (127 : Int) < (n : Int) := by omega
    simp only [g, e1, e2, decide_true, if_true]
    rw [if_pos (cap_ok _ _ (by simp; omega))]
  · intro again n out c ho
    have g : ¬ (127 : Int) < (n : Int) := by omega
    have e : wu8 (n : Int) = (n : Int) := w8_id _ (by omega)
    simp only [g, e, decide_false, Bool.false_eq_true, if_false]
    rw [if_pos (cap_ok _ _ (by simp; omega))]
theorem encs_append (a b : List Int) : encs (a ++ b) = encs a ++ encs b := by simp [encs]
theorem encs_le : ∀ (l : List Int), (∀ n ∈ l, 0 ≤ n ∧ n ≤ 1000000000) → (encs l).length ≤ 5 * l.length
  | [], _ => by simp [encs]
  | n :: l, h => by
    rw [encs_cons, List.length_append, List.length_cons]
    have h1 := enc5 n.toNat (by have := h n (by simp); omega)
    have h2 := encs_le l (fun m hm => h m (by simp [hm]))
    omega
theorem varTexts_is (k : Nat) (l : List Int) (hl : l.length ≤ 100) (h : ∀ n ∈ l, 0 ≤ n ∧ n ≤ 1000000000) (hk : 1048576 < k) : i_varTexts k (l, ()) = some (strOf (encs l), ((), ())) := by
  unfold i_varTexts
  refine (run_loop (A := Unit) (fun i _ => (strOf (encs (l.take i)), (l, ((l.length : Int), ((i : Int), ()))))) l.length (fun _ _ => ()) (fun _ => some (strOf (encs l), ((), ()))) (fun _ _ => True) ?_ ?_ l.length 0 () k (by omega) trivial (by omega)).trans rfl
  · intro again i _ hi _
    have c1 : (i : Int) < (l.length : Int) := by omega
    have c2 : (0 : Int) ≤ (i : Int) := by omega
    have w1 : wi64 ((i : Int) + 1) = ((i + 1 : Nat) : Int) := (w64_id _ (by omega)).trans (by omega)
    have e0 : Ty.rd (t := (.int .i64)) l (i : Int) = l[i] := rd_get (t := .int .i64) l _ (by simpa using hi)
    have hr := h l[i] (List.getElem_mem _)
    have e1 := i_VarText_some k l[i].toNat (by omega) hk
    rw [Int.toNat_of_nonneg hr.1] at e1
    have ht := encs_le (l.take i) (fun n hn => h n (List.mem_of_mem_take hn))
    have h5 := enc5 l[i].toNat (by omega)
    have hm : (strOf (encs (l.take i))).size + (strOf (enc l[i].toNat)).size ≤ maxStr := max_ok _ _ (by rw [strOf_len, strOf_len]; rw [List.length_take] at ht; omega)
    refine ⟨?_, trivial⟩
    simp only [c1, c2, w1, e0, e1, hm, and_self, decide_true, if_true, Option.bind_some]
    rw [List.take_succ_eq_append_getElem hi, encs_append, ← strOf_append]
    simp [encs]
  · intro again _ _
    simp [List.take_of_length_le]
theorem i_PacketText_is (k : Nat) (p : Pk) (hl : p.2.2.2.2.2.1.length ≤ 1048576) (hk : 1048576 < k) : i_PacketText k (p, ()) = some (if pkB p = true then (pkS p, (true, ())) else ((⟨#[]⟩ : ByteArray), (false, ())), ((), ())) := by
  unfold i_PacketText
  rw [show i_PacketOk k ((p.1, (p.2.1, (p.2.2.1, (p.2.2.2.1, (p.2.2.2.2.1, (p.2.2.2.2.2.1, (p.2.2.2.2.2.2.1, ()))))))), ()) = _ from i_PacketOk_is k p hl hk]
  simp only [Option.bind_some]
  by_cases hb : pkB p = true
  · have h := pkB_ok hb
    have ho := h.op; have hkey := h.key; have hfr := h.fr; have hto := h.dst; have hnum := h.num; have hlen := h.len; have hbody := h.body
    have w : wi64 (wi64 (8 * p.1) + p.2.1) = 8 * p.1 + p.2.1 := by
      rw [show wi64 (8 * p.1) = 8 * p.1 from w64_id _ (by omega)]
      exact w64_id _ (by omega)
    have v1 := varTexts_is k [p.2.2.2.2.1, (p.2.2.2.2.2.1.length : Int)] (by simp) (by intro n hn; simp at hn; rcases hn with rfl | rfl <;> omega) hk
    have v2 := varTexts_is k p.2.2.2.2.2.1 (by omega) (fun n hn => by have := h.acks n hn; omega) hk
    have l1 := encs_le [p.2.2.2.2.1, (p.2.2.2.2.2.1.length : Int)] (by intro n hn; simp at hn; rcases hn with rfl | rfl <;> omega)
    have l2 := encs_le p.2.2.2.2.2.1 (fun n hn => by have := h.acks n hn; omega)
    simp only [List.length_cons, List.length_nil] at l1
    have hs : ∀ a b : ByteArray, a.size ≤ 1000000 → b.size ≤ 1000000 → a.size + b.size ≤ maxStr := fun a b h1 h2 => max_ok _ _ (by omega)
    have z1 : (strOf [8 * p.1 + p.2.1]).size = 1 := strOf_len _
    have z2 : (strOf [p.2.2.1]).size = 1 := strOf_len _
    have z3 : (strOf [p.2.2.2.1]).size = 1 := strOf_len _
    have z4 := strOf_len (encs [p.2.2.2.2.1, (p.2.2.2.2.2.1.length : Int)])
    have z5 := strOf_len (encs p.2.2.2.2.2.1)
    simp only [hb, w, i_byteText_is k (8 * p.1 + p.2.1) (by omega), i_byteText_is k p.2.2.1 (by omega), i_byteText_is k p.2.2.2.1 (by omega), v1, v2, Bool.not_true, Bool.false_eq_true, if_false, if_true, Option.bind_some]
    rw [if_pos (hs _ _ (by omega) (by omega)), if_pos (hs _ _ (by rw [ByteArray.size_append]; omega) (by omega)), if_pos (hs _ _ (by rw [ByteArray.size_append, ByteArray.size_append]; omega) (by omega)), if_pos (hs _ _ (by rw [ByteArray.size_append, ByteArray.size_append, ByteArray.size_append]; omega) (by omega)),
      if_pos (hs _ _ (by rw [ByteArray.size_append, ByteArray.size_append, ByteArray.size_append, ByteArray.size_append]; omega) (by omega))]
    have hall : ((((strOf [8 * p.1 + p.2.1] ++ strOf [p.2.2.1]) ++ strOf [p.2.2.2.1]) ++ strOf (encs [p.2.2.2.2.1, (p.2.2.2.2.2.1.length : Int)])) ++ strOf (encs p.2.2.2.2.2.1)) ++ p.2.2.2.2.2.2.1 = strOf (pkBy p) := by
      apply bytesOf_inj
      rw [bytesOf_strOf (pkBy_isB h)]
      simp only [bytesOf_append]
      rw [bytesOf_strOf (by simp only [isB_cons]; exact ⟨by omega, isB_nil⟩), bytesOf_strOf (by simp only [isB_cons]; exact ⟨by omega, isB_nil⟩), bytesOf_strOf (by simp only [isB_cons]; exact ⟨by omega, isB_nil⟩), bytesOf_strOf (encs_isB _), bytesOf_strOf (encs_isB _)]
      simp [pkBy, encs]
    rw [hall]
    have hL := pkBy_len h
    have hsz : (strOf (pkBy p)).size ≤ 20000 := by rw [strOf_len]; omega
    simp only [i_Sealed_is k _ (by omega : (strOf (pkBy p)).size ≤ 1048576) hk, hsz, if_true, Option.bind_some]
    rfl
  · have hb' : pkB p = false := by simpa using hb
    simp only [hb', Bool.not_false, Bool.false_eq_true, if_true, if_false]
def W32 (x : Int) : Prop := 0 ≤ x ∧ x < 4294967296
def allW (l : List Int) : Prop := ∀ x ∈ l, W32 x
def xr (a b : Int) : Int := ((a.toNat ^^^ b.toNat : Nat) : Int)
def an (a b : Int) : Int := ((a.toNat &&& b.toNat : Nat) : Int)
theorem toNat_lt32 {a : Int} (h : W32 a) : a.toNat < 2 ^ 32 := by obtain ⟨h1, h2⟩ := h; omega
theorem xr_W {a b : Int} (ha : W32 a) (hb : W32 b) : W32 (xr a b) := by
  have := Nat.xor_lt_two_pow (toNat_lt32 ha) (toNat_lt32 hb)
  unfold xr W32
  omega
theorem an_W {a b : Int} (ha : W32 a) : W32 (an a b) := by
  have := Nat.and_le_left (n := a.toNat) (m := b.toNat)
  have := toNat_lt32 ha
  unfold an W32
  omega
theorem ofInt_toNat {n : Nat} {a : Int} (hn : 32 ≤ n) (h : W32 a) : (BitVec.ofInt n a).toNat = a.toNat := by
  rw [BitVec.toNat_ofInt]
  obtain ⟨h1, h2⟩ := h
  have hp : (2 : Nat) ^ 32 ≤ 2 ^ n := Nat.pow_le_pow_right (by omega) hn
  have : (2 : Nat) ^ 32 = 4294967296 := by decide
  rw [Int.emod_eq_of_lt h1 (by omega)]
theorem xor32_is {a b : Int} (ha : W32 a) (hb : W32 b) : bitsI .xor .u32 a b = xr a b := by
  have h := xr_W ha hb
  unfold bitsI
  simp only [BitVec.toNat_xor, ofInt_toNat (show 32 ≤ IntKind.bits .u32 by decide) ha, ofInt_toNat (show 32 ≤ IntKind.bits .u32 by decide) hb]
  show IntKind.u32.wrap (xr a b) = xr a b
  obtain ⟨h1, h2⟩ := h
  rw [IntKind.wrap_u32]
  omega
theorem xor64_is {a b : Int} (ha : W32 a) (hb : W32 b) : bitsI .xor .i64 a b = xr a b := by
  have h := xr_W ha hb
  unfold bitsI
  simp only [BitVec.toNat_xor, ofInt_toNat (show 32 ≤ IntKind.bits .i64 by decide) ha, ofInt_toNat (show 32 ≤ IntKind.bits .i64 by decide) hb]
  obtain ⟨h1, h2⟩ := h
  exact w64_id (xr a b) (by omega)
theorem and32_is {a b : Int} (ha : W32 a) (hb : W32 b) : bitsI .and .u32 a b = an a b := by
  have h := an_W (b := b) ha
  unfold bitsI
  simp only [BitVec.toNat_and, ofInt_toNat (show 32 ≤ IntKind.bits .u32 by decide) ha, ofInt_toNat (show 32 ≤ IntKind.bits .u32 by decide) hb]
  show IntKind.u32.wrap (an a b) = an a b
  obtain ⟨h1, h2⟩ := h
  rw [IntKind.wrap_u32]
  omega
theorem and64_is {a b : Int} (ha : W32 a) (hb : W32 b) : bitsI .and .i64 a b = an a b := by
  have h := an_W (b := b) ha
  unfold bitsI
  simp only [BitVec.toNat_and, ofInt_toNat (show 32 ≤ IntKind.bits .i64 by decide) ha, ofInt_toNat (show 32 ≤ IntKind.bits .i64 by decide) hb]
  obtain ⟨h1, h2⟩ := h
  exact w64_id (an a b) (by omega)
/-- All bits turned. -/
theorem flip_is {e : Int} (h : W32 e) : xr 4294967295 e = 4294967295 - e := by
  have hl := toNat_lt32 h
  have : (4294967295 ^^^ e.toNat : Nat) = 2 ^ 32 - (e.toNat + 1) := by
    apply Nat.eq_of_testBit_eq
    intro i
    rw [Nat.testBit_xor, Nat.testBit_two_pow_sub_succ hl, show (4294967295 : Nat) = 2 ^ 32 - 1 by decide, Nat.testBit_two_pow_sub_one]
    by_cases hi : i < 32
    · simp [hi]
    · have : e.toNat.testBit i = false := Nat.testBit_lt_two_pow (Nat.lt_of_lt_of_le hl (Nat.pow_le_pow_right (by omega) (by omega)))
      simp [hi, this]
  obtain ⟨h1, h2⟩ := h
  unfold xr
  rw [show Int.toNat 4294967295 = 4294967295 by rfl, this]
  omega
/-- A word that is turned right. -/
def rt (x : Int) (n : Nat) : Int := x / 2 ^ n + x % 2 ^ n * 2 ^ (32 - n)
theorem rt_nat {x n : Nat} (hn : n ≤ 32) (hx : x < 2 ^ 32) : x / 2 ^ n < 2 ^ (32 - n) ∧ x / 2 ^ n + x % 2 ^ n * 2 ^ (32 - n) < 2 ^ 32 := by
  have hp : 2 ^ n * 2 ^ (32 - n) = 2 ^ 32 := by rw [← Nat.pow_add]; congr 1; omega
  have h1 : x / 2 ^ n < 2 ^ (32 - n) := Nat.div_lt_of_lt_mul (by rw [hp]; exact hx)
  refine ⟨h1, ?_⟩
  have h2 : x % 2 ^ n + 1 ≤ 2 ^ n := Nat.mod_lt _ (Nat.two_pow_pos n)
  have h3 : (x % 2 ^ n + 1) * 2 ^ (32 - n) ≤ 2 ^ 32 := by rw [← hp]; exact Nat.mul_le_mul_right _ h2
  rw [Nat.add_mul] at h3
  omega
theorem rt_cast (x n : Nat) : rt (x : Int) n = ((x / 2 ^ n + x % 2 ^ n * 2 ^ (32 - n) : Nat) : Int) := by
  unfold rt
  push_cast
  rfl
theorem W32_nat {n : Nat} (h : n < 2 ^ 32) : W32 (n : Int) := by
  have p32 : (2 : Nat) ^ 32 = 4294967296 := by decide
  exact ⟨by omega, by omega⟩
theorem rt_W {x : Int} {n : Nat} (hn : n ≤ 32) (h : W32 x) : W32 (rt x n) := by
  obtain ⟨m, rfl⟩ := Int.eq_ofNat_of_zero_le h.1
  have := (rt_nat hn (toNat_lt32 h)).2
  simp only [Int.toNat_natCast] at this
  rw [rt_cast]
  exact W32_nat this
theorem rot_or {x n : Nat} (hn : n ≤ 32) (hx : x < 2 ^ 32) : (x / 2 ^ n ||| x * 2 ^ (32 - n)) % 2 ^ 32 = x / 2 ^ n + x % 2 ^ n * 2 ^ (32 - n) := by
  have hp : 2 ^ n * 2 ^ (32 - n) = 2 ^ 32 := by rw [← Nat.pow_add]; congr 1; omega
  obtain ⟨h1, h2⟩ := rt_nat hn hx
  rw [Nat.or_mod_two_pow, Nat.mod_eq_of_lt (Nat.lt_of_le_of_lt (Nat.div_le_self _ _) hx)]
  have e : x * 2 ^ (32 - n) % 2 ^ 32 = 2 ^ (32 - n) * (x % 2 ^ n) := by rw [← hp, Nat.mul_mod_mul_right, Nat.mul_comm]
  rw [e, Nat.or_comm, ← Nat.two_pow_add_eq_or_of_lt h1, Nat.mul_comm, Nat.add_comm]
theorem stepS_inj {x y : Int} (hx : W32 x) (hy : W32 y) (h : stepS x = stepS y) : x = y := by
  have hP : W32 3558460437 := ⟨by decide, by decide⟩
  have d : ∀ z : Int, W32 z → wu32 (Int.tdiv z 2) = z / 2 := fun z hz => by
    obtain ⟨h0, h1⟩ := hz
    rw [Int.tdiv_eq_ediv_of_nonneg h0]
    show IntKind.u32.wrap _ = _
    rw [IntKind.wrap_u32]
    omega
  have dW : ∀ z : Int, W32 z → W32 (z / 2) := fun z hz => by obtain ⟨h0, h1⟩ := hz; exact ⟨by omega, by omega⟩
  have m : ∀ z : Int, W32 z → Int.tmod z 2 = z % 2 := fun z hz => Int.tmod_eq_emod_of_nonneg hz.1
  have top : ∀ a : Int, W32 a → a < 2147483648 → 2147483648 ≤ xr a 3558460437 := fun a ha hlt => by
    obtain ⟨h0, _⟩ := ha
    have hn : a.toNat < 2 ^ 31 := by have : (2 : Nat) ^ 31 = 2147483648 := by decide
                                     omega
    have tb : (a.toNat ^^^ 3558460437).testBit 31 = true := by
      rw [Nat.testBit_xor, Nat.testBit_lt_two_pow hn]
      decide
    by_cases c : a.toNat ^^^ 3558460437 < 2 ^ 31
    · rw [Nat.testBit_lt_two_pow c] at tb
      cases tb
    · have : (2 : Nat) ^ 31 = 2147483648 := by decide
      unfold xr
      rw [show Int.toNat 3558460437 = 3558460437 by rfl]
      omega
  have canc : ∀ a b : Int, W32 a → W32 b → xr a 3558460437 = xr b 3558460437 → a = b := fun a b ha hb e => by
    unfold xr at e
    rw [show Int.toNat 3558460437 = 3558460437 by rfl] at e
    have e' : a.toNat ^^^ 3558460437 = b.toNat ^^^ 3558460437 := by omega
    have := congrArg (· ^^^ 3558460437) e'
    simp only [Nat.xor_assoc, Nat.xor_self, Nat.xor_zero] at this
    obtain ⟨a0, _⟩ := ha
    obtain ⟨b0, _⟩ := hb
    omega
  unfold stepS at h
  rw [m x hx, m y hy, d x hx, d y hy] at h
  have hx2 := dW x hx
  have hy2 := dW y hy
  obtain ⟨x0, x1⟩ := hx
  obtain ⟨y0, y1⟩ := hy
  by_cases cx : x % 2 = 1
  · by_cases cy : y % 2 = 1
    · rw [if_pos cx, if_pos cy, xor32_is hx2 hP, xor32_is hy2 hP] at h
      have := canc _ _ hx2 hy2 h
      omega
    · rw [if_pos cx, if_neg cy, xor32_is hx2 hP] at h
      have := top _ hx2 (by omega)
      omega
  · by_cases cy : y % 2 = 1
    · rw [if_neg cx, if_pos cy, xor32_is hy2 hP] at h
      have := top _ hy2 (by omega)
      omega
    · rw [if_neg cx, if_neg cy] at h
      omega
theorem stepS_W (x : Int) : W32 (stepS x) := stepS_range x
theorem step8_inj {x y : Int} (hx : W32 x) (hy : W32 y) (h : step8 x = step8 y) : x = y := by
  unfold step8 at h
  exact stepS_inj hx hy (stepS_inj (stepS_W _) (stepS_W _) (stepS_inj (stepS_W _) (stepS_W _) (stepS_inj (stepS_W _) (stepS_W _) (stepS_inj (stepS_W _) (stepS_W _) (stepS_inj (stepS_W _) (stepS_W _) (stepS_inj (stepS_W _) (stepS_W _) (stepS_inj (stepS_W _) (stepS_W _) h)))))))
theorem xr_left {a b c : Int} (ha : 0 ≤ a) (hb : 0 ≤ b) (h : xr a c = xr b c) : a = b := by
  unfold xr at h
  have e' : a.toNat ^^^ c.toNat = b.toNat ^^^ c.toNat := by omega
  have := congrArg (· ^^^ c.toNat) e'
  simp only [Nat.xor_assoc, Nat.xor_self, Nat.xor_zero] at this
  omega
theorem xr_comm (a b : Int) : xr a b = xr b a := by unfold xr; rw [Nat.xor_comm]
def gB (b x : Int) : Int := step8 (bitsI .xor .u32 x (wu32 b))
theorem gB_W (b x : Int) : W32 (gB b x) := step8_range _
theorem u32_byte {b : Int} (h : 0 ≤ b ∧ b < 256) : wu32 b = b := by
  show IntKind.u32.wrap b = b
  rw [IntKind.wrap_u32]
  omega
theorem gB_state {b x y : Int} (hb : 0 ≤ b ∧ b < 256) (hx : W32 x) (hy : W32 y) (h : gB b x = gB b y) : x = y := by
  have hB : W32 b := ⟨hb.1, by omega⟩
  unfold gB at h
  rw [u32_byte hb, xor32_is hx hB, xor32_is hy hB] at h
  exact xr_left hx.1 hy.1 (step8_inj (xr_W hx hB) (xr_W hy hB) h)
theorem gB_byte {b c x : Int} (hb : 0 ≤ b ∧ b < 256) (hc : 0 ≤ c ∧ c < 256) (hx : W32 x) (h : gB b x = gB c x) : b = c := by
  have hB : W32 b := ⟨hb.1, by omega⟩
  have hC : W32 c := ⟨hc.1, by omega⟩
  unfold gB at h
  rw [u32_byte hb, u32_byte hc, xor32_is hx hB, xor32_is hx hC] at h
  have := step8_inj (xr_W hx hB) (xr_W hx hC) h
  rw [xr_comm x b, xr_comm x c] at this
  exact xr_left hb.1 hc.1 this
/-- The sum over a list of bytes. -/
def sumB : List Int → Int → Int
  | [], x => x
  | b :: r, x => sumB r (gB b x)
theorem sumB_iter (s : ByteArray) : ∀ (m i : Nat) (x : Int), i + m = s.size → iterN (sumG s) m i x = sumB ((bytesOf s).drop i) x
  | 0, i, x, h => by
    rw [List.drop_eq_nil_of_le (by rw [bytesOf_len]; omega)]
    rfl
  | m + 1, i, x, h => by
    have hi : i < s.size := by omega
    rw [List.drop_eq_getElem_cons (by rw [bytesOf_len]; omega), ← bt_get s i hi]
    show iterN (sumG s) m (i + 1) (sumG s i x) = sumB _ (gB (bt s (i : Int)) x)
    exact sumB_iter s m (i + 1) _ (by omega)
theorem sumL_B (x : Int) (s : ByteArray) : sumL x s = sumB (bytesOf s) x := by
  unfold sumL
  rw [sumB_iter s s.size 0 x (by omega), List.drop_zero]
theorem sumB_ne : ∀ {l : List Int} {x y : Int}, isB l → W32 x → W32 y → x ≠ y → sumB l x ≠ sumB l y
  | [], _, _, _, _, _, h => h
  | b :: r, x, y, hB, hx, hy, h => by
    obtain ⟨hb, hr⟩ := isB_cons.1 hB
    show sumB r (gB b x) ≠ sumB r (gB b y)
    exact sumB_ne hr (gB_W _ _) (gB_W _ _) fun e => h (gB_state hb hx hy e)
theorem sumB_turn : ∀ {l : List Int} {i : Nat} {y x : Int}, isB l → 0 ≤ y ∧ y < 256 → W32 x → (hi : i < l.length) → y ≠ l[i] → sumB (l.set i y) x ≠ sumB l x
  | [], _, _, _, _, _, _, hi, _ => by simp at hi
  | b :: r, 0, y, x, hB, hy, hx, _, h => by
    obtain ⟨hb, hr⟩ := isB_cons.1 hB
    rw [List.set_cons_zero]
    show sumB r (gB y x) ≠ sumB r (gB b x)
    exact sumB_ne hr (gB_W _ _) (gB_W _ _) fun e => h (gB_byte hy hb hx e)
  | b :: r, i + 1, y, x, hB, hy, hx, hi, h => by
    obtain ⟨hb, hr⟩ := isB_cons.1 hB
    rw [List.set_cons_succ]
    show sumB (r.set i y) (gB b x) ≠ sumB r (gB b x)
    exact sumB_turn hr hy (gB_W _ _) (by simpa using hi) (by simpa using h)
theorem isB_set {l : List Int} {i : Nat} {y : Int} (h : isB l) (hy : 0 ≤ y ∧ y < 256) : isB (l.set i y) := by
  intro x hx
  rcases List.mem_or_eq_of_mem_set hx with hx | rfl
  · exact h x hx
  · exact hy
/-- A sealed text with one byte turned is not sealed. -/
theorem unS_turn {s : ByteArray} {i : Nat} {y : Int} (hs : (unS s).2.1 = true) (hy : 0 ≤ y ∧ y < 256) (hi : i < (bytesOf s).length) (hne : y ≠ (bytesOf s)[i]) : (unS (strOf ((bytesOf s).set i y))).2.1 = false := by
  have hl := bytesOf_len s
  have hB := bytesOf_isB s
  have hsz : (strOf ((bytesOf s).set i y)).size = s.size := by rw [strOf_len, List.length_set, hl]
  have hb' : bytesOf (strOf ((bytesOf s).set i y)) = (bytesOf s).set i y := bytesOf_strOf (isB_set hB hy)
  unfold unS at hs ⊢
  split at hs
  case isFalse => cases hs
  rename_i hc
  obtain ⟨n4, n20, hc⟩ := hc
  rw [hsz]
  rw [if_neg]
  rintro ⟨_, _, hc'⟩
  have e1 := congrArg bytesOf hc
  have e2 := congrArg bytesOf hc'
  have r1 := sumL_range 4294967295 (s.extract 0 (s.size - 4)) (by omega)
  have r2 := sumL_range 4294967295 ((strOf ((bytesOf s).set i y)).extract 0 (s.size - 4)) (by omega)
  rw [bytesOf_strOf (four_isB _), bytesOf_extract, List.take_of_length_le (by omega)] at e1
  rw [bytesOf_strOf (four_isB _), bytesOf_extract, hb', List.take_of_length_le (by rw [List.length_set]; omega)] at e2
  have s1 : sumL 4294967295 (s.extract 0 (s.size - 4)) = sumB ((bytesOf s).take (s.size - 4)) 4294967295 := by rw [sumL_B, bytesOf_extract, List.drop_zero]
  have s2 : sumL 4294967295 ((strOf ((bytesOf s).set i y)).extract 0 (s.size - 4)) = sumB (((bytesOf s).set i y).take (s.size - 4)) 4294967295 := by rw [sumL_B, bytesOf_extract, hb', List.drop_zero]
  rw [s1] at e1 r1
  rw [s2] at e2 r2
  by_cases c : i < s.size - 4
  · have t1 : ((bytesOf s).set i y).drop (s.size - 4) = (bytesOf s).drop (s.size - 4) := by rw [List.drop_set, if_pos (by omega)]
    have t2 : ((bytesOf s).set i y).take (s.size - 4) = ((bytesOf s).take (s.size - 4)).set i y := by rw [List.take_set]
    rw [t1, e1] at e2
    have := four_inj r1 r2 e2
    rw [t2] at this
    refine sumB_turn (isB_take hB _) hy ⟨by decide, by decide⟩ (by rw [List.length_take]; omega) ?_ this.symm
    rw [List.getElem_take]
    exact hne
  · have t2 : ((bytesOf s).set i y).take (s.size - 4) = (bytesOf s).take (s.size - 4) := by rw [List.take_set, List.set_eq_of_length_le (by rw [List.length_take]; omega)]
    rw [t2, ← e1] at e2
    have := congrArg (fun l : List Int => l[i - (s.size - 4)]?) e2
    simp only [List.getElem?_drop] at this
    rw [show s.size - 4 + (i - (s.size - 4)) = i by omega, List.getElem?_set_self (by omega), List.getElem?_eq_getElem hi] at this
    exact hne (Option.some.inj this)
theorem bx_ne {b v : Int} (hb : 0 ≤ b ∧ b < 256) (hv : 1 ≤ v ∧ v ≤ 255) : bitsI .xor .u8 b v ≠ b ∧ 0 ≤ bitsI .xor .u8 b v ∧ bitsI .xor .u8 b v < 256 := by
  have hr : 0 ≤ bitsI .xor .u8 b v ∧ bitsI .xor .u8 b v < 256 := by
    unfold bitsI
    simp only []
    rw [IntKind.wrap_u8]
    omega
  refine ⟨fun e => ?_, hr⟩
  have hb8 : (BitVec.ofInt 8 b).toNat = b.toNat := by
    rw [BitVec.toNat_ofInt]
    show (b % (256 : Int)).toNat = _
    rw [Int.emod_eq_of_lt hb.1 hb.2]
  have hv8 : (BitVec.ofInt 8 v).toNat = v.toNat := by
    rw [BitVec.toNat_ofInt]
    show (v % (256 : Int)).toNat = _
    rw [Int.emod_eq_of_lt (by omega) (by omega)]
  have hx : bitsI .xor .u8 b v = ((b.toNat ^^^ v.toNat : Nat) : Int) := by
    have hlt : b.toNat ^^^ v.toNat < 2 ^ 8 := Nat.xor_lt_two_pow (by omega) (by omega)
    have p8 : (2 : Nat) ^ 8 = 256 := by decide
    unfold bitsI
    show IntKind.u8.wrap ((BitVec.ofInt 8 b ^^^ BitVec.ofInt 8 v).toNat : Int) = _
    rw [BitVec.toNat_xor, hb8, hv8, IntKind.wrap_u8]
    omega
  rw [hx] at e
  have e' : b.toNat ^^^ v.toNat = b.toNat := by omega
  have := congrArg (b.toNat ^^^ ·) e'
  simp only [← Nat.xor_assoc, Nat.xor_self, Nat.zero_xor] at this
  omega
theorem sameInts_is (k : Nat) (l : List Int) (hl : l.length ≤ 1048576) (hk : 1048576 < k) : w_sameInts k (l, (l, ())) = some (true, ((), ((), ()))) := by
  unfold w_sameInts
  simp only [decide_true, Bool.not_true, Bool.false_eq_true, if_false]
  refine (run_loop (A := Unit) (fun i _ => (l, (l, ((i : Int), ())))) l.length (fun _ _ => ()) (fun _ => some (true, ((), ((), ())))) (fun _ _ => True) ?_ ?_ l.length 0 () k (by omega) trivial (by omega)).trans rfl
  · intro again i _ hi _
    have c1 : (i : Int) < (l.length : Int) := by omega
    have c2 : (0 : Int) ≤ (i : Int) := by omega
    have w1 : wi64 ((i : Int) + 1) = ((i + 1 : Nat) : Int) := (w64_id _ (by omega)).trans (by omega)
    refine ⟨?_, trivial⟩
    simp only [c1, c2, w1, and_self, decide_true, Bool.not_true, Bool.false_eq_true, if_true, if_false]
  · intro again _ _
    simp
theorem samePacket_is (k : Nat) (p : Pk) (hl : p.2.2.2.2.2.1.length ≤ 1048576) (hk : 1048576 < k) : w_samePacket k (p, (p, ())) = some (true, ((), ((), ()))) := by
  unfold w_samePacket
  simp only [sameInts_is k _ hl hk, decide_true, if_true, Option.bind_some]
/-- What a turned text is. -/
theorem turned_is (k : Nat) (s : ByteArray) (l : List Int) (hs : s.size ≤ 1048576) (h0 : 0 < s.size) (hl : l.length = 12) (hin : ∀ x ∈ l, 0 ≤ x ∧ x < 10000) :
    ∃ (i : Nat) (y : Int) (hi : i < (bytesOf s).length), w_turned k (s, (l, ())) = some (strOf ((bytesOf s).set i y), ((), ((), ()))) ∧ (0 ≤ y ∧ y < 256) ∧ y ≠ (bytesOf s)[i] := by
  unfold w_turned
  have hb := bytesOf_len s
  have hm : s.size ≤ maxStr := by have := max_ok s.size 0 (by omega); omega
  have c0 : ¬ ((bytesOf s).length : Int) = 0 := by omega
  have c1 : (0 : Int) ≤ 0 ∧ (0 : Int) < (l.length : Int) := by omega
  have c2 : (0 : Int) ≤ 1 ∧ (1 : Int) < (l.length : Int) := by omega
  have q0 : 0 ≤ Ty.rd (t := (.int .i64)) l (0 : Int) := by
    rw [rd_get (t := .int .i64) l _ (by simp; omega)]
    exact (hin _ (List.getElem_mem _)).1
  have q1 : 0 ≤ Ty.rd (t := (.int .i64)) l (1 : Int) := by
    rw [rd_get (t := .int .i64) l _ (by show 1 < l.length; omega)]
    exact (hin _ (List.getElem_mem _)).1
  have hp := tmod_in (Ty.rd (t := (.int .i64)) l (0 : Int)) ((bytesOf s).length : Int) q0 (by omega)
  have hv := tmod_in (Ty.rd (t := (.int .i64)) l (1 : Int)) 255 q1 (by decide)
  simp only [hm, c0, c1, c2, hp, and_self, decide_false, Bool.false_eq_true, if_true, if_false]
  generalize Int.tmod (Ty.rd (t := (.int .i64)) l (0 : Int)) ((bytesOf s).length : Int) = p at hp
  generalize Int.tmod (Ty.rd (t := (.int .i64)) l (1 : Int)) 255 = v at hv
  have w1 : wi64 (1 + v) = 1 + v := w64_id _ (by omega)
  have w2 : wu8 (1 + v) = 1 + v := w8_id _ (by omega)
  have hi : p.toNat < (bytesOf s).length := by omega
  have er : Ty.rd (t := (.int .u8)) (bytesOf s) p = (bytesOf s)[p.toNat] := rd_get (t := .int .u8) _ _ hi
  rw [w1, w2, er]
  have hbb := bytesOf_isB s _ (List.getElem_mem hi)
  obtain ⟨n1, n2, n3⟩ := bx_ne (b := (bytesOf s)[p.toNat]) (v := 1 + v) hbb (by omega)
  exact ⟨p.toNat, _, hi, rfl, ⟨n2, n3⟩, n1⟩
theorem turned_nil (k : Nat) (l : List Int) : w_turned k ((⟨#[]⟩ : ByteArray), (l, ())) = some ((⟨#[120]⟩ : ByteArray), ((), ((), ()))) := by
  unfold w_turned
  have hm : (⟨#[]⟩ : ByteArray).size ≤ maxStr := by decide
  have c0 : ((bytesOf (⟨#[]⟩ : ByteArray)).length : Int) = 0 := rfl
  simp only [hm, c0, decide_true, if_true]
theorem pure_FnPackets (x : argsDen pars_FnPackets) (hx : argsWf pars_FnPackets x) : ∃ k o, w_FnPackets k (argsX pars_FnPackets x) = some (true, o) := by
  obtain ⟨a, u⟩ := x
  refine ⟨2097153, ((), ()), ?_⟩
  show w_FnPackets 2097153 (a, ()) = _
  have ha : ∃ b : List Int, b = a := ⟨a, rfl⟩
  obtain ⟨b, rfl⟩ := ha
  clear hx
  unfold w_FnPackets w_big
  simp only [Option.bind_some]
  by_cases g1 : (1048576 : Int) < (b.length : Int)
  · simp [g1]
  obtain ⟨p, e1, h1, h2⟩ := DrawPacketText_is 2097153 b (by omega) (by decide)
  obtain ⟨l, e2, hl, hin⟩ := DrawPlaces_is 2097153 b (by omega) (by decide)
  obtain ⟨t, e3, ht⟩ := DrawReadPacket_is 2097153 b (by omega) (by decide)
  have e4 := i_PacketText_is 2097153 p (by omega) (by decide)
  have e5 := i_ReadPacket_is 2097153 t (by omega) (by decide)
  have e6 := s_ReadPacket_is 2097153 t (by omega) (by decide)
  have e7 := s_PacketOk_is 2097153 p (by decide)
  have e8 := i_PacketOk_is 2097153 p (by omega) (by decide)
  have e9 := samePacket_is 2097153 p (by omega) (by decide)
  -- what comes of the drawn bytes
  have hy : (readI (hdL t)).1.2.2.2.2.2.1.length ≤ 4 := by
    by_cases q : (readI (hdL t)).2.1 = true
    · exact pkB_len (read_some (by omega) q).1
    · unfold readI at q ⊢
      split
      · show ([] : List Int).length ≤ 4; decide
      · rename_i hc
        rw [if_neg hc] at q
        split
        · rename_i hd
          rw [if_pos hd] at q
          exact absurd rfl q
        · show ([] : List Int).length ≤ 4; decide
  have f1 := i_PacketText_is 2097153 (readI (hdL t)).1 (by omega) (by decide)
  have again : (readI (hdL t)).2.1 = true → (if pkB (readI (hdL t)).1 = true then (pkS (readI (hdL t)).1, (true, ())) else ((⟨#[]⟩ : ByteArray), (false, ()))) = (t, (true, ())) := fun q => by
    obtain ⟨r1, r2⟩ := read_some (by omega : t.size ≤ 1048576) q
    rw [if_pos r1, r2]
  generalize readI (hdL t) = r at hy f1 again e5 e6
  obtain ⟨y, may, ⟨⟩⟩ := r
  simp only at f1 again
  generalize (if pkB y = true then (pkS y, (true, ())) else ((⟨#[]⟩ : ByteArray), (false, ()))) = z at f1 again
  obtain ⟨zt, zo, ⟨⟩⟩ := z
  cases hp : pkB p with
  | true =>
    rw [hp, if_pos rfl] at e4
    have hsz : (pkS p).size ≤ 304 := by
      have := pkBy_len (pkB_ok hp)
      rw [pkS, ByteArray.size_append, fourS_size, strOf_len]
      omega
    have hsz0 : 0 < (pkS p).size := by rw [pkS, ByteArray.size_append, fourS_size]; omega
    have f2 := i_ReadPacket_is 2097153 (pkS p) (by omega) (by decide)
    rw [read_of hp] at f2
    obtain ⟨i, v, hi, f3, hv, hne⟩ := turned_is 2097153 (pkS p) l (by omega) hsz0 hl hin
    have hun : (unS (pkS p)).2.1 = true := by
      have hL := pkBy_len (pkB_ok hp)
      have : unS (pkS p) = (strOf (pkBy p), (true, ())) := unS_join (strOf (pkBy p)) (by rw [strOf_len]; omega)
      rw [this]
    have hbent := read_none (unS_turn hun hv hi hne)
    have f4 := i_ReadPacket_is 2097153 (strOf ((bytesOf (pkS p)).set i v)) (by rw [strOf_len, List.length_set, bytesOf_len]; omega) (by decide)
    generalize readI (hdL (strOf ((bytesOf (pkS p)).set i v))) = w at hbent f4
    obtain ⟨wp, wo, ⟨⟩⟩ := w
    simp only at hbent
    subst hbent
    rw [hp] at e7 e8
    unfold jn
    simp only [g1, e1, e2, e3, e4, e5, e6, e7, e8, e9, f1, f2, f3, f4, decide_true, decide_false, Bool.not_true, Bool.not_false, Bool.false_eq_true, Bool.true_eq_false, if_true, if_false, Option.bind_some]
    cases may with
    | true =>
      obtain ⟨rfl, _⟩ := Prod.mk.inj (again rfl)
      simp
    | false => simp
  | false =>
    rw [hp] at e4 e7 e8
    simp only [Bool.false_eq_true, if_false] at e4
    have f2 := i_ReadPacket_is 2097153 (⟨#[]⟩ : ByteArray) (by decide) (by decide)
    have f3 := turned_nil 2097153 l
    have f4 := i_ReadPacket_is 2097153 (⟨#[120]⟩ : ByteArray) (by decide) (by decide)
    unfold jn
    simp only [g1, e1, e2, e3, e4, e5, e6, e7, e8, f1, f2, f3, f4, decide_true, decide_false, Bool.not_true, Bool.not_false, Bool.false_eq_true, Bool.true_eq_false, if_true, if_false, Option.bind_some]
    cases may with
    | true =>
      obtain ⟨rfl, _⟩ := Prod.mk.inj (again rfl)
      simp
    | false => simp
open Go.ChangeShapes Go.WideShapes Go.ChangeAt Go.RowKit
theorem own_FnPackets : ownKnob Try.prog.godebug = none := by kernel_rfl
theorem lifted_FnPackets (os : Os) (started : os.Started) (H : Type) (enc : TypeId × Value → H) :
    ReturnsInHanded {} Try.checked os 9 .any (Rows.fnPacketsSpec.pre6 enc Try.prog Try.f9 Rows.fnPacketsRow.domain false) (Rows.fnPacketsSpec.post enc Try.prog Try.f9 false true false false) :=
  law_lifted (C := Try.checked) (l := pars_FnPackets) (rb := 4) own_FnPackets started (by kernel_rfl) Try.func9
    (ChangeSpec.witness6 (enc := enc) (C := Try.checked) false ⟨#[], #[.slice none 0 0], []⟩ 8 (by kernel_rfl) (by kernel_rfl) (by kernel_rfl) (by kernel_rfl))
    e_w_FnPackets rfl (by decide) pure_FnPackets (by kernel_rfl) rfl Try.underlying4 (by kernel_rfl) (by kernel_rfl) rfl
    (fun ds h => match ds, h with | [_], _ => rfl)
theorem inPlace_FnPackets : Try.prog.inPlace 9 = Rows.fnPacketsRow.inPlace := by kernel_rfl
theorem unfollowed_FnPackets : Try.prog.unfollowed 9 = Rows.fnPacketsRow.unfollowed := by kernel_rfl
theorem recurses_FnPackets : Try.prog.recurses 9 = Rows.fnPacketsRow.recurses := by kernel_rfl
theorem named_FnPackets : Try.prog.varsNamed 9 = Rows.fnPacketsRow.named := by kernel_rfl
theorem facts_FnPackets : joinedFacts Try.prog 9 Try.f9 Rows.fnPacketsSpec Rows.fnPacketsRow = true := by
  unfold joinedFacts
  rw [seat_laid, seat_maps, seat_heard, seat_enter, inPlace_FnPackets, unfollowed_FnPackets, recurses_FnPackets, named_FnPackets]
  kernel_rfl
theorem fnPackets_holds : Rows.FnPacketsSaid :=
  OpenClaim.holds_of_wide 9 Try.f9 rfl rfl rfl rfl rfl rfl rfl ⟨rfl, rfl, rfl, rfl, rfl⟩ rfl rfl rfl rfl rfl (by kernel_rfl) Try.func9 facts_FnPackets (of_decide_eq_true (by kernel_rfl))
    (by unfold Func.isWrapper; first | (rw [if_pos (by decide +kernel)]; kernel_rfl) | (rw [if_neg (by decide +kernel)]; exact ⟨rfl, rfl⟩)) (fun os started H enc _ => lifted_FnPackets os started H enc)
#print axioms fnPackets_holds
end Go.Proofs.Ytjmpbkkomiebhaa
