import Derived.Test.YtaamcelinnnncaaRows
import Derived.Test.YtaamcelinnnncaaFun1
import Derived.Test.YtaamcelinnnncaaBase
import Derived.Test.YtaamcelinnnncaaFacts
import Derived.WalkKit
import Derived.ProofKit
import Derived.OpenShut
import Derived.ShutString
import Derived.ChangeOld
import Derived.Below
import Derived.SizedLaws
/- FnPieces answers true for every input, and its arguments read behind the call as they did ahead of it. Conditions: none. -/
set_option linter.unusedVariables false
set_option linter.unusedSimpArgs false
namespace Go.Proofs.Ytaamcelinnnncaa
open Go Go.Eng Go.Proofs
abbrev pars_FnPieces : List Par := [(false, (.list (.int .u8)))]
theorem l01In_is (k : Nat) (a b c : Int) : s_l01In k (a, (b, (c, ()))) = some (decide (b ≤ a ∧ a ≤ c), ((), ((), ((), ())))) := by
  unfold s_l01In
  by_cases h : b ≤ a <;> simp [h]
theorem within_is (k : Nat) (a b c : Int) : i_within k (a, (b, (c, ()))) = some (decide (b ≤ a ∧ a ≤ c), ((), ((), ((), ())))) := l01In_is k a b c
theorem isId_is (k : Nat) (a : Int) : i_isId k (a, ()) = some (decide (1 ≤ a ∧ a ≤ 99), ((), ())) := by
  unfold i_isId
  rw [within_is]
  rfl
/-- Bytes as whole numbers. -/
def isB (l : List Int) : Prop := ∀ x ∈ l, 0 ≤ x ∧ x < 256
theorem bytesOf_len (s : ByteArray) : (bytesOf s).length = s.size := by
  unfold bytesOf
  rw [List.length_map, Array.length_toList]
  rfl
theorem strOf_len (l : List Int) : (strOf l).size = l.length := by simp [strOf, ByteArray.size]
theorem bytesOf_isB (s : ByteArray) : isB (bytesOf s) := by
  intro x hx
  unfold bytesOf at hx
  obtain ⟨b, _, rfl⟩ := List.mem_map.1 hx
  have := b.toNat_lt
  exact ⟨by omega, by omega⟩
theorem isB_cons {x : Int} {l : List Int} : isB (x :: l) ↔ (0 ≤ x ∧ x < 256) ∧ isB l := by simp [isB]
theorem bytesOf_strOf {l : List Int} (h : isB l) : bytesOf (strOf l) = l := by
  unfold bytesOf strOf
  rw [List.map_map]
  have : ∀ m : List Int, isB m → m.map ((fun b : UInt8 => ((b.toNat : Nat) : Int)) ∘ fun x => UInt8.ofNat x.toNat) = m := by
    intro m
    induction m with
    | nil => intro _; rfl
    | cons a m ih =>
      intro hm
      obtain ⟨h1, h2⟩ := isB_cons.1 hm
      rw [List.map_cons, ih h2]
      congr 1
      simp only [Function.comp, UInt8.toNat_ofNat']
      omega
  simpa using this l h
theorem strOf_bytes (s : ByteArray) : strOf (bytesOf s) = s := by
  have e : (fun x : Int => UInt8.ofNat x.toNat) ∘ (fun b : UInt8 => ((b.toNat : Nat) : Int)) = id := by
    funext b
    simp
  apply ByteArray.ext
  simp only [strOf, bytesOf, List.map_map, e, List.map_id]
theorem bytesOf_inj {s t : ByteArray} (h : bytesOf s = bytesOf t) : s = t := by rw [← strOf_bytes s, h, strOf_bytes]
theorem strOf_append (a b : List Int) : strOf (a ++ b) = strOf a ++ strOf b := by
  apply ByteArray.ext
  simp [strOf, ByteArray.data_append]
theorem bytesOf_extract (s : ByteArray) (a b : Nat) : bytesOf (s.extract a b) = ((bytesOf s).take b).drop a := by
  simp [bytesOf, ByteArray.data_extract, List.map_drop, List.map_take, List.drop_take]
theorem bt_get (s : ByteArray) (i : Nat) (h : i < s.size) : bt s (i : Int) = (bytesOf s)[i]'(by rw [bytesOf_len]; exact h) := by
  unfold bt
  rw [dif_pos (by simpa using h)]
  simp [bytesOf, ByteArray.getElem_eq_getElem_data]
theorem cap_ok (n m : Nat) (h : n + m ≤ 4194304) : n + m ≤ capMax := by
  have : capMax = 274877906944 := rfl
  omega
abbrev RT_Held : Ty := (.pair (.int .i64) (.pair (.int .i64) (.pair (.int .i64) (.pair (.list .str) (.pair (.list .bool) (.int .i64))))))
def ag_Held (r : RT_Held.den) : Int × Int × Int × List (ByteArray) × List (Bool) × Int × Unit := (r.1, (r.2.1, (r.2.2.1, (r.2.2.2.1, (r.2.2.2.2.1, (r.2.2.2.2.2, ()))))))
def Bd_StringS (a : List (ByteArray)) : Prop := a.length ≤ 1048576
def Bd_BoolS (a : List (Bool)) : Prop := a.length ≤ 1048576
def Bd_Held (x : Int × Int × Int × List (ByteArray) × List (Bool) × Int × Unit) : Prop := Bd_StringS x.2.2.2.1 ∧ Bd_BoolS x.2.2.2.2.1 ∧ True
def Bd_HeldS (a : List (Int × Int × Int × List (ByteArray) × List (Bool) × Int)) : Prop := a.length ≤ 1048576 ∧ ∀ r ∈ a, Bd_Held (ag_Held r)
theorem getD_some' {A : Type} {l : List A} {n : Nat} {r d : A} (h : l[n]? = some r) : l.getD n d = r := by simp [List.getD, h]
def goodP (ps : List ByteArray) (hv : List Bool) (i : Nat) : Bool := decide ((Ty.rd (t := .str) ps i).size ≤ 120) && (Ty.rd (t := .bool) hv i || decide (Ty.rd (t := .str) ps i = (⟨#[]⟩ : ByteArray)))
def gH (ps : List ByteArray) (hv : List Bool) (i : Nat) (n : Int) : (Bool × Unit × Unit) ⊕ Int :=
  if goodP ps hv i then .inr (if Ty.rd (t := .bool) hv i then n + 1 else n) else .inl (false, ((), ()))
def heldB (x : Int × Int × Int × List ByteArray × List Bool × Int × Unit) : Bool :=
  decide ((1 ≤ x.1 ∧ x.1 ≤ 99) ∧ (0 ≤ x.2.1 ∧ x.2.1 ≤ 255) ∧ (2 ≤ x.2.2.1 ∧ x.2.2.1 ≤ 15) ∧ (x.2.2.2.1.length : Int) = x.2.2.1 ∧ (x.2.2.2.2.1.length : Int) = x.2.2.1 ∧ (0 ≤ x.2.2.2.2.2.1 ∧ x.2.2.2.2.2.1 ≤ 1000000000)) &&
    (foldE (gH x.2.2.2.1 x.2.2.2.2.1) (fun n => (decide (1 ≤ n ∧ n < x.2.2.1), ((), ()))) x.2.2.1.toNat 0 0).1
theorem gH_step {ps : List ByteArray} {hv : List Bool} {i : Nat} {n n' : Int} (h : gH ps hv i n = .inr n') (hi : 0 ≤ n ∧ n ≤ i) : 0 ≤ n' ∧ n' ≤ (i + 1 : Nat) := by
  unfold gH at h
  split at h
  · simp only [Sum.inr.injEq] at h
    subst h
    split <;> omega
  · simp at h
theorem foldE_unit {g : Nat → Int → (Bool × Unit × Unit) ⊕ Int} {f : Int → Bool × Unit × Unit} (n m : Nat) (a : Int) : foldE g f n m a = ((foldE g f n m a).1, ((), ())) := rfl
theorem i_heldOk_is (k : Nat) (x : Int × Int × Int × List ByteArray × List Bool × Int × Unit) (hk : 1048576 < k) : i_heldOk k (x, ()) = some (heldB x, ((), ())) := by
  obtain ⟨f, id, c, ps, hv, u, w⟩ := x
  unfold i_heldOk heldB
  simp only [within_is, isId_is, Option.bind_some]
  by_cases h1 : 1 ≤ f ∧ f ≤ 99
  rotate_left
  · simp [h1]
  by_cases h2 : 0 ≤ id ∧ id ≤ 255
  rotate_left
  · simp [h2]
  by_cases h3 : 2 ≤ c ∧ c ≤ 15
  rotate_left
  · simp [h3]
  by_cases h4 : (ps.length : Int) = c
  rotate_left
  · simp [h4]
  by_cases h5 : (hv.length : Int) = c
  rotate_left
  · simp [h5]
  simp only [h1, h2, h3, h4, h5, and_self, decide_true, Bool.not_true, if_true, Bool.false_eq_true, if_false, true_and]
  have wc : wi64 (c - 1) = c - 1 := w64_id _ (by omega)
  refine (loop_fold (A := Int) (fun i n => ((f, (id, (c, (ps, (hv, (u, ())))))), (n, (hv, (c, ((i : Nat) : Int), ()))))) c.toNat (gH ps hv) (fun n => (decide ((1 ≤ n ∧ n < c) ∧ (0 ≤ u ∧ u ≤ 1000000000)), ((), ()))) (fun i n => 0 ≤ n ∧ n ≤ i) ?_ (fun i a a' _ h e => gH_step e h) ?_ k 0 ⟨by omega, by simp⟩ (by omega)).trans ?_
  · intro again i n hi hn
    have w1 : wi64 (n + 1) = n + 1 := w64_id _ (by omega)
    have w2 : wi64 ((i : Int) + 1) = ((i + 1 : Nat) : Int) := (w64_id _ (by omega)).trans (by omega)
    have g1 : (0 : Int) ≤ (i : Int) ∧ (i : Int) < (hv.length : Int) := by omega
    have g2 : (0 : Int) ≤ (i : Int) ∧ (i : Int) < (ps.length : Int) := by omega
    have g3 : (i : Int) < c := by omega
    unfold gH goodP
    simp only [g1, g2, g3, w1, w2, and_self, decide_true, if_true]
    generalize Ty.rd (t := .str) ps i = p
    cases hb : Ty.rd (t := .bool) hv i with
    | true =>
      by_cases hs : p.size ≤ 120
      · have : ¬ (120 : Int) < (p.size : Int) := by omega
        simp [hs, this]
      · have : (120 : Int) < (p.size : Int) := by omega
        simp [hs, this]
    | false =>
      by_cases he : p = (⟨#[]⟩ : ByteArray)
      · subst he
        have : (⟨#[]⟩ : ByteArray).size = 0 := rfl
        simp [this]
      · by_cases hs : p.size ≤ 120
        · have : ¬ (120 : Int) < (p.size : Int) := by omega
          simp [he, this]
        · have : (120 : Int) < (p.size : Int) := by omega
          simp [he, this]
  · intro again n hn
    have : ¬ ((c.toNat : Nat) : Int) < c := by omega
    simp only [this, decide_false, Bool.false_eq_true, if_false, wc]
    have e : (1 ≤ n ∧ n ≤ c - 1) ↔ (1 ≤ n ∧ n < c) := by omega
    by_cases a : 1 ≤ n ∧ n < c
    · have a' := e.2 a
      simp [a, a']
    · have a' : ¬ (1 ≤ n ∧ n ≤ c - 1) := fun h => a (e.1 h)
      simp [a, a']
  · by_cases h6 : 0 ≤ u ∧ u ≤ 1000000000
    · simp only [h6, and_self, and_true, decide_true, Bool.true_and]
    · simp only [h6, and_false, decide_false, Bool.false_and]
      rw [foldE_unit]
      congr 2
      have key : ∀ m i a, (foldE (gH ps hv) (fun _ => (false, ((), ()))) m i a).1 = false := by
        intro m
        induction m with
        | zero => intro i a; rfl
        | succ m ih =>
          intro i a
          unfold foldE
          cases hq : gH ps hv i a with
          | inl r =>
            unfold gH at hq
            split at hq
            · cases hq
            · cases hq; rfl
          | inr a' => exact ih _ _
      exact key _ _ _
def sameH (a : List RT_Held.den) (j i : Nat) : Bool := decide ((Ty.rd (t := RT_Held) a j).1 = (Ty.rd (t := RT_Held) a i).1) && decide ((Ty.rd (t := RT_Held) a j).2.1 = (Ty.rd (t := RT_Held) a i).2.1)
def gS (a : List RT_Held.den) (i : Nat) (_ : Unit) : (Bool × Unit × Unit) ⊕ Unit :=
  if heldB (ag_Held (Ty.rd (t := RT_Held) a i)) && (List.range i).all (fun j => !sameH a j i) then .inr () else .inl (false, ((), ()))
theorem all_false_iff (n : Nat) (p : Nat → Bool) : (List.range n).all (fun j => !p j) = true ↔ ∀ j, j < n → p j = false := by simp
def sameK (a : List RT_Held.den) (f id : Int) (j : Nat) : Bool := decide ((Ty.rd (t := RT_Held) a j).1 = f) && decide ((Ty.rd (t := RT_Held) a j).2.1 = id)
theorem heldAt_is (k : Nat) (a : List RT_Held.den) (f id : Int) (hk : 1048576 < k) (hl : a.length ≤ 1048576) :
    i_heldAt k ((a, ()), (f, (id, ()))) = some ((match (List.range a.length).find? (sameK a f id) with | some i => ((i : Nat) : Int) | none => -1), ((), ((), ((), ())))) := by
  unfold i_heldAt x_slices_IndexFunc_impl_Held_impl_Held_of_i_heldAt_1
  have h := loop_find (X := List RT_Held.den × ((Int × Unit) × (Int × Unit) × Unit) × Int × Int × Unit) (R := Int × Unit × ((Int × Unit) × (Int × Unit) × Unit) × Unit)
    (step := fun (rec0 : ((List (Int × Int × Int × List (ByteArray) × List (Bool) × Int)) × ((Int × Unit) × (Int × Unit) × Unit) × Int × Int × Unit) → Option _) (y0 : (List (Int × Int × Int × List (ByteArray) × List (Bool) × Int)) × ((Int × Unit) × (Int × Unit) × Unit) × Int × Int × Unit) =>
      (if (decide (y0.2.2.2.1 < y0.2.2.1)) = true then
      (if 0 ≤ y0.2.2.2.1 ∧ y0.2.2.2.1 < (List.length y0.1 : Int) then
      ((i_heldAt_1 k (((Ty.rd (t := RT_Held) y0.1 y0.2.2.2.1).1, ((Ty.rd (t := RT_Held) y0.1 y0.2.2.2.1).2.1, ((Ty.rd (t := RT_Held) y0.1 y0.2.2.2.1).2.2.1, ((Ty.rd (t := RT_Held) y0.1 y0.2.2.2.1).2.2.2.1, ((Ty.rd (t := RT_Held) y0.1 y0.2.2.2.1).2.2.2.2.1, ((Ty.rd (t := RT_Held) y0.1 y0.2.2.2.1).2.2.2.2.2, ())))))), ((y0.2.1.1.1, ()), ((y0.2.1.2.1.1, ()), ())))).bind fun p1 =>
      (if p1.1 = true then
      some (y0.2.2.2.1, ((), (((p1.2.2.1.1, ()), ((p1.2.2.2.1.1, ()), ())), ())))
      else
      (rec0 (y0.1, (((p1.2.2.1.1, ()), ((p1.2.2.2.1.1, ()), ())), (y0.2.2.1, ((wi64 (y0.2.2.2.1 + (1 : Int))), ())))))))
      else none)
      else
      ((fun (z1 : ((Int × Unit) × (Int × Unit) × Unit) × Unit) =>
      some ((-1 : Int), ((), (((z1.1.1.1, ()), ((z1.1.2.1.1, ()), ())), ())))) (((y0.2.1.1.1, ()), ((y0.2.1.2.1.1, ()), ())), ()))))
    (fun j => (a, (((f, ()), ((id, ()), ())), ((a.length : Int), (((j : Nat) : Int), ()))))) a.length (sameK a f id) (fun j => (((j : Nat) : Int), ((), (((f, ()), ((id, ()), ())), ())))) (-1, ((), (((f, ()), ((id, ()), ())), ()))) ?_ ?_ k (by omega)
  · refine (congrArg (fun o => Option.bind o _) h).trans ?_
    cases (List.range a.length).find? (sameK a f id) <;> rfl
  · intro ag j hj
    have q1 : (0 : Int) ≤ (j : Int) ∧ (j : Int) < (a.length : Int) := by omega
    have w3 : wi64 ((j : Int) + 1) = ((j + 1 : Nat) : Int) := (w64_id _ (by omega)).trans (by omega)
    simp only [q1, w3, and_self, decide_true, if_true]
    unfold i_heldAt_1 sameK
    by_cases e1 : (Ty.rd (t := RT_Held) a j).1 = f <;> by_cases e2 : (Ty.rd (t := RT_Held) a j).2.1 = id <;> simp [e1, e2]
  · intro ag
    simp
theorem i_ShelfOk_is (k : Nat) (a : List RT_Held.den) (hk : 1048576 < k) (hl : a.length ≤ 1048576) : i_ShelfOk k ((a, ()), ()) = some (foldE (gS a) (fun _ => (decide ((a.length : Int) ≤ 3), ((), ()))) a.length 0 ()) := by
  unfold i_ShelfOk
  refine loop_fold (A := Unit) (fun i _ => ((a, ()), (a, ((a.length : Int), (((i : Nat) : Int), ()))))) a.length (gS a) (fun _ => (decide ((a.length : Int) ≤ 3), ((), ()))) (fun _ _ => True) ?_ (fun _ _ _ _ _ _ => trivial) ?_ k () trivial (by omega)
  · intro again i _ hi _
    have w2 : wi64 ((i : Int) + 1) = ((i + 1 : Nat) : Int) := (w64_id _ (by omega)).trans (by omega)
    have g1 : (0 : Int) ≤ (i : Int) ∧ (i : Int) < (a.length : Int) := by omega
    have eh := i_heldOk_is k (ag_Held (Ty.rd (t := RT_Held) a i)) hk
    simp only [ag_Held] at eh
    simp only [g1, and_self, decide_true, if_true, eh, Option.bind_some, heldAt_is k a _ _ hk hl]
    unfold gS
    have hsame : (fun j => sameH a j i) = sameK a (Ty.rd (t := RT_Held) a i).1 (Ty.rd (t := RT_Held) a i).2.1 := rfl
    have hself : sameK a (Ty.rd (t := RT_Held) a i).1 (Ty.rd (t := RT_Held) a i).2.1 i = true := by simp [sameK]
    cases hh : heldB (ag_Held (Ty.rd (t := RT_Held) a i)) with
    | false => simp only [ag_Held] at hh; simp [hh]
    | true =>
      simp only [ag_Held] at hh
      simp only [hh, Bool.not_true, if_true, Bool.true_and]
      have hfa := find_at hi hself
      have hall : (List.range i).all (fun j => !sameH a j i) = true ↔ ∀ j, j < i → sameK a (Ty.rd (t := RT_Held) a i).1 (Ty.rd (t := RT_Held) a i).2.1 j = false := all_false_iff i _
      cases hf : (List.range a.length).find? (sameK a (Ty.rd (t := RT_Held) a i).1 (Ty.rd (t := RT_Held) a i).2.1) with
      | none =>
        exfalso
        have := List.find?_eq_none.1 hf i (by simpa using hi)
        exact this hself
      | some j =>
        by_cases hj : j = i
        · subst hj
          have := hall.2 (hfa.1 hf)
          simp [this, w2]
        · have hne : ¬ (List.range i).all (fun j => !sameH a j i) = true := fun hh => by
            have := hfa.2 (hall.1 hh)
            rw [hf] at this
            exact hj (Option.some.inj this)
          have hj' : ¬ ((j : Nat) : Int) = (i : Int) := by omega
          simp only [hne, hj', decide_false, Bool.not_false, if_true]
          simp
  · intro again _ _
    simp
def byteOf (n : Int) : ByteArray := strOf [n % 256]
theorem byteOf_size (n : Int) : (byteOf n).size = 1 := by simp [byteOf, strOf, ByteArray.size]
theorem byteText_is (k : Nat) (n : Int) : i_byteText k (n, ()) = some (byteOf n, ((), ())) := by
  show some (strOf [IntKind.u8.wrap n], ((), ())) = _
  rw [w8_mod]
  rfl
theorem l05Byte_is (k : Nat) (n : Int) (hn : 0 ≤ n) : s_l05Byte k (n, ()) = some (byteOf n, ((), ())) := by
  unfold s_l05Byte byteOf
  rw [Int.tmod_eq_emod_of_nonneg hn]
  have h : ¬ n % 256 < 0 := by omega
  simp only [h, decide_false, w8_mod]
  rw [Int.emod_emod_of_dvd _ (Int.dvd_refl 256)]
  rfl
def partOf (id count size : Int) (s : ByteArray) (i : Nat) : ByteArray :=
  byteOf id ++ byteOf i ++ byteOf count ++ ByteArray.extract s (((i : Int) * size).toNat) (if (s.size : Int) < ((i : Int) + 1) * size then (s.size : Int) else ((i : Int) + 1) * size).toNat
structure SplitOk (id size count : Int) (s : ByteArray) : Prop where
  pid : 0 ≤ id ∧ id ≤ 255
  psz : 20 ≤ size ∧ size ≤ 120
  pln : (s.size : Int) ≤ 300
  pct : 1 ≤ count ∧ count ≤ 15
  pft : ∀ i : Int, 0 ≤ i → i < count → i * size ≤ s.size
theorem SplitOk.mul {id size count : Int} {s : ByteArray} (h : SplitOk id size count s) (i : Int) (h0 : 0 ≤ i) (h1 : i < count) : 0 ≤ i * size ∧ i * size ≤ 300 ∧ (i + 1) * size = i * size + size := by
  have := h.pft i h0 h1
  have := h.pln
  refine ⟨Int.mul_nonneg h0 (by have := h.psz; omega), by omega, by rw [Int.add_mul, Int.one_mul]⟩
theorem extract_le (s : ByteArray) (a b : Nat) : (s.extract a b).size ≤ s.size := by
  rw [ByteArray.size_extract]; omega
theorem range_step (a b : Nat) (h : a < b) : List.range' a (b - a) = a :: List.range' (a + 1) (b - (a + 1)) := by
  obtain ⟨c, rfl⟩ : ∃ c, b = a + (c + 1) := ⟨b - a - 1, by omega⟩
  rw [show a + (c + 1) - a = c + 1 by omega, show a + (c + 1) - (a + 1) = c by omega]
  rfl
def cntOf (len size : Int) : Int := if (1 : Int) < (len + size - 1) / size then (len + size - 1) / size else 1
theorem cnt_ok (id size : Int) (s : ByteArray) (h1 : 0 ≤ id ∧ id ≤ 255) (h2 : 20 ≤ size ∧ size ≤ 120) (h3 : (s.size : Int) ≤ 300) (h4 : cntOf s.size size ≤ 15) : SplitOk id size (cntOf s.size size) s := by
  refine ⟨h1, h2, h3, ⟨?_, h4⟩, fun i h0 hi => ?_⟩
  · unfold cntOf; split <;> omega
  · unfold cntOf at hi
    split at hi
    · have g1 : i + 1 ≤ ((s.size : Int) + size - 1) / size := by omega
      have g2 : (i + 1) * size ≤ ((s.size : Int) + size - 1) / size * size := Int.mul_le_mul_of_nonneg_right g1 (by omega)
      have g3 : ((s.size : Int) + size - 1) / size * size ≤ (s.size : Int) + size - 1 := Int.ediv_mul_le _ (by omega)
      rw [Int.add_mul, Int.one_mul] at g2
      omega
    · have : i = 0 := by omega
      subst this
      simp
theorem s_Split_ok (k : Nat) (id size : Int) (s : ByteArray) (h1 : 0 ≤ id ∧ id ≤ 255) (h2 : 20 ≤ size ∧ size ≤ 120) (h3 : (s.size : Int) ≤ 300) (hk : 20 < k) :
    s_Split k (id, (s, (size, ()))) = some ((if 15 < cntOf s.size size then ([], (false, ())) else ((List.range (cntOf s.size size).toNat).map (partOf id (cntOf s.size size) size s), (true, ()))), ((), ((), ((), ())))) := by
  unfold s_Split
  have e0 : ¬ (300 : Int) < (s.size : Int) := by omega
  have e1 : ¬ size = 0 := by omega
  have q0 : 0 ≤ ((s.size : Int) + size - 1) / size := Int.ediv_nonneg (by omega) (by omega)
  have q1 : ((s.size : Int) + size - 1) / size ≤ (s.size : Int) + size - 1 := Int.ediv_le_self _ (by omega)
  have w0 : wi64 ((s.size : Int) + size) = (s.size : Int) + size := w64_id _ (by omega)
  have w1 : wi64 ((s.size : Int) + size - 1) = (s.size : Int) + size - 1 := w64_id _ (by omega)
  have w2 : wi64 (Int.tdiv ((s.size : Int) + size - 1) size) = ((s.size : Int) + size - 1) / size := by
    rw [Int.tdiv_eq_ediv_of_nonneg (by omega)]; exact w64_id _ (by omega)
  simp only [l01In_is, Option.bind_some, h1, h2, and_self, decide_true, Bool.not_true, if_true, e0, decide_false, Bool.false_eq_true, if_false, e1, w0, w1, w2]
  have ec : (if ((s.size : Int) + size - 1) / size = 0 then (1 : Int) else ((s.size : Int) + size - 1) / size) = cntOf s.size size := by
    unfold cntOf; split <;> split <;> omega
  simp only [decide_eq_true_eq]
  rw [jn_one, ec]
  unfold jn
  by_cases h15 : (15 : Int) < cntOf s.size size
  · simp only [h15, if_true]
  have h := cnt_ok id size s h1 h2 h3 (by omega)
  generalize cntOf s.size size = count at h h15 ⊢
  have hc := h.pct
  have hz := h.psz
  have hl := h.pln
  have hm : maxStr = 9223372036854775807 := rfl
  have hcap : capMax = 274877906944 := rfl
  simp only [h15, if_false]
  refine (whileK_run (fun y : Int × ByteArray × Int × Int × List (ByteArray) × Int × Unit => count.toNat - y.2.2.2.2.2.1.toNat) (fun y => y.1 = id ∧ y.2.1 = s ∧ y.2.2.1 = size ∧ y.2.2.2.1 = count ∧ 0 ≤ y.2.2.2.2.2.1 ∧ y.2.2.2.2.2.1 ≤ count ∧ (y.2.2.2.2.1.length : Int) = y.2.2.2.2.2.1)
    (fun y => ((y.2.2.2.2.1 ++ (List.range' y.2.2.2.2.2.1.toNat (count.toNat - y.2.2.2.2.2.1.toNat)).map (partOf id count size s), (true, ())), ((), ((), ((), ()))))) ?_ k _ ⟨rfl, rfl, rfl, rfl, by simp, by simp only; omega, by simp⟩ (by simp only; omega)).trans ?_
  · rintro ⟨id', s', size', count', ps, i, u⟩ ⟨e1, e2, e3, e4, h0, h1, h2⟩ again hg
    simp only at e1 e2 e3 e4 h0 h1 h2
    subst e1 e2 e3 e4
    by_cases hi : i < count'
    · obtain ⟨m1, m2, m3⟩ := h.mul i h0 hi
      have w : wi64 (i + 1) = i + 1 := w64_id _ (by omega)
      have w2 : wi64 (i * size') = i * size' := w64_id _ (by omega)
      have w3 : wi64 ((i + 1) * size') = (i + 1) * size' := w64_id _ (by rw [m3]; omega)
      have hid := h.pid
      have hf := h.pft i h0 hi
      have hn : ((i.toNat : Nat) : Int) = i := by omega
      have hp : (byteOf id' ++ byteOf i ++ byteOf count' ++ ByteArray.extract s' ((i * size').toNat) (if (s'.size : Int) < (i + 1) * size' then (s'.size : Int) else (i + 1) * size').toNat) = partOf id' count' size' s' i.toNat := by
        unfold partOf; rw [hn]
      have := hg (id', (s', (size', (count', ((ps ++ [partOf id' count' size' s' i.toNat]), (i + 1, ())))))) ⟨rfl, rfl, rfl, rfl, by simp only; omega, by simp only; omega, by simp only [List.length_append, List.length_singleton]; omega⟩ (by simp only; omega)
      have x1 := extract_le s' (i * size').toNat (if (s'.size : Int) < (i + 1) * size' then (s'.size : Int) else (i + 1) * size').toNat
      have hr : List.range' i.toNat (count'.toNat - i.toNat) = i.toNat :: List.range' (i + 1).toNat (count'.toNat - (i + 1).toNat) := by
        rw [range_step _ _ (by omega), show (i + 1).toNat = i.toNat + 1 by omega]
      rw [hr]
      simp only [hi, if_true, w, w2, w3, l05Byte_is _ _ hid.1, l05Byte_is _ _ h0, l05Byte_is _ _ (by omega : 0 ≤ count'), Option.bind_some, byteOf_size, ByteArray.size_append, List.length_singleton]
      by_cases hb : (s'.size : Int) < (i + 1) * size'
      · rw [if_pos hb] at hp x1
        simp only [hb, if_true]
        rw [if_pos (by omega), if_pos (by omega), if_pos (by omega), if_pos (by omega), if_pos (by omega), if_pos (by omega), hp]
        refine this.trans ?_
        simp
      · rw [if_neg hb] at hp x1
        simp only [hb]
        have hb' : (i + 1) * size' ≤ (s'.size : Int) := by omega
        simp only [if_false]
        rw [if_pos (by omega), if_pos (by omega), if_pos (by omega), if_pos (by omega), if_pos (by omega), if_pos (by omega), hp]
        refine this.trans ?_
        simp
    · have : i = count' := by omega
      subst this
      simp
  · simp [List.range_eq_range']
theorem i_Split_ok (k : Nat) (id size : Int) (s : ByteArray) (h1 : 0 ≤ id ∧ id ≤ 255) (h2 : 20 ≤ size ∧ size ≤ 120) (h3 : (s.size : Int) ≤ 300) (hk : 20 < k) :
    i_Split k (id, (s, (size, ()))) = some ((if 15 < cntOf s.size size then ([], (false, ())) else ((List.range (cntOf s.size size).toNat).map (partOf id (cntOf s.size size) size s), (true, ()))), ((), ((), ((), ())))) := by
  unfold i_Split
  have e0 : ¬ (300 : Int) < (s.size : Int) := by omega
  have e1 : ¬ size = 0 := by omega
  have q0 : 0 ≤ ((s.size : Int) + size - 1) / size := Int.ediv_nonneg (by omega) (by omega)
  have q1 : ((s.size : Int) + size - 1) / size ≤ (s.size : Int) + size - 1 := Int.ediv_le_self _ (by omega)
  have w0 : wi64 ((s.size : Int) + size) = (s.size : Int) + size := w64_id _ (by omega)
  have w1 : wi64 ((s.size : Int) + size - 1) = (s.size : Int) + size - 1 := w64_id _ (by omega)
  have w2 : wi64 (Int.tdiv ((s.size : Int) + size - 1) size) = ((s.size : Int) + size - 1) / size := by
    rw [Int.tdiv_eq_ediv_of_nonneg (by omega)]; exact w64_id _ (by omega)
  simp only [within_is, Option.bind_some, h1, h2, and_self, decide_true, Bool.not_true, if_true, e0, decide_false, Bool.false_eq_true, if_false, e1, w0, w1, w2]
  have ec : (if (1 : Int) < ((s.size : Int) + size - 1) / size then ((s.size : Int) + size - 1) / size else (1 : Int)) = cntOf s.size size := rfl
  rw [ec]
  by_cases h15 : (15 : Int) < cntOf s.size size
  · simp only [h15, decide_true, if_true]
  have h := cnt_ok id size s h1 h2 h3 (by omega)
  generalize cntOf s.size size = count at h h15 ⊢
  have hc := h.pct
  have hz := h.psz
  have hl := h.pln
  have hm : maxStr = 9223372036854775807 := rfl
  have hcap : capMax = 274877906944 := rfl
  simp only [h15, decide_false, Bool.false_eq_true, if_false]
  refine (whileK_run (fun y : Int × ByteArray × Int × Int × List (ByteArray) × Int × Int × Unit => count.toNat - y.2.2.2.2.2.2.1.toNat) (fun y => y.1 = id ∧ y.2.1 = s ∧ y.2.2.1 = size ∧ y.2.2.2.1 = count ∧ y.2.2.2.2.2.1 = count ∧ 0 ≤ y.2.2.2.2.2.2.1 ∧ y.2.2.2.2.2.2.1 ≤ count ∧ (y.2.2.2.2.1.length : Int) = y.2.2.2.2.2.2.1)
    (fun y => ((y.2.2.2.2.1 ++ (List.range' y.2.2.2.2.2.2.1.toNat (count.toNat - y.2.2.2.2.2.2.1.toNat)).map (partOf id count size s), (true, ())), ((), ((), ((), ()))))) ?_ k _ ⟨rfl, rfl, rfl, rfl, rfl, by simp, by simp only; omega, by simp⟩ (by simp only; omega)).trans ?_
  · rintro ⟨id', s', size', countx, ps, count', i, u⟩ ⟨e1, e2, e3, e4, e5, h0, h1, h2⟩ again hg
    simp only at e1 e2 e3 e4 e5 h0 h1 h2
    subst e1 e2 e3 e4
    subst e5
    by_cases hi : i < count'
    · obtain ⟨m1, m2, m3⟩ := h.mul i h0 hi
      have w : wi64 (i + 1) = i + 1 := w64_id _ (by omega)
      have w2 : wi64 (i * size') = i * size' := w64_id _ (by omega)
      have w3 : wi64 ((i + 1) * size') = (i + 1) * size' := w64_id _ (by rw [m3]; omega)
      have hid := h.pid
      have hf := h.pft i h0 hi
      have hn : ((i.toNat : Nat) : Int) = i := by omega
      have hp : (byteOf id' ++ byteOf i ++ byteOf count' ++ ByteArray.extract s' ((i * size').toNat) (if (s'.size : Int) < (i + 1) * size' then (s'.size : Int) else (i + 1) * size').toNat) = partOf id' count' size' s' i.toNat := by
        unfold partOf; rw [hn]
      have := hg (id', (s', (size', (count', ((ps ++ [partOf id' count' size' s' i.toNat]), (count', (i + 1, ()))))))) ⟨rfl, rfl, rfl, rfl, rfl, by simp only; omega, by simp only; omega, by simp only [List.length_append, List.length_singleton]; omega⟩ (by simp only; omega)
      have x1 := extract_le s' (i * size').toNat (if (s'.size : Int) < (i + 1) * size' then (s'.size : Int) else (i + 1) * size').toNat
      have hr : List.range' i.toNat (count'.toNat - i.toNat) = i.toNat :: List.range' (i + 1).toNat (count'.toNat - (i + 1).toNat) := by
        rw [range_step _ _ (by omega), show (i + 1).toNat = i.toNat + 1 by omega]
      rw [hr]
      simp only [hi, decide_true, if_true, w, w2, w3, byteText_is, Option.bind_some, byteOf_size, ByteArray.size_append, List.length_singleton]
      by_cases hb : (s'.size : Int) < (i + 1) * size'
      · rw [if_pos hb] at hp x1
        simp only [hb, if_true]
        rw [if_pos (by omega), if_pos (by omega), if_pos (by omega), if_pos (by omega), if_pos (by omega), if_pos (by omega), hp]
        refine this.trans ?_
        simp
      · rw [if_neg hb] at hp x1
        simp only [hb, if_false]
        have hb' : (i + 1) * size' ≤ (s'.size : Int) := by omega
        rw [if_pos (by omega), if_pos (by omega), if_pos (by omega), if_pos (by omega), if_pos (by omega), if_pos (by omega), hp]
        refine this.trans ?_
        simp
    · have : i = count' := by omega
      subst this
      simp
  · simp [List.range_eq_range']
abbrev Cur : Type := List Int × Int × Int × Unit
def CurOk (c : Cur) : Prop := 0 ≤ c.2.1 ∧ c.2.1 ≤ (c.1.length : Int) ∧ c.1.length ≤ 1048576
theorem and255 (y : Int) : 0 ≤ bitsI .and .i64 y 255 ∧ bitsI .and .i64 y 255 ≤ 255 := by
  have h : (BitVec.ofInt 64 y &&& BitVec.ofInt 64 255).toNat ≤ 255 := by
    rw [BitVec.toNat_and]
    exact Nat.le_trans Nat.and_le_right (by decide)
  show 0 ≤ IntKind.i64.wrap ((BitVec.ofInt 64 y &&& BitVec.ofInt 64 255).toNat : Int) ∧ IntKind.i64.wrap ((BitVec.ofInt 64 y &&& BitVec.ofInt 64 255).toNat : Int) ≤ 255
  rw [w64_id _ (by omega)]
  omega
theorem Byte_is (k : Nat) (c : Cur) (hc : CurOk c) : ∃ (v : Int) (c' : Cur), s_l01Byte k (c, ()) = some (v, (c', ())) ∧ 0 ≤ v ∧ v ≤ 255 ∧ CurOk c' := by
  obtain ⟨h0, h1, h2⟩ := hc
  unfold s_l01Byte
  by_cases h : c.2.1 < (c.1.length : Int)
  · have w : wi64 (c.2.1 + 1) = c.2.1 + 1 := w64_id _ (by omega)
    simp only [h, h0, and_self, decide_true, if_true]
    refine ⟨_, _, rfl, (and255 _).1, (and255 _).2, ?_⟩
    exact ⟨by simp only [w]; omega, by simp only [w]; omega, h2⟩
  · simp only [h, decide_false, Bool.false_eq_true, if_false]
    exact ⟨_, _, rfl, (and255 _).1, (and255 _).2, h0, h1, h2⟩
theorem tmod_in (v n : Int) (h : 0 ≤ v) (hn : 0 < n) : 0 ≤ Int.tmod v n ∧ Int.tmod v n < n := by
  rw [Int.tmod_eq_emod_of_nonneg h]
  exact ⟨Int.emod_nonneg _ (by omega), Int.emod_lt_of_pos _ hn⟩
theorem Below_is (k : Nat) (c : Cur) (n : Int) (hc : CurOk c) : ∃ (v : Int) (c' : Cur), s_l01Below k (c, (n, ())) = some (v, (c', ((), ()))) ∧ 0 ≤ v ∧ (0 < n → v < n) ∧ CurOk c' := by
  unfold s_l01Below
  by_cases hn : n ≤ 0
  · simp only [hn, decide_true, if_true]
    exact ⟨0, c, rfl, by omega, fun h => by omega, hc⟩
  · have hz : ¬ n = 0 := by omega
    obtain ⟨v1, c1, e1, a1, b1, hc1⟩ := Byte_is k c hc
    by_cases hs : n ≤ 256
    · simp only [hn, hs, hz, e1, decide_true, decide_false, Bool.false_eq_true, if_true, if_false, Option.bind_some]
      exact ⟨_, _, rfl, (tmod_in v1 n a1 (by omega)).1, fun _ => (tmod_in v1 n a1 (by omega)).2, hc1⟩
    · obtain ⟨v2, c2, e2, a2, b2, hc2⟩ := Byte_is k c1 hc1
      obtain ⟨v3, c3, e3, a3, b3, hc3⟩ := Byte_is k c2 hc2
      obtain ⟨v4, c4, e4, a4, b4, hc4⟩ := Byte_is k c3 hc3
      have e : 0 ≤ wi64 (wi64 (wi64 (wi64 (v1 * 16777216) + wi64 (v2 * 65536)) + wi64 (v3 * 256)) + v4) := by
        simp only [wi64, IntKind.wrap_i64]
        omega
      simp only [hn, hs, hz, e1, e2, e3, e4, decide_false, Bool.false_eq_true, if_false, Option.bind_some]
      exact ⟨_, _, rfl, (tmod_in _ n e (by omega)).1, fun _ => (tmod_in _ n e (by omega)).2, hc4⟩
theorem PickInt_is (k : Nat) (c : Cur) (l : List Int) (hc : CurOk c) (hl : 0 < l.length) : ∃ (v : Int) (c' : Cur), s_l01PickInt k (c, (l, ())) = some (v, (c', ((), ()))) ∧ v ∈ l ∧ CurOk c' := by
  obtain ⟨v, c', e, h0, h1, h⟩ := Below_is k c (l.length : Int) hc
  have h1 := h1 (by omega)
  unfold s_l01PickInt
  simp only [e, h0, h1, and_self, if_true, Option.bind_some]
  refine ⟨_, _, rfl, ?_, h⟩
  rw [rd_get (t := .int .i64) l v (by omega)]
  exact List.getElem_mem _
theorem strOf_size (l : List Int) : (strOf l).size = l.length := by simp [strOf, ByteArray.size]
theorem Text_is (k : Nat) (c : Cur) (n : Int) (hc : CurOk c) (hk : 1048576 < k) : ∃ (t : ByteArray) (c' : Cur), s_l01Text k (c, (n, ())) = some (t, (c', ((), ()))) ∧ t.size ≤ 5000 ∧ CurOk c' := by
  have hcap : capMax = 274877906944 := rfl
  unfold s_l01Text
  simp only [decide_eq_true_eq]
  rw [jn_one]
  have hm : (if 5000 < n then (5000 : Int) else n) ≤ 5000 := by split <;> omega
  generalize (if 5000 < n then (5000 : Int) else n) = m at hm
  obtain ⟨r, h1, h2, h3⟩ := (whileK_some (T := ByteArray × Cur) (g := fun r => (r.1, (r.2, ((), ())))) (fun y : Cur × Int × List Int × Int × Unit => (m - y.2.2.2.1).toNat) (fun y => CurOk y.1 ∧ y.2.1 = m ∧ 0 ≤ y.2.2.2.1 ∧ (y.2.2.1.length : Int) = y.2.2.2.1 ∧ y.2.2.1.length ≤ 5000) (fun _ r => r.1.size ≤ 5000 ∧ CurOk r.2) (step := fun (rec0 : (Cur × Int × List (Int) × Int × Unit) → Option (ByteArray × Cur × Unit × Unit)) (y0 : Cur × Int × List (Int) × Int × Unit) =>
    (if y0.2.2.2.1 < y0.2.1 then
    ((s_l01Byte k ((y0.1.1, (y0.1.2.1, (y0.1.2.2.1, ()))), ())).bind fun p2 =>
    (if List.length y0.2.2.1 + List.length ([(wu8 (p2.1))] : List (Int)) ≤ capMax then
    (rec0 ((p2.2.1.1, (p2.2.1.2.1, (p2.2.1.2.2.1, ()))), (y0.2.1, ((y0.2.2.1 ++ ([(wu8 (p2.1))] : List (Int))), ((wi64 (y0.2.2.2.1 + (1 : Int))), ())))))
    else none))
    else
    some ((strOf y0.2.2.1), ((y0.1.1, (y0.1.2.1, (y0.1.2.2.1, ()))), ((), ()))))) (by
      rintro ⟨c, m', l, i, u⟩ ⟨g0, g1, g2, g3, g4⟩ again hg
      simp only at g0 g1 g2 g3 g4
      subst g1
      by_cases hi : i < m'
      · obtain ⟨v, c', e, _, _, hc'⟩ := Byte_is k c g0
        have w : wi64 (i + 1) = i + 1 := w64_id _ (by omega)
        simp only [hi, if_true, e, Option.bind_some, w]
        rw [if_pos (by simp only [List.length_singleton]; omega)]
        exact hg (c', (m', ((l ++ [wu8 v]), (i + 1, ())))) ⟨hc', rfl, by simp only; omega, by simp only [List.length_append, List.length_singleton]; omega, by simp only [List.length_append, List.length_singleton]; omega⟩ (by simp only; omega)
      · simp only [hi, if_false]
        exact ⟨(strOf l, c), rfl, by rw [strOf_size]; exact g4, g0⟩) k (c, (m, (([] : List Int), ((0 : Int), ())))) ⟨hc, rfl, by simp, by simp, by simp⟩ (by simp only; omega))
  exact ⟨r.1, r.2, h1, h2, h3⟩
theorem Long_is (k : Nat) (n x : Int) (h0 : 0 ≤ n) (h1 : n ≤ 5000) (hk : 1048576 < k) : ∃ t : ByteArray, s_l01Long k (n, (x, ())) = some (t, ((), ((), ()))) ∧ t.size ≤ 5000 := by
  have hcap : (capMax : Int) = 274877906944 := rfl
  unfold s_l01Long
  simp only [if_true]
  rw [if_pos (by omega)]
  refine whileK_some (g := fun t : ByteArray => (t, ((), ((), ())))) (fun y : Int × Int × List Int × Int × Unit => (n - y.2.2.2.1).toNat) (fun y => y.1 = n ∧ y.2.2.1.length = n.toNat ∧ 0 ≤ y.2.2.2.1) (fun _ t => t.size ≤ 5000) ?_ k _ ⟨rfl, by simp, by simp⟩ (by simp only; omega)
  rintro ⟨m, y, l, i, u⟩ ⟨g1, g2, g3⟩ again hg
  simp only at g1 g2 g3
  subst g1
  by_cases hi : i < m
  · have w : wi64 (i + 1) = i + 1 := w64_id _ (by omega)
    have q : (0 : Int) ≤ i ∧ i < (l.length : Int) := by omega
    simp only [hi, q, and_self, decide_true, if_true, w]
    exact hg _ ⟨rfl, by simp [g2], by simp only; omega⟩ (by simp only; omega)
  · simp only [hi, decide_false, Bool.false_eq_true, if_false]
    exact ⟨_, rfl, by rw [strOf_size]; omega⟩
theorem New_is (k : Nat) (a : List Int) (hl : a.length ≤ 1048576) (hk : 1048576 < k) : ∃ c : Cur, s_l01New k (a, ()) = some (c, ((), ())) ∧ CurOk c := by
  unfold s_l01New
  refine whileK_some (g := fun c : Cur => (c, ((), ()))) (fun y : List Int × Int × Int × Unit => (a.length - y.2.2.1).toNat) (fun y => y.1 = a ∧ 0 ≤ y.2.2.1) (fun _ c => CurOk c) ?_ k _ ⟨rfl, by simp⟩ (by simp only; omega)
  rintro ⟨b, h, i, u⟩ ⟨g1, g2⟩ again hg
  simp only at g1 g2
  subst g1
  by_cases hi : i < (b.length : Int)
  · by_cases h4 : i < 4000
    · have w : wi64 (i + 1) = i + 1 := w64_id _ (by omega)
      simp only [hi, h4, g2, and_self, decide_true, if_true, w]
      exact hg _ ⟨rfl, by simp only; omega⟩ (by simp only; omega)
    · simp only [hi, h4, decide_true, decide_false, if_true, Bool.false_eq_true, if_false]
      exact ⟨_, rfl, by simp, by simp, hl⟩
  · simp only [hi, decide_false, Bool.false_eq_true, if_false]
    exact ⟨_, rfl, by simp, by simp, hl⟩
theorem DrawPlaces_is (k : Nat) (a : List Int) (ha : a.length ≤ 1048576) (hk : 2097152 < k) : ∃ l : List Int, s_DrawPlaces k (a, ()) = some (l, ((), ())) ∧ l.length = 12 ∧ ∀ x ∈ l, 0 ≤ x ∧ x < 10000 := by
  unfold s_DrawPlaces
  obtain ⟨c, e1, hc⟩ := New_is k a ha (by omega)
  obtain ⟨v, c1, e2, _, _, hc1⟩ := Byte_is k c hc
  simp only [e1, e2, Option.bind_some]
  refine (fun (key : ∃ r, _ = some r ∧ (∃ l : List Int, r = (l, ((), ())) ∧ l.length = 12 ∧ ∀ x ∈ l, 0 ≤ x ∧ x < 10000)) => by obtain ⟨r, h1, l, rfl, h2⟩ := key; exact ⟨l, h1, h2⟩) ?_
  refine whileK_ends (X := Cur × List Int × Int × Unit) (R := List Int × Unit × Unit) (fun q => (12 - q.2.2.1).toNat) (fun q => CurOk q.1 ∧ (q.2.1.length : Int) = q.2.2.1 ∧ q.2.2.1 ≤ 12 ∧ ∀ x ∈ q.2.1, 0 ≤ x ∧ x < 10000) (fun _ r => ∃ l : List Int, r = (l, ((), ())) ∧ l.length = 12 ∧ ∀ x ∈ l, 0 ≤ x ∧ x < 10000)
    ?_ k (c1, ([], (0, ()))) ⟨hc1, rfl, by show (0 : Int) ≤ 12; decide, by intro x hx; cases hx⟩ (by show 12 < k; omega)
  rintro ⟨c2, out, i, ⟨⟩⟩ ⟨hc2, hl, i1, hin⟩ again hag
  simp only at hc2 hl i1 hin hag
  by_cases g : i < 12
  · obtain ⟨w, c3, b1, w0, w1, hc3⟩ := Below_is k c2 10000 hc2
    have w1 := w1 (by omega)
    have e2 : wi64 (i + 1) = i + 1 := w64_id _ (by omega)
    have hcap : out.length + ([w] : List Int).length ≤ capMax := cap_ok _ _ (by simp; omega)
    simp only [g, b1, e2, hcap, decide_true, if_true, Option.bind_some]
    refine hag (c3, (out ++ [w], (i + 1, ()))) ⟨hc3, by simp; omega, by show i + 1 ≤ 12; omega, fun x hx => ?_⟩ (by show (12 - (i + 1)).toNat < (12 - i).toNat; omega)
    rcases List.mem_append.1 hx with hx | hx
    · exact hin x hx
    · simp at hx; subst hx; exact ⟨w0, w1⟩
  · simp only [g, decide_false, Bool.false_eq_true, if_false]
    exact ⟨_, rfl, out, rfl, by omega, hin⟩
theorem loop_app {X R A : Type} {step : (X → Option R) → X → Option R} (a : List A) (st : Nat → List A → X) (r : R)
    (hs : ∀ again i out x, out.length = i → i < a.length → a[i]? = some x → step again (st i out) = again (st (i + 1) (out ++ [x])))
    (he : ∀ again, step again (st a.length a) = some r) : ∀ k, a.length < k → whileK step k (st 0 []) = some r := by
  have key : ∀ (s p : List A) k, p ++ s = a → s.length < k → whileK step k (st p.length p) = some r := by
    intro s
    induction s with
    | nil =>
      intro p k h hk
      obtain ⟨k, rfl⟩ : ∃ k', k = k' + 1 := ⟨k - 1, by omega⟩
      have : p = a := by simpa using h
      subst this
      exact he _
    | cons x s ih =>
      intro p k h hk
      obtain ⟨k, rfl⟩ : ∃ k', k = k' + 1 := ⟨k - 1, by omega⟩
      show step _ _ = _
      subst h
      rw [hs _ _ _ x rfl (by simp) (by simp)]
      have := ih (p ++ [x]) k (by simp) (by simpa using hk)
      simpa using this
  intro k hk
  exact key a [] k (by simp) hk
theorem held_lens {a : List (Int × Int × Int × List (ByteArray) × List (Bool) × Int)} (hb : Bd_HeldS a) {i : Nat} {x : Int × Int × Int × List (ByteArray) × List (Bool) × Int} (h : a[i]? = some x) : x.2.2.2.1.length ≤ 1048576 ∧ x.2.2.2.2.1.length ≤ 1048576 := by
  have := hb.2 x (List.mem_of_getElem? h)
  exact ⟨this.1, this.2.1⟩
theorem i_copyShelf_is (k : Nat) (a : List (Int × Int × Int × List (ByteArray) × List (Bool) × Int)) (hk : 1048576 < k) (hb : Bd_HeldS a) : i_copyShelf k ((a, ()), ()) = some ((a, ()), ((), ())) := by
  unfold i_copyShelf
  have hl : a.length ≤ 1048576 := hb.1
  have hcap : capMax = 274877906944 := rfl
  refine loop_app (A := Int × Int × Int × List (ByteArray) × List (Bool) × Int) a (fun i out => (([], ()), ((out, ()), (a, ((a.length : Int), ((i : Int), ())))))) ((a, ()), ((), ())) ?_ ?_ k (by omega)
  · intro again i out x ho hi hx
    obtain ⟨h1, h2⟩ := held_lens hb hx
    have w : wi64 ((i : Int) + 1) = ((i + 1 : Nat) : Int) := by rw [show wi64 ((i : Int) + 1) = (i : Int) + 1 from w64_id _ (by omega)]; omega
    have p1 : (i : Int) < (a.length : Int) := by omega
    have p2 : 0 ≤ (i : Int) := by omega
    have c3 : out.length + 1 ≤ capMax := by omega
    obtain ⟨x1, x2, x3, x4, x5, x6⟩ := x
    simp only at h1 h2
    have e : i_copyTexts k (x4, ()) = some (x4, ((), ())) := by
      unfold i_copyTexts
      rw [if_pos (by simp; omega)]
      simp
    simp only [Ty.rd, Int.toNat_natCast, getD_some' hx, p1, p2, w, c3, e, Option.bind_some, List.length_nil, List.length_cons, decide_true, and_self, if_true, List.nil_append, Nat.zero_add]
    rw [if_pos (by omega)]
  · intro again
    have : ¬ (a.length : Int) < (a.length : Int) := by omega
    simp [this]
theorem getO_lt : ∀ {t : Ty} {x : t.den} {off : Nat} {o : OL}, t.getO x off = some o → off < t.w
  | .ols _ _, _, 0, _, _ => Nat.zero_lt_one
  | .ols _ _, _, _ + 1, _, h => by simp [Ty.getO] at h
  | .pair a b, x, off, o, h => by
    simp only [Ty.getO] at h
    show off < a.w + b.w
    split at h
    · omega
    · have := getO_lt h
      omega
  | .int _, _, _, _, h => by simp [Ty.getO] at h
  | .bool, _, _, _, h => by simp [Ty.getO] at h
  | .str, _, _, _, h => by simp [Ty.getO] at h
  | .list _, _, _, _, h => by simp [Ty.getO] at h
  | .unit, _, _, _, h => by simp [Ty.getO] at h
  | .nm, _, _, _, h => by simp [Ty.getO] at h
theorem dec_enc {lk : Nat → Option OL} : ∀ {t : Ty} {x : t.den} {n : Nat}, 0 < n → (∀ off o, t.getO x off = some o → lk (n + off) = some o) → t.dec lk (t.enc x n) = some x
  | .ols e u, x, n, hn, h => by
    obtain ⟨m, rfl⟩ : ∃ m, n = m + 1 := ⟨n - 1, by omega⟩
    have := h 0 ⟨e, u, x⟩ rfl
    show decN lk e u (m + 1) = some x
    rw [Nat.add_zero] at this
    simp [decN, this]
  | .pair a b, x, n, hn, h => by
    have h1 := dec_enc (t := a) (x := x.1) (n := n) hn fun off o ho => h off o (by simp only [Ty.getO]; rw [if_pos (getO_lt ho)]; exact ho)
    have h2 := dec_enc (t := b) (x := x.2) (n := n + a.w) (by omega) fun off o ho => by
      rw [Nat.add_assoc]
      exact h (a.w + off) o (by simp only [Ty.getO]; rw [if_neg (by omega), Nat.add_sub_cancel_left]; exact ho)
    show (match a.dec lk (a.enc x.1 n), b.dec lk (b.enc x.2 (n + a.w)) with | some y, some z => some (y, z) | _, _ => none) = _
    rw [h1, h2]
  | .int _, _, _, _, _ => rfl
  | .bool, _, _, _, _ => rfl
  | .str, _, _, _, _ => rfl
  | .list _, _, _, _, _ => rfl
  | .unit, _, _, _, _ => rfl
  | .nm, _, _, _, _ => rfl
theorem nms_enc : ∀ {t : Ty} {x : t.den} {n : Nat}, 0 < n → (t.nms (t.enc x n)).Pairwise (· < ·) ∧ ∀ m ∈ t.nms (t.enc x n), n ≤ m ∧ m < n + t.w
  | .ols e u, x, n, hn => by
    obtain ⟨m, rfl⟩ : ∃ m, n = m + 1 := ⟨n - 1, by omega⟩
    show (nmsN (m + 1)).Pairwise _ ∧ ∀ q ∈ nmsN (m + 1), _
    have : (Ty.ols e u).w = 1 := rfl
    simp [nmsN, this]
  | .pair a b, x, n, hn => by
    obtain ⟨h1, h2⟩ := nms_enc (t := a) (x := x.1) (n := n) hn
    obtain ⟨h3, h4⟩ := nms_enc (t := b) (x := x.2) (n := n + a.w) (by omega)
    have hw : (Ty.pair a b).w = a.w + b.w := rfl
    show (a.nms (a.enc x.1 n) ++ b.nms (b.enc x.2 (n + a.w))).Pairwise _ ∧ ∀ m ∈ a.nms (a.enc x.1 n) ++ b.nms (b.enc x.2 (n + a.w)), _
    refine ⟨List.pairwise_append.2 ⟨h1, h3, fun p hp q hq => ?_⟩, fun m hm => ?_⟩
    · have := h2 p hp
      have := h4 q hq
      omega
    · rcases List.mem_append.1 hm with hm | hm
      · have := h2 m hm; omega
      · have := h4 m hm; omega
  | .int _, _, _, _ => ⟨List.Pairwise.nil, by simp [Ty.nms]⟩
  | .bool, _, _, _ => ⟨List.Pairwise.nil, by simp [Ty.nms]⟩
  | .str, _, _, _ => ⟨List.Pairwise.nil, by simp [Ty.nms]⟩
  | .list _, _, _, _ => ⟨List.Pairwise.nil, by simp [Ty.nms]⟩
  | .unit, _, _, _ => ⟨List.Pairwise.nil, by simp [Ty.nms]⟩
  | .nm, _, _, _ => ⟨List.Pairwise.nil, by simp [Ty.nms]⟩
def encP (t : Ty) (xs : List t.den) : List (t.nmd.den × t.den) := xs.mapIdx fun i x => (t.enc x (i * t.w + 1), x)
theorem encP_fst (t : Ty) (xs : List t.den) : (encP t xs).map Prod.fst = t.encs xs := by
  apply List.ext_getElem?
  intro i
  simp only [encP, Ty.encs, List.getElem?_map, List.getElem?_mapIdx]
  cases xs[i]? <;> rfl
theorem encP_dec {t : Ty} {xs : List t.den} {y : t.nmd.den × t.den} (h : y ∈ encP t xs) : t.dec (t.lookN xs) y.1 = some y.2 ∧ ∃ n, y.1 = t.enc y.2 n := by
  obtain ⟨i, hi⟩ := List.getElem?_of_mem h
  unfold encP at hi
  rw [List.getElem?_mapIdx] at hi
  cases hx : xs[i]? with
  | none => rw [hx] at hi; cases hi
  | some x =>
    rw [hx] at hi
    injection hi with hi
    subst hi
    refine ⟨dec_enc (by omega) fun off o ho => ?_, _, rfl⟩
    have hlt := getO_lt ho
    rw [show i * t.w + 1 + off = (i * t.w + off) + 1 by omega]
    have e1 : (i * t.w + off) / t.w = i := by rw [Nat.mul_comm, Nat.mul_add_div (by omega), Nat.div_eq_of_lt hlt, Nat.add_zero]
    have e2 : (i * t.w + off) % t.w = off := by rw [Nat.mul_comm, Nat.mul_add_mod, Nat.mod_eq_of_lt hlt]
    simp only [Ty.lookN, e1, e2, hx, ho]
theorem decs_map {lk : Nat → Option OL} {t : Ty} : ∀ {Y : List (t.nmd.den × t.den)}, (∀ y ∈ Y, t.dec lk y.1 = some y.2) → t.decs lk (Y.map Prod.fst) = some (Y.map Prod.snd)
  | [], _ => rfl
  | y :: Y, h => by
    have h1 := h y (by simp)
    have h2 := decs_map (Y := Y) fun z hz => h z (List.mem_cons_of_mem _ hz)
    show (match t.dec lk y.1, t.decs lk (Y.map Prod.fst) with | some x, some xs => some (x :: xs) | _, _ => none) = _
    rw [h1, h2]
    rfl
theorem flatMap_sub {A B : Type} {f : A → List B} {l l' : List A} (h : l.Sublist l') : (l.flatMap f).Sublist (l'.flatMap f) := by
  induction h with
  | slnil => exact List.Sublist.refl _
  | cons a _ ih => rw [List.flatMap_cons]; exact ih.trans (List.sublist_append_right _ _)
  | cons_cons a _ ih => rw [List.flatMap_cons, List.flatMap_cons]; exact List.Sublist.append_left ih _
theorem encs_nms (t : Ty) (xs : List t.den) : ((t.encs xs).flatMap t.nms).Nodup := by
  have key : ∀ (xs : List t.den) (s : Nat), ((xs.mapIdx fun i x => t.enc x ((s + i) * t.w + 1)).flatMap t.nms).Pairwise (· < ·) ∧ ∀ m ∈ (xs.mapIdx fun i x => t.enc x ((s + i) * t.w + 1)).flatMap t.nms, s * t.w + 1 ≤ m := by
    intro xs
    induction xs with
    | nil => intro s; simp
    | cons x xs ih =>
      intro s
      rw [List.mapIdx_cons, List.flatMap_cons]
      have e : (xs.mapIdx fun i x => t.enc x ((s + (i + 1)) * t.w + 1)) = xs.mapIdx fun i x => t.enc x ((s + 1 + i) * t.w + 1) := by
        congr 1
        funext i x
        rw [show s + (i + 1) = s + 1 + i by omega]
      rw [e]
      obtain ⟨h1, h2⟩ := ih (s + 1)
      obtain ⟨h3, h4⟩ := nms_enc (t := t) (x := x) (n := (s + 0) * t.w + 1) (by omega)
      have hw : (s + 1) * t.w = s * t.w + t.w := by rw [Nat.add_mul, Nat.one_mul]
      rw [hw] at h2
      simp only [Nat.add_zero] at h3 h4 ⊢
      refine ⟨List.pairwise_append.2 ⟨h3, h1, fun p hp q hq => ?_⟩, fun m hm => ?_⟩
      · have := h4 p hp
        have := h2 q hq
        omega
      · rcases List.mem_append.1 hm with hm | hm
        · exact (h4 m hm).1
        · have := h2 m hm; omega
  have := (key xs 0).1
  have e : (xs.mapIdx fun i x => t.enc x ((0 + i) * t.w + 1)) = t.encs xs := by
    unfold Ty.encs
    congr 1
    funext i x
    rw [Nat.zero_add]
  rw [e] at this
  exact this.imp fun h => Nat.ne_of_lt h
/-- Rows that are picked under names are those rows. -/
theorem treeF_pick {t : Ty} {Y O : Type} {G : List t.nmd.den × Y → Option (List t.nmd.den × O)} {xs : List t.den} {y : Y} {o : O} {Z : List (t.nmd.den × t.den)} (hZ : Z.Sublist (encP t xs)) (hG : G (t.encs xs, y) = some (Z.map Prod.fst, o)) :
    treeF t G (xs, y) = some (Z.map Prod.snd, o) := by
  unfold treeF
  simp only [hG]
  rw [decs_map fun z hz => (encP_dec (hZ.subset hz)).1]
  have : ((Z.map Prod.fst).flatMap t.nms).Nodup := by
    refine (encs_nms t xs).sublist ?_
    rw [← encP_fst]
    exact flatMap_sub (hZ.map _)
  simp only [this, if_true]
abbrev HeldP := Int × Int × Int × List (ByteArray) × List (Bool) × Int
def pS (n : Nat) (P : Nat → ByteArray) (S : Nat → Bool) : List ByteArray := (List.range n).map fun j => if S j then P j else ⟨#[]⟩
def hS (n : Nat) (S : Nat → Bool) : List Bool := (List.range n).map S
theorem set_range {A : Type} (n p : Nat) (F : Nat → A) (v : A) : ((List.range n).map F).set p v = (List.range n).map (fun j => if j = p then v else F j) := by
  refine List.ext_getElem (by simp) fun i h1 h2 => ?_
  simp only [List.getElem_set, List.getElem_map, List.getElem_range]
  by_cases h : p = i
  · simp [h]
  · simp [h, Ne.symm h]
theorem rd_bool (n : Nat) (S : Nat → Bool) (j : Nat) (hj : j < n) : Ty.rd (t := .bool) (hS n S) (j : Int) = S j := by
  show (hS n S).getD j _ = _
  unfold hS
  rw [List.getD_eq_getElem?_getD, List.getElem?_map, List.getElem?_range hj]
  rfl
theorem rd_str (n : Nat) (P : Nat → ByteArray) (S : Nat → Bool) (j : Nat) (hj : j < n) : Ty.rd (t := .str) (pS n P S) (j : Int) = if S j then P j else ⟨#[]⟩ := by
  show (pS n P S).getD j _ = _
  unfold pS
  rw [List.getD_eq_getElem?_getD, List.getElem?_map, List.getElem?_range hj]
  rfl
theorem gH_cnt (n : Nat) (P : Nat → ByteArray) (S : Nat → Bool) (hP : ∀ j, j < n → (P j).size ≤ 120) (fin : Int → Bool × Unit × Unit) :
    ∀ m i a, i + m ≤ n → foldE (gH (pS n P S) (hS n S)) fin m i a = fin (a + (((List.range' i m).countP S : Nat) : Int)) := by
  intro m
  induction m with
  | zero => intro i a h; simp [foldE]
  | succ m ih =>
    intro i a h
    have hg : goodP (pS n P S) (hS n S) i = true := by
      unfold goodP
      rw [rd_str n P S i (by omega), rd_bool n S i (by omega)]
      cases hs : S i with
      | true => simp [hP i (by omega)]
      | false => simp [ByteArray.size]
    have e : gH (pS n P S) (hS n S) i a = .inr (if S i then a + 1 else a) := by
      unfold gH
      rw [if_pos hg, rd_bool n S i (by omega)]
    rw [foldE, e]
    simp only
    rw [ih (i + 1) _ (by omega), List.range'_succ, List.countP_cons]
    congr 1
    cases S i <;> simp
    omega
theorem heldB_S {f id u : Int} {n : Nat} {P : Nat → ByteArray} {S : Nat → Bool} (hf : 1 ≤ f ∧ f ≤ 99) (hid : 0 ≤ id ∧ id ≤ 255) (hn : 2 ≤ n ∧ n ≤ 15) (hu : 0 ≤ u ∧ u ≤ 1000000000) (hP : ∀ j, j < n → (P j).size ≤ 120) (h1 : ∃ j, j < n ∧ S j = true) (h0 : ∃ j, j < n ∧ S j = false) :
    heldB (f, (id, ((n : Int), (pS n P S, (hS n S, (u, ())))))) = true := by
  unfold heldB
  have l1 : (pS n P S).length = n := by simp [pS]
  have l2 : (hS n S).length = n := by simp [hS]
  have hc : (2 : Int) ≤ (n : Int) ∧ (n : Int) ≤ 15 := by omega
  simp only [l1, l2, hf, hid, hc, hu, and_self, decide_true, Bool.true_and, Int.toNat_natCast]
  rw [gH_cnt n P S hP _ n 0 0 (by omega)]
  have c1 : 0 < (List.range' 0 n).countP S := by
    obtain ⟨j, hj, hs⟩ := h1
    exact List.countP_pos_iff.2 ⟨j, by simp; omega, hs⟩
  have c2 : (List.range' 0 n).countP S < n := by
    refine Nat.lt_of_le_of_ne (by have := List.countP_le_length (p := S) (l := List.range' 0 n); simpa using this) fun e => ?_
    obtain ⟨j, hj, hs⟩ := h0
    have e' : (List.range' 0 n).countP S = (List.range' 0 n).length := by rw [e]; simp
    have := List.countP_eq_length.1 e' j (by simp; omega)
    rw [hs] at this
    cases this
  simp only [decide_eq_true_eq]
  omega
theorem shelf_nil (k : Nat) (hk : 1048576 < k) : i_ShelfOk k (([], ()), ()) = some (true, ((), ())) := by
  rw [i_ShelfOk_is k [] hk (by simp)]
  rfl
theorem shelf_one (k : Nat) (hk : 1048576 < k) (x : HeldP) (h : heldB (ag_Held x) = true) : i_ShelfOk k (([x], ()), ()) = some (true, ((), ())) := by
  rw [i_ShelfOk_is k [x] hk (by simp)]
  have e : gS [x] 0 () = .inr () := by
    unfold gS
    have : Ty.rd (t := RT_Held) [x] ((0 : Nat) : Int) = x := rfl
    rw [this, h]
    rfl
  show some (foldE _ _ 1 0 ()) = _
  rw [foldE, e]
  rfl
theorem index_bool (k : Nat) (hk : 1048576 < k) (n : Nat) (hn : n ≤ 15) (S : Nat → Bool) : x_slices_Contains_bool_bool k (hS n S, (false, ())) = some (!(List.range n).all S, ((), ((), ()))) := by
  have l2 : (hS n S).length = n := by simp [hS]
  have h : x_slices_Index_bool_bool k (hS n S, (false, ())) = some (match (List.range n).find? (fun j => !S j) with | some i => (((i : Nat) : Int), ((), ((), ()))) | none => (-1, ((), ((), ())))) := by
    unfold x_slices_Index_bool_bool
    rw [l2]
    refine loop_find (fun j => (hS n S, (false, ((n : Int), (((j : Nat) : Int), ()))))) n (fun j => !S j) (fun i => (((i : Nat) : Int), ((), ((), ())))) (-1, ((), ((), ()))) ?_ ?_ k (by omega)
    · intro ag j hj
      have q1 : (0 : Int) ≤ (j : Int) ∧ (j : Int) < (n : Int) := by omega
      have w3 : wi64 ((j : Int) + 1) = ((j + 1 : Nat) : Int) := (w64_id _ (by omega)).trans (by omega)
      simp only [l2, q1, w3, and_self, decide_true, if_true, rd_bool n S j hj]
      cases S j <;> simp
    · intro ag
      simp only [Int.lt_irrefl, decide_false, Bool.false_eq_true, if_false]
  unfold x_slices_Contains_bool_bool
  rw [h]
  cases hf : (List.range n).find? (fun j => !S j) with
  | none =>
    have ha : (List.range n).all S = true := by
      rw [List.all_eq_true]
      intro j hj
      have := List.find?_eq_none.1 hf j hj
      simpa using this
    simp [ha]
  | some i =>
    have h1 := List.find?_some hf
    have h2 := List.mem_of_find?_eq_some hf
    have ha : (List.range n).all S = false := by
      rw [List.all_eq_false]
      exact ⟨i, h2, by simpa using h1⟩
    simp [ha]
theorem del_oneN (k : Nat) (L : List (Int × Int × Int × Nat × Nat × Int)) (hl : L.length = 1) : x_slices_Delete_impl_Held_impl_Held_n k (L, (0, (1, ()))) = some ([], ((), ((), ((), ())))) := by
  have hcap : capMax = 274877906944 := rfl
  unfold x_slices_Delete_impl_Held_impl_Held_n
  obtain ⟨y, rfl⟩ := List.length_eq_one_iff.1 hl
  simp [hcap]
theorem del_one (k : Nat) (x : HeldP) : x_slices_Delete_impl_Held_impl_Held k ([x], (0, (1, ()))) = some ([], ((), ((), ((), ())))) := by
  unfold x_slices_Delete_impl_Held_impl_Held
  exact treeF_pick (t := (.pair (.int .i64) (.pair (.int .i64) (.pair (.int .i64) (.pair (.ols 9 .str) (.pair (.ols 4 .bool) (.int .i64))))))) (Z := []) (List.nil_sublist _) (del_oneN k _ (encs_len _ _))
theorem join_flat (xs : List (List UInt8)) : Lib.join xs [] = xs.flatten := by
  unfold Lib.join
  induction xs with
  | nil => rfl
  | cons x xs ih =>
    cases xs with
    | nil => simp [List.intercalate]
    | cons y ys =>
      simp only [List.intercalate, List.intersperse, List.flatten_cons, List.nil_append] at ih ⊢
      rw [ih]
def catS (l : List ByteArray) : ByteArray := ⟨((l.map (·.data.toList)).flatten).toArray⟩
theorem join_is (k : Nat) (l : List ByteArray) (h1 : l.length ≤ 15) (h2 : ∀ x ∈ l, x.size ≤ 120) : x_strings_Join k (l, (⟨#[]⟩, ())) = some (catS l, ((), ((), ()))) := by
  unfold x_strings_Join joinF catS
  have e : (⟨#[]⟩ : ByteArray).data.toList = [] := rfl
  have hlen : ∀ l : List ByteArray, (∀ x ∈ l, x.size ≤ 120) → ((l.map (·.data.toList)).flatten).length ≤ l.length * 120 := by
    intro l
    induction l with
    | nil => intro _; simp
    | cons x l ih =>
      intro h
      have h1 := ih fun y hy => h y (by simp [hy])
      have h2 : x.data.toList.length ≤ 120 := by have := h x (by simp); rw [Array.length_toList]; exact this
      simp only [List.map_cons, List.flatten_cons, List.length_append, List.length_cons]
      omega
  have := hlen l h2
  simp only [e, join_flat]
  rw [if_pos (by omega)]
theorem read_part (k : Nat) (a : Int) (b c : Int) (t : ByteArray) (ha : 0 ≤ a ∧ a ≤ 255) (hb : 0 ≤ b ∧ b < c) (hc : c ≤ 15) : i_ReadPart k (byteOf a ++ byteOf b ++ byteOf c ++ t, ()) = some ((a, (b, (c, (t, (true, ()))))), ((), ())) := by
  have hB : isB (a :: b :: c :: bytesOf t) := by
    simp only [isB_cons]
    exact ⟨by omega, by omega, by omega, bytesOf_isB t⟩
  have e : byteOf a ++ byteOf b ++ byteOf c ++ t = strOf (a :: b :: c :: bytesOf t) := by
    unfold byteOf
    conv => lhs; rw [← strOf_bytes t]
    rw [← strOf_append, ← strOf_append, ← strOf_append, Int.emod_eq_of_lt (by omega) (by omega), Int.emod_eq_of_lt (by omega) (by omega), Int.emod_eq_of_lt (by omega) (by omega)]
    rfl
  rw [e]
  have hs : (strOf (a :: b :: c :: bytesOf t)).size = t.size + 3 := by rw [strOf_len]; simp [bytesOf_len]
  have b0 : bt (strOf (a :: b :: c :: bytesOf t)) 0 = a := by
    have := bt_get (strOf (a :: b :: c :: bytesOf t)) 0 (by omega)
    simpa [bytesOf_strOf hB] using this
  have b1 : bt (strOf (a :: b :: c :: bytesOf t)) 1 = b := by
    have := bt_get (strOf (a :: b :: c :: bytesOf t)) 1 (by omega)
    simpa [bytesOf_strOf hB] using this
  have b2 : bt (strOf (a :: b :: c :: bytesOf t)) 2 = c := by
    have := bt_get (strOf (a :: b :: c :: bytesOf t)) 2 (by omega)
    simpa [bytesOf_strOf hB] using this
  have ex : (strOf (a :: b :: c :: bytesOf t)).extract 3 (t.size + 3) = t := by
    apply bytesOf_inj
    rw [bytesOf_extract, bytesOf_strOf hB, List.take_of_length_le (by simp [bytesOf_len])]
    rfl
  unfold i_ReadPart
  have w0 : wi64 a = a := w64_id _ (by omega)
  have w1 : wi64 b = b := w64_id _ (by omega)
  have w2 : wi64 c = c := w64_id _ (by omega)
  have n1 : ¬ ((t.size + 3 : Nat) : Int) < 3 := by omega
  have n2 : (0 : Int) ≤ 2 ∧ (2 : Int) < ((t.size + 3 : Nat) : Int) := by omega
  have n3 : (0 : Int) ≤ 1 ∧ (1 : Int) < ((t.size + 3 : Nat) : Int) := by omega
  have n4 : (0 : Int) ≤ 0 ∧ (0 : Int) < ((t.size + 3 : Nat) : Int) := by omega
  have n5 : (0 : Int) ≤ 3 ∧ (3 : Int) ≤ ((t.size + 3 : Nat) : Int) := by omega
  have n6 : (1 : Int) ≤ c ∧ c ≤ 15 := by omega
  have n7 : ¬ c ≤ b := by omega
  simp only [hs, b0, b1, b2, w0, w1, w2, n1, n2, n3, n4, n5, n6, n7, within_is, Option.bind_some, decide_false, decide_true, if_true, Bool.not_true, Bool.false_eq_true, if_false, and_self, Int.toNat_natCast]
  show some ((a, (b, (c, (ByteArray.extract _ 3 (t.size + 3), (true, ()))))), ((), ())) = _
  rw [ex]
def heldR (f id : Int) (n : Nat) (P : Nat → ByteArray) (S : Nat → Bool) (u : Int) : HeldP := (f, (id, ((n : Int), (pS n P S, (hS n S, u)))))
def andS (S : Nat → Bool) (p : Nat) (j : Nat) : Bool := S j || decide (j = p)
theorem hS_set (n p : Nat) (S : Nat → Bool) : (hS n S).set p true = hS n (andS S p) := by
  unfold hS andS
  rw [set_range]
  refine List.map_congr_left fun j _ => ?_
  by_cases h : j = p <;> simp [h]
theorem pS_set (n p : Nat) (P : Nat → ByteArray) (S : Nat → Bool) : (pS n P S).set p (P p) = pS n P (andS S p) := by
  unfold pS andS
  rw [set_range]
  refine List.map_congr_left fun j _ => ?_
  by_cases h : j = p <;> simp [h]
theorem rep_hS (n : Nat) : List.replicate n false = hS n (fun _ => false) := by
  unfold hS
  exact (List.eq_replicate_iff.2 ⟨by simp, by simp⟩).symm
theorem rep_pS (n : Nat) (P : Nat → ByteArray) : List.replicate n (⟨#[]⟩ : ByteArray) = pS n P (fun _ => false) := by
  unfold pS
  exact (List.eq_replicate_iff.2 ⟨by simp, by simp⟩).symm
theorem hS_len (n : Nat) (S : Nat → Bool) : (hS n S).length = n := by simp [hS]
theorem pS_len (n : Nat) (P : Nat → ByteArray) (S : Nat → Bool) : (pS n P S).length = n := by simp [pS]
theorem copy_one (k : Nat) (hk : 1048576 < k) (f id u : Int) (n : Nat) (hn : n ≤ 15) (P : Nat → ByteArray) (S : Nat → Bool) : i_copyShelf k (([heldR f id n P S u], ()), ()) = some (([heldR f id n P S u], ()), ((), ())) := by
  refine i_copyShelf_is k _ hk ⟨by simp, fun r hr => ?_⟩
  have : r = heldR f id n P S u := by simpa using hr
  subst this
  exact ⟨by show (pS n P S).length ≤ 1048576; rw [pS_len]; omega, by show (hS n S).length ≤ 1048576; rw [hS_len]; omega, trivial⟩
theorem add_first (k : Nat) (hk : 1048576 < k) (f id now : Int) (n p : Nat) (P : Nat → ByteArray) (t : ByteArray) (hp : i_ReadPart k (t, ()) = some ((id, ((p : Int), ((n : Int), (P p, (true, ()))))), ((), ())))
    (hf : 1 ≤ f ∧ f ≤ 99) (hn : 2 ≤ n ∧ n ≤ 15) (hpn : p < n) (hP : (P p).size ≤ 120) (hnow : 0 ≤ now ∧ now ≤ 999999992) :
    i_AddPart k (([], ()), (f, (t, (now, ())))) = some ((([heldR f id n P (andS (fun _ => false) p) (now + 8)], ()), (⟨#[]⟩, (false, ()))), ((), ((), ((), ((), ()))))) := by
  have hcap : capMax = 274877906944 := rfl
  have h1 : i_copyShelf k (([], ()), ()) = some (([], ()), ((), ())) := i_copyShelf_is k [] hk ⟨by simp, by simp⟩
  have h3 := shelf_nil k hk
  have h6 : i_heldAt k (([], ()), (f, (id, ()))) = some (-1, ((), ((), ((), ())))) := by rw [heldAt_is k [] f id hk (by simp)]; rfl
  have hsz : ¬ (120 : Int) < ((P p).size : Int) := by omega
  have hn1 : ¬ (n : Int) = 1 := by omega
  have w8 : wi64 (now + 8) = now + 8 := w64_id _ (by omega)
  have hall : (List.range n).all (andS (fun _ => false) p) = false := by
    rw [List.all_eq_false]
    by_cases h : p = 0
    · exact ⟨1, by simp; omega, by simp [andS, h]⟩
    · exact ⟨0, by simp; omega, by simp [andS]; omega⟩
  have hc := index_bool k hk n hn.2 (andS (fun _ => false) p)
  unfold i_AddPart
  simp only [h1, hp, h3, isId_is, within_is, h6, hf, hsz, hn1, hnow, w8, Option.bind_some, decide_true, decide_false, Bool.not_true, Bool.false_eq_true, if_false, if_true, and_self, jn]
  have d1 : decide ((0 : Int) ≤ -1) = false := rfl
  have d2 : decide ((-1 : Int) < 0) = true := rfl
  have d3 : ¬ (((0 : Nat) : Int) = 3) := by omega
  have g1 : (0 : Int) ≤ (n : Int) ∧ (n : Int) ≤ (capMax : Int) := by omega
  have g2 : 0 + 1 ≤ capMax := by omega
  have g3 : (0 : Int) ≤ ((0 : Nat) : Int) ∧ ((0 : Nat) : Int) < ((1 : Nat) : Int) := by omega
  have g4 : (0 : Int) ≤ (p : Int) ∧ (p : Int) < (n : Int) := by omega
  have r1 : Ty.rd (t := .bool) (hS n (fun _ => false)) (p : Int) = false := rd_bool n _ p hpn
  simp only [d1, d2, d3, g1, g2, g3, g4, List.length_nil, List.length_cons, List.nil_append, Nat.zero_add, decide_true, decide_false, Bool.false_eq_true, if_false, if_true, and_self, Int.toNat_natCast, rep_hS, rep_pS n P, Ty.rd, List.getD_cons_zero, hS_len, pS_len]
  have r2 : (hS n (fun _ => false)).getD p (Ty.dflt .bool) = false := r1
  have g5 : (p : Int) < (n : Int) := by omega
  simp only [r2, g5, List.set_cons_zero, List.getD_cons_zero, Bool.not_false, Bool.not_true, if_true, and_self, hS_set, pS_set, hS_len, pS_len, hc, hall, Option.bind_some]
  rfl
theorem held_size (n : Nat) (P : Nat → ByteArray) (S : Nat → Bool) (hP : ∀ j, j < n → (P j).size ≤ 120) : ∀ x ∈ pS n P S, x.size ≤ 120 := by
  intro x hx
  unfold pS at hx
  obtain ⟨j, hj, rfl⟩ := List.mem_map.1 hx
  by_cases h : S j = true
  · rw [if_pos h]; exact hP j (by simpa using hj)
  · rw [if_neg h]; simp [ByteArray.size]
theorem add_next (k : Nat) (hk : 1048576 < k) (f id now u : Int) (n p : Nat) (P : Nat → ByteArray) (S : Nat → Bool) (t : ByteArray) (hp : i_ReadPart k (t, ()) = some ((id, ((p : Int), ((n : Int), (P p, (true, ()))))), ((), ())))
    (hf : 1 ≤ f ∧ f ≤ 99) (hid : 0 ≤ id ∧ id ≤ 255) (hn : 2 ≤ n ∧ n ≤ 15) (hpn : p < n) (hP : ∀ j, j < n → (P j).size ≤ 120) (hnow : 0 ≤ now ∧ now ≤ 999999992) (hu : 0 ≤ u ∧ u ≤ 1000000000) (hSp : S p = false) (hS1 : ∃ j, j < n ∧ S j = true) :
    i_AddPart k (([heldR f id n P S u], ()), (f, (t, (now, ())))) = some ((if (List.range n).all (andS S p) then (([], ()), (catS (pS n P (andS S p)), (true, ()))) else (([heldR f id n P (andS S p) u], ()), (⟨#[]⟩, (false, ())))), ((), ((), ((), ((), ()))))) := by
  have hcap : capMax = 274877906944 := rfl
  have h1 := copy_one k hk f id u n hn.2 P S
  have hB : heldB (ag_Held (heldR f id n P S u)) = true := heldB_S hf hid hn hu hP hS1 ⟨p, hpn, hSp⟩
  have h3 := shelf_one k hk (heldR f id n P S u) hB
  have h6 : i_heldAt k (([heldR f id n P S u], ()), (f, (id, ()))) = some (0, ((), ((), ((), ())))) := by
    rw [heldAt_is k [heldR f id n P S u] f id hk (by simp)]
    have : (List.range [heldR f id n P S u].length).find? (sameK [heldR f id n P S u] f id) = some 0 := by
      have e : sameK [heldR f id n P S u] f id 0 = true := by
        unfold sameK
        have : Ty.rd (t := RT_Held) [heldR f id n P S u] ((0 : Nat) : Int) = heldR f id n P S u := rfl
        rw [this]
        simp [heldR]
      show (List.range 1).find? _ = _
      simp [List.range_succ, e]
    rw [this]
    rfl
  have hsz : ¬ (120 : Int) < ((P p).size : Int) := by have := hP p hpn; omega
  have hn1 : ¬ (n : Int) = 1 := by omega
  have hc := index_bool k hk n hn.2 (andS S p)
  have hj := join_is k (pS n P (andS S p)) (by rw [pS_len]; omega) (held_size n P _ hP)
  have hd := del_one k (heldR f id n P (andS S p) u)
  have w1 : wi64 ((0 : Int) + 1) = 1 := rfl
  unfold heldR at h1 h3 h6 hd ⊢
  unfold i_AddPart
  simp only [h1, hp, h3, isId_is, within_is, h6, hf, hsz, hn1, hnow, Option.bind_some, decide_true, decide_false, Bool.not_true, Bool.false_eq_true, if_false, if_true, and_self, jn]
  have d1 : decide ((0 : Int) ≤ 0) = true := rfl
  have d2 : decide ((0 : Int) < 0) = false := rfl
  have g3 : (0 : Int) ≤ 0 ∧ (0 : Int) < ((1 : Nat) : Int) := by omega
  have g4 : (0 : Int) ≤ (p : Int) ∧ (p : Int) < (n : Int) := by omega
  have g5 : (p : Int) < (n : Int) := by omega
  have r2 : (hS n S).getD p (Ty.dflt .bool) = false := (rd_bool n S p hpn).trans hSp
  have z : (0 : Int).toNat = 0 := rfl
  simp only [d1, d2, g3, g4, g5, r2, z, w1, List.length_nil, List.length_cons, Nat.zero_add, decide_true, decide_false, Bool.false_eq_true, if_false, if_true, and_self, Int.toNat_natCast, Ty.rd, List.getD_cons_zero, List.set_cons_zero, Bool.not_false, Bool.not_true, hS_set, pS_set, hS_len, pS_len, hc, hj, hd, Option.bind_some]
  cases (List.range n).all (andS S p) <;> simp
theorem add_one (k : Nat) (hk : 1048576 < k) (f id now : Int) (t q : ByteArray) (hp : i_ReadPart k (t, ()) = some ((id, (0, (1, (q, (true, ()))))), ((), ())))
    (hf : 1 ≤ f ∧ f ≤ 99) (hq : q.size ≤ 120) (hnow : 0 ≤ now ∧ now ≤ 999999992) : i_AddPart k (([], ()), (f, (t, (now, ())))) = some ((([], ()), (q, (true, ()))), ((), ((), ((), ((), ()))))) := by
  have h1 : i_copyShelf k (([], ()), ()) = some (([], ()), ((), ())) := i_copyShelf_is k [] hk ⟨by simp, by simp⟩
  have h3 := shelf_nil k hk
  have hsz : ¬ (120 : Int) < (q.size : Int) := by omega
  unfold i_AddPart
  simp only [h1, hp, h3, isId_is, within_is, hf, hsz, hnow, Option.bind_some, decide_true, decide_false, Bool.not_true, Bool.false_eq_true, if_false, if_true, and_self]
theorem pS_congr (n : Nat) (P : Nat → ByteArray) {S S' : Nat → Bool} (h : ∀ j, j < n → S j = S' j) : pS n P S = pS n P S' := by
  unfold pS
  exact List.map_congr_left fun j hj => by rw [h j (by simpa using hj)]
theorem hS_congr (n : Nat) {S S' : Nat → Bool} (h : ∀ j, j < n → S j = S' j) : hS n S = hS n S' := by
  unfold hS
  exact List.map_congr_left fun j hj => by rw [h j (by simpa using hj)]
def dist (n r j : Nat) : Nat := if r ≤ j then j - r else j + n - r
def place (n r i : Nat) : Nat := if i + r < n then i + r else i + r - n
def gone (n r i j : Nat) : Bool := decide (dist n r j < i)
theorem place_mod {n t i : Nat} (hn : 0 < n) (hi : i < n) : (i + t) % n = place n (t % n) i := by
  have hr : t % n < n := Nat.mod_lt _ hn
  rw [Nat.add_mod, Nat.mod_eq_of_lt hi]
  unfold place
  split
  · exact Nat.mod_eq_of_lt (by omega)
  · rw [Nat.mod_eq_sub_mod (by omega), Nat.mod_eq_of_lt (by omega)]
theorem place_lt {n r i : Nat} (hr : r < n) (hi : i < n) : place n r i < n := by unfold place; split <;> omega
theorem gone_step {n r i j : Nat} (hr : r < n) (hi : i < n) (hj : j < n) : andS (gone n r i) (place n r i) j = gone n r (i + 1) j := by
  unfold andS gone
  rw [Bool.eq_iff_iff]
  simp only [Bool.or_eq_true, decide_eq_true_eq]
  unfold dist place
  split <;> split <;> omega
theorem gone_place {n r i : Nat} (hr : r < n) (hi : i < n) : gone n r i (place n r i) = false := by
  unfold gone
  simp only [decide_eq_false_iff_not]
  unfold dist place
  split <;> split <;> omega
theorem gone_zero (n r j : Nat) : gone n r 0 j = false := by unfold gone; simp
theorem gone_all {n r i : Nat} (hr : r < n) (hi : i ≤ n) : (List.range n).all (gone n r i) = decide (i = n) := by
  rw [Bool.eq_iff_iff]
  simp only [List.all_eq_true, List.mem_range, decide_eq_true_eq]
  constructor
  · intro h
    have := h (place n r (n - 1)) (place_lt hr (by omega))
    unfold gone at this
    simp only [decide_eq_true_eq] at this
    unfold dist place at this
    split at this <;> split at this <;> omega
  · rintro rfl j hj
    unfold gone
    simp only [decide_eq_true_eq]
    unfold dist
    split <;> omega
def shelfAt (id : Int) (n r : Nat) (P : Nat → ByteArray) (i : Nat) : List HeldP := if i = 0 ∨ i = n then [] else [heldR 4 id n P (gone n r i) 13]
theorem heldR_congr (f id : Int) (n : Nat) (P : Nat → ByteArray) {S S' : Nat → Bool} (u : Int) (h : ∀ j, j < n → S j = S' j) : heldR f id n P S u = heldR f id n P S' u := by
  unfold heldR
  rw [pS_congr n P h, hS_congr n h]
theorem add_turn (k : Nat) (hk : 1048576 < k) (id : Int) (n r i : Nat) (P : Nat → ByteArray) (T : Nat → ByteArray) (hT : ∀ j, j < n → i_ReadPart k (T j, ()) = some ((id, ((j : Int), ((n : Int), (P j, (true, ()))))), ((), ())))
    (hid : 0 ≤ id ∧ id ≤ 255) (hn : 1 ≤ n ∧ n ≤ 15) (hr : r < n) (hi : i < n) (hP : ∀ j, j < n → (P j).size ≤ 120) :
    i_AddPart k ((shelfAt id n r P i, ()), (4, (T (place n r i), (5, ())))) = some (((shelfAt id n r P (i + 1), ()), ((if i + 1 = n then catS ((List.range n).map P) else ⟨#[]⟩), (decide (i + 1 = n), ()))), ((), ((), ((), ((), ()))))) := by
  have hpl := place_lt hr hi
  have hTp := hT _ hpl
  by_cases h0 : i = 0
  · subst h0
    by_cases h1 : n = 1
    · subst h1
      have hr0 : r = 0 := by omega
      subst hr0
      have : place 1 0 0 = 0 := rfl
      rw [this] at hTp ⊢
      have e := add_one k hk 4 id 5 (T 0) (P 0) hTp (by omega) (hP 0 (by omega)) (by omega)
      show i_AddPart k (([], ()), _) = _
      rw [e]
      have hc : catS ((List.range 1).map P) = P 0 := by
        unfold catS
        simp [List.range_succ]
      have hl : shelfAt id 1 0 P (0 + 1) = [] := by simp [shelfAt]
      rw [hl, hc]
      rfl
    · have e := add_first k hk 4 id 5 n (place n r 0) P (T (place n r 0)) hTp (by omega) (by omega) hpl (hP _ hpl) (by omega)
      show i_AddPart k (([], ()), _) = _
      rw [e]
      have h2 : ¬ 0 + 1 = n := by omega
      have h3 : heldR 4 id n P (andS (fun _ => false) (place n r 0)) (5 + 8) = heldR 4 id n P (gone n r 1) 13 := heldR_congr 4 id n P 13 fun j hj => by
        rw [← gone_step hr hi hj]
        unfold andS
        rw [gone_zero]
      have h4 : shelfAt id n r P (0 + 1) = [heldR 4 id n P (gone n r 1) 13] := by unfold shelfAt; rw [if_neg (by omega)]
      rw [h3, h4]
      simp only [h2, if_false, decide_false]
  · have hsh : shelfAt id n r P i = [heldR 4 id n P (gone n r i) 13] := by unfold shelfAt; rw [if_neg (by omega)]
    have hex : ∃ j, j < n ∧ gone n r i j = true := ⟨r, hr, by unfold gone dist; simp; omega⟩
    have e := add_next k hk 4 id 5 13 n (place n r i) P (gone n r i) (T (place n r i)) hTp (by omega) hid (by omega) hpl hP (by omega) (by omega) (gone_place hr hi) hex
    rw [hsh, e]
    have hall : (List.range n).all (andS (gone n r i) (place n r i)) = decide (i + 1 = n) := by
      rw [← gone_all hr (show i + 1 ≤ n by omega)]
      rw [Bool.eq_iff_iff, List.all_eq_true, List.all_eq_true]
      constructor
      · intro h j hj; rw [← gone_step hr hi (by simpa using hj)]; exact h j hj
      · intro h j hj; rw [gone_step hr hi (by simpa using hj)]; exact h j hj
    rw [hall]
    by_cases hl : i + 1 = n
    · have hp : pS n P (andS (gone n r i) (place n r i)) = (List.range n).map P := by
        unfold pS
        refine List.map_congr_left fun j hj => ?_
        have hj' : j < n := by simpa using hj
        rw [gone_step hr hi hj', hl]
        have := gone_all hr (Nat.le_refl n)
        rw [decide_eq_true rfl, List.all_eq_true] at this
        rw [if_pos (this j hj)]
      simp only [hl, decide_true, if_true, hp]
      simp [shelfAt]
    · simp only [hl, decide_false, Bool.false_eq_true, if_false]
      rw [heldR_congr 4 id n P 13 fun j hj => gone_step hr hi hj]
      unfold shelfAt
      rw [if_neg (by omega)]
def cutP (size : Int) (s : ByteArray) (i : Nat) : ByteArray := ByteArray.extract s (((i : Int) * size).toNat) (if (s.size : Int) < ((i : Int) + 1) * size then (s.size : Int) else ((i : Int) + 1) * size).toNat
theorem cat_cut (s : ByteArray) (size : Int) (hz : 0 < size) : ∀ n : Nat, bytesOf (catS ((List.range n).map (cutP size s))) = (bytesOf s).take ((n : Int) * size).toNat := by
  have e0 : ∀ l : List ByteArray, bytesOf (catS l) = (l.map bytesOf).flatten := fun l => by
    unfold catS bytesOf
    simp [List.map_flatten, List.map_map, Function.comp_def]
  intro n
  induction n with
  | zero => simp [e0]
  | succ n ih =>
    rw [e0] at ih ⊢
    rw [List.range_succ, List.map_append, List.map_append, List.flatten_append, ih]
    simp only [List.map_cons, List.map_nil, List.flatten_cons, List.flatten_nil, List.append_nil]
    unfold cutP
    rw [bytesOf_extract]
    obtain ⟨z, rfl⟩ := Int.eq_ofNat_of_zero_le (Int.le_of_lt hz)
    have hz' : 0 < z := by omega
    have e1 : ((n : Int) * (z : Int)).toNat = n * z := by rw [← Int.natCast_mul, Int.toNat_natCast]
    have e2 : (((n + 1 : Nat) : Int) * (z : Int)).toNat = n * z + z := by rw [← Int.natCast_mul, Int.toNat_natCast, Nat.add_mul, Nat.one_mul]
    have e3 : (((n : Nat) : Int) + 1) * (z : Int) = ((n * z + z : Nat) : Int) := by rw [Int.add_mul, Int.one_mul, ← Int.natCast_mul]; omega
    rw [e1, e2, e3, List.take_add]
    congr 1
    have hL : (bytesOf s).length = s.size := bytesOf_len s
    split
    · rename_i h
      rw [Int.toNat_natCast, List.take_of_length_le (by omega), List.take_of_length_le (by rw [List.length_drop]; omega)]
    · rw [Int.toNat_natCast, List.drop_take]
      congr 1
      omega
theorem cut_whole (s : ByteArray) (size : Int) (hz : 20 ≤ size) (h : cntOf s.size size ≤ 15) : catS ((List.range (cntOf s.size size).toNat).map (cutP size s)) = s := by
  apply bytesOf_inj
  rw [cat_cut s size (by omega)]
  have hc : (s.size : Int) ≤ ((cntOf s.size size).toNat : Int) * size := by
    have h1 : (s.size : Int) + size - 1 < (((s.size : Int) + size - 1) / size + 1) * size := Int.lt_ediv_add_one_mul_self _ (by omega)
    rw [Int.add_mul, Int.one_mul] at h1
    unfold cntOf
    split
    · rw [Int.toNat_of_nonneg (by omega)]
      omega
    · rename_i hq
      have h2 : ((s.size : Int) + size - 1) / size * size ≤ 1 * size := Int.mul_le_mul_of_nonneg_right (by omega) (by omega)
      have : ((1 : Int).toNat : Int) = 1 := rfl
      rw [this]
      omega
  rw [List.take_of_length_le]
  rw [bytesOf_len]
  omega
theorem cut_size (s : ByteArray) (size : Int) (hz : 20 ≤ size ∧ size ≤ 120) (i : Nat) : (cutP size s i).size ≤ 120 := by
  unfold cutP
  rw [ByteArray.size_extract]
  have e : ((i : Int) + 1) * size = (i : Int) * size + size := by rw [Int.add_mul, Int.one_mul]
  split <;> omega
theorem splits_all (k : Nat) (hk : 20 < k) (id size : Int) (s : ByteArray) (h1 : 0 ≤ id ∧ id ≤ 255) (h2 : 20 ≤ size ∧ size ≤ 120) : ∃ r : List ByteArray × Bool, (r = ([], false) ∨ (cntOf s.size size ≤ 15 ∧ r = ((List.range (cntOf s.size size).toNat).map (partOf id (cntOf s.size size) size s), true))) ∧
    s_Split k (id, (s, (size, ()))) = some ((r.1, (r.2, ())), ((), ((), ((), ())))) ∧ i_Split k (id, (s, (size, ()))) = some ((r.1, (r.2, ())), ((), ((), ((), ())))) := by
  by_cases h3 : (s.size : Int) ≤ 300
  · rw [s_Split_ok _ id size s h1 h2 h3 hk, i_Split_ok _ id size s h1 h2 h3 hk]
    split
    · exact ⟨([], false), .inl rfl, rfl, rfl⟩
    · exact ⟨(_, true), .inr ⟨by omega, rfl⟩, rfl, rfl⟩
  · refine ⟨([], false), .inl rfl, ?_, ?_⟩
    · unfold s_Split
      have : (300 : Int) < (s.size : Int) := by omega
      simp [l01In_is, h1, h2, this]
    · unfold i_Split
      have : (300 : Int) < (s.size : Int) := by omega
      simp [within_is, h1, h2, this]
theorem loop_st {X R : Type} {step : (X → Option R) → X → Option R} (st : Nat → X) (n : Nat) (r : Option R)
    (hs : ∀ again i, i < n → step again (st i) = again (st (i + 1))) (he : ∀ again, step again (st n) = r) (k : Nat) (hk : n < k) : whileK step k (st 0) = r := by
  have := find_loop_opt (step := step) st n (fun _ => false) none r (fun again i hi => by simpa using hs again i hi) he k hk
  rw [this]
  simp
theorem same_self (k : Nat) (hk : 1048576 < k) (l : List ByteArray) (hl : l.length ≤ 1048576) : w_sameTexts k (l, (l, ())) = some (true, ((), ((), ()))) := by
  unfold w_sameTexts
  simp only [decide_true, Bool.not_true, Bool.false_eq_true, if_false]
  refine loop_st (fun i => (l, (l, ((i : Int), ())))) l.length _ ?_ ?_ k (by omega)
  · intro again i hi
    have w : wi64 ((i : Int) + 1) = ((i + 1 : Nat) : Int) := (w64_id _ (by omega)).trans (by omega)
    have g : (0 : Int) ≤ (i : Int) ∧ (i : Int) < (l.length : Int) := by omega
    simp only [g, w, decide_true, Bool.not_true, Bool.false_eq_true, if_false, if_true, and_self]
  · intro again
    simp
theorem DrawLong_is (k : Nat) (a : List Int) (ha : a.length ≤ 1048576) (hk : 2097152 < k) : ∃ (s : ByteArray) (id size : Int), s_DrawLong k (a, ()) = some ((s, (id, (size, ()))), ((), ())) ∧ (0 ≤ id ∧ id ≤ 255) ∧ (20 ≤ size ∧ size ≤ 59) := by
  have hmx : (10000 : Nat) ≤ maxStr := by decide
  obtain ⟨c, h0, hc⟩ := New_is k a ha (by omega)
  obtain ⟨v1, c1, h1, q1, q1', hc1⟩ := Below_is k c 9 hc
  obtain ⟨t, c2, h2, q2, hc2⟩ := Text_is k c1 v1 hc1 (by omega)
  obtain ⟨v3, c3, h3, q3, hc3⟩ := PickInt_is k c2 [0, 10, 20, 40, 55, 90, 200] hc2 (by simp)
  obtain ⟨v4, c4, h4, q4, q4', hc4⟩ := Below_is k c3 9 hc3
  have q3' : 0 ≤ v3 ∧ v3 ≤ 5000 := by
    simp only [List.mem_cons, List.not_mem_nil, or_false] at q3
    omega
  obtain ⟨t5, h5, q5⟩ := Long_is k v3 (wu8 (wi64 (65 + v4))) q3'.1 q3'.2 (by omega)
  obtain ⟨v6, c6, h6, q6, q6', hc6⟩ := Below_is k c4 256 hc4
  obtain ⟨v7, c7, h7, q7, q7', hc7⟩ := Below_is k c6 40 hc6
  have e1 := q6' (by omega)
  have e2 := q7' (by omega)
  have w : wi64 (20 + v7) = 20 + v7 := w64_id _ (by omega)
  refine ⟨t ++ t5, v6, 20 + v7, ?_, by omega, by omega⟩
  unfold s_DrawLong s_l20Long
  have hsz : t.size + t5.size ≤ maxStr := by omega
  simp only [h0, h1, h2, h3, h4, h5, h6, h7, w, hsz, if_true, Option.bind_some]
theorem partOf_get (id count size : Int) (s : ByteArray) (n i : Nat) (hi : i < n) : Ty.rd (t := .str) ((List.range n).map (partOf id count size s)) ((i : Nat) : Int) = partOf id count size s i := by
  show ((List.range n).map (partOf id count size s)).getD i _ = _
  rw [List.getD_eq_getElem?_getD, List.getElem?_map, List.getElem?_range hi]
  rfl
theorem shelfAt_ok (k : Nat) (hk : 1048576 < k) (id : Int) (n r i : Nat) (P : Nat → ByteArray) (hid : 0 ≤ id ∧ id ≤ 255) (hn : 1 ≤ n ∧ n ≤ 15) (hr : r < n) (hi : i ≤ n) (hP : ∀ j, j < n → (P j).size ≤ 120) : i_ShelfOk k ((shelfAt id n r P i, ()), ()) = some (true, ((), ())) := by
  unfold shelfAt
  split
  · exact shelf_nil k hk
  · refine shelf_one k hk _ (heldB_S (f := 4) (id := id) (u := 13) (n := n) (by omega) hid (by omega) (by omega) hP ⟨r, hr, ?_⟩ ⟨place n r i, place_lt hr (by omega), gone_place hr (by omega)⟩)
    unfold gone dist
    simp
    omega
theorem pieces_law (k : Nat) (hk : 2097152 < k) (a : List Int) : ∃ o, w_FnPieces k (a, ()) = some (true, o) := by
  unfold w_FnPieces
  have hbig : w_big k (a, ()) = some (decide ((1048576 : Int) < (a.length : Int)), ((), ())) := rfl
  simp only [hbig, Option.bind_some]
  by_cases hb : (1048576 : Int) < (a.length : Int)
  · exact ⟨((), ()), by simp [hb]⟩
  have hal : a.length ≤ 1048576 := by omega
  obtain ⟨s, id, size, hd, hid, hsz⟩ := DrawLong_is k a hal hk
  obtain ⟨r, hr, hs, hi⟩ := splits_all k (by omega) id size s hid (by omega)
  obtain ⟨pl, hp, hpl, hpx⟩ := DrawPlaces_is k a hal hk
  simp only [hb, hd, hs, hi, decide_false, Bool.false_eq_true, if_false, Option.bind_some, decide_true, Bool.not_true, if_true]
  rcases hr with rfl | ⟨hc, rfl⟩
  · have hsame := same_self k (by omega) [] (by simp)
    exact ⟨((), ()), by simp [hsame]⟩
  have hcp : 1 ≤ cntOf s.size size := by unfold cntOf; split <;> omega
  obtain ⟨n, hn⟩ : ∃ n : Nat, cntOf s.size size = (n : Int) := ⟨(cntOf s.size size).toNat, by omega⟩
  have hn1 : 1 ≤ n ∧ n ≤ 15 := by omega
  have hwhole := cut_whole s size hsz.1 hc
  rw [hn, Int.toNat_natCast] at hwhole
  have hP : ∀ j, j < n → (cutP size s j).size ≤ 120 := fun j _ => cut_size s size (by omega) j
  have hT : ∀ j, j < n → i_ReadPart k (partOf id n size s j, ()) = some ((id, ((j : Int), ((n : Int), (cutP size s j, (true, ()))))), ((), ())) := fun j hj =>
    read_part k id j n (cutP size s j) hid (by omega) (by omega)
  have hLl : ((List.range n).map (partOf id n size s)).length = n := by simp
  have hsame := same_self k (by omega) ((List.range n).map (partOf id n size s)) (by rw [hLl]; omega)
  obtain ⟨t, ht⟩ : ∃ t : Nat, Ty.rd (t := .int .i64) pl 0 = (t : Int) ∧ t < 10000 := by
    cases pl with
    | nil => simp at hpl
    | cons x xs =>
      have := hpx x (by simp)
      exact ⟨x.toNat, by show x = _; omega, by omega⟩
  obtain ⟨ht, htl⟩ := ht
  have g0 : (0 : Int) ≤ 0 ∧ (0 : Int) < (pl.length : Int) := by omega
  simp only [hn, Int.toNat_natCast, hsame, hp, g0, ht, and_self, Bool.not_true, Bool.false_eq_true, if_false, if_true, Option.bind_some]
  refine ⟨((), ()), ?_⟩
  refine loop_st (fun i => (s, (id, ((List.range n).map (partOf id n size s), ((t : Int), (([], ()), ((i : Int), ()))))))) n _ ?_ ?_ k (by omega)
  · intro again i hi
    have w : wi64 ((i : Int) + 1) = ((i + 1 : Nat) : Int) := (w64_id _ (by omega)).trans (by omega)
    have g : (0 : Int) ≤ (i : Int) ∧ (i : Int) < (n : Int) := by omega
    simp only [hLl, g, w, partOf_get id n size s n i hi, hT i hi, decide_true, Bool.not_true, Bool.false_eq_true, if_false, if_true, and_self, Option.bind_some]
  · intro again
    have hlt : ¬ (n : Int) < (n : Int) := by omega
    simp only [hLl, hlt, decide_false, Bool.false_eq_true, if_false]
    have hrn : t % n < n := Nat.mod_lt _ (by omega)
    refine loop_st (fun i => (s, ((List.range n).map (partOf id n size s), ((t : Int), ((shelfAt id n (t % n) (cutP size s) i, ()), ((i : Int), ())))))) n _ ?_ ?_ k (by omega)
    · intro again i hi
      have w : wi64 ((i : Int) + 1) = ((i + 1 : Nat) : Int) := (w64_id _ (by omega)).trans (by omega)
      have w2 : wi64 ((i : Int) + (t : Int)) = ((i + t : Nat) : Int) := (w64_id _ (by omega)).trans (by omega)
      have m : Int.tmod ((i + t : Nat) : Int) (n : Int) = ((place n (t % n) i : Nat) : Int) := by
        rw [Int.tmod_eq_emod_of_nonneg (by omega), ← Int.natCast_emod, place_mod (by omega) hi]
      have hpl := place_lt hrn hi
      have g : (i : Int) < (n : Int) := by omega
      have g2 : ¬ (n : Int) = 0 := by omega
      have g3 : (0 : Int) ≤ ((place n (t % n) i : Nat) : Int) ∧ ((place n (t % n) i : Nat) : Int) < (n : Int) := by omega
      have e := add_turn k (by omega) id n (t % n) i (cutP size s) (partOf id n size s) hT hid hn1 hrn hi hP
      have so := shelfAt_ok k (by omega) id n (t % n) (i + 1) (cutP size s) hid hn1 hrn (by omega) hP
      have ie : (((i + 1 : Nat) : Int) = (n : Int)) ↔ i + 1 = n := by omega
      simp only [hLl, g, g2, g3, w, w2, m, partOf_get id n size s n _ hpl, e, so, decide_true, Bool.not_true, Bool.false_eq_true, if_false, if_true, and_self, Option.bind_some]
      by_cases hl : i + 1 = n
      · have : decide (((i + 1 : Nat) : Int) = (n : Int)) = true := by simp [hl]
        simp only [hl, hwhole, decide_true, Bool.not_true, Bool.false_eq_true, if_false, if_true, this]
      · have : decide (((i + 1 : Nat) : Int) = (n : Int)) = false := by simp; omega
        simp only [hl, this, decide_true, decide_false, Bool.not_true, Bool.false_eq_true, if_false, if_true]
    · intro again
      have : shelfAt id n (t % n) (cutP size s) n = [] := by simp [shelfAt]
      simp only [hLl, hlt, this, decide_false, Bool.false_eq_true, if_false]
      rfl
theorem pure_FnPieces (x : argsDen pars_FnPieces) (_hx : argsWf pars_FnPieces x) : ∃ k o, w_FnPieces k (argsX pars_FnPieces x) = some (true, o) := by
  obtain ⟨code, u⟩ := x
  exact ⟨2097153, pieces_law 2097153 (by decide) code⟩
open Go.ChangeShapes Go.WideShapes Go.ChangeAt Go.RowKit
theorem own_FnPieces : ownKnob Try.prog.godebug = none := by kernel_rfl
theorem lifted_FnPieces (os : Os) (started : os.Started) (H : Type) (enc : TypeId × Value → H) :
    ReturnsInHanded {} Try.checked os 3 .any (Rows.fnPiecesSpec.pre6 enc Try.prog Try.f3 Rows.fnPiecesRow.domain false) (Rows.fnPiecesSpec.post enc Try.prog Try.f3 false true false false) :=
  law_lifted (C := Try.checked) (l := pars_FnPieces) (rb := 4) own_FnPieces started (by kernel_rfl) Try.func3
    (ChangeSpec.witness6 (enc := enc) (C := Try.checked) false ⟨#[], #[.slice none 0 0], []⟩ 8 (by kernel_rfl) (by kernel_rfl) (by kernel_rfl) (by kernel_rfl))
    e_w_FnPieces rfl (by decide) pure_FnPieces (by kernel_rfl) rfl Try.underlying4 (by kernel_rfl) (by kernel_rfl) rfl
    (fun ds h => match ds, h with | [_], _ => rfl)
theorem inPlace_FnPieces : Try.prog.inPlace 3 = Rows.fnPiecesRow.inPlace := by kernel_rfl
theorem unfollowed_FnPieces : Try.prog.unfollowed 3 = Rows.fnPiecesRow.unfollowed := by kernel_rfl
theorem recurses_FnPieces : Try.prog.recurses 3 = Rows.fnPiecesRow.recurses := by kernel_rfl
theorem named_FnPieces : Try.prog.varsNamed 3 = Rows.fnPiecesRow.named := by kernel_rfl
theorem facts_FnPieces : joinedFacts Try.prog 3 Try.f3 Rows.fnPiecesSpec Rows.fnPiecesRow = true := by
  unfold joinedFacts
  rw [seat_laid, seat_maps, seat_heard, seat_enter, inPlace_FnPieces, unfollowed_FnPieces, recurses_FnPieces, named_FnPieces]
  kernel_rfl
theorem fnPieces_holds : Rows.FnPiecesSaid :=
  OpenClaim.holds_of_wide 3 Try.f3 rfl rfl rfl rfl rfl rfl rfl ⟨rfl, rfl, rfl, rfl, rfl⟩ rfl rfl rfl rfl rfl (by kernel_rfl) Try.func3 facts_FnPieces (of_decide_eq_true (by kernel_rfl))
    (by unfold Func.isWrapper; first | (rw [if_pos (by decide +kernel)]; kernel_rfl) | (rw [if_neg (by decide +kernel)]; exact ⟨rfl, rfl⟩)) (fun os started H enc _ => lifted_FnPieces os started H enc)
#print axioms fnPieces_holds
end Go.Proofs.Ytaamcelinnnncaa
