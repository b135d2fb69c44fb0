import Derived.Test.YtodnoiblplnpcaaRows
import Derived.Test.YtodnoiblplnpcaaFun2
import Derived.Test.YtodnoiblplnpcaaBase
import Derived.WalkKit
import Derived.ProofKit
import Derived.OpenShut
import Derived.ShutString
import Derived.ChangeOld
import Derived.Below
import Derived.SizedLaws
/- FnExactSplit answers true for every input, and its arguments read behind the call as they did ahead of it. Conditions: none. -/
set_option linter.unusedVariables false
namespace Go.Proofs.Ytodnoiblplnpcaa
open Go Go.Eng Go.Proofs
abbrev pars_FnExactSplit : List Par := [(false, (.int .i64)), (false, .str), (false, (.int .i64))]
theorem l01In_is (k : Nat) (a b c : Int) : s_l01In k (a, (b, (c, ()))) = some (decide (b ≤ a ∧ a ≤ c), ((), ((), ((), ())))) := by
  unfold s_l01In
  by_cases h : b ≤ a <;> simp [h]
theorem within_is (k : Nat) (a b c : Int) : i_within k (a, (b, (c, ()))) = some (decide (b ≤ a ∧ a ≤ c), ((), ((), ((), ())))) := l01In_is k a b c
theorem markText_ends (k : Nat) (n : Int) (hn : n < 4611686018427387904) (hk : n < k) : ∃ r, w_markText k (n, ()) = some (r, ((), ())) := by
  unfold w_markText
  by_cases h0 : n ≤ 0
  · simp only [h0, decide_true, if_true]
    exact ⟨_, rfl⟩
  · simp only [h0, decide_false]
    have hm : maxStr = 9223372036854775807 := rfl
    have h1 : (⟨#[109]⟩ : ByteArray).size = 1 := rfl
    refine (whileK_some (g := fun t : ByteArray => (t, ((), ()))) (fun y : Int × ByteArray × Unit => y.1.toNat) (fun y : Int × ByteArray × Unit => 0 ≤ y.1 ∧ y.1 + (y.2.1.size : Int) < 4611686018427387905) (fun _ _ => True) ?_ k (n, ((⟨#[]⟩ : ByteArray), ())) ⟨by simp only; omega, by simp only; have : (⟨#[]⟩ : ByteArray).size = 0 := rfl; omega⟩ (by simp only; omega)).imp fun t h => h.1
    · rintro ⟨a, s, u⟩ ⟨g1, g2⟩ again hg
      simp only at g1 g2
      have hsz : ∀ c : Int, (strOf [c]).size = 1 := fun c => by simp [strOf, ByteArray.size]
      by_cases ha : 0 < a
      · have hq : Int.tdiv a 10 = a / 10 := Int.tdiv_eq_ediv_of_nonneg g1
        have hw : wi64 (a / 10) = a / 10 := w64_id _ (by omega)
        simp only [ha, decide_true, if_true, hsz, hq, hw]
        rw [if_pos (by omega)]
        exact hg _ ⟨by simp only; omega, by simp only [ByteArray.size_append, hsz]; omega⟩ (by simp only; omega)
      · simp only [ha, decide_false]
        have : ((⟨#[109]⟩ : ByteArray).size + s.size ≤ maxStr) := by omega
        simp only [this, if_true]
        exact ⟨_, rfl, trivial⟩
def mk (k : Nat) (n : Int) : ByteArray := ((w_markText k (n, ())).map (·.1)).getD ⟨#[]⟩
theorem markText_is (k : Nat) (n : Int) (hn : n < 4611686018427387904) (hk : n < k) : w_markText k (n, ()) = some (mk k n, ((), ())) := by
  obtain ⟨r, h⟩ := markText_ends k n hn hk
  rw [mk, h]
  rfl
theorem markStringS_is (k : Nat) (a : List ByteArray) (n : Int) (hn : 0 ≤ n) (hN : n + a.length ≤ 1000000000) (hk : 1000000000 < k) :
    w_markStringS k (a, (n, ())) = some (n + a.length, ((List.range a.length).map (fun i => mk k (n + (i : Nat))), ((), ()))) := by
  unfold w_markStringS
  refine loop_mark (t := .str) (mk k) (fun out n => (n, (out, ((), ())))) 1000000000 ?_ ?_ a n hn hN k (by omega)
  · intro again out n i hi hl h0 h1
    have w' : wi64 (n + 1) = n + 1 := w64_id _ (by omega)
    simp only [hl, hi, markText_is k n (by omega) (by omega), w', decide_true, and_self, if_true, Option.bind_some]
    have w : wi64 (i + 1) = i + 1 := w64_id _ (by omega)
    rw [w]
  · intro again out n i hi
    have : ¬ i < (out.length : Int) := by omega
    simp [this]
theorem heldStringS_is (k : Nat) (a : List ByteArray) (n : Int) (hn : 0 ≤ n) (hN : n + a.length ≤ 1000000000) (hk : 1000000000 < k) (ha : a = (List.range a.length).map (fun i => mk k (n + (i : Nat)))) :
    w_heldStringS k (a, (n, ())) = some (n + a.length, ((), ((), ()))) := by
  unfold w_heldStringS
  refine loop_held (t := .str) (mk k) (fun n => (n, ((), ((), ())))) (-1, ((), ((), ()))) 1000000000 a ?_ ?_ n hn hN ha k (by omega)
  · intro again n i hi hl h0 h1
    have w' : wi64 (n + 1) = n + 1 := w64_id _ (by omega)
    have w : wi64 (i + 1) = i + 1 := w64_id _ (by omega)
    simp only [hl, hi, markText_is k n (by omega) (by omega), w, w', decide_true, and_self, if_true, Option.bind_some]
    by_cases e : Ty.rd (t := .str) a i = mk k n <;> simp [e]
  · intro again n i hi
    have : ¬ i < (a.length : Int) := by omega
    simp [this]
theorem eqStringS_is (k : Nat) (a b : List ByteArray) (hk : 1000000000 < k) (hl : a.length ≤ 1000000000) : w_eqStringS k (a, (b, ())) = some (decide (a = b), ((), ((), ()))) := by
  unfold w_eqStringS
  by_cases hab : a.length = b.length
  · simp only [hab, decide_true, Bool.not_true]
    refine (loop_eq (t := .str) (R := Bool × Unit × Unit × Unit) a b hab (false, ((), ((), ()))) (true, ((), ((), ()))) ?_ ?_ k (by omega)).trans ?_
    · intro again i hi hl'
      have w : wi64 (i + 1) = i + 1 := w64_id _ (by omega)
      have hlb : i < (b.length : Int) := by omega
      simp only [hl', hi, hlb, w, decide_true, and_self, if_true]
      by_cases e : Ty.rd (t := .str) a i = Ty.rd (t := .str) b i <;> simp [e]
    · intro again i hi
      have : ¬ i < (a.length : Int) := by omega
      simp only [this, decide_false]
      rfl
    · by_cases e : a = b <;> simp [e]
  · have : ¬ ((a.length : Int) = (b.length : Int)) := by omega
    have h2 : a ≠ b := fun h => hab (by rw [h])
    simp [this, h2]
def byteOf (n : Int) : ByteArray := strOf [n % 256]
theorem byteOf_size (n : Int) : (byteOf n).size = 1 := by simp [byteOf, strOf, ByteArray.size]
theorem byteText_is (k : Nat) (n : Int) : i_byteText k (n, ()) = some (byteOf n, ((), ())) := by
  show some (strOf [IntKind.u8.wrap n], ((), ())) = _
  rw [w8_mod]
  rfl
theorem l05Byte_is (k : Nat) (n : Int) (hn : 0 ≤ n) : s_l05Byte k (n, ()) = some (byteOf n, ((), ())) := by
  unfold s_l05Byte byteOf
  rw [Int.tmod_eq_emod_of_nonneg hn]
  have h : ¬ n % 256 < 0 := by omega
  simp only [h, decide_false, w8_mod]
  rw [Int.emod_emod_of_dvd _ (Int.dvd_refl 256)]
  rfl
def partOf (id count size : Int) (s : ByteArray) (i : Nat) : ByteArray :=
  byteOf id ++ byteOf i ++ byteOf count ++ ByteArray.extract s (((i : Int) * size).toNat) (if (s.size : Int) < ((i : Int) + 1) * size then (s.size : Int) else ((i : Int) + 1) * size).toNat
structure SplitOk (id size count : Int) (s : ByteArray) : Prop where
  pid : 0 ≤ id ∧ id ≤ 255
  psz : 20 ≤ size ∧ size ≤ 120
  pln : (s.size : Int) ≤ 300
  pct : 1 ≤ count ∧ count ≤ 15
  pft : ∀ i : Int, 0 ≤ i → i < count → i * size ≤ s.size
theorem SplitOk.mul {id size count : Int} {s : ByteArray} (h : SplitOk id size count s) (i : Int) (h0 : 0 ≤ i) (h1 : i < count) : 0 ≤ i * size ∧ i * size ≤ 300 ∧ (i + 1) * size = i * size + size := by
  have := h.pft i h0 h1
  have := h.pln
  refine ⟨Int.mul_nonneg h0 (by have := h.psz; omega), by omega, by rw [Int.add_mul, Int.one_mul]⟩
theorem extract_le (s : ByteArray) (a b : Nat) : (s.extract a b).size ≤ s.size := by
  rw [ByteArray.size_extract]; omega
theorem range_step (a b : Nat) (h : a < b) : List.range' a (b - a) = a :: List.range' (a + 1) (b - (a + 1)) := by
  obtain ⟨c, rfl⟩ : ∃ c, b = a + (c + 1) := ⟨b - a - 1, by omega⟩
  rw [show a + (c + 1) - a = c + 1 by omega, show a + (c + 1) - (a + 1) = c by omega]
  rfl
def cntOf (len size : Int) : Int := if (1 : Int) < (len + size - 1) / size then (len + size - 1) / size else 1
theorem cnt_ok (id size : Int) (s : ByteArray) (h1 : 0 ≤ id ∧ id ≤ 255) (h2 : 20 ≤ size ∧ size ≤ 120) (h3 : (s.size : Int) ≤ 300) (h4 : cntOf s.size size ≤ 15) : SplitOk id size (cntOf s.size size) s := by
  refine ⟨h1, h2, h3, ⟨?_, h4⟩, fun i h0 hi => ?_⟩
  · unfold cntOf; split <;> omega
  · unfold cntOf at hi
    split at hi
    · have g1 : i + 1 ≤ ((s.size : Int) + size - 1) / size := by omega
      have g2 : (i + 1) * size ≤ ((s.size : Int) + size - 1) / size * size := Int.mul_le_mul_of_nonneg_right g1 (by omega)
      have g3 : ((s.size : Int) + size - 1) / size * size ≤ (s.size : Int) + size - 1 := Int.ediv_mul_le _ (by omega)
      rw [Int.add_mul, Int.one_mul] at g2
      omega
    · have : i = 0 := by omega
      subst this
      simp
theorem s_Split_ok (k : Nat) (id size : Int) (s : ByteArray) (h1 : 0 ≤ id ∧ id ≤ 255) (h2 : 20 ≤ size ∧ size ≤ 120) (h3 : (s.size : Int) ≤ 300) (hk : 20 < k) :
    s_Split k (id, (s, (size, ()))) = some ((if 15 < cntOf s.size size then ([], (false, ())) else ((List.range (cntOf s.size size).toNat).map (partOf id (cntOf s.size size) size s), (true, ()))), ((), ((), ((), ())))) := by
  unfold s_Split
  have e0 : ¬ (300 : Int) < (s.size : Int) := by omega
  have e1 : ¬ size = 0 := by omega
  have q0 : 0 ≤ ((s.size : Int) + size - 1) / size := Int.ediv_nonneg (by omega) (by omega)
  have q1 : ((s.size : Int) + size - 1) / size ≤ (s.size : Int) + size - 1 := Int.ediv_le_self _ (by omega)
  have w0 : wi64 ((s.size : Int) + size) = (s.size : Int) + size := w64_id _ (by omega)
  have w1 : wi64 ((s.size : Int) + size - 1) = (s.size : Int) + size - 1 := w64_id _ (by omega)
  have w2 : wi64 (Int.tdiv ((s.size : Int) + size - 1) size) = ((s.size : Int) + size - 1) / size := by
    rw [Int.tdiv_eq_ediv_of_nonneg (by omega)]; exact w64_id _ (by omega)
  simp only [l01In_is, Option.bind_some, h1, h2, and_self, decide_true, Bool.not_true, if_true, e0, decide_false, Bool.false_eq_true, if_false, e1, w0, w1, w2]
  have ec : (if ((s.size : Int) + size - 1) / size = 0 then (1 : Int) else ((s.size : Int) + size - 1) / size) = cntOf s.size size := by
    unfold cntOf; split <;> split <;> omega
  simp only [decide_eq_true_eq]
  rw [jn_one, ec]
  unfold jn
  by_cases h15 : (15 : Int) < cntOf s.size size
  · simp only [h15, if_true]
  have h := cnt_ok id size s h1 h2 h3 (by omega)
  generalize cntOf s.size size = count at h h15 ⊢
  have hc := h.pct
  have hz := h.psz
  have hl := h.pln
  have hm : maxStr = 9223372036854775807 := rfl
  have hcap : capMax = 274877906944 := rfl
  simp only [h15, if_false]
  refine (whileK_run (fun y : Int × ByteArray × Int × Int × List (ByteArray) × Int × Unit => count.toNat - y.2.2.2.2.2.1.toNat) (fun y => y.1 = id ∧ y.2.1 = s ∧ y.2.2.1 = size ∧ y.2.2.2.1 = count ∧ 0 ≤ y.2.2.2.2.2.1 ∧ y.2.2.2.2.2.1 ≤ count ∧ (y.2.2.2.2.1.length : Int) = y.2.2.2.2.2.1)
    (fun y => ((y.2.2.2.2.1 ++ (List.range' y.2.2.2.2.2.1.toNat (count.toNat - y.2.2.2.2.2.1.toNat)).map (partOf id count size s), (true, ())), ((), ((), ((), ()))))) ?_ k _ ⟨rfl, rfl, rfl, rfl, by simp, by simp only; omega, by simp⟩ (by simp only; omega)).trans ?_
  · rintro ⟨id', s', size', count', ps, i, u⟩ ⟨e1, e2, e3, e4, h0, h1, h2⟩ again hg
    simp only at e1 e2 e3 e4 h0 h1 h2
    subst e1 e2 e3 e4
    by_cases hi : i < count'
    · obtain ⟨m1, m2, m3⟩ := h.mul i h0 hi
      have w : wi64 (i + 1) = i + 1 := w64_id _ (by omega)
      have w2 : wi64 (i * size') = i * size' := w64_id _ (by omega)
      have w3 : wi64 ((i + 1) * size') = (i + 1) * size' := w64_id _ (by rw [m3]; omega)
      have hid := h.pid
      have hf := h.pft i h0 hi
      have hn : ((i.toNat : Nat) : Int) = i := by omega
      have hp : (byteOf id' ++ byteOf i ++ byteOf count' ++ ByteArray.extract s' ((i * size').toNat) (if (s'.size : Int) < (i + 1) * size' then (s'.size : Int) else (i + 1) * size').toNat) = partOf id' count' size' s' i.toNat := by
        unfold partOf; rw [hn]
      have := hg (id', (s', (size', (count', ((ps ++ [partOf id' count' size' s' i.toNat]), (i + 1, ())))))) ⟨rfl, rfl, rfl, rfl, by simp only; omega, by simp only; omega, by simp only [List.length_append, List.length_singleton]; omega⟩ (by simp only; omega)
      have x1 := extract_le s' (i * size').toNat (if (s'.size : Int) < (i + 1) * size' then (s'.size : Int) else (i + 1) * size').toNat
      have hr : List.range' i.toNat (count'.toNat - i.toNat) = i.toNat :: List.range' (i + 1).toNat (count'.toNat - (i + 1).toNat) := by
        rw [range_step _ _ (by omega), show (i + 1).toNat = i.toNat + 1 by omega]
      rw [hr]
      simp only [hi, if_true, w, w2, w3, l05Byte_is _ _ hid.1, l05Byte_is _ _ h0, l05Byte_is _ _ (by omega : 0 ≤ count'), Option.bind_some, byteOf_size, ByteArray.size_append, List.length_singleton]
      by_cases hb : (s'.size : Int) < (i + 1) * size'
      · rw [if_pos hb] at hp x1
        simp only [hb, if_true]
        rw [if_pos (by omega), if_pos (by omega), if_pos (by omega), if_pos (by omega), if_pos (by omega), if_pos (by omega), hp]
        refine this.trans ?_
        simp
      · rw [if_neg hb] at hp x1
        simp only [hb]
        have hb' : (i + 1) * size' ≤ (s'.size : Int) := by omega
        simp only [if_false]
        rw [if_pos (by omega), if_pos (by omega), if_pos (by omega), if_pos (by omega), if_pos (by omega), if_pos (by omega), hp]
        refine this.trans ?_
        simp
    · have : i = count' := by omega
      subst this
      simp
  · simp [List.range_eq_range']
theorem i_Split_ok (k : Nat) (id size : Int) (s : ByteArray) (h1 : 0 ≤ id ∧ id ≤ 255) (h2 : 20 ≤ size ∧ size ≤ 120) (h3 : (s.size : Int) ≤ 300) (hk : 20 < k) :
    i_Split k (id, (s, (size, ()))) = some ((if 15 < cntOf s.size size then ([], (false, ())) else ((List.range (cntOf s.size size).toNat).map (partOf id (cntOf s.size size) size s), (true, ()))), ((), ((), ((), ())))) := by
  unfold i_Split
  have e0 : ¬ (300 : Int) < (s.size : Int) := by omega
  have e1 : ¬ size = 0 := by omega
  have q0 : 0 ≤ ((s.size : Int) + size - 1) / size := Int.ediv_nonneg (by omega) (by omega)
  have q1 : ((s.size : Int) + size - 1) / size ≤ (s.size : Int) + size - 1 := Int.ediv_le_self _ (by omega)
  have w0 : wi64 ((s.size : Int) + size) = (s.size : Int) + size := w64_id _ (by omega)
  have w1 : wi64 ((s.size : Int) + size - 1) = (s.size : Int) + size - 1 := w64_id _ (by omega)
  have w2 : wi64 (Int.tdiv ((s.size : Int) + size - 1) size) = ((s.size : Int) + size - 1) / size := by
    rw [Int.tdiv_eq_ediv_of_nonneg (by omega)]; exact w64_id _ (by omega)
  simp only [within_is, Option.bind_some, h1, h2, and_self, decide_true, Bool.not_true, if_true, e0, decide_false, Bool.false_eq_true, if_false, e1, w0, w1, w2]
  have ec : (if (1 : Int) < ((s.size : Int) + size - 1) / size then ((s.size : Int) + size - 1) / size else (1 : Int)) = cntOf s.size size := rfl
  rw [ec]
  by_cases h15 : (15 : Int) < cntOf s.size size
  · simp only [h15, decide_true, if_true]
  have h := cnt_ok id size s h1 h2 h3 (by omega)
  generalize cntOf s.size size = count at h h15 ⊢
  have hc := h.pct
  have hz := h.psz
  have hl := h.pln
  have hm : maxStr = 9223372036854775807 := rfl
  have hcap : capMax = 274877906944 := rfl
  simp only [h15, decide_false, Bool.false_eq_true, if_false]
  refine (whileK_run (fun y : Int × ByteArray × Int × Int × List (ByteArray) × Int × Int × Unit => count.toNat - y.2.2.2.2.2.2.1.toNat) (fun y => y.1 = id ∧ y.2.1 = s ∧ y.2.2.1 = size ∧ y.2.2.2.1 = count ∧ y.2.2.2.2.2.1 = count ∧ 0 ≤ y.2.2.2.2.2.2.1 ∧ y.2.2.2.2.2.2.1 ≤ count ∧ (y.2.2.2.2.1.length : Int) = y.2.2.2.2.2.2.1)
    (fun y => ((y.2.2.2.2.1 ++ (List.range' y.2.2.2.2.2.2.1.toNat (count.toNat - y.2.2.2.2.2.2.1.toNat)).map (partOf id count size s), (true, ())), ((), ((), ((), ()))))) ?_ k _ ⟨rfl, rfl, rfl, rfl, rfl, by simp, by simp only; omega, by simp⟩ (by simp only; omega)).trans ?_
  · rintro ⟨id', s', size', countx, ps, count', i, u⟩ ⟨e1, e2, e3, e4, e5, h0, h1, h2⟩ again hg
    simp only at e1 e2 e3 e4 e5 h0 h1 h2
    subst e1 e2 e3 e4
    subst e5
    by_cases hi : i < count'
    · obtain ⟨m1, m2, m3⟩ := h.mul i h0 hi
      have w : wi64 (i + 1) = i + 1 := w64_id _ (by omega)
      have w2 : wi64 (i * size') = i * size' := w64_id _ (by omega)
      have w3 : wi64 ((i + 1) * size') = (i + 1) * size' := w64_id _ (by rw [m3]; omega)
      have hid := h.pid
      have hf := h.pft i h0 hi
      have hn : ((i.toNat : Nat) : Int) = i := by omega
      have hp : (byteOf id' ++ byteOf i ++ byteOf count' ++ ByteArray.extract s' ((i * size').toNat) (if (s'.size : Int) < (i + 1) * size' then (s'.size : Int) else (i + 1) * size').toNat) = partOf id' count' size' s' i.toNat := by
        unfold partOf; rw [hn]
      have := hg (id', (s', (size', (count', ((ps ++ [partOf id' count' size' s' i.toNat]), (count', (i + 1, ()))))))) ⟨rfl, rfl, rfl, rfl, rfl, by simp only; omega, by simp only; omega, by simp only [List.length_append, List.length_singleton]; omega⟩ (by simp only; omega)
      have x1 := extract_le s' (i * size').toNat (if (s'.size : Int) < (i + 1) * size' then (s'.size : Int) else (i + 1) * size').toNat
      have hr : List.range' i.toNat (count'.toNat - i.toNat) = i.toNat :: List.range' (i + 1).toNat (count'.toNat - (i + 1).toNat) := by
        rw [range_step _ _ (by omega), show (i + 1).toNat = i.toNat + 1 by omega]
      rw [hr]
      simp only [hi, decide_true, if_true, w, w2, w3, byteText_is, Option.bind_some, byteOf_size, ByteArray.size_append, List.length_singleton]
      by_cases hb : (s'.size : Int) < (i + 1) * size'
      · rw [if_pos hb] at hp x1
        simp only [hb, if_true]
        rw [if_pos (by omega), if_pos (by omega), if_pos (by omega), if_pos (by omega), if_pos (by omega), if_pos (by omega), hp]
        refine this.trans ?_
        simp
      · rw [if_neg hb] at hp x1
        simp only [hb, if_false]
        have hb' : (i + 1) * size' ≤ (s'.size : Int) := by omega
        rw [if_pos (by omega), if_pos (by omega), if_pos (by omega), if_pos (by omega), if_pos (by omega), if_pos (by omega), hp]
        refine this.trans ?_
        simp
    · have : i = count' := by omega
      subst this
      simp
  · simp [List.range_eq_range']
theorem pure_FnExactSplit (x : argsDen pars_FnExactSplit) (hx : argsWf pars_FnExactSplit x) : ∃ k o, w_FnExactSplit k (argsX pars_FnExactSplit x) = some (true, o) := by
  obtain ⟨id, s, size, u⟩ := x
  refine ⟨1000000001, ((), ((), ((), ()))), ?_⟩
  show w_FnExactSplit 1000000001 (id, (s, (size, ()))) = _
  have hboth : ∃ r : List ByteArray × Bool, r.1.length ≤ 15 ∧ s_Split 1000000001 (id, (s, (size, ()))) = some ((r.1, (r.2, ())), ((), ((), ((), ())))) ∧ i_Split 1000000001 (id, (s, (size, ()))) = some ((r.1, (r.2, ())), ((), ((), ((), ())))) := by
    by_cases h1 : 0 ≤ id ∧ id ≤ 255
    · by_cases h2 : 20 ≤ size ∧ size ≤ 120
      · by_cases h3 : (s.size : Int) ≤ 300
        · rw [s_Split_ok _ id size s h1 h2 h3 (by decide), i_Split_ok _ id size s h1 h2 h3 (by decide)]
          split
          · exact ⟨([], false), by simp, rfl, rfl⟩
          · refine ⟨(_, true), ?_, rfl, rfl⟩
            simp only [List.length_map, List.length_range]
            omega
        · refine ⟨([], false), by simp, ?_, ?_⟩
          · unfold s_Split
            have : (300 : Int) < (s.size : Int) := by omega
            simp [l01In_is, h1, h2, this]
          · unfold i_Split
            have : (300 : Int) < (s.size : Int) := by omega
            simp [within_is, h1, h2, this]
      · refine ⟨([], false), by simp, ?_, ?_⟩
        · unfold s_Split
          simp [l01In_is, h1, h2]
        · unfold i_Split
          simp [within_is, h1, h2]
    · refine ⟨([], false), by simp, ?_, ?_⟩
      · unfold s_Split
        simp [l01In_is, h1]
      · unfold i_Split
        simp [within_is, h1]
  obtain ⟨⟨a, b⟩, hl, hs, hi⟩ := hboth
  have hl : a.length ≤ 15 := hl
  unfold w_FnExactSplit
  split
  · rfl
  · have e1 := eqStringS_is 1000000001 a a (by decide) (by omega)
    have e2 := markStringS_is 1000000001 a 1 (by omega) (by omega) (by decide)
    have e3 := heldStringS_is 1000000001 ((List.range a.length).map (fun i => mk 1000000001 (1 + (i : Nat)))) 1 (by omega) (by simp only [List.length_map, List.length_range]; omega) (by decide) (by simp only [List.length_map, List.length_range])
    simp only [List.length_map, List.length_range] at e3
    have p : ¬ (1 : Int) + (a.length : Int) < 0 := by omega
    simp only [hs, hi, e1, e2, e3, Option.bind_some]
    simp [p]
open Go.ChangeShapes Go.WideShapes Go.ChangeAt Go.RowKit
theorem own_FnExactSplit : ownKnob Try.prog.godebug = none := by kernel_rfl
theorem lifted_FnExactSplit (os : Os) (started : os.Started) (H : Type) (enc : TypeId × Value → H) :
    ReturnsInHanded {} Try.checked os 8 .any (Rows.fnExactSplitSpec.pre6 enc Try.prog Try.f8 Rows.fnExactSplitRow.domain false) (Rows.fnExactSplitSpec.post enc Try.prog Try.f8 false true false false) :=
  law_lifted (C := Try.checked) (l := pars_FnExactSplit) (rb := 4) own_FnExactSplit started (by kernel_rfl) Try.func8
    (ChangeSpec.witness6 (enc := enc) (C := Try.checked) false ⟨#[], #[.int .i64 0, .string ByteArray.empty, .int .i64 0], []⟩ 8 (by kernel_rfl) (by kernel_rfl) (by kernel_rfl) (by kernel_rfl))
    e_w_FnExactSplit rfl (by decide) pure_FnExactSplit (by kernel_rfl) rfl Try.underlying4 (by kernel_rfl) (by kernel_rfl) rfl
    (fun ds h => match ds, h with | [_, _, _], _ => rfl)
theorem fnExactSplit_holds : Rows.FnExactSplitSaid :=
  OpenClaim.holds_of_wide 8 Try.f8 rfl rfl rfl rfl rfl rfl rfl ⟨rfl, rfl, rfl, rfl, rfl⟩ rfl rfl rfl rfl rfl (by kernel_rfl) Try.func8 (by kernel_rfl) (of_decide_eq_true (by kernel_rfl))
    (by unfold Func.isWrapper; first | (rw [if_pos (by decide +kernel)]; kernel_rfl) | (rw [if_neg (by decide +kernel)]; exact ⟨rfl, rfl⟩)) (fun os started H enc _ => lifted_FnExactSplit os started H enc)
#print axioms fnExactSplit_holds
end Go.Proofs.Ytodnoiblplnpcaa
