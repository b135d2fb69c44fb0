import Derived.Test.YtodnoiblplnpcaaRows
import Derived.Test.YtodnoiblplnpcaaFun1
import Derived.Test.YtodnoiblplnpcaaBase
import Derived.Test.YtodnoiblplnpcaaFacts
import Derived.WalkKit
import Derived.ProofKit
import Derived.OpenShut
import Derived.ShutString
import Derived.ChangeOld
import Derived.Below
import Derived.SizedLaws
/- FnInners answers true for every input, and its arguments read behind the call as they did ahead of it. Conditions: none. -/
set_option linter.unusedVariables false
namespace Go.Proofs.Ytodnoiblplnpcaa
open Go Go.Eng Go.Proofs
abbrev pars_FnInners : List Par := [(false, (.list (.int .u8)))]
theorem l01In_is (k : Nat) (a b c : Int) : s_l01In k (a, (b, (c, ()))) = some (decide (b ≤ a ∧ a ≤ c), ((), ((), ((), ())))) := by
  unfold s_l01In
  by_cases h : b ≤ a <;> simp [h]
theorem within_is (k : Nat) (a b c : Int) : i_within k (a, (b, (c, ()))) = some (decide (b ≤ a ∧ a ≤ c), ((), ((), ((), ())))) := l01In_is k a b c
theorem s_AddrOk_is (k : Nat) (a : Int) : s_AddrOk k (a, ()) = some (decide (0 ≤ a ∧ a ≤ 4294967295), ((), ())) := by
  unfold s_AddrOk
  rw [l01In_is]
  rfl
theorem i_AddrOk_is (k : Nat) (a : Int) : i_AddrOk k (a, ()) = some (decide (0 ≤ a ∧ a ≤ 4294967295), ((), ())) := s_AddrOk_is k a
theorem s_InnerOk_is (k : Nat) (a b : Int) (c : ByteArray) : s_InnerOk k ((a, (b, (c, ()))), ()) = some (decide ((0 ≤ a ∧ a ≤ 4294967295) ∧ (0 ≤ b ∧ b ≤ 4294967295) ∧ c.size ≤ 100), ((), ())) := by
  unfold s_InnerOk
  simp only [s_AddrOk_is, Option.bind_some]
  by_cases h : 0 ≤ a ∧ a ≤ 4294967295 <;> by_cases h' : 0 ≤ b ∧ b ≤ 4294967295 <;> simp [h, h']
  all_goals first | (rw [decide_eq_decide]; omega) | omega
theorem i_InnerOk_is (k : Nat) (a b : Int) (c : ByteArray) : i_InnerOk k ((a, (b, (c, ()))), ()) = some (decide ((0 ≤ a ∧ a ≤ 4294967295) ∧ (0 ≤ b ∧ b ≤ 4294967295) ∧ c.size ≤ 100), ((), ())) := s_InnerOk_is k a b c
theorem i_NumberText_is (k : Nat) (n : Int) : i_NumberText k (n, ()) = s_NumberText k (n, ()) := by
  unfold i_NumberText s_NumberText
  simp only [l01In_is, within_is, Option.bind_some]
  split
  · rfl
  · rename_i h
    simp at h
    have p24 : (2 : Int) ^ (min (Int.toNat (24 : Int)) (IntKind.bits .i64)) = 16777216 := by decide
    have p16 : (2 : Int) ^ (min (Int.toNat (16 : Int)) (IntKind.bits .i64)) = 65536 := by decide
    have p8 : (2 : Int) ^ (min (Int.toNat (8 : Int)) (IntKind.bits .i64)) = 256 := by decide
    have m : ∀ y : Int, 0 ≤ y → y < 2 ^ 63 → bitsI .and .i64 y 255 = y % 256 := fun y h0 h1 => and_mask 8 (by decide) y h0 h1
    have q : ∀ d : Int, 0 < d → d ≤ 16777216 → wi64 (Int.tdiv n d) = n / d := by
      intro d hd _
      rw [Int.tdiv_eq_ediv_of_nonneg h.1]
      have g0 : 0 ≤ n / d := Int.ediv_nonneg h.1 (by omega)
      have g1 : n / d ≤ n := Int.ediv_le_self d h.1
      simp only [wi64, IntKind.wrap_i64]
      omega
    have g24 : 0 ≤ n / 16777216 ∧ n / 16777216 < 256 := by omega
    have g16 : 0 ≤ n / 65536 ∧ n / 65536 < 65536 := by omega
    have g8 : 0 ≤ n / 256 ∧ n / 256 < 16777216 := by omega
    rw [p24, p16, p8, Int.fdiv_eq_ediv_of_nonneg _ (by omega), Int.fdiv_eq_ediv_of_nonneg _ (by omega), Int.fdiv_eq_ediv_of_nonneg _ (by omega), m _ g24.1 (by omega), m _ g16.1 (by omega), m _ g8.1 (by omega), m n h.1 (by omega), q _ (by omega) (by omega), q _ (by omega) (by omega), q _ (by omega) (by omega),
      Int.tmod_eq_emod_of_nonneg g16.1, Int.tmod_eq_emod_of_nonneg g8.1, Int.tmod_eq_emod_of_nonneg h.1, Int.emod_eq_of_lt g24.1 g24.2]
theorem i_InnerText_is (k : Nat) (a b : Int) (c : ByteArray) : i_InnerText k ((a, (b, (c, ()))), ()) = s_InnerText k ((a, (b, (c, ()))), ()) := by
  unfold i_InnerText s_InnerText
  simp only [i_InnerOk_is, s_InnerOk_is, i_NumberText_is]
theorem NumberText_size (k : Nat) (n : Int) : ∃ t : ByteArray, s_NumberText k (n, ()) = some (t, ((), ())) ∧ t.size ≤ 4 := by
  unfold s_NumberText
  simp only [l01In_is, Option.bind_some]
  split
  · exact ⟨_, rfl, by decide⟩
  · exact ⟨_, rfl, by simp [strOf, ByteArray.size]⟩
theorem s_InnerText_ends (k : Nat) (a b : Int) (c : ByteArray) : ∃ r, s_InnerText k ((a, (b, (c, ()))), ()) = some r := by
  unfold s_InnerText
  simp only [s_InnerOk_is, Option.bind_some]
  split
  · exact ⟨_, rfl⟩
  · rename_i h
    simp at h
    obtain ⟨t, ht, h1⟩ := NumberText_size k a
    obtain ⟨t', ht', h2⟩ := NumberText_size k b
    have hm : maxStr = 9223372036854775807 := rfl
    simp only [ht, ht', Option.bind_some]
    rw [if_pos (by omega), if_pos (by rw [ByteArray.size_append]; omega)]
    exact ⟨_, rfl⟩
theorem s_ReadNumber_is (k : Nat) (s : ByteArray) : s_ReadNumber k (s, ()) = some ((if s.size = 4 then (bt s 0 * 16777216 + bt s 1 * 65536 + bt s 2 * 256 + bt s 3, (true, ())) else (0, (false, ()))), ((), ())) := by
  unfold s_ReadNumber
  by_cases h : s.size = 4
  · have h' : (s.size : Int) = 4 := by omega
    have a0 := bt_ge s 0; have a1 := bt_ge s 1; have a2 := bt_ge s 2; have a3 := bt_ge s 3
    have b0 := bt_le s 0; have b1 := bt_le s 1; have b2 := bt_le s 2; have b3 := bt_le s 3
    simp only [h]
    have e : wi64 (wi64 (wi64 (wi64 (wi64 (bt s 0) * 16777216) + wi64 (wi64 (bt s 1) * 65536)) + wi64 (wi64 (bt s 2) * 256)) + wi64 (bt s 3)) = bt s 0 * 16777216 + bt s 1 * 65536 + bt s 2 * 256 + bt s 3 := by
      simp only [wi64, IntKind.wrap_i64]
      omega
    simp [e]
  · have h' : ¬ (s.size : Int) = 4 := by omega
    simp [h, h']
theorem i_ReadNumber_is (k : Nat) (s : ByteArray) : i_ReadNumber k (s, ()) = some ((if s.size = 4 then (bt s 0 * 16777216 + bt s 1 * 65536 + bt s 2 * 256 + bt s 3, (true, ())) else (0, (false, ()))), ((), ())) := by
  unfold i_ReadNumber
  by_cases h : s.size = 4
  · have h' : (s.size : Int) = 4 := by omega
    have a0 := bt_ge s 0; have a1 := bt_ge s 1; have a2 := bt_ge s 2; have a3 := bt_ge s 3
    have b0 := bt_le s 0; have b1 := bt_le s 1; have b2 := bt_le s 2; have b3 := bt_le s 3
    simp only [h]
    have p24 : (2 : Int) ^ (min (Int.toNat (24 : Int)) (IntKind.bits .i64)) = 16777216 := by decide
    have p16 : (2 : Int) ^ (min (Int.toNat (16 : Int)) (IntKind.bits .i64)) = 65536 := by decide
    have p8 : (2 : Int) ^ (min (Int.toNat (8 : Int)) (IntKind.bits .i64)) = 256 := by decide
    have e0 : wi64 (wi64 (bt s 0) * 2 ^ (min (Int.toNat (24 : Int)) (IntKind.bits .i64))) = bt s 0 * 16777216 := by rw [p24]; simp only [wi64, IntKind.wrap_i64]; omega
    have e1 : wi64 (wi64 (bt s 1) * 2 ^ (min (Int.toNat (16 : Int)) (IntKind.bits .i64))) = bt s 1 * 65536 := by rw [p16]; simp only [wi64, IntKind.wrap_i64]; omega
    have e2 : wi64 (wi64 (bt s 2) * 2 ^ (min (Int.toNat (8 : Int)) (IntKind.bits .i64))) = bt s 2 * 256 := by rw [p8]; simp only [wi64, IntKind.wrap_i64]; omega
    have e3 : wi64 (bt s 3) = bt s 3 := by simp only [wi64, IntKind.wrap_i64]; omega
    have e : bitsI .or .i64 (bitsI .or .i64 (bitsI .or .i64 (bt s 0 * 16777216) (bt s 1 * 65536)) (bt s 2 * 256)) (bt s 3) = bt s 0 * 16777216 + bt s 1 * 65536 + bt s 2 * 256 + bt s 3 := by
      rw [or_join 24 (bt s 0 * 16777216) (bt s 1 * 65536), or_join 16 _ (bt s 2 * 256), or_join 8 _ (bt s 3)] <;> omega
    rw [e0, e1, e2, e3, e]
    simp
  · have h' : ¬ (s.size : Int) = 4 := by omega
    simp [h, h']
theorem i_ReadInner_is (k : Nat) (s : ByteArray) : i_ReadInner k (s, ()) = s_ReadInner k (s, ()) := by
  unfold i_ReadInner s_ReadInner
  simp only [l01In_is, within_is, s_ReadNumber_is, i_ReadNumber_is]
theorem s_ReadInner_ends (k : Nat) (s : ByteArray) : ∃ r, s_ReadInner k (s, ()) = some r := by
  unfold s_ReadInner
  simp only [l01In_is, s_ReadNumber_is, Option.bind_some]
  split
  · exact ⟨_, rfl⟩
  · rename_i h
    simp at h
    have h1 : (0 : Int) ≤ 8 ∧ (8 : Int) ≤ (s.size : Int) := by omega
    have h2 : (0 : Int) ≤ 4 ∧ (4 : Int) ≤ (s.size : Int) := by omega
    rw [if_pos h1, if_pos h2]
    simp [h1.2]
abbrev Cur : Type := List Int × Int × Int × Unit
def CurOk (c : Cur) : Prop := 0 ≤ c.2.1 ∧ c.2.1 ≤ (c.1.length : Int) ∧ c.1.length ≤ 1048576
theorem and255 (y : Int) : 0 ≤ bitsI .and .i64 y 255 ∧ bitsI .and .i64 y 255 ≤ 255 := by
  have h : (BitVec.ofInt 64 y &&& BitVec.ofInt 64 255).toNat ≤ 255 := by
    rw [BitVec.toNat_and]
    exact Nat.le_trans Nat.and_le_right (by decide)
  show 0 ≤ IntKind.i64.wrap ((BitVec.ofInt 64 y &&& BitVec.ofInt 64 255).toNat : Int) ∧ IntKind.i64.wrap ((BitVec.ofInt 64 y &&& BitVec.ofInt 64 255).toNat : Int) ≤ 255
  rw [w64_id _ (by omega)]
  omega
theorem Byte_is (k : Nat) (c : Cur) (hc : CurOk c) : ∃ (v : Int) (c' : Cur), s_l01Byte k (c, ()) = some (v, (c', ())) ∧ 0 ≤ v ∧ v ≤ 255 ∧ CurOk c' := by
  obtain ⟨h0, h1, h2⟩ := hc
  unfold s_l01Byte
  by_cases h : c.2.1 < (c.1.length : Int)
  · have w : wi64 (c.2.1 + 1) = c.2.1 + 1 := w64_id _ (by omega)
    simp only [h, h0, and_self, decide_true, if_true]
    refine ⟨_, _, rfl, (and255 _).1, (and255 _).2, ?_⟩
    exact ⟨by simp only [w]; omega, by simp only [w]; omega, h2⟩
  · simp only [h, decide_false, Bool.false_eq_true, if_false]
    exact ⟨_, _, rfl, (and255 _).1, (and255 _).2, h0, h1, h2⟩
theorem tmod_in (v n : Int) (h : 0 ≤ v) (hn : 0 < n) : 0 ≤ Int.tmod v n ∧ Int.tmod v n < n := by
  rw [Int.tmod_eq_emod_of_nonneg h]
  exact ⟨Int.emod_nonneg _ (by omega), Int.emod_lt_of_pos _ hn⟩
theorem Below_is (k : Nat) (c : Cur) (n : Int) (hc : CurOk c) : ∃ (v : Int) (c' : Cur), s_l01Below k (c, (n, ())) = some (v, (c', ((), ()))) ∧ 0 ≤ v ∧ (0 < n → v < n) ∧ CurOk c' := by
  unfold s_l01Below
  by_cases hn : n ≤ 0
  · simp only [hn, decide_true, if_true]
    exact ⟨0, c, rfl, by omega, fun h => by omega, hc⟩
  · have hz : ¬ n = 0 := by omega
    obtain ⟨v1, c1, e1, a1, b1, hc1⟩ := Byte_is k c hc
    by_cases hs : n ≤ 256
    · simp only [hn, hs, hz, e1, decide_true, decide_false, Bool.false_eq_true, if_true, if_false, Option.bind_some]
      exact ⟨_, _, rfl, (tmod_in v1 n a1 (by omega)).1, fun _ => (tmod_in v1 n a1 (by omega)).2, hc1⟩
    · obtain ⟨v2, c2, e2, a2, b2, hc2⟩ := Byte_is k c1 hc1
      obtain ⟨v3, c3, e3, a3, b3, hc3⟩ := Byte_is k c2 hc2
      obtain ⟨v4, c4, e4, a4, b4, hc4⟩ := Byte_is k c3 hc3
      have e : 0 ≤ wi64 (wi64 (wi64 (wi64 (v1 * 16777216) + wi64 (v2 * 65536)) + wi64 (v3 * 256)) + v4) := by
        simp only [wi64, IntKind.wrap_i64]
        omega
      simp only [hn, hs, hz, e1, e2, e3, e4, decide_false, Bool.false_eq_true, if_false, Option.bind_some]
      exact ⟨_, _, rfl, (tmod_in _ n e (by omega)).1, fun _ => (tmod_in _ n e (by omega)).2, hc4⟩
theorem Once_is (k : Nat) (c : Cur) (n : Int) (hc : CurOk c) : ∃ (v : Bool) (c' : Cur), s_l01Once k (c, (n, ())) = some (v, (c', ((), ()))) ∧ CurOk c' := by
  obtain ⟨v, c', e, _, _, h⟩ := Below_is k c n hc
  unfold s_l01Once
  simp only [e, Option.bind_some]
  exact ⟨_, _, rfl, h⟩
theorem PickInt_is (k : Nat) (c : Cur) (l : List Int) (hc : CurOk c) (hl : 0 < l.length) : ∃ (v : Int) (c' : Cur), s_l01PickInt k (c, (l, ())) = some (v, (c', ((), ()))) ∧ v ∈ l ∧ CurOk c' := by
  obtain ⟨v, c', e, h0, h1, h⟩ := Below_is k c (l.length : Int) hc
  have h1 := h1 (by omega)
  unfold s_l01PickInt
  simp only [e, h0, h1, and_self, if_true, Option.bind_some]
  refine ⟨_, _, rfl, ?_, h⟩
  rw [rd_get (t := .int .i64) l v (by omega)]
  exact List.getElem_mem _
theorem strOf_size (l : List Int) : (strOf l).size = l.length := by simp [strOf, ByteArray.size]
theorem Text_is (k : Nat) (c : Cur) (n : Int) (hc : CurOk c) (hk : 1048576 < k) : ∃ (t : ByteArray) (c' : Cur), s_l01Text k (c, (n, ())) = some (t, (c', ((), ()))) ∧ t.size ≤ 5000 ∧ CurOk c' := by
  have hcap : capMax = 274877906944 := rfl
  unfold s_l01Text
  simp only [decide_eq_true_eq]
  rw [jn_one]
  have hm : (if 5000 < n then (5000 : Int) else n) ≤ 5000 := by split <;> omega
  generalize (if 5000 < n then (5000 : Int) else n) = m at hm
  obtain ⟨r, h1, h2, h3⟩ := (whileK_some (T := ByteArray × Cur) (g := fun r => (r.1, (r.2, ((), ())))) (fun y : Cur × Int × List Int × Int × Unit => (m - y.2.2.2.1).toNat) (fun y => CurOk y.1 ∧ y.2.1 = m ∧ 0 ≤ y.2.2.2.1 ∧ (y.2.2.1.length : Int) = y.2.2.2.1 ∧ y.2.2.1.length ≤ 5000) (fun _ r => r.1.size ≤ 5000 ∧ CurOk r.2) (step := fun (rec0 : (Cur × Int × List (Int) × Int × Unit) → Option (ByteArray × Cur × Unit × Unit)) (y0 : Cur × Int × List (Int) × Int × Unit) =>
    (if y0.2.2.2.1 < y0.2.1 then
    ((s_l01Byte k ((y0.1.1, (y0.1.2.1, (y0.1.2.2.1, ()))), ())).bind fun p2 =>
    (if List.length y0.2.2.1 + List.length ([(wu8 (p2.1))] : List (Int)) ≤ capMax then
    (rec0 ((p2.2.1.1, (p2.2.1.2.1, (p2.2.1.2.2.1, ()))), (y0.2.1, ((y0.2.2.1 ++ ([(wu8 (p2.1))] : List (Int))), ((wi64 (y0.2.2.2.1 + (1 : Int))), ())))))
    else none))
    else
    some ((strOf y0.2.2.1), ((y0.1.1, (y0.1.2.1, (y0.1.2.2.1, ()))), ((), ()))))) (by
      rintro ⟨c, m', l, i, u⟩ ⟨g0, g1, g2, g3, g4⟩ again hg
      simp only at g0 g1 g2 g3 g4
      subst g1
      by_cases hi : i < m'
      · obtain ⟨v, c', e, _, _, hc'⟩ := Byte_is k c g0
        have w : wi64 (i + 1) = i + 1 := w64_id _ (by omega)
        simp only [hi, if_true, e, Option.bind_some, w]
        rw [if_pos (by simp only [List.length_singleton]; omega)]
        exact hg (c', (m', ((l ++ [wu8 v]), (i + 1, ())))) ⟨hc', rfl, by simp only; omega, by simp only [List.length_append, List.length_singleton]; omega, by simp only [List.length_append, List.length_singleton]; omega⟩ (by simp only; omega)
      · simp only [hi, if_false]
        exact ⟨(strOf l, c), rfl, by rw [strOf_size]; exact g4, g0⟩) k (c, (m, (([] : List Int), ((0 : Int), ())))) ⟨hc, rfl, by simp, by simp, by simp⟩ (by simp only; omega))
  exact ⟨r.1, r.2, h1, h2, h3⟩
theorem Long_is (k : Nat) (n x : Int) (h0 : 0 ≤ n) (h1 : n ≤ 5000) (hk : 1048576 < k) : ∃ t : ByteArray, s_l01Long k (n, (x, ())) = some (t, ((), ((), ()))) ∧ t.size ≤ 5000 := by
  have hcap : (capMax : Int) = 274877906944 := rfl
  unfold s_l01Long
  simp only [if_true]
  rw [if_pos (by omega)]
  refine whileK_some (g := fun t : ByteArray => (t, ((), ((), ())))) (fun y : Int × Int × List Int × Int × Unit => (n - y.2.2.2.1).toNat) (fun y => y.1 = n ∧ y.2.2.1.length = n.toNat ∧ 0 ≤ y.2.2.2.1) (fun _ t => t.size ≤ 5000) ?_ k _ ⟨rfl, by simp, by simp⟩ (by simp only; omega)
  rintro ⟨m, y, l, i, u⟩ ⟨g1, g2, g3⟩ again hg
  simp only at g1 g2 g3
  subst g1
  by_cases hi : i < m
  · have w : wi64 (i + 1) = i + 1 := w64_id _ (by omega)
    have q : (0 : Int) ≤ i ∧ i < (l.length : Int) := by omega
    simp only [hi, q, and_self, decide_true, if_true, w]
    exact hg _ ⟨rfl, by simp [g2], by simp only; omega⟩ (by simp only; omega)
  · simp only [hi, decide_false, Bool.false_eq_true, if_false]
    exact ⟨_, rfl, by rw [strOf_size]; omega⟩
theorem New_is (k : Nat) (a : List Int) (hl : a.length ≤ 1048576) (hk : 1048576 < k) : ∃ c : Cur, s_l01New k (a, ()) = some (c, ((), ())) ∧ CurOk c := by
  unfold s_l01New
  refine whileK_some (g := fun c : Cur => (c, ((), ()))) (fun y : List Int × Int × Int × Unit => (a.length - y.2.2.1).toNat) (fun y => y.1 = a ∧ 0 ≤ y.2.2.1) (fun _ c => CurOk c) ?_ k _ ⟨rfl, by simp⟩ (by simp only; omega)
  rintro ⟨b, h, i, u⟩ ⟨g1, g2⟩ again hg
  simp only at g1 g2
  subst g1
  by_cases hi : i < (b.length : Int)
  · by_cases h4 : i < 4000
    · have w : wi64 (i + 1) = i + 1 := w64_id _ (by omega)
      simp only [hi, h4, g2, and_self, decide_true, if_true, w]
      exact hg _ ⟨rfl, by simp only; omega⟩ (by simp only; omega)
    · simp only [hi, h4, decide_true, decide_false, if_true, Bool.false_eq_true, if_false]
      exact ⟨_, rfl, by simp, by simp, hl⟩
  · simp only [hi, decide_false, Bool.false_eq_true, if_false]
    exact ⟨_, rfl, by simp, by simp, hl⟩
theorem Addr_is (k : Nat) (c : Cur) (hc : CurOk c) : ∃ (v : Int) (c' : Cur), s_l08Addr k (c, ()) = some (v, (c', ())) ∧ CurOk c' := by
  obtain ⟨v, c1, e1, _, _, h1⟩ := Below_is k c 6 hc
  unfold s_l08Addr
  simp only [e1, Option.bind_some]
  by_cases a : v = 0
  · obtain ⟨w, c2, e2, _, h2⟩ := PickInt_is k c1 [0, 4294967295, 4294967296, -1] h1 (by simp)
    simp only [a, decide_true, if_true, e2, Option.bind_some]
    exact ⟨_, _, rfl, h2⟩
  · by_cases b : v = 1
    · obtain ⟨w, c2, e2, _, _, h2⟩ := Below_is k c1 4294967296 h1
      simp only [b, e2, Option.bind_some]
      exact ⟨_, _, rfl, h2⟩
    · obtain ⟨w, c2, e2, _, _, h2⟩ := Below_is k c1 1024 h1
      simp only [a, b, decide_false, Bool.false_eq_true, if_false, e2, Option.bind_some]
      exact ⟨_, _, rfl, h2⟩
theorem drawInner_is (k : Nat) (c : Cur) (hc : CurOk c) (hk : 1048576 < k) : ∃ (a b : Int) (t : ByteArray) (c' : Cur), s_l21Inner k (c, ()) = some ((a, (b, (t, ()))), (c', ())) ∧ t.size ≤ 5000 ∧ CurOk c' := by
  obtain ⟨a, c1, e1, h1⟩ := Addr_is k c hc
  obtain ⟨b, c2, e2, h2⟩ := Addr_is k c1 h1
  obtain ⟨n, c3, e3, _, _, h3⟩ := Below_is k c2 9 h2
  obtain ⟨t, c4, e4, ht, h4⟩ := Text_is k c3 n h3 hk
  obtain ⟨o, c5, e5, h5⟩ := Once_is k c4 4 h4
  unfold s_l21Inner
  simp only [e1, e2, e3, e4, e5, Option.bind_some]
  cases o with
  | false => exact ⟨a, b, t, c5, rfl, ht, h5⟩
  | true =>
    obtain ⟨m, c6, e6, hm, h6⟩ := PickInt_is k c5 [60, 99, 100, 101] h5 (by simp)
    have hm' : 0 ≤ m ∧ m ≤ 5000 := by
      simp at hm
      omega
    obtain ⟨t', e7, ht'⟩ := Long_is k m 66 hm'.1 hm'.2 hk
    simp only [e6, e7, if_true, Option.bind_some]
    exact ⟨a, b, t', c6, rfl, ht', h6⟩
theorem bt_strOf (l : List Int) (i : Nat) (h : i < l.length) (h0 : 0 ≤ l[i]) (h1 : l[i] < 256) : bt (strOf l) i = l[i] := by
  have hs : (strOf l).size = l.length := strOf_size l
  unfold bt
  rw [dif_pos (by simp only [Int.toNat_natCast]; omega)]
  have e : (strOf l)[((i : Nat) : Int).toNat]'(by simp only [Int.toNat_natCast]; omega) = UInt8.ofNat (l[i].toNat) := by
    simp only [Int.toNat_natCast]
    simp [strOf, ByteArray.getElem_eq_getElem_data]
  rw [e]
  have : (UInt8.ofNat l[i].toNat).toNat = l[i].toNat := by
    rw [UInt8.toNat_ofNat']
    omega
  rw [this]
  omega
theorem strOf_bytesOf (s : ByteArray) : strOf (bytesOf s) = s := by
  have e : (fun x : Int => UInt8.ofNat x.toNat) ∘ (fun b : UInt8 => ((b.toNat : Nat) : Int)) = id := by
    funext b
    simp
  apply ByteArray.ext
  simp only [strOf, bytesOf, List.map_map, e, List.map_id]
def T4 (n : Int) : ByteArray := strOf [n / 16777216, n / 65536 % 256, n / 256 % 256, n % 256]
def N4 (s : ByteArray) : Int := bt s 0 * 16777216 + bt s 1 * 65536 + bt s 2 * 256 + bt s 3
theorem T4_size (n : Int) : (T4 n).size = 4 := by simp [T4, strOf_size]
theorem NumberText_T4 (k : Nat) (n : Int) (h : 0 ≤ n ∧ n ≤ 4294967295) : s_NumberText k (n, ()) = some (T4 n, ((), ())) := by
  unfold s_NumberText T4
  have q24 : wi64 (Int.tdiv n 16777216) = n / 16777216 := by rw [Int.tdiv_eq_ediv_of_nonneg h.1]; exact w64_id _ (by omega)
  have q16 : wi64 (Int.tdiv n 65536) = n / 65536 := by rw [Int.tdiv_eq_ediv_of_nonneg h.1]; exact w64_id _ (by omega)
  have q8 : wi64 (Int.tdiv n 256) = n / 256 := by rw [Int.tdiv_eq_ediv_of_nonneg h.1]; exact w64_id _ (by omega)
  simp only [l01In_is, Option.bind_some, h, and_self, decide_true, Bool.not_true, Bool.false_eq_true, if_false, q24, q16, q8]
  rw [Int.tmod_eq_emod_of_nonneg (by omega), Int.tmod_eq_emod_of_nonneg (by omega), Int.tmod_eq_emod_of_nonneg h.1]
  simp only [wu8, w8_mod]
  congr 4
  · omega
  · congr 1
    · omega
    · congr 1
      · omega
      · congr 1
        omega
theorem N4_T4 (n : Int) (h : 0 ≤ n ∧ n ≤ 4294967295) : N4 (T4 n) = n := by
  unfold N4 T4
  have b0 := bt_strOf [n / 16777216, n / 65536 % 256, n / 256 % 256, n % 256] 0 (by simp) (by simp; omega) (by simp; omega)
  have b1 := bt_strOf [n / 16777216, n / 65536 % 256, n / 256 % 256, n % 256] 1 (by simp) (by simp; omega) (by simp; omega)
  have b2 := bt_strOf [n / 16777216, n / 65536 % 256, n / 256 % 256, n % 256] 2 (by simp) (by simp; omega) (by simp; omega)
  have b3 := bt_strOf [n / 16777216, n / 65536 % 256, n / 256 % 256, n % 256] 3 (by simp) (by simp; omega) (by simp; omega)
  have c0 : bt (strOf [n / 16777216, n / 65536 % 256, n / 256 % 256, n % 256]) 0 = n / 16777216 := b0
  have c1 : bt (strOf [n / 16777216, n / 65536 % 256, n / 256 % 256, n % 256]) 1 = n / 65536 % 256 := b1
  have c2 : bt (strOf [n / 16777216, n / 65536 % 256, n / 256 % 256, n % 256]) 2 = n / 256 % 256 := b2
  have c3 : bt (strOf [n / 16777216, n / 65536 % 256, n / 256 % 256, n % 256]) 3 = n % 256 := b3
  rw [c0, c1, c2, c3]
  omega
theorem N4_range (s : ByteArray) : 0 ≤ N4 s ∧ N4 s ≤ 4294967295 := by
  have a0 := bt_ge s 0; have a1 := bt_ge s 1; have a2 := bt_ge s 2; have a3 := bt_ge s 3
  have b0 := bt_le s 0; have b1 := bt_le s 1; have b2 := bt_le s 2; have b3 := bt_le s 3
  unfold N4
  omega
theorem bytes4 (s : ByteArray) (h : s.size = 4) : bytesOf s = [bt s 0, bt s 1, bt s 2, bt s 3] := by
  have hl : (bytesOf s).length = 4 := by
    show (s.data.toList.map _).length = 4
    rw [List.length_map, Array.length_toList]
    exact h
  have g : ∀ i : Nat, (hi : i < 4) → (bytesOf s)[i]'(by omega) = bt s i := by
    intro i hi
    unfold bt
    rw [dif_pos (by simp only [Int.toNat_natCast]; omega)]
    simp [bytesOf, ByteArray.getElem_eq_getElem_data]
  apply List.ext_getElem
  · simp [hl]
  · intro i h1 h2
    rw [g i (by omega)]
    match i, h2 with
    | 0, _ => rfl
    | 1, _ => rfl
    | 2, _ => rfl
    | 3, _ => rfl
theorem T4_N4 (s : ByteArray) (h : s.size = 4) : T4 (N4 s) = s := by
  have a0 := bt_ge s 0; have a1 := bt_ge s 1; have a2 := bt_ge s 2; have a3 := bt_ge s 3
  have b0 := bt_le s 0; have b1 := bt_le s 1; have b2 := bt_le s 2; have b3 := bt_le s 3
  have e : [N4 s / 16777216, N4 s / 65536 % 256, N4 s / 256 % 256, N4 s % 256] = bytesOf s := by
    rw [bytes4 s h]
    unfold N4
    congr 1
    · omega
    · congr 1
      · omega
      · congr 1
        · omega
        · congr 1
          omega
  unfold T4
  rw [e, strOf_bytesOf]
theorem s_InnerText_ok (k : Nat) (a b : Int) (t : ByteArray) (ha : 0 ≤ a ∧ a ≤ 4294967295) (hb : 0 ≤ b ∧ b ≤ 4294967295) (ht : t.size ≤ 100) : s_InnerText k ((a, (b, (t, ()))), ()) = some ((T4 a ++ T4 b ++ t, (true, ())), ((), ())) := by
  have hm : maxStr = 9223372036854775807 := rfl
  unfold s_InnerText
  simp only [s_InnerOk_is, Option.bind_some, ha, hb, ht, and_self, decide_true, Bool.not_true, Bool.false_eq_true, if_false, NumberText_T4 k a ha, NumberText_T4 k b hb]
  rw [if_pos (by rw [T4_size, T4_size]; omega), if_pos (by rw [ByteArray.size_append, T4_size, T4_size]; omega)]
theorem s_InnerText_no (k : Nat) (a b : Int) (t : ByteArray) (h : ¬ ((0 ≤ a ∧ a ≤ 4294967295) ∧ (0 ≤ b ∧ b ≤ 4294967295) ∧ t.size ≤ 100)) : s_InnerText k ((a, (b, (t, ()))), ()) = some (((⟨#[]⟩ : ByteArray), (false, ())), ((), ())) := by
  unfold s_InnerText
  simp only [s_InnerOk_is, Option.bind_some, h, decide_false, Bool.not_false, if_true]
theorem s_ReadInner_ok (k : Nat) (s : ByteArray) (h : 8 ≤ s.size ∧ s.size ≤ 108) : s_ReadInner k (s, ()) = some (((N4 (s.extract 0 4), (N4 (s.extract 4 8), (s.extract 8 s.size, ()))), (true, ())), ((), ())) := by
  have e1 : (s.extract 0 4).size = 4 := by rw [ByteArray.size_extract]; omega
  have e2 : (s.extract 4 8).size = 4 := by rw [ByteArray.size_extract]; omega
  have g : (8 : Int) ≤ (s.size : Int) ∧ (s.size : Int) ≤ 108 := by omega
  have g8 : (0 : Int) ≤ 8 ∧ (8 : Int) ≤ (s.size : Int) := by omega
  have g4 : (0 : Int) ≤ 4 ∧ (4 : Int) ≤ (s.size : Int) := by omega
  have t0 : Int.toNat (0 : Int) = 0 := rfl
  have t4 : Int.toNat (4 : Int) = 4 := rfl
  have t8 : Int.toNat (8 : Int) = 8 := rfl
  have g48 : (0 : Int) ≤ 4 ∧ (4 : Int) ≤ 8 := by omega
  unfold s_ReadInner N4
  simp only [l01In_is, s_ReadNumber_is, Option.bind_some, g, g8, g4, g48, and_self, decide_true, Bool.not_true, Bool.false_eq_true, if_false, if_true, t0, t4, t8, e1, e2, Int.toNat_natCast]
theorem s_ReadInner_no (k : Nat) (s : ByteArray) (h : ¬ (8 ≤ s.size ∧ s.size ≤ 108)) : s_ReadInner k (s, ()) = some (((0, (0, ((⟨#[]⟩ : ByteArray), ()))), (false, ())), ((), ())) := by
  have g : ¬ ((8 : Int) ≤ (s.size : Int) ∧ (s.size : Int) ≤ 108) := by omega
  unfold s_ReadInner
  simp only [l01In_is, Option.bind_some, g, decide_false, Bool.not_false, if_true]
theorem ext_all (s : ByteArray) (h : 8 ≤ s.size) : s.extract 0 4 ++ s.extract 4 8 ++ s.extract 8 s.size = s := by
  apply ByteArray.ext
  simp only [ByteArray.data_append, ByteArray.data_extract]
  have hs : s.data.size = s.size := rfl
  rw [Array.extract_append_extract, show min 0 4 = 0 from rfl, show max 4 8 = 8 from rfl, Array.extract_append_extract, show min 0 8 = 0 from rfl, Nat.max_eq_right h, ← hs]
  simp
theorem ext1 (a b t : ByteArray) (ha : a.size = 4) (hb : b.size = 4) : (a ++ b ++ t).extract 0 4 = a ∧ (a ++ b ++ t).extract 4 8 = b ∧ (a ++ b ++ t).extract 8 (a ++ b ++ t).size = t := by
  have ha' : a.data.size = 4 := ha
  have hb' : b.data.size = 4 := hb
  have e : (a ++ b ++ t).size = 8 + t.data.size := by rw [ByteArray.size_append, ByteArray.size_append, ha, hb]; rfl
  refine ⟨ByteArray.ext ?_, ByteArray.ext ?_, ByteArray.ext ?_⟩
  · simp only [ByteArray.data_append, ByteArray.data_extract]
    apply Array.ext
    · simp; omega
    · intro i h1 h2
      simp [ha']
  · simp only [ByteArray.data_append, ByteArray.data_extract]
    apply Array.ext
    · simp; omega
    · intro i h1 h2
      simp [ha', hb']
  · rw [e]
    simp only [ByteArray.data_append, ByteArray.data_extract]
    apply Array.ext
    · simp; omega
    · intro i h1 h2
      simp [Array.getElem_append, ha', hb']
      rw [dif_neg (by omega), dif_neg (by omega)]
      congr 1
      omega
theorem pure_FnInners (x : argsDen pars_FnInners) (hx : argsWf pars_FnInners x) : ∃ k o, w_FnInners k (argsX pars_FnInners x) = some (true, o) := by
  obtain ⟨code, u⟩ := x
  refine ⟨1048577, ((), ()), ?_⟩
  show w_FnInners 1048577 (code, ()) = _
  unfold w_FnInners w_big
  simp only [Option.bind_some]
  by_cases hl : (1048576 : Int) < (code.length : Int)
  · simp [hl]
  obtain ⟨c, e1, hc⟩ := New_is 1048577 code (by omega) (by decide)
  obtain ⟨a, b, t, c', e2, ht, hc'⟩ := drawInner_is 1048577 c hc (by decide)
  have e3 : s_DrawInnerText 1048577 (code, ()) = some ((a, (b, (t, ()))), ((), ())) := by
    unfold s_DrawInnerText
    simp only [e1, e2, Option.bind_some]
  have e4 : ∃ s : ByteArray, s_DrawReadInner 1048577 (code, ()) = some (s, ((), ())) := by
    obtain ⟨r, er⟩ := s_InnerText_ends 1048577 a b t
    obtain ⟨o, c2, e5, h2⟩ := Once_is 1048577 c' 4 hc'
    unfold s_DrawReadInner
    simp only [e1, e2, er, e5, Option.bind_some]
    cases o with
    | false => exact ⟨_, rfl⟩
    | true =>
      obtain ⟨n, c3, e6, _, _, h3⟩ := Below_is 1048577 c2 12 h2
      obtain ⟨s, c4, e7, _, _⟩ := Text_is 1048577 c3 n h3 (by decide)
      simp only [e6, e7, if_true, Option.bind_some]
      exact ⟨_, rfl⟩
  obtain ⟨s, e4⟩ := e4
  have fin : ∃ r : (Int × Int × ByteArray × Unit) × Bool × Unit, s_ReadInner 1048577 (s, ()) = some (r, ((), ())) ∧ ∃ q : ByteArray × Bool × Unit, s_InnerText 1048577 ((r.1.1, (r.1.2.1, (r.1.2.2.1, ()))), ()) = some (q, ((), ())) ∧ (r.2.1 = true → q.1 = s) := by
    by_cases h : 8 ≤ s.size ∧ s.size ≤ 108
    · have x1 : (s.extract 0 4).size = 4 := by rw [ByteArray.size_extract]; omega
      have x2 : (s.extract 4 8).size = 4 := by rw [ByteArray.size_extract]; omega
      refine ⟨_, s_ReadInner_ok 1048577 s h, _, s_InnerText_ok 1048577 _ _ _ (N4_range _) (N4_range _) (by rw [ByteArray.size_extract]; omega), fun _ => ?_⟩
      show T4 (N4 (s.extract 0 4)) ++ T4 (N4 (s.extract 4 8)) ++ s.extract 8 s.size = s
      rw [T4_N4 _ x1, T4_N4 _ x2]
      exact ext_all s h.1
    · refine ⟨_, s_ReadInner_no 1048577 s h, ?_⟩
      obtain ⟨q, hq⟩ := s_InnerText_ends 1048577 0 0 (⟨#[]⟩ : ByteArray)
      exact ⟨q.1, hq, fun hh => by cases hh⟩
  obtain ⟨⟨⟨ra, rb, rt, ru⟩, rr, ru'⟩, f1, ⟨q, qq, qu⟩, f2, f3⟩ := fin
  simp only at f2 f3
  by_cases h : (0 ≤ a ∧ a ≤ 4294967295) ∧ (0 ≤ b ∧ b ≤ 4294967295) ∧ t.size ≤ 100
  · obtain ⟨ha, hb, ht'⟩ := h
    have g1 := s_InnerText_ok 1048577 a b t ha hb ht'
    have hsz : 8 ≤ (T4 a ++ T4 b ++ t).size ∧ (T4 a ++ T4 b ++ t).size ≤ 108 := by rw [ByteArray.size_append, ByteArray.size_append, T4_size, T4_size]; omega
    have g2 := s_ReadInner_ok 1048577 _ hsz
    obtain ⟨y1, y2, y3⟩ := ext1 (T4 a) (T4 b) t (T4_size a) (T4_size b)
    rw [y1, y2, y3, N4_T4 a ha, N4_T4 b hb] at g2
    have g3 := s_InnerOk_is 1048577 a b t
    simp only [hl, e3, e4, i_InnerText_is, i_ReadInner_is, i_InnerOk_is, g1, g2, f1, f2, s_InnerOk_is, ha, hb, ht', and_self, decide_true, decide_false, Bool.not_true, Bool.false_eq_true, Bool.and_self, if_true, if_false, Option.bind_some]
    cases rr with
    | false => simp
    | true => have := f3 rfl; subst this; simp
  · have g1 := s_InnerText_no 1048577 a b t h
    have g2 := s_ReadInner_no 1048577 (⟨#[]⟩ : ByteArray) (by decide)
    simp only [hl, e3, e4, i_InnerText_is, i_ReadInner_is, i_InnerOk_is, g1, g2, f1, f2, s_InnerOk_is, h, decide_true, decide_false, Bool.not_false, Bool.true_eq_false, Bool.false_eq_true, if_true, if_false, Option.bind_some]
    cases rr with
    | false => simp
    | true => have := f3 rfl; subst this; simp
open Go.ChangeShapes Go.WideShapes Go.ChangeAt Go.RowKit
theorem own_FnInners : ownKnob Try.prog.godebug = none := by kernel_rfl
theorem lifted_FnInners (os : Os) (started : os.Started) (H : Type) (enc : TypeId × Value → H) :
    ReturnsInHanded {} Try.checked os 10 .any (Rows.fnInnersSpec.pre6 enc Try.prog Try.f10 Rows.fnInnersRow.domain false) (Rows.fnInnersSpec.post enc Try.prog Try.f10 false true false false) :=
  law_lifted (C := Try.checked) (l := pars_FnInners) (rb := 4) own_FnInners started (by kernel_rfl) Try.func10
    (ChangeSpec.witness6 (enc := enc) (C := Try.checked) false ⟨#[], #[.slice none 0 0], []⟩ 8 (by kernel_rfl) (by kernel_rfl) (by kernel_rfl) (by kernel_rfl))
    e_w_FnInners rfl (by decide) pure_FnInners (by kernel_rfl) rfl Try.underlying4 (by kernel_rfl) (by kernel_rfl) rfl
    (fun ds h => match ds, h with | [_], _ => rfl)
theorem inPlace_FnInners : Try.prog.inPlace 10 = Rows.fnInnersRow.inPlace := by kernel_rfl
theorem unfollowed_FnInners : Try.prog.unfollowed 10 = Rows.fnInnersRow.unfollowed := by kernel_rfl
theorem recurses_FnInners : Try.prog.recurses 10 = Rows.fnInnersRow.recurses := by kernel_rfl
theorem named_FnInners : Try.prog.varsNamed 10 = Rows.fnInnersRow.named := by kernel_rfl
theorem facts_FnInners : joinedFacts Try.prog 10 Try.f10 Rows.fnInnersSpec Rows.fnInnersRow = true := by
  unfold joinedFacts
  rw [seat_laid, seat_maps, seat_heard, seat_enter, inPlace_FnInners, unfollowed_FnInners, recurses_FnInners, named_FnInners]
  kernel_rfl
theorem fnInners_holds : Rows.FnInnersSaid :=
  OpenClaim.holds_of_wide 10 Try.f10 rfl rfl rfl rfl rfl rfl rfl ⟨rfl, rfl, rfl, rfl, rfl⟩ rfl rfl rfl rfl rfl (by kernel_rfl) Try.func10 facts_FnInners (of_decide_eq_true (by kernel_rfl))
    (by unfold Func.isWrapper; first | (rw [if_pos (by decide +kernel)]; kernel_rfl) | (rw [if_neg (by decide +kernel)]; exact ⟨rfl, rfl⟩)) (fun os started H enc _ => lifted_FnInners os started H enc)
#print axioms fnInners_holds
end Go.Proofs.Ytodnoiblplnpcaa
