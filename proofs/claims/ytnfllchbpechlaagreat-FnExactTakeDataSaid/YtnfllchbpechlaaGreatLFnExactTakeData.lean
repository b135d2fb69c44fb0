import Derived.Test.YtnfllchbpechlaaGreatPFnExactTakeData
import Derived.Test.YtnfllchbpechlaaGreatRows
import Derived.Test.YtnfllchbpechlaaGreatFun3
import Derived.Test.YtnfllchbpechlaaGreatBase
import Derived.Test.YtnfllchbpechlaaGreatFacts
import Derived.WalkKit
import Derived.ProofKit
import Derived.OpenShut
import Derived.ShutString
import Derived.ChangeOld
import Derived.Below
import Derived.SizedLaws
/- FnExactTakeData answers true for every input, and its arguments read behind the call as they did ahead of it. Conditions: none. -/
set_option linter.unusedVariables false
set_option linter.unusedSimpArgs false
namespace Go.Proofs.YtnfllchbpechlaaGreat
open Go Go.Eng Go.Proofs
theorem eqPacket_is (k : Nat) (x y : Int × Int × Int × Int × Int × List (Int) × ByteArray × Unit) (hk : 1048576 < k) (hb : qDh x) : qEK k (x, (y, ())) = some (dq x y, ((), ((), ()))) := by
 obtain ⟨a0, a1, a2, a3, a4, a5, a6, u⟩ := x
 obtain ⟨b0, b1, b2, b3, b4, b5, b6, u'⟩ := y
 unfold qEK
 unfold qDh at hb
 obtain ⟨w5, w6, _⟩ := hb
 simp only [] at w5 w6
 simp only [eqIntS_is k a5 b5 hk w5, Option.bind_some]
 by_cases h0 : a0 = b0
 rotate_left
 ·have hn : (a0, (a1, (a2, (a3, (a4, (a5, (a6, ()))))))) ≠ (b0, (b1, (b2, (b3, (b4, (b5, (b6, ()))))))) := fun h => h0 (by simp only [Prod.mk.injEq] at h; simp_all)
  rw [qAW hn]
  simp [h0]
 subst h0
 by_cases h1 : a1 = b1
 rotate_left
 ·have hn : (a0, (a1, (a2, (a3, (a4, (a5, (a6, ()))))))) ≠ (a0, (b1, (b2, (b3, (b4, (b5, (b6, ()))))))) := fun h => h1 (by simp only [Prod.mk.injEq] at h; simp_all)
  rw [qAW hn]
  simp [h1]
 subst h1
 by_cases h2 : a2 = b2
 rotate_left
 ·have hn : (a0, (a1, (a2, (a3, (a4, (a5, (a6, ()))))))) ≠ (a0, (a1, (b2, (b3, (b4, (b5, (b6, ()))))))) := fun h => h2 (by simp only [Prod.mk.injEq] at h; simp_all)
  rw [qAW hn]
  simp [h2]
 subst h2
 by_cases h3 : a3 = b3
 rotate_left
 ·have hn : (a0, (a1, (a2, (a3, (a4, (a5, (a6, ()))))))) ≠ (a0, (a1, (a2, (b3, (b4, (b5, (b6, ()))))))) := fun h => h3 (by simp only [Prod.mk.injEq] at h; simp_all)
  rw [qAW hn]
  simp [h3]
 subst h3
 by_cases h4 : a4 = b4
 rotate_left
 ·have hn : (a0, (a1, (a2, (a3, (a4, (a5, (a6, ()))))))) ≠ (a0, (a1, (a2, (a3, (b4, (b5, (b6, ()))))))) := fun h => h4 (by simp only [Prod.mk.injEq] at h; simp_all)
  rw [qAW hn]
  simp [h4]
 subst h4
 by_cases h5 : a5 = b5
 rotate_left
 ·have hn : (a0, (a1, (a2, (a3, (a4, (a5, (a6, ()))))))) ≠ (a0, (a1, (a2, (a3, (a4, (b5, (b6, ()))))))) := fun h => h5 (by simp only [Prod.mk.injEq] at h; simp_all)
  rw [qAW hn]
  simp [h5, qAW]
 subst h5
 by_cases h6 : a6 = b6
 rotate_left
 ·have hn : (a0, (a1, (a2, (a3, (a4, (a5, (a6, ()))))))) ≠ (a0, (a1, (a2, (a3, (a4, (a5, (b6, ()))))))) := fun h => h6 (by simp only [Prod.mk.injEq] at h; simp_all)
  rw [qAW hn]
  simp [h6]
 subst h6
 simp [qDx]
theorem qIC (a : List Int) (hl : a.length ≤ 1048576) : ([] : List Int).length + a.length ≤ capMax := by
 have : capMax = 274877906944 := rfl
 simp; omega
theorem s_l17Copy_is (k : Nat) (x : qBd) (h1 : x.2.2.2.2.1.length ≤ 1048576) (h2 : x.2.2.2.2.2.2.2.2.2.2.1.length ≤ 1048576) : qFW k (x, ()) = some (x, ((), ())) := by
 unfold qFW qBY
 simp only [qIC _ h1, qIC _ h2, if_true, Option.bind_some, List.nil_append]
theorem qGr (k : Nat) (x : qBd) (h1 : x.2.2.2.2.1.length ≤ 1048576) (h2 : x.2.2.2.2.2.2.2.2.2.2.1.length ≤ 1048576) : qCf k (x, ()) = some (x, ((), ())) := by
 unfold qCf qCH
 simp only [qIC _ h1, qIC _ h2, if_true, Option.bind_some, List.nil_append]
/-- The slots' lists are short. -/
def Short (x : qBd) : Prop := x.2.2.2.2.1.length ≤ 1048576 ∧ x.2.2.2.2.2.2.2.2.2.2.1.length ≤ 1048576
theorem qDv {x : qBd} (h : qBL x) : Short x := ⟨h.2.2.1, h.2.2.2.2.2.1⟩
abbrev qCm := Int × Int × Int × Int × Int × List Int × ByteArray × Unit
def ok7 (a : List Int) : Prop := a.Pairwise (fun x y => y < x) ∧ (∀ x ∈ a, 1 ≤ x ∧ x ≤ 1000000000) ∧ a.length ≤ 6
theorem seenB_ok {a : List Int} (h : seenB a = true) : ok7 a := by
 have key : ∀ m i, i + m = a.length → (qBx (gSeen a) (fun _ => (decide ((a.length : Int) ≤ 6), ((), ()))) m i ()).1 = true →
   (a.length ≤ 6) ∧ ∀ j, i ≤ j → j < a.length → (1 ≤ Ty.rd (t := (.int .i64)) a j ∧ Ty.rd (t := (.int .i64)) a j ≤ 1000000000) ∧ (0 < j → Ty.rd (t := (.int .i64)) a j < Ty.rd (t := (.int .i64)) a ((j : Int) - 1)) := by
  intro m
  induction m with
  | zero =>
   intro i hi h
   have h : decide ((a.length : Int) ≤ 6) = true := h
   exact ⟨by simp at h; omega, fun j h1 h2 => by omega⟩
  | succ m ih =>
   intro i hi h
   unfold qBx at h
   cases hg : gSeen a i () with
   | inl r =>
    rw [hg] at h
    unfold gSeen at hg
    split at hg
    ·cases hg
    ·cases hg; cases h
   | inr u =>
    rw [hg] at h
    obtain ⟨h1, h2⟩ := ih (i + 1) (by omega) h
    refine ⟨h1, fun j hj hl => ?_⟩
    by_cases e : j = i
    ·subst e
     unfold gSeen at hg
     split at hg
     ·rename_i hc
      simp only [Bool.and_eq_true, Bool.not_eq_true', decide_eq_true_eq, Bool.and_eq_false_iff, decide_eq_false_iff_not] at hc
      refine ⟨hc.1.1, fun h0 => ?_⟩
      have w1 : wi64 ((j : Int) - 1) = (j : Int) - 1 := qAH _ (by omega)
      rw [w1] at hc
      rcases hc.1.2 with hc | hc
      ·exact absurd (show (0 : Int) < (j : Int) by omega) hc
      ·exact Int.not_le.1 hc
     ·cases hg
    ·exact h2 j (by omega) hl
 obtain ⟨h1, h2⟩ := key a.length 0 (by omega) h
 have hget : ∀ j (hj : j < a.length), Ty.rd (t := (.int .i64)) a (j : Int) = a[j] := fun j hj => by exact qD5 (t := .int .i64) a _ (by simpa using hj)
 refine ⟨?_, fun x hx => ?_, h1⟩
 ·have step : ∀ d i, (hd : i + d + 1 < a.length) → a[i + d + 1] < a[i] := by
   intro d
   induction d with
   | zero =>
    intro i hd
    have := (h2 (i + 1) (by omega) (by omega)).2 (by omega)
    have e : ((i + 1 : Nat) : Int) - 1 = (i : Int) := by omega
    rw [e, hget _ (by omega), hget _ (by omega)] at this
    exact this
   | succ d ih =>
    intro i hd
    have h3 := ih i (by omega)
    have := (h2 (i + (d + 1) + 1) (by omega) (by omega)).2 (by omega)
    have e : ((i + (d + 1) + 1 : Nat) : Int) - 1 = ((i + d + 1 : Nat) : Int) := by omega
    rw [e, hget _ (by omega), hget _ (by omega)] at this
    exact Int.lt_trans this h3
  rw [List.pairwise_iff_getElem]
  intro i j hi hj hij
  have := step (j - i - 1) i (by omega)
  have e : i + (j - i - 1) + 1 = j := by omega
  simp only [e] at this
  exact this
 ·obtain ⟨j, hj, rfl⟩ := List.mem_iff_getElem.1 hx
  have := (h2 j (by omega) hj).1
  rw [hget j hj] at this
  exact this
/-- A list's numbers that pass are gathered, behind what is there. -/
theorem qG9 {X R : Type} {step : (X → Option R) → X → Option R} (a : List Int) (P : Int → Bool) (st : List Int → Nat → X) (B k : Nat) (out : List Int) {res : Option R} (ho : out.length ≤ B) (hk : a.length < k)
  (hs : ∀ again out i (hi : i < a.length), out.length ≤ B + i → step again (st out i) = again (st (if P a[i] = true then out ++ [a[i]] else out) (i + 1)))
  (he : ∀ again, step again (st (out ++ a.filter P) a.length) = res) : qAG step k (st out 0) = res := by
 have key : ∀ m i out k, i + m = a.length → out.length ≤ B + i → m < k → ∃ again, qAG step k (st out i) = step again (st (out ++ (a.drop i).filter P) a.length) := by
  intro m
  induction m with
  | zero =>
   intro i out k h ho hk
   obtain ⟨k, rfl⟩ : ∃ k', k = k' + 1 := ⟨k - 1, by omega⟩
   have : i = a.length := by omega
   subst this
   exact ⟨qAG step k, by simp; rfl⟩
  | succ m ih =>
   intro i out k h ho hk
   obtain ⟨k, rfl⟩ : ∃ k', k = k' + 1 := ⟨k - 1, by omega⟩
   have hi : i < a.length := by omega
   have e : qAG step (k + 1) (st out i) = step (qAG step k) (st out i) := rfl
   rw [e, hs _ _ i hi ho, List.drop_eq_getElem_cons hi]
   by_cases c : P a[i] = true
   ·obtain ⟨g, hg⟩ := ih (i + 1) (out ++ [a[i]]) k (by omega) (by simp; omega) (by omega)
    refine ⟨g, ?_⟩
    rw [if_pos c, hg, List.filter_cons_of_pos c]
    simp
   ·obtain ⟨g, hg⟩ := ih (i + 1) out k (by omega) (by omega) (by omega)
    refine ⟨g, ?_⟩
    rw [if_neg c, hg, List.filter_cons_of_neg c]
 obtain ⟨g, hg⟩ := key a.length 0 out k (by omega) (by omega) hk
 rw [hg, List.drop_zero]
 exact he g
/-- Those are taken out of a list that are to go. -/
theorem del_loop {R C : Type} {step : (List Int × C × Int × Int × Unit → Option R) → List Int × C × Int × Int × Unit → Option R} (D : Int → Bool) (c : C) (cont : List Int → Int → Option R)
  (hs : ∀ again (p gs r : List Int) (g v : Int), p.length + gs.length + r.length ≤ 1048576 → step again (p ++ g :: (gs ++ v :: r), (c, ((p.length : Int), (((p.length + gs.length + 1 : Nat) : Int), ())))) =
   if D v = true then again (p ++ g :: (gs ++ v :: r), (c, ((p.length : Int), (((p.length + gs.length + 2 : Nat) : Int), ())))) else again (p ++ v :: (gs ++ v :: r), (c, (((p.length + 1 : Nat) : Int), (((p.length + gs.length + 2 : Nat) : Int), ())))))
  (he : ∀ again (l : List Int) (i j : Int), (l.length : Int) ≤ j → step again (l, (c, (i, (j, ())))) = cont l i) :
  ∀ (r p gs : List Int) (g : Int) (k : Nat), p.length + gs.length + r.length ≤ 1048576 → r.length < k → ∃ t, qAG step k (p ++ g :: (gs ++ r), (c, ((p.length : Int), (((p.length + gs.length + 1 : Nat) : Int), ())))) = cont ((p ++ r.filter (fun v => !D v)) ++ t) ((p ++ r.filter (fun v => !D v)).length : Int) := by
 intro r
 induction r with
 | nil =>
  intro p gs g k hb hk
  obtain ⟨k, rfl⟩ : ∃ k', k = k' + 1 := ⟨k - 1, by omega⟩
  refine ⟨g :: gs, ?_⟩
  show step _ _ = _
  rw [he _ _ _ _ (by simp; omega)]
  simp
 | cons v r ih =>
  intro p gs g k hb hk
  obtain ⟨k, rfl⟩ : ∃ k', k = k' + 1 := ⟨k - 1, by omega⟩
  simp only [List.length_cons] at hb hk
  by_cases d : D v = true
  ·obtain ⟨t, ht⟩ := ih p (gs ++ [v]) g k (by simp; omega) (by omega)
   refine ⟨t, ?_⟩
   show step _ _ = _
   rw [hs _ p gs r g v (by omega), if_pos d, List.filter_cons_of_neg (by simp [d]), ← ht]
   simp
   rfl
  ·obtain ⟨t, ht⟩ : ∃ t, qAG step k (p ++ v :: (gs ++ v :: r), (c, (((p.length + 1 : Nat) : Int), (((p.length + gs.length + 2 : Nat) : Int), ())))) = cont ((p ++ (v :: r).filter (fun v => !D v)) ++ t) ((p ++ (v :: r).filter (fun v => !D v)).length : Int) := by
    cases gs with
    | nil =>
     obtain ⟨t, ht⟩ := ih (p ++ [v]) [] v k (by simp; omega) (by omega)
     refine ⟨t, ?_⟩
     rw [List.filter_cons_of_pos (by simp [d])]
     have e1 : ((p ++ [v]).length : Int) = ((p.length + 1 : Nat) : Int) := by simp
     have e2 : (((p ++ [v]).length + ([] : List Int).length + 1 : Nat) : Int) = ((p.length + ([] : List Int).length + 2 : Nat) : Int) := by simp; omega
     rw [e1, e2] at ht
     simpa using ht
    | cons g' gs' =>
     obtain ⟨t, ht⟩ := ih (p ++ [v]) (gs' ++ [v]) g' k (by simp at hb ⊢; omega) (by omega)
     refine ⟨t, ?_⟩
     rw [List.filter_cons_of_pos (by simp [d])]
     have e1 : ((p ++ [v]).length : Int) = ((p.length + 1 : Nat) : Int) := by simp
     have e2 : (((p ++ [v]).length + (gs' ++ [v]).length + 1 : Nat) : Int) = ((p.length + (g' :: gs').length + 2 : Nat) : Int) := by simp; omega
     rw [e1, e2] at ht
     simpa using ht
   refine ⟨t, ?_⟩
   show step _ _ = _
   rw [hs _ p gs r g v (by omega), if_neg d]
   exact ht
theorem find_mem (a : List Int) (n : Int) (p : Nat → Bool) (hp : ∀ i (hi : i < a.length), p i = true ↔ a[i] = n) : ((List.range a.length).find? p).isSome = decide (n ∈ a) := by
 rw [Bool.eq_iff_iff, decide_eq_true_eq, List.find?_isSome]
 constructor
 ·rintro ⟨i, hi, h⟩
  have hi : i < a.length := by simpa using hi
  rw [← (hp i hi).1 h]
  exact List.getElem_mem hi
 ·intro h
  obtain ⟨i, hi, e⟩ := List.mem_iff_getElem.1 h
  exact ⟨i, by simpa using hi, (hp i hi).2 e⟩
theorem rd_i (a : List Int) (i : Nat) (hi : i < a.length) : Ty.rd (t := (.int .i64)) a ((i : Nat) : Int) = a[i] := qD5 (t := .int .i64) a _ (by simpa using hi)
theorem l13In_is (k : Nat) (a : List Int) (n : Int) (hk : 1048576 < k) (hl : a.length ≤ 1048576) : s_l13In k (a, (n, ())) = some (decide (n ∈ a), ((), ((), ()))) := by
 unfold s_l13In
 refine (qE8 (fun i => (a, (n, (((i : Nat) : Int), ())))) a.length (fun i => decide (Ty.rd (t := (.int .i64)) a ((i : Nat) : Int) = n)) (fun _ => (true, ((), ((), ())))) (false, ((), ((), ()))) ?_ ?_ k (by omega)).trans ?_
 ·intro again i hi
  have g1 : (0 : Int) ≤ (i : Int) ∧ (i : Int) < (a.length : Int) := by omega
  have w2 : wi64 ((i : Int) + 1) = ((i + 1 : Nat) : Int) := (qAH _ (by omega)).trans (by omega)
  simp only [g1, w2, and_self, decide_true, if_true]
 ·intro again
  simp
 ·rw [← find_mem a n (fun i => decide (Ty.rd (t := (.int .i64)) a ((i : Nat) : Int) = n)) (fun i hi => by rw [rd_i a i hi]; simp)]
  cases (List.range a.length).find? (fun i => decide (Ty.rd (t := (.int .i64)) a ((i : Nat) : Int) = n)) <;> rfl
theorem Contains_is (k : Nat) (a : List Int) (n : Int) (hk : 1048576 < k) (hl : a.length ≤ 1048576) : qAi k (a, (n, ())) = some (decide (n ∈ a), ((), ((), ()))) := by
 have e : qAv k (a, (n, ())) = some ((match (List.range a.length).find? (fun i => decide (n = Ty.rd (t := (.int .i64)) a ((i : Nat) : Int))) with | some i => (((i : Nat) : Int), ((), ((), ()))) | none => (-1, ((), ((), ()))))) := by
  unfold qAv
  refine qE8 (fun i => (a, (n, ((a.length : Int), (((i : Nat) : Int), ()))))) a.length (fun i => decide (n = Ty.rd (t := (.int .i64)) a ((i : Nat) : Int))) (fun i => (((i : Nat) : Int), ((), ((), ())))) (-1, ((), ((), ()))) ?_ ?_ k (by omega)
  ·intro again i hi
   have g1 : (0 : Int) ≤ (i : Int) ∧ (i : Int) < (a.length : Int) := by omega
   have w2 : wi64 ((i : Int) + 1) = ((i + 1 : Nat) : Int) := (qAH _ (by omega)).trans (by omega)
   simp only [g1, w2, and_self, decide_true, if_true]
  ·intro again
   simp
 unfold qAi
 rw [← find_mem a n (fun i => decide (n = Ty.rd (t := (.int .i64)) a ((i : Nat) : Int))) (fun i hi => by rw [rd_i a i hi, decide_eq_true_eq]; exact eq_comm)]
 simp only [e, Option.bind_some]
 cases (List.range a.length).find? (fun i => decide (n = Ty.rd (t := (.int .i64)) a ((i : Nat) : Int))) with
 | none => rfl
 | some i => simp
def qC1 (a : List Int) (n : Int) : Bool := seenB a && (decide (1 ≤ n ∧ n ≤ 1000000000) && (!decide (n ∈ a) && (decide ((a.length : Int) = 0) || decide (wi64 (Ty.rd (t := (.int .i64)) a 0 - 6) < n))))
theorem s_IsFresh_is (k : Nat) (a : List Int) (n : Int) (hk : 1048576 < k) (hl : a.length ≤ 1048576) : qEP k (a, (n, ())) = some (qC1 a n, ((), ((), ()))) := by
 unfold qEP qC1
 simp only [s_SeenOk_is k a hk hl, qBg, l13In_is k a n hk hl, Option.bind_some]
 cases seenB a with
 | false => simp
 | true =>
  by_cases h1 : 1 ≤ n ∧ n ≤ 1000000000
  ·by_cases h2 : n ∈ a
   ·simp [h1, h2]
   ·by_cases h3 : (a.length : Int) = 0
    ·simp only [h1, h2, h3]; simp
    ·have g1 : (0 : Int) ≤ 0 ∧ (0 : Int) < (a.length : Int) := by omega
     simp only [h1, h2, h3, g1]; simp
  ·simp [h1]
theorem qF5 (k : Nat) (a : List Int) (n : Int) (hk : 1048576 < k) (hl : a.length ≤ 1048576) : qDa k (a, (n, ())) = some (qC1 a n, ((), ((), ()))) := by
 unfold qDa qC1
 simp only [i_SeenOk_is k a hk hl, qBD, Contains_is k a n hk hl, Option.bind_some]
 cases seenB a with
 | false => simp
 | true =>
  by_cases h1 : 1 ≤ n ∧ n ≤ 1000000000
  ·by_cases h2 : n ∈ a
   ·simp [h1, h2]
   ·by_cases h3 : (a.length : Int) = 0
    ·simp only [h1, h2, h3]; simp
    ·have g1 : (0 : Int) ≤ 0 ∧ (0 : Int) < (a.length : Int) := by omega
     simp only [h1, h2, h3, g1]; simp
  ·simp [h1]
def qCn (a : List Int) (n : Int) : List Int := (a.filter (fun x => decide (n < x)) ++ [n]) ++ a.filter (fun x => decide (x < n))
def qE4 (a : List Int) (n : Int) : List Int := if qC1 a n = true then (qCn a n).filter (fun x => decide (wi64 (Ty.rd (t := (.int .i64)) (qCn a n) 0 - 6) < x)) else a
theorem listL_len (a : List Int) (n : Int) : (qCn a n).length ≤ 2 * a.length + 1 := by
 have h1 := List.length_filter_le (fun x => decide (n < x)) a
 have h2 := List.length_filter_le (fun x => decide (x < n)) a
 simp only [qCn, List.length_append, List.length_cons, List.length_nil]
 omega
theorem fresh_ok {a : List Int} {n : Int} (h : qC1 a n = true) : ok7 a ∧ n ∉ a ∧ 1 ≤ n ∧ n ≤ 1000000000 := by
 unfold qC1 at h
 simp only [Bool.and_eq_true, Bool.not_eq_true', decide_eq_true_eq, decide_eq_false_iff_not] at h
 exact ⟨seenB_ok h.1, h.2.2.1, h.2.1.1, h.2.1.2⟩
theorem cap_add (n m : Nat) (h : n + m ≤ 4194304) : n + m ≤ capMax := by
 have : capMax = 274877906944 := rfl
 omega
theorem s_NoteSeen_is (k : Nat) (a : List Int) (n : Int) (hk : 1048576 < k) (hl : a.length ≤ 1048576) : qER k (a, (n, ())) = some (qE4 a n, ((), ((), ()))) := by
 unfold qER qE4
 simp only [s_IsFresh_is k a n hk hl, Option.bind_some]
 cases hf : qC1 a n with
 | false =>
  have c : a.length ≤ capMax := by
   have : capMax = 274877906944 := rfl
   omega
  simp [c]
 | true =>
  obtain ⟨h7, hn, _⟩ := fresh_ok hf
  have hl6 : a.length ≤ 6 := h7.2.2
  simp only [Bool.not_true, Bool.false_eq_true, if_false, if_true]
  refine qG9 a (fun x => decide (n < x)) (fun out i => (a, (n, (out, (((i : Nat) : Int), ()))))) 0 k [] (by simp) (by omega) ?_ ?_
  ·intro again out i hi ho
   have g1 : (0 : Int) ≤ (i : Int) ∧ (i : Int) < (a.length : Int) := by omega
   have w2 : wi64 ((i : Int) + 1) = ((i + 1 : Nat) : Int) := (qAH _ (by omega)).trans (by omega)
   have c : ∀ v : Int, out.length + ([v] : List Int).length ≤ capMax := fun v => cap_add _ _ (by simp; omega)
   simp only [g1, w2, c, rd_i a i hi, and_self, decide_true, if_true]
   by_cases q : n < a[i] <;> simp [q]
  ·intro again
   have f1 := List.length_filter_le (fun x => decide (n < x)) a
   have c : ([] ++ a.filter (fun x => decide (n < x))).length + ([n] : List Int).length ≤ capMax := cap_add _ _ (by simp; omega)
   simp only [Int.lt_irrefl, decide_false, Bool.false_eq_true, if_false, c, if_true]
   refine qG9 a (fun x => decide (x < n)) (fun out i => (a, (n, (out, (((i : Nat) : Int), ()))))) 10 k ([] ++ a.filter (fun x => decide (n < x)) ++ [n]) (by simp; omega) (by omega) ?_ ?_
   ·intro again out i hi ho
    have g1 : (0 : Int) ≤ (i : Int) ∧ (i : Int) < (a.length : Int) := by omega
    have w2 : wi64 ((i : Int) + 1) = ((i + 1 : Nat) : Int) := (qAH _ (by omega)).trans (by omega)
    have c : ∀ v : Int, out.length + ([v] : List Int).length ≤ capMax := fun v => cap_add _ _ (by simp; omega)
    simp only [g1, w2, c, rd_i a i hi, and_self, decide_true, if_true]
    by_cases q : a[i] < n <;> simp [q]
   ·intro again
    simp only [Int.lt_irrefl, decide_false, Bool.false_eq_true, if_false]
    have eL : ([] ++ a.filter (fun x => decide (n < x)) ++ [n]) ++ a.filter (fun x => decide (x < n)) = qCn a n := rfl
    rw [eL]
    have hL : (qCn a n).length ≤ 13 := by have := listL_len a n; omega
    generalize qCn a n = L at hL
    refine qG9 L (fun x => decide (wi64 (Ty.rd (t := (.int .i64)) L 0 - 6) < x)) (fun out i => (L, (out, (((i : Nat) : Int), ())))) 0 k [] (by simp) (by omega) ?_ ?_
    ·intro again out i hi ho
     have g0 : (0 : Int) ≤ 0 ∧ (0 : Int) < (L.length : Int) := by omega
     have g1 : (0 : Int) ≤ (i : Int) ∧ (i : Int) < (L.length : Int) := by omega
     have w2 : wi64 ((i : Int) + 1) = ((i + 1 : Nat) : Int) := (qAH _ (by omega)).trans (by omega)
     have c : ∀ v : Int, out.length + ([v] : List Int).length ≤ capMax := fun v => cap_add _ _ (by simp; omega)
     simp only [g0, g1, w2, c, rd_i L i hi, and_self, decide_true, if_true]
     by_cases q : wi64 (Ty.rd (t := (.int .i64)) L 0 - 6) < L[i] <;> simp [q]
    ·intro again
     simp
/-- A number goes into its place; rp: the sorted numbers ahead of it, turned round. -/
def insR : List Int → Int → List Int → List Int
 | [], v, q => v :: q
 | u :: r, v, q => if v < u then insR r v (u :: q) else r.reverse ++ (u :: v :: q)
theorem insR_append (rp : List Int) : ∀ v p q, insR rp v (p ++ q) = insR rp v p ++ q := by
 induction rp with
 | nil => intro v p q; rfl
 | cons u r ih =>
  intro v p q
  unfold insR
  split
  ·exact ih v (u :: p) q
  ·simp
theorem insR_perm (rp : List Int) : ∀ v q, (insR rp v q).Perm (rp ++ v :: q) := by
 induction rp with
 | nil => intro v q; exact List.Perm.refl _
 | cons u r ih =>
  intro v q
  unfold insR
  split
  ·exact (ih v (u :: q)).trans (((List.Perm.swap u v q).append_left r).trans List.perm_middle)
  ·exact List.perm_middle.trans (((List.reverse_perm r).append_right _).cons u)
theorem insR_sorted (rp : List Int) : ∀ v q, (rp.reverse ++ q).Pairwise (· ≤ ·) → (∀ x ∈ q, v ≤ x) → (insR rp v q).Pairwise (· ≤ ·) := by
 induction rp with
 | nil => intro v q h h2; exact List.pairwise_cons.2 ⟨h2, h⟩
 | cons u r ih =>
  intro v q h h2
  have h : (r.reverse ++ (u :: q)).Pairwise (· ≤ ·) := by simpa using h
  unfold insR
  split
  ·rename_i hlt
   refine ih v (u :: q) h ?_
   intro x hx
   rcases List.mem_cons.1 hx with rfl | hx
   ·omega
   ·exact h2 x hx
  ·rename_i hn
   rw [List.pairwise_append] at h ⊢
   obtain ⟨a1, a2, a3⟩ := h
   have a4 := List.pairwise_cons.1 a2
   refine ⟨a1, List.pairwise_cons.2 ⟨?_, List.pairwise_cons.2 ⟨h2, a4.2⟩⟩, ?_⟩
   ·intro y hy
    rcases List.mem_cons.1 hy with rfl | hy
    ·omega
    ·exact a4.1 y hy
   ·intro x hx y hy
    rcases List.mem_cons.1 hy with rfl | hy
    ·exact a3 x hx y (by simp)
    ·rcases List.mem_cons.1 hy with rfl | hy
     ·have := a3 x hx u (by simp); omega
     ·exact a3 x hx y (List.mem_cons_of_mem _ hy)
def qDw : List Int → List Int → List Int
 | a, [] => a
 | a, v :: r => qDw (insR a.reverse v []) r
theorem insAll_perm (r : List Int) : ∀ a, (qDw a r).Perm (a ++ r) := by
 induction r with
 | nil => intro a; simp [qDw]
 | cons v r ih =>
  intro a
  unfold qDw
  refine (ih _).trans (((insR_perm a.reverse v []).append_right r).trans ?_)
  have := ((List.reverse_perm a).append_right [v]).append_right r
  simpa using this
theorem insAll_sorted (r : List Int) : ∀ a, a.Pairwise (· ≤ ·) → (qDw a r).Pairwise (· ≤ ·) := by
 induction r with
 | nil => intro a h; exact h
 | cons v r ih =>
  intro a h
  unfold qDw
  exact ih _ (insR_sorted _ _ _ (by simpa using h) (by simp))
theorem ins_loop {R : Type} {step : (List Int × Int × Int × Int × Int × Unit → Option R) → List Int × Int × Int × Int × Int × Unit → Option R} (b i : Int) (cont : List Int → Option R)
  (hs : ∀ again (r q : List Int) (u v : Int), r.length + q.length ≤ 1048576 → step again (r.reverse ++ u :: v :: q, (0, (b, (i, (((r.length + 1 : Nat) : Int), ()))))) = if v < u then again (r.reverse ++ v :: u :: q, (0, (b, (i, ((r.length : Int), ()))))) else cont (r.reverse ++ u :: v :: q))
  (he : ∀ again l, step again (l, (0, (b, (i, (0, ()))))) = cont l) :
  ∀ (rp : List Int) (v : Int) (q : List Int) (k : Nat), rp.length + q.length ≤ 1048576 → rp.length < k → qAG step k (rp.reverse ++ v :: q, (0, (b, (i, ((rp.length : Int), ()))))) = cont (insR rp v q) := by
 intro rp
 induction rp with
 | nil =>
  intro v q k _ hk
  obtain ⟨k, rfl⟩ : ∃ k', k = k' + 1 := ⟨k - 1, by simp at hk; omega⟩
  exact he _ _
 | cons u r ih =>
  intro v q k hb hk
  obtain ⟨k, rfl⟩ : ∃ k', k = k' + 1 := ⟨k - 1, by simp at hk; omega⟩
  simp only [List.length_cons] at hb hk
  have e : (u :: r).reverse ++ v :: q = r.reverse ++ u :: v :: q := by simp
  show step _ ((u :: r).reverse ++ v :: q, (0, (b, (i, (((u :: r).length : Int), ()))))) = _
  rw [e]
  refine (hs _ r q u v (by omega)).trans ?_
  show _ = cont (if v < u then insR r v (u :: q) else r.reverse ++ (u :: v :: q))
  split
  ·exact ih v (u :: q) k (by simp only [List.length_cons]; omega) (by omega)
  ·rfl
theorem Less_is (k : Nat) (a b : Int) : qB4 k (a, (b, ())) = some (decide (a < b), ((), ((), ()))) := by
 unfold qB4 qBn
 simp
theorem qGY (p q : List Int) (u : Int) (i : Int) (hi : i = (p.length : Nat)) : Ty.rd (t := (.int .i64)) (p ++ u :: q) i = u := by
 subst hi
 unfold Ty.rd
 simp [List.getD]
theorem set_at (p q : List Int) (u v : Int) (i : Int) (hi : i = (p.length : Nat)) : List.set (p ++ u :: q) i.toNat v = p ++ v :: q := by
 subst hi
 simp
theorem insSort_is (k : Nat) (v0 : Int) (r0 : List Int) (hk : 1048576 < k) (hl : r0.length ≤ 1048575) :
  qAb k (v0 :: r0, (0, (((v0 :: r0).length : Int), ()))) = some ((), (qDw [v0] r0, ((), ((), ())))) := by
 unfold qAb
 generalize hn : ((v0 :: r0).length : Int) = n
 have key : ∀ {step : (List Int × Int × Int × Int × Unit → Option (Unit × List Int × Unit × Unit × Unit)) → List Int × Int × Int × Int × Unit → Option (Unit × List Int × Unit × Unit × Unit)} (_ : ∀ again (acc r : List Int) (v : Int), acc.length + r.length ≤ 1048576 → (acc.length : Int) < n → step again (acc ++ v :: r, (0, (n, ((acc.length : Int), ())))) = again (insR acc.reverse v r, (0, (n, (((acc.length + 1 : Nat) : Int), ()))))) (_ : ∀ again l i, ¬ (i : Int) < n → step again (l, (0, (n, (i, ())))) = some ((), (l, ((), ((), ()))))),
   ∀ (r acc : List Int) (k : Nat), ((acc.length + r.length : Nat) : Int) = n → acc.length + r.length ≤ 1048576 → r.length < k → qAG step k (acc ++ r, (0, (n, ((acc.length : Int), ())))) = some ((), (qDw acc r, ((), ((), ())))) := by
  intro step hs he r
  induction r with
  | nil =>
   intro acc k h1 h2 h3
   obtain ⟨k, rfl⟩ : ∃ k', k = k' + 1 := ⟨k - 1, by omega⟩
   show step _ _ = _
   rw [he _ _ _ (by simp at h1; omega)]
   simp [qDw]
  | cons v r ih =>
   intro acc k h1 h2 h3
   obtain ⟨k, rfl⟩ : ∃ k', k = k' + 1 := ⟨k - 1, by omega⟩
   simp only [List.length_cons] at h1 h2 h3
   show step _ _ = _
   rw [hs _ acc r v (by omega) (by omega)]
   have e : insR acc.reverse v r = insR acc.reverse v [] ++ r := by rw [← insR_append]; rfl
   have el : (insR acc.reverse v []).length = acc.length + 1 := by rw [(insR_perm _ _ _).length_eq]; simp
   have := ih (insR acc.reverse v []) k (by rw [el]; omega) (by rw [el]; omega) (by omega)
   rw [el] at this
   rw [e]
   exact this
 have e0 : wi64 ((0 : Int) + 1) = (([v0] : List Int).length : Int) := (qAH _ (by omega)).trans (by simp)
 simp only [e0]
 refine key ?_ ?_ r0 [v0] k (by rw [← hn]; simp; omega) (by simp; omega) (by omega)
 ·intro again acc r v hb hlt
  have hle : n ≤ 1048576 := by rw [← hn]; simp; omega
  simp only [hlt, decide_true, if_true]
  obtain ⟨rp, rfl⟩ : ∃ rp : List Int, acc = rp.reverse := ⟨acc.reverse, by simp⟩
  simp only [List.length_reverse, List.reverse_reverse] at hb ⊢
  refine ins_loop n (rp.length : Int) (fun l => again (l, (0, (n, (((rp.length + 1 : Nat) : Int), ()))))) ?_ ?_ rp v r k hb (by omega)
  ·intro again2 r q u v hb
   have hlen : (r.reverse ++ u :: v :: q).length = r.length + q.length + 2 := by simp; omega
   have g1 : (0 : Int) < ((r.length + 1 : Nat) : Int) := by omega
   have g2 : (0 : Int) ≤ ((r.length + 1 : Nat) : Int) ∧ ((r.length + 1 : Nat) : Int) < ((r.reverse ++ u :: v :: q).length : Int) := by rw [hlen]; omega
   have w1 : wi64 (((r.length + 1 : Nat) : Int) - 1) = (r.length : Int) := (qAH _ (by omega)).trans (by omega)
   have g3 : (0 : Int) ≤ (r.length : Int) ∧ (r.length : Int) < ((r.reverse ++ u :: v :: q).length : Int) := by rw [hlen]; omega
   have r1 : Ty.rd (t := (.int .i64)) (r.reverse ++ u :: v :: q) ((r.length + 1 : Nat) : Int) = v := by
    have := qGY (r.reverse ++ [u]) q v ((r.length + 1 : Nat) : Int) (by simp)
    simpa using this
   have r2 : Ty.rd (t := (.int .i64)) (r.reverse ++ u :: v :: q) (r.length : Int) = u := qGY r.reverse (v :: q) u _ (by simp)
   have s1 : List.set (r.reverse ++ u :: v :: q) (((r.length + 1 : Nat) : Int)).toNat u = r.reverse ++ u :: u :: q := by
    simp
   have s2 : List.set (r.reverse ++ u :: u :: q) ((r.length : Int)).toNat v = r.reverse ++ v :: u :: q := set_at r.reverse (u :: q) u v _ (by simp)
   have g4 : (0 : Int) ≤ (r.length : Int) ∧ (r.length : Int) < ((r.reverse ++ u :: u :: q).length : Int) := by simp; omega
   have w2 : wi64 ((rp.length : Int) + 1) = ((rp.length + 1 : Nat) : Int) := (qAH _ (by omega)).trans (by omega)
   simp only [g1, g2, g3, g4, w1, w2, r1, r2, s1, s2, Less_is, decide_true, and_self, if_true, Option.bind_some]
   by_cases c : v < u <;> simp [c]
  ·intro again2 l
   have w2 : wi64 ((rp.length : Int) + 1) = ((rp.length + 1 : Nat) : Int) := (qAH _ (by omega)).trans (by omega)
   simp [w2]
 ·intro again l i hi
  simp [hi]
set_option maxRecDepth 100000 in
theorem Len_some (k : Nat) (n : Nat) (hn : n ≤ 12) : ∃ r : Int, qEW k (wu64 (n : Int), ()) = some (r, ((), ())) := by
 have e : wu64 (n : Int) = (n : Int) := by
  show IntKind.u64.wrap _ = _
  simp [IntKind.wrap, IntKind.bits, IntKind.signed]
  omega
 rw [e]
 have h1 : ¬ (4294967296 : Int) ≤ (n : Int) := by omega
 have h2 : ¬ (65536 : Int) ≤ (n : Int) := by omega
 have h3 : ¬ (256 : Int) ≤ (n : Int) := by omega
 have h4 : wu8 (n : Int) = (n : Int) := by
  show IntKind.u8.wrap _ = _
  rw [w8_mod]
  omega
 unfold qEW qDs jn
 simp only [h1, h2, h3, h4, decide_false, Bool.false_eq_true, if_false]
 split
 ·exact ⟨_, rfl⟩
 ·rename_i h
  exact absurd ⟨by omega, Int.lt_of_lt_of_le (show (n : Int) < 13 by omega) (by decide +kernel)⟩ h
theorem Sort_is (k : Nat) (v0 : Int) (r0 : List Int) (hk : 1048576 < k) (hl : r0.length ≤ 11) : qAz k (v0 :: r0, ()) = some ((), (qDw [v0] r0, ())) := by
 obtain ⟨b, hb⟩ := Len_some k (v0 :: r0).length (by simp; omega)
 obtain ⟨k', rfl⟩ : ∃ k', k = k' + 1 := ⟨k - 1, by omega⟩
 have e := insSort_is (k' + 1) v0 r0 hk (by omega)
 unfold qAz
 simp only [hb, Option.bind_some]
 unfold qAr qAG
 have w : wi64 (((v0 :: r0).length : Int) - 0) ≤ 12 := by
  show IntKind.i64.wrap _ ≤ 12
  rw [qAH _ (by simp only [List.length_cons]; omega)]
  simp only [List.length_cons]
  omega
 simp only [w, decide_true, if_true, e, Option.bind_some]
theorem rev_loop {R : Type} {step : (List Int × Int × Int × Unit → Option R) → List Int × Int × Int × Unit → Option R} (fin : List Int → R)
  (hs : ∀ again (p m q : List Int) (a b : Int), p.length + m.length + q.length ≤ 1048576 → step again (p ++ a :: (m ++ b :: q), ((p.length : Int), (((p.length + m.length + 1 : Nat) : Int), ()))) = again (p ++ b :: (m ++ a :: q), (((p.length + 1 : Nat) : Int), (((p.length + m.length : Nat) : Int), ()))))
  (he : ∀ again l (i j : Int), ¬ i < j → step again (l, (i, (j, ()))) = some (fin l)) :
  ∀ (d : Nat) (m p q : List Int) (k : Nat), m.length = d → p.length + m.length + q.length ≤ 1048576 → m.length < k → qAG step k (p ++ (m ++ q), ((p.length : Int), ((p.length : Int) + (m.length : Int) - 1, ()))) = some (fin (p ++ (m.reverse ++ q))) := by
 intro d
 induction d using Nat.strongRecOn with
 | ind d ih =>
  intro m p q k hd hb hk
  obtain ⟨k, rfl⟩ : ∃ k', k = k' + 1 := ⟨k - 1, by omega⟩
  show step _ _ = _
  match m, hd, hb, hk with
  | [], _, _, _ => rw [he _ _ _ _ (by simp only [List.length_nil]; omega)]; rfl
  | [a], _, _, _ => rw [he _ _ _ _ (by simp only [List.length_cons, List.length_nil]; omega)]; rfl
  | a :: b' :: m', hd, hb, hk =>
   have hne : b' :: m' ≠ [] := by simp
   obtain ⟨m'', b, e⟩ : ∃ m'' b, b' :: m' = m'' ++ [b] := ⟨(b' :: m').dropLast, (b' :: m').getLast hne, (List.dropLast_concat_getLast hne).symm⟩
   rw [e] at hd hb hk ⊢
   simp only [List.length_cons, List.length_append, List.length_nil] at hd hb hk
   have e1 : p ++ (a :: (m'' ++ [b]) ++ q) = p ++ a :: (m'' ++ b :: q) := by simp
   have e2 : (p.length : Int) + ((a :: (m'' ++ [b])).length : Int) - 1 = ((p.length + m''.length + 1 : Nat) : Int) := by simp; omega
   rw [e1, e2, hs _ p m'' q a b (by omega)]
   have := ih m''.length (by omega) m'' (p ++ [b]) (a :: q) k rfl (by simp; omega) (by omega)
   have e3 : ((p ++ [b]).length : Int) = ((p.length + 1 : Nat) : Int) := by simp
   have e4 : (((p.length + 1 : Nat) : Int)) + (m''.length : Int) - 1 = ((p.length + m''.length : Nat) : Int) := by omega
   rw [e3, e4] at this
   simpa using this
theorem rev_loop0 {R : Type} {step : (List Int × Int × Int × Unit → Option R) → List Int × Int × Int × Unit → Option R} (fin : List Int → R)
  (hs : ∀ again (p m q : List Int) (a b : Int), p.length + m.length + q.length ≤ 1048576 → step again (p ++ a :: (m ++ b :: q), ((p.length : Int), (((p.length + m.length + 1 : Nat) : Int), ()))) = again (p ++ b :: (m ++ a :: q), (((p.length + 1 : Nat) : Int), (((p.length + m.length : Nat) : Int), ()))))
  (he : ∀ again l (i j : Int), ¬ i < j → step again (l, (i, (j, ()))) = some (fin l)) (l : List Int) (k : Nat) (hl : l.length ≤ 1048576) (hk : l.length < k) : qAG step k (l, (0, ((l.length : Int) - 1, ()))) = some (fin l.reverse) := by
 have := rev_loop fin hs he l.length l [] [] k rfl (by simpa using hl) hk
 simp only [List.nil_append, List.append_nil, List.length_nil] at this
 have e : ((0 : Nat) : Int) + (l.length : Int) - 1 = (l.length : Int) - 1 := by omega
 rw [e] at this
 exact this
theorem Reverse_is (k : Nat) (l : List Int) (hk : 1048576 < k) (hl : l.length ≤ 1048576) : qAj k (l, ()) = some ((), (l.reverse, ())) := by
 unfold qAj
 have w : wi64 ((l.length : Int) - 1) = (l.length : Int) - 1 := qAH _ (by omega)
 simp only [w]
 refine rev_loop0 (fun l => ((), (l, ()))) ?_ ?_ l k hl (by omega)
 ·intro again p m q a b hb
  have hlen : (p ++ a :: (m ++ b :: q)).length = p.length + m.length + q.length + 2 := by simp; omega
  have g1 : (p.length : Int) < ((p.length + m.length + 1 : Nat) : Int) := by omega
  have g2 : (0 : Int) ≤ ((p.length + m.length + 1 : Nat) : Int) ∧ ((p.length + m.length + 1 : Nat) : Int) < ((p ++ a :: (m ++ b :: q)).length : Int) := by rw [hlen]; omega
  have g3 : (0 : Int) ≤ (p.length : Int) ∧ (p.length : Int) < ((p ++ a :: (m ++ b :: q)).length : Int) := by rw [hlen]; omega
  have r1 : Ty.rd (t := (.int .i64)) (p ++ a :: (m ++ b :: q)) ((p.length + m.length + 1 : Nat) : Int) = b := by
   have := qGY (p ++ a :: m) q b ((p.length + m.length + 1 : Nat) : Int) (by simp; omega)
   simpa using this
  have r2 : Ty.rd (t := (.int .i64)) (p ++ a :: (m ++ b :: q)) (p.length : Int) = a := qGY p _ a _ rfl
  have s1 : List.set (p ++ a :: (m ++ b :: q)) ((p.length : Int)).toNat b = p ++ b :: (m ++ b :: q) := set_at p _ a b _ rfl
  have s2 : List.set (p ++ b :: (m ++ b :: q)) (((p.length + m.length + 1 : Nat) : Int)).toNat a = p ++ b :: (m ++ a :: q) := by
   have := set_at (p ++ b :: m) q b a ((p.length + m.length + 1 : Nat) : Int) (by simp; omega)
   simpa using this
  have g4 : (0 : Int) ≤ ((p.length + m.length + 1 : Nat) : Int) ∧ ((p.length + m.length + 1 : Nat) : Int) < ((p ++ b :: (m ++ b :: q)).length : Int) := by simp; omega
  have w1 : wi64 ((p.length : Int) + 1) = ((p.length + 1 : Nat) : Int) := (qAH _ (by omega)).trans (by omega)
  have w2 : wi64 (((p.length + m.length + 1 : Nat) : Int) - 1) = ((p.length + m.length : Nat) : Int) := (qAH _ (by omega)).trans (by omega)
  simp only [g1, g2, g3, g4, r1, r2, s1, s2, w1, w2, decide_true, and_self, if_true]
 ·intro again l i j hij
  simp [hij]
theorem listL_perm {a : List Int} {n : Int} (hn : n ∉ a) : (qCn a n).Perm (a ++ [n]) := by
 unfold qCn
 have e : a.filter (fun x => decide (x < n)) = a.filter (fun x => !decide (n < x)) := by
  refine List.filter_congr fun x hx => ?_
  have : x ≠ n := fun h => hn (h ▸ hx)
  by_cases h1 : x < n
  ·have h2 : ¬ n < x := by omega
   simp [h1, h2]
  ·have h2 : n < x := by omega
   simp [h1, h2]
 rw [e]
 have h := List.filter_append_perm (fun x => decide (n < x)) a
 refine List.Perm.trans ?_ (h.append_right [n])
 rw [List.append_assoc, List.append_assoc]
 exact (List.perm_append_comm).append_left _
theorem listL_sorted {a : List Int} {n : Int} (h : ok7 a) : (qCn a n).Pairwise (fun x y => y ≤ x) := by
 have hp : a.Pairwise (fun x y => y ≤ x) := h.1.imp fun h => Int.le_of_lt h
 unfold qCn
 rw [List.pairwise_append, List.pairwise_append]
 refine ⟨⟨hp.filter _, by simp, ?_⟩, hp.filter _, ?_⟩
 ·intro x hx y hy
  have := (List.mem_filter.1 hx).2
  simp at this hy
  omega
 ·intro x hx y hy
  have h2 := (List.mem_filter.1 hy).2
  simp only [decide_eq_true_eq] at h2
  rcases List.mem_append.1 hx with hx | hx
  ·have := (List.mem_filter.1 hx).2
   simp only [decide_eq_true_eq] at this
   omega
  ·simp at hx
   omega
theorem sorted_is {a : List Int} {n v0 : Int} {r0 : List Int} (h : ok7 a) (hn : n ∉ a) (e : a ++ [n] = v0 :: r0) : (qDw [v0] r0).reverse = qCn a n := by
 have p1 : (qDw [v0] r0).reverse.Perm (qCn a n) := by
  refine (List.reverse_perm _).trans (((insAll_perm r0 [v0]).trans ?_).trans (listL_perm hn).symm)
  rw [e]
  exact List.Perm.refl _
 have s1 : (qDw [v0] r0).reverse.Pairwise (fun x y => y ≤ x) := by
  rw [List.pairwise_reverse]
  exact insAll_sorted r0 [v0] (by simp)
 exact p1.eq_of_pairwise (fun x y _ _ h1 h2 => Int.le_antisymm h2 h1) s1 (listL_sorted h)
theorem IndexFunc_is (k : Nat) (a : List Int) (f : Int) (hk : 1048576 < k) (hl : a.length ≤ 1048576) : qAU k (a, (((f, ()), ()), ())) =
  some (match (List.range a.length).find? (fun i => decide (Ty.rd (t := (.int .i64)) a ((i : Nat) : Int) ≤ wi64 (f - 6))) with | some i => (((i : Nat) : Int), ((), (((f, ()), ()), ()))) | none => (-1, ((), (((f, ()), ()), ())))) := by
 unfold qAU
 refine qE8 (fun i => (a, (((f, ()), ()), ((a.length : Int), (((i : Nat) : Int), ()))))) a.length (fun i => decide (Ty.rd (t := (.int .i64)) a ((i : Nat) : Int) ≤ wi64 (f - 6))) (fun i => (((i : Nat) : Int), ((), (((f, ()), ()), ())))) (-1, ((), (((f, ()), ()), ()))) ?_ ?_ k (by omega)
 ·intro again i hi
  have g1 : (0 : Int) ≤ (i : Int) ∧ (i : Int) < (a.length : Int) := by omega
  have w2 : wi64 ((i : Int) + 1) = ((i + 1 : Nat) : Int) := (qAH _ (by omega)).trans (by omega)
  simp only [g1, w2, qBr, and_self, decide_true, if_true, Option.bind_some]
 ·intro again
  simp
theorem Delete_is (k : Nat) (L : List Int) (f : Int) (hk : 1048576 < k) (hl : L.length ≤ 1048576) : qAS k (L, (((f, ()), ()), ())) =
  some (L.filter (fun x => decide (wi64 (f - 6) < x)), ((), (((f, ()), ()), ()))) := by
 have hD : ∀ v : Int, decide (wi64 (f - 6) < v) = !decide (v ≤ wi64 (f - 6)) := fun v => by
  by_cases h : v ≤ wi64 (f - 6)
  ·have : ¬ wi64 (f - 6) < v := by omega
   simp [h, this]
  ·have : wi64 (f - 6) < v := by omega
   simp [h, this]
 have e := IndexFunc_is k L f hk hl
 unfold qAS
 simp only [hD, e, Option.bind_some]
 cases hq : (List.range L.length).find? (fun i => decide (Ty.rd (t := (.int .i64)) L ((i : Nat) : Int) ≤ wi64 (f - 6))) with
 | none =>
  rw [List.find?_eq_none] at hq
  have : L.filter (fun x => !decide (x ≤ wi64 (f - 6))) = L := by
   rw [List.filter_eq_self]
   intro x hx
   obtain ⟨i, hi, rfl⟩ := List.mem_iff_getElem.1 hx
   have := hq i (by simpa using hi)
   rw [rd_i L i hi] at this
   simpa using this
  rw [this]
  simp
 | some i =>
  have hi : i < L.length := by
   have := List.mem_of_find?_eq_some hq
   simpa using this
  have h1 : decide (Ty.rd (t := (.int .i64)) L ((i : Nat) : Int) ≤ wi64 (f - 6)) = true := (find_at hi (by have := List.find?_some hq; simpa using this)).1 hq |> fun _ => by have := List.find?_some hq; simpa using this
  have h2 := (find_at (p := fun i => decide (Ty.rd (t := (.int .i64)) L ((i : Nat) : Int) ≤ wi64 (f - 6))) hi h1).1 hq
  have hne : ¬ ((i : Nat) : Int) = -1 := by omega
  have w2 : wi64 ((i : Int) + 1) = ((i + 1 : Nat) : Int) := (qAH _ (by omega)).trans (by omega)
  have hsplit : L = L.take i ++ L[i] :: ([] ++ L.drop (i + 1)) := by
   rw [List.nil_append, ← List.drop_eq_getElem_cons hi, List.take_append_drop]
  have hfil : L.filter (fun x => !decide (x ≤ wi64 (f - 6))) = L.take i ++ (L.drop (i + 1)).filter (fun x => !decide (x ≤ wi64 (f - 6))) := by
   conv => lhs; rw [hsplit]
   rw [List.filter_append, List.nil_append, List.filter_cons_of_neg (by rw [rd_i L i hi] at h1; simpa using h1)]
   congr 1
   rw [List.filter_eq_self]
   intro x hx
   obtain ⟨j, hj, rfl⟩ := List.mem_iff_getElem.1 hx
   have hj' : j < i := by simp at hj; omega
   have := h2 j hj'
   rw [rd_i L j (by omega)] at this
   rw [List.getElem_take]
   simpa using this
  have tl : (L.take i).length = i := by simp; omega
  have dl : (L.drop (i + 1)).length = L.length - (i + 1) := by simp
  rw [hfil]
  simp only [hne, w2, decide_false, Bool.false_eq_true, if_false]
  generalize hp : L.take i = p at *
  generalize hr : L.drop (i + 1) = r at *
  generalize L[i] = g at *
  rw [hsplit]
  subst tl
  refine Exists.elim (del_loop (R := List Int × Unit × ((Int × Unit) × Unit) × Unit) (C := (Int × Unit) × Unit) (fun v => decide (v ≤ wi64 (f - 6))) ((f, ()), ())
   (fun z i => if 0 ≤ i ∧ i ≤ (List.length z : Int) then (if 0 ≤ i ∧ i ≤ (List.length (List.take (Int.toNat i) z ++ (List.replicate (Int.toNat ((List.length z : Int) - i)) (0 : Int) ++ List.drop (Int.toNat (List.length z : Int)) z)) : Int) then
    some ((List.take (Int.toNat i) (List.take (Int.toNat i) z ++ (List.replicate (Int.toNat ((List.length z : Int) - i)) (0 : Int) ++ List.drop (Int.toNat (List.length z : Int)) z))), ((), (((f, ()), ()), ()))) else none) else none)
   (step := fun rec0 y0 => (if (decide (y0.2.2.2.1 < (List.length y0.1 : Int))) = true then
(if 0 ≤ y0.2.2.2.1 ∧ y0.2.2.2.1 < (List.length y0.1 : Int) then
((qBr k ((Ty.rd (t := (.int .i64)) y0.1 y0.2.2.2.1), ((y0.2.1.1.1, ()), ()))).bind fun p2 =>
(if (!p2.1) = true then
(if 0 ≤ y0.2.2.1 ∧ y0.2.2.1 < (List.length y0.1 : Int) then
(rec0 ((List.set y0.1 (Int.toNat y0.2.2.1) (Ty.rd (t := (.int .i64)) y0.1 y0.2.2.2.1)), (((p2.2.2.1.1, ()), ()), ((wi64 (y0.2.2.1 + (1 : Int))), ((wi64 (y0.2.2.2.1 + (1 : Int))), ())))))
else none)
else
(rec0 (y0.1, (((p2.2.2.1.1, ()), ()), (y0.2.2.1, ((wi64 (y0.2.2.2.1 + (1 : Int))), ())))))))
else none)
else
((fun (z1 : List (Int) × ((Int × Unit) × Unit) × Int × Unit) =>
(if 0 ≤ z1.2.2.1 ∧ z1.2.2.1 ≤ (List.length z1.1 : Int) then
(if 0 ≤ z1.2.2.1 ∧ z1.2.2.1 ≤ (List.length (List.take (Int.toNat z1.2.2.1) z1.1 ++ (List.replicate (Int.toNat ((List.length z1.1 : Int) - z1.2.2.1)) (0 : Int) ++ List.drop (Int.toNat (List.length z1.1 : Int)) z1.1)) : Int) then
some ((List.take (Int.toNat z1.2.2.1) (List.take (Int.toNat z1.2.2.1) z1.1 ++ (List.replicate (Int.toNat ((List.length z1.1 : Int) - z1.2.2.1)) (0 : Int) ++ List.drop (Int.toNat (List.length z1.1 : Int)) z1.1))), ((), (((z1.2.1.1.1, ()), ()), ())))
else none)
else none)) (y0.1, (((y0.2.1.1.1, ()), ()), (y0.2.2.1, ()))))))
   ?_ ?_ r p [] g k (by simp; omega) (by omega)) ?_
  rotate_left
  rotate_left
  ·intro t ht
   simp only [List.length_nil, Nat.add_zero] at ht
   refine ht.trans ?_
   generalize p ++ r.filter (fun v => !decide (v ≤ wi64 (f - 6))) = q
   have g1 : (0 : Int) ≤ (q.length : Int) ∧ (q.length : Int) ≤ ((q ++ t).length : Int) := by simp only [List.length_append]; omega
   have g2 : (0 : Int) ≤ (q.length : Int) ∧ (q.length : Int) ≤ ((List.take (Int.toNat (q.length : Int)) (q ++ t) ++ (List.replicate (Int.toNat (((q ++ t).length : Int) - (q.length : Int))) (0 : Int) ++ List.drop (Int.toNat ((q ++ t).length : Int)) (q ++ t))).length : Int) := by simp only [List.length_append, List.length_take, List.length_replicate, List.length_drop]; omega
   simp only [g1, g2, and_self, if_true]
   simp
  ·intro again p gs r g v hb
   have hlen : (p ++ g :: (gs ++ v :: r)).length = p.length + gs.length + r.length + 2 := by simp; omega
   have g1 : ((p.length + gs.length + 1 : Nat) : Int) < ((p ++ g :: (gs ++ v :: r)).length : Int) := by rw [hlen]; omega
   have g2 : (0 : Int) ≤ ((p.length + gs.length + 1 : Nat) : Int) ∧ ((p.length + gs.length + 1 : Nat) : Int) < ((p ++ g :: (gs ++ v :: r)).length : Int) := by rw [hlen]; omega
   have g3 : (0 : Int) ≤ (p.length : Int) ∧ (p.length : Int) < ((p ++ g :: (gs ++ v :: r)).length : Int) := by rw [hlen]; omega
   have r1 : Ty.rd (t := (.int .i64)) (p ++ g :: (gs ++ v :: r)) ((p.length + gs.length + 1 : Nat) : Int) = v := by
    have := qGY (p ++ g :: gs) r v ((p.length + gs.length + 1 : Nat) : Int) (by simp; omega)
    simpa using this
   have s1 : List.set (p ++ g :: (gs ++ v :: r)) ((p.length : Int)).toNat v = p ++ v :: (gs ++ v :: r) := set_at p _ g v _ rfl
   have w1 : wi64 ((p.length : Int) + 1) = ((p.length + 1 : Nat) : Int) := (qAH _ (by omega)).trans (by omega)
   have w2 : wi64 (((p.length + gs.length + 1 : Nat) : Int) + 1) = ((p.length + gs.length + 2 : Nat) : Int) := (qAH _ (by omega)).trans (by omega)
   simp only [g1, g2, g3, r1, s1, w1, w2, qBr, decide_true, and_self, if_true, Option.bind_some]
   by_cases q : v ≤ wi64 (f - 6) <;> simp [q]
  ·intro again l i j hj
   have : ¬ j < (l.length : Int) := by omega
   simp only [this, decide_false, Bool.false_eq_true, if_false]
theorem qID (k : Nat) (a : List Int) (n : Int) (hk : 1048576 < k) (hl : a.length ≤ 1048576) : qDF k (a, (n, ())) = some (qE4 a n, ((), ((), ()))) := by
 have c0 : a.length ≤ capMax := by
  have : capMax = 274877906944 := rfl
  omega
 have c : ([] : List Int).length + a.length ≤ capMax := by simpa using c0
 unfold qDF qE4 qCH
 simp only [qF5 k a n hk hl, c, Option.bind_some, if_true, List.nil_append]
 cases hf : qC1 a n with
 | false => simp
 | true =>
  obtain ⟨h7, hn, _⟩ := fresh_ok hf
  have hl6 : a.length ≤ 6 := h7.2.2
  have c1 : a.length + ([n] : List Int).length ≤ capMax := cap_add _ _ (by simp; omega)
  simp only [c1, Bool.not_true, Bool.false_eq_true, if_false, if_true]
  obtain ⟨v0, r0, e⟩ : ∃ v0 r0, a ++ [n] = v0 :: r0 := by
   cases a with
   | nil => exact ⟨n, [], rfl⟩
   | cons v a => exact ⟨v, a ++ [n], rfl⟩
  have el : r0.length = a.length := by have := congrArg List.length e; simp at this; omega
  have hS := sorted_is h7 hn e
  have hLl := listL_len a n
  have e1 := Sort_is k v0 r0 hk (by omega)
  have e2 := Reverse_is k (qDw [v0] r0) hk (by rw [(insAll_perm r0 [v0]).length_eq]; simp; omega)
  have e3 := Delete_is k (qCn a n) (Ty.rd (t := (.int .i64)) (qCn a n) 0) hk (by omega)
  have g0 : (0 : Int) ≤ 0 ∧ (0 : Int) < ((qCn a n).length : Int) := by simp [qCn]; omega
  rw [hS] at e2
  simp only [e, e1, e2, e3, g0, and_self, if_true, Option.bind_some]
theorem rd_zero (a : List Int) (x : Int) (r : List Int) (h : a = x :: r) : Ty.rd (t := (.int .i64)) a 0 = x := by subst h; rfl
/-- What SeenOk asks. -/
theorem seenB_of {a : List Int} (h1 : a.Pairwise (fun x y => y < x)) (h2 : ∀ x ∈ a, 1 ≤ x ∧ x ≤ 1000000000) (h3 : ∀ x ∈ a, Ty.rd (t := (.int .i64)) a 0 - 6 < x) (h4 : a.length ≤ 6) : seenB a = true := by
 have key : ∀ m i, i + m = a.length → qBx (gSeen a) (fun _ => (decide ((a.length : Int) ≤ 6), ((), ()))) m i () = (decide ((a.length : Int) ≤ 6), ((), ())) := by
  intro m
  induction m with
  | zero => intro i _; rfl
  | succ m ih =>
   intro i hi
   have hl : i < a.length := by omega
   have hg : (gSeen a i () : (Bool × Unit × Unit) ⊕ Unit) = .inr () := by
    unfold gSeen
    have hm : a[i] ∈ a := List.getElem_mem hl
    have q1 := h2 _ hm
    have q2 := h3 _ hm
    have h0 : a[0]'(by omega) ∈ a := List.getElem_mem _
    have e0 : Ty.rd (t := (.int .i64)) a 0 = a[0]'(by omega) := rd_i a 0 (by omega)
    have q3 := h2 _ h0
    have w6 : wi64 (Ty.rd (t := (.int .i64)) a 0 - 6) = Ty.rd (t := (.int .i64)) a 0 - 6 := qAH _ (by rw [e0]; omega)
    rw [if_pos]
    have ei : Ty.rd (t := (.int .i64)) a (i : Int) = a[i] := rd_i a i hl
    simp only [Bool.and_eq_true, Bool.not_eq_true', decide_eq_true_eq, Bool.and_eq_false_iff, decide_eq_false_iff_not, ei, w6]
    refine ⟨⟨q1, ?_⟩, by exact Int.not_le.2 q2⟩
    by_cases hz : 0 < i
    ·refine .inr ?_
     have w1 : wi64 ((i : Int) - 1) = ((i - 1 : Nat) : Int) := (qAH _ (by omega)).trans (by omega)
     have ej : Ty.rd (t := (.int .i64)) a (((i - 1 : Nat)) : Int) = a[i - 1]'(by omega) := rd_i a (i - 1) (by omega)
     rw [w1, ej]
     have := List.pairwise_iff_getElem.1 h1 (i - 1) i (by omega) hl (by omega)
     exact Int.not_le.2 this
    ·exact .inl (by omega)
   unfold qBx
   rw [hg]
   exact ih (i + 1) (by omega)
 unfold seenB
 rw [key a.length 0 (by omega)]
 simp
 omega
/-- A falling row of whole numbers between two is no longer than they are apart. -/
theorem fall_len : ∀ {a : List Int} {lo hi : Int}, a.Pairwise (fun x y => y < x) → (∀ x ∈ a, lo < x ∧ x ≤ hi) → a ≠ [] → (a.length : Int) ≤ hi - lo := by
 intro a
 induction a with
 | nil => intro lo hi _ _ h; exact absurd rfl h
 | cons x r ih =>
  intro lo hi hp hb _
  have hx := hb x (by simp)
  have hp' := List.pairwise_cons.1 hp
  by_cases hr : r = []
  ·subst hr; simp; omega
  ·have := ih (lo := lo) (hi := x - 1) hp'.2 (fun y hy => ⟨(hb y (List.mem_cons_of_mem _ hy)).1, by have := hp'.1 y hy; omega⟩) hr
   simp only [List.length_cons]
   omega
/-- The first of the new list: the greatest. -/
theorem listL_top {a : List Int} {n : Int} (h : ok7 a) (hn : n ∉ a) : ∃ t r, qCn a n = t :: r ∧ (∀ x ∈ a, x ≤ t) ∧ n ≤ t ∧ (t = n ∨ (t ∈ a ∧ n < t)) := by
 have hs := listL_sorted (n := n) h
 have hm : n ∈ qCn a n := by unfold qCn; simp
 have hp := listL_perm hn
 cases hL : qCn a n with
 | nil => rw [hL] at hm; cases hm
 | cons t r =>
  rw [hL] at hs
  have ht := List.pairwise_cons.1 hs
  have all : ∀ x ∈ a ++ [n], x ≤ t := fun x hx => by
   have : x ∈ qCn a n := hp.mem_iff.2 hx
   rw [hL] at this
   rcases List.mem_cons.1 this with rfl | hx'
   ·exact Int.le_refl _
   ·exact ht.1 x hx'
  refine ⟨t, r, rfl, fun x hx => all x (by simp [hx]), all n (by simp), ?_⟩
  have : t ∈ a ++ [n] := hp.mem_iff.1 (by rw [hL]; simp)
  rcases List.mem_append.1 this with h1 | h1
  ·have := all n (by simp)
   by_cases e : t = n
   ·exact .inl e
   ·exact .inr ⟨h1, by omega⟩
  ·exact .inl (by simpa using h1)
theorem listL_strict {a : List Int} {n : Int} (h : ok7 a) : (qCn a n).Pairwise (fun x y => y < x) := by
 unfold qCn
 rw [List.pairwise_append, List.pairwise_append]
 refine ⟨⟨h.1.filter _, by simp, ?_⟩, h.1.filter _, ?_⟩
 ·intro x hx y hy
  have := (List.mem_filter.1 hx).2
  simp at this hy
  omega
 ·intro x hx y hy
  have h2 := (List.mem_filter.1 hy).2
  simp only [decide_eq_true_eq] at h2
  rcases List.mem_append.1 hx with hx | hx
  ·have := (List.mem_filter.1 hx).2
   simp only [decide_eq_true_eq] at this
   omega
  ·simp at hx
   omega
/-- What NoteSeen leaves behind a number that is fresh. -/
theorem note_fresh {a : List Int} {n : Int} (h : qC1 a n = true) : ∃ t r, qE4 a n = t :: r ∧ (t = n ∨ (t ∈ a ∧ n < t)) ∧ (∀ x ∈ a, x ≤ t) ∧ n ≤ t ∧ seenB (qE4 a n) = true ∧ n ∈ qE4 a n ∧ (∀ x ∈ qE4 a n, x ∈ a ∨ x = n) ∧ (∀ x ∈ a, x ∈ qE4 a n ∨ x ≤ t - 6) := by
 obtain ⟨h7, hn, n1, n2⟩ := fresh_ok h
 obtain ⟨t, r, hL, ha, hnt, htop⟩ := listL_top h7 hn
 have hp := listL_perm hn
 have hst := listL_strict (n := n) h7
 have hrange : ∀ x ∈ qCn a n, 1 ≤ x ∧ x ≤ 1000000000 := fun x hx => by
  rcases List.mem_append.1 (hp.mem_iff.1 hx) with hx | hx
  ·exact h7.2.1 x hx
  ·simp at hx; omega
 have htr := hrange t (by rw [hL]; simp)
 have hn0 : Ty.rd (t := (.int .i64)) (qCn a n) 0 = t := rd_zero _ t r hL
 have w6 : wi64 (t - 6) = t - 6 := qAH _ (by omega)
 have hN : qE4 a n = (qCn a n).filter (fun x => decide (t - 6 < x)) := by
  unfold qE4
  rw [if_pos h, hn0, w6]
 have hN2 : qE4 a n = t :: r.filter (fun x => decide (t - 6 < x)) := by
  rw [hN, hL, List.filter_cons_of_pos (by simp; omega)]
 have mem : ∀ x, x ∈ qE4 a n ↔ (x ∈ a ∨ x = n) ∧ t - 6 < x := fun x => by
  rw [hN, List.mem_filter, decide_eq_true_eq, hp.mem_iff]
  simp
 have hnear : t - 6 < n := by
  rcases htop with e | ⟨e, hlt⟩
  ·omega
  ·have hf := h
   unfold qC1 at hf
   simp only [Bool.and_eq_true, Bool.not_eq_true', Bool.or_eq_true, decide_eq_true_eq, decide_eq_false_iff_not] at hf
   have hlen : ¬ (a.length : Int) = 0 := fun e' => by
    have : a = [] := List.eq_nil_of_length_eq_zero (by omega)
    rw [this] at e; cases e
   have q := hf.2.2.2.resolve_left hlen
   have hpos : 0 < a.length := by omega
   have e0 : Ty.rd (t := (.int .i64)) a 0 = a[0] := rd_i a 0 hpos
   have r0 := h7.2.1 a[0] (List.getElem_mem _)
   have w0 : wi64 (Ty.rd (t := (.int .i64)) a 0 - 6) = Ty.rd (t := (.int .i64)) a 0 - 6 := qAH _ (by rw [e0]; omega)
   rw [w0, e0] at q
   have : t ≤ a[0] := by
    obtain ⟨j, hj, rfl⟩ := List.mem_iff_getElem.1 e
    by_cases hz : j = 0
    ·subst hz; exact Int.le_refl _
    ·exact Int.le_of_lt (List.pairwise_iff_getElem.1 h7.1 0 j hpos hj (by omega))
   omega
 refine ⟨t, _, hN2, htop, ha, hnt, ?_, (mem n).2 ⟨.inr rfl, hnear⟩, fun x hx => ((mem x).1 hx).1, fun x hx => ?_⟩
 ·have hst' : (qE4 a n).Pairwise (fun x y => y < x) := by rw [hN]; exact hst.filter _
  refine seenB_of hst' (fun x hx => ?_) (fun x hx => ?_) ?_
  ·rw [hN] at hx
   exact hrange x (List.mem_filter.1 hx).1
  ·rw [rd_zero _ t _ hN2]
   exact ((mem x).1 hx).2
  ·have := fall_len (lo := t - 6) (hi := t) hst' (fun x hx => ⟨((mem x).1 hx).2, by
    rcases ((mem x).1 hx).1 with h1 | h1
    ·exact ha x h1
    ·omega⟩) (by rw [hN2]; simp)
   omega
 ·by_cases q : t - 6 < x
  ·exact .inl ((mem x).2 ⟨.inl hx, q⟩)
  ·exact .inr (by omega)
abbrev SlotA := Int × ByteArray × ByteArray × Int × List Int × Int × Unit
theorem slotsB_iff {x : qBd} : qIA x = true ↔ qH8 (qH9 x) = true ∧ qH8 (qGq x) = true ∧ (x.2.2.2.2.2.2.1 = 0 ∨ x.2.2.2.2.2.2.1 < x.1) := by
 unfold qIA
 simp only [Bool.and_eq_true, Bool.or_eq_true, decide_eq_true_eq, and_assoc]
def setSeen (x : qBd) (l : List Int) : qBd := (x.1, (x.2.1, (x.2.2.1, (x.2.2.2.1, (l, x.2.2.2.2.2)))))
abbrev Pk : Type := Int × Int × Int × Int × Int × List Int × ByteArray × Unit
/-- Is a packet right? -/
def pkB (p : Pk) : Bool := decide (1 ≤ p.1 ∧ p.1 ≤ 3) && (decide (0 ≤ p.2.1 ∧ p.2.1 ≤ 7) && (decide (1 ≤ p.2.2.1 ∧ p.2.2.1 ≤ 99) && (decide (1 ≤ p.2.2.2.1 ∧ p.2.2.2.1 ≤ 99) && (decide (0 ≤ p.2.2.2.2.1 ∧ p.2.2.2.2.1 ≤ 1000000000) && (decide (p.2.2.2.2.2.1.length ≤ 4) && (decide (p.2.2.2.2.2.2.1.size ≤ 120) && (p.2.2.2.2.2.1.all (fun n => decide (1 ≤ n ∧ n ≤ 1000000000)) && ((decide (p.2.2.2.2.2.1 = []) || decide (p.1 ≠ 3)) && ((decide (p.1 ≠ 2) || (decide (p.2.2.2.2.2.2.1 = (⟨#[]⟩ : ByteArray)) && decide (p.2.2.2.2.1 = 0))))))))))))
theorem s_PacketOk_is (k : Nat) (p : Pk) (hk : 1048576 < k) : qEO k (p, ()) = some (pkB p, ((), ())) := by
 obtain ⟨op, key, fr, dst, num, acks, body, u⟩ := p
 unfold qEO pkB
 simp only [qBg, Option.bind_some]
 by_cases c1 : 1 ≤ op ∧ op ≤ 3
 ·by_cases c2 : 0 ≤ key ∧ key ≤ 7
  ·by_cases c3 : 1 ≤ fr ∧ fr ≤ 99
   ·by_cases c4 : 1 ≤ dst ∧ dst ≤ 99
    ·by_cases c5 : 0 ≤ num ∧ num ≤ 1000000000
     ·by_cases c6 : acks.length ≤ 4
      ·have c6' : ¬ (4 : Int) < (acks.length : Int) := by omega
       by_cases c7 : body.size ≤ 120
       ·have c7' : ¬ (120 : Int) < (body.size : Int) := by omega
        simp only [c1, c2, c3, c4, c5, c6, c6', c7, c7', and_self, decide_true, decide_false, Bool.not_true, Bool.false_eq_true, if_true, if_false, Bool.true_and]
        refine (all_loop (fun i => ((op, (key, (fr, (dst, (num, (acks, (body, ()))))))), ((i : Int), ()))) acks.length (fun i => decide (1 ≤ Ty.rd (t := .int .i64) acks (i : Int) ∧ Ty.rd (t := .int .i64) acks (i : Int) ≤ 1000000000) && decide (op ≠ 3)) (some (false, ((), ())))
         (some (decide (op ≠ 2) || (decide (body = (⟨#[]⟩ : ByteArray)) && decide (num = 0)), ((), ()))) ?_ ?_ k (by omega)).trans ?_
        ·intro again i hi
         have g1 : (i : Int) < (acks.length : Int) := by omega
         have g2 : (0 : Int) ≤ (i : Int) := by omega
         have w : wi64 ((i : Int) + 1) = ((i + 1 : Nat) : Int) := (qAH _ (by omega)).trans (by omega)
         simp only [g1, g2, w, and_self, decide_true, if_true]
         by_cases q1 : 1 ≤ Ty.rd (t := .int .i64) acks (i : Int) ∧ Ty.rd (t := .int .i64) acks (i : Int) ≤ 1000000000 <;> by_cases q2 : op = 3 <;> simp [q1, q2]
        ·intro again
         by_cases q1 : op = 2 <;> by_cases q2 : body = (⟨#[]⟩ : ByteArray) <;> simp [q1, q2]
        ·have ha : (List.range acks.length).all (fun i => decide (1 ≤ Ty.rd (t := .int .i64) acks (i : Int) ∧ Ty.rd (t := .int .i64) acks (i : Int) ≤ 1000000000) && decide (op ≠ 3)) = (acks.all (fun n => decide (1 ≤ n ∧ n ≤ 1000000000)) && (decide (acks = []) || decide (op ≠ 3))) := by
          rw [all_rd (t := .int .i64) acks (fun n => decide (1 ≤ n ∧ n ≤ 1000000000) && decide (op ≠ 3))]
          by_cases q2 : op = 3
          ·cases acks <;> simp [q2]
          ·simp [q2]
         rw [ha]
         cases acks.all (fun n => decide (1 ≤ n ∧ n ≤ 1000000000)) <;> cases (decide (acks = []) || decide (op ≠ 3)) <;> simp
       ·have c7' : (120 : Int) < (body.size : Int) := by omega
        simp [c1, c2, c3, c4, c5, c6, c6', c7, c7']
      ·have c6' : (4 : Int) < (acks.length : Int) := by omega
       simp [c1, c2, c3, c4, c5, c6, c6']
     ·simp [c1, c2, c3, c4, c5]
    ·simp [c1, c2, c3, c4]
   ·simp [c1, c2, c3]
  ·simp [c1, c2]
 ·simp [c1]
theorem isId_is (k : Nat) (n : Int) : i_isId k (n, ()) = some (decide (1 ≤ n ∧ n ≤ 99), ((), ())) := by
 unfold i_isId
 simp only [qBD, Option.bind_some]
def pkT (op key fr dst num : Int) (acks : List Int) (body : ByteArray) : Bool := decide (1 ≤ op ∧ op ≤ 3) && (decide (0 ≤ key ∧ key ≤ 7) && (decide (1 ≤ fr ∧ fr ≤ 99) && (decide (1 ≤ dst ∧ dst ≤ 99) && (decide (0 ≤ num ∧ num ≤ 1000000000) && ((decide (acks = []) || (decide (op ≠ 3) && decide (acks.length ≤ 4))) && (decide (body.size ≤ 120) && ((decide (op ≠ 2) || (decide (body = (⟨#[]⟩ : ByteArray)) && decide (num = 0))))))))))
theorem i_PacketOk_is (k : Nat) (p : Pk) (hl : p.2.2.2.2.2.1.length ≤ 1048576) (hk : 1048576 < k) : qET k (p, ()) = some (pkB p, ((), ())) := by
 obtain ⟨op, key, fr, dst, num, acks, body, u⟩ := p
 simp only at hl
 unfold qET
 refine (all_loop (fun i => ((op, (key, (fr, (dst, (num, (acks, (body, ()))))))), (acks, ((acks.length : Int), ((i : Int), ()))))) acks.length (fun i => decide (1 ≤ Ty.rd (t := .int .i64) acks (i : Int) ∧ Ty.rd (t := .int .i64) acks (i : Int) ≤ 1000000000)) (some (false, ((), ())))
  (some (pkT op key fr dst num acks body, ((), ()))) ?_ ?_ k (by omega)).trans ?_
 ·intro again i hi
  have g1 : (i : Int) < (acks.length : Int) := by omega
  have g2 : (0 : Int) ≤ (i : Int) := by omega
  have w : wi64 ((i : Int) + 1) = ((i + 1 : Nat) : Int) := (qAH _ (by omega)).trans (by omega)
  simp only [g1, g2, w, qBD, and_self, decide_true, if_true, Option.bind_some]
  by_cases q1 : 1 ≤ Ty.rd (t := .int .i64) acks (i : Int) ∧ Ty.rd (t := .int .i64) acks (i : Int) ≤ 1000000000 <;> simp [q1]
 ·intro again
  have hne : (decide ((acks.length : Int) = 0)) = decide (acks = []) := by cases acks <;> simp; omega
  have h4 : (decide ((acks.length : Int) ≤ 4)) = decide (acks.length ≤ 4) := by congr 1; exact propext (by omega)
  have h7 : (decide ((body.size : Int) ≤ 120)) = decide (body.size ≤ 120) := by congr 1; exact propext (by omega)
  have hz : (⟨#[]⟩ : ByteArray).size = 0 := rfl
  unfold pkT
  simp only [Int.lt_irrefl, decide_false, Bool.false_eq_true, if_false, qBD, isId_is, Option.bind_some, hne, h4, h7]
  by_cases c1 : 1 ≤ op ∧ op ≤ 3
  ·by_cases c2 : 0 ≤ key ∧ key ≤ 7
   ·by_cases c3 : 1 ≤ fr ∧ fr ≤ 99
    ·by_cases c4 : 1 ≤ dst ∧ dst ≤ 99
     ·by_cases c5 : 0 ≤ num ∧ num ≤ 1000000000
      ·by_cases c6 : acks = [] <;> by_cases c7 : body.size ≤ 120 <;> by_cases c8 : op = 3 <;> by_cases c9 : op = 2 <;> by_cases c10 : body = (⟨#[]⟩ : ByteArray) <;> by_cases c11 : acks.length ≤ 4 <;> simp [c1, c2, c3, c4, c5, c6, c7, c8, c9, c10, c11, hz]
      ·simp [c1, c2, c3, c4, c5]
     ·simp [c1, c2, c3, c4]
    ·simp [c1, c2, c3]
   ·simp [c1, c2]
  ·simp [c1]
 ·rw [all_rd (t := .int .i64) acks (fun n => decide (1 ≤ n ∧ n ≤ 1000000000))]
  unfold pkB pkT
  by_cases ha : acks = []
  ·subst ha; simp
  ·cases acks.all (fun n => decide (1 ≤ n ∧ n ≤ 1000000000)) <;> simp [ha]
   ·by_cases c11 : acks.length ≤ 4 <;> by_cases c8 : op = 3 <;> simp [c11, c8]
structure PkOk (p : Pk) : Prop where
 op : 1 ≤ p.1 ∧ p.1 ≤ 3
 key : 0 ≤ p.2.1 ∧ p.2.1 ≤ 7
 fr : 1 ≤ p.2.2.1 ∧ p.2.2.1 ≤ 99
 dst : 1 ≤ p.2.2.2.1 ∧ p.2.2.2.1 ≤ 99
 num : 0 ≤ p.2.2.2.2.1 ∧ p.2.2.2.2.1 ≤ 1000000000
 len : p.2.2.2.2.2.1.length ≤ 4
 body : p.2.2.2.2.2.2.1.size ≤ 120
 acks : ∀ n ∈ p.2.2.2.2.2.1, 1 ≤ n ∧ n ≤ 1000000000
theorem pkB_ok {p : Pk} (h : pkB p = true) : PkOk p := by
 unfold pkB at h
 simp only [Bool.and_eq_true, decide_eq_true_eq, List.all_eq_true] at h
 obtain ⟨h1, h2, h3, h4, h5, h6, h7, h8, _⟩ := h
 exact ⟨h1, h2, h3, h4, h5, h6, h7, h8⟩
def openS (key : ByteArray) (num : Nat) (t : ByteArray) : ByteArray × Bool × Unit :=
 if 16 ≤ t.size ∧ tagS key num (t.extract 0 (t.size - 16)) = t.extract (t.size - 16) t.size then (hidS key num (t.extract 0 (t.size - 16)), (true, ())) else ((⟨#[]⟩ : ByteArray), (false, ()))
theorem i_SameMac_is (k : Nat) (a b : ByteArray) : qHx k (a, (b, ())) = some (decide (a = b), ((), ((), ()))) := rfl
theorem s_SameMac_is (k : Nat) (a b : ByteArray) : qHs k (a, (b, ())) = some (decide (a = b), ((), ((), ()))) := rfl
theorem qIE (k num : Nat) (key t : ByteArray) (hkey : key.size ≤ 1048576) (hnum : num ≤ 1000000000) (ht : t.size ≤ 7000) (hk : 2097152 < k) :
  qDE k (key, ((num : Int), (t, ()))) = some (openS key num t, ((), ((), ((), ())))) := by
 unfold qDE openS
 have w : wi64 ((t.size : Int) - 16) = (t.size : Int) - 16 := qAH _ (by omega)
 simp only [w]
 by_cases c : 16 ≤ t.size
 ·have c1 : ¬ (t.size : Int) - 16 < 0 := by omega
  have c2 : (0 : Int) ≤ (t.size : Int) - 16 ∧ (t.size : Int) - 16 ≤ (t.size : Int) := by omega
  have e : ((t.size : Int) - 16).toNat = t.size - 16 := by omega
  have hx : (t.extract 0 (t.size - 16)).size ≤ 8000 := by rw [ByteArray.size_extract]; omega
  simp only [c, c1, c2, e, Int.toNat_natCast, Int.toNat_zero, i_hidden_is k num key _ hkey hnum hx hk, i_macText_is k num key _ hkey hnum hx hk, i_SameMac_is, and_self, true_and, decide_false, Bool.not_true, Bool.false_eq_true, if_true, if_false, Option.bind_some]
  by_cases q : tagS key num (t.extract 0 (t.size - 16)) = t.extract (t.size - 16) t.size <;> simp [q]
 ·have c1 : (t.size : Int) - 16 < 0 := by omega
  simp [c, c1]
theorem s_OpenText_is (k num : Nat) (key t : ByteArray) (hkey : key.size ≤ 1048576) (hnum : num ≤ 1000000000) (ht : t.size ≤ 7000) (hk : 2097152 < k) :
  qEQ k (key, ((num : Int), (t, ()))) = some (openS key num t, ((), ((), ((), ())))) := by
 unfold qEQ openS
 have w : wi64 ((t.size : Int) - 16) = (t.size : Int) - 16 := qAH _ (by omega)
 simp only [w]
 by_cases c : 16 ≤ t.size
 ·have c1 : ¬ (t.size : Int) < 16 := by omega
  have c2 : (0 : Int) ≤ (t.size : Int) - 16 ∧ (t.size : Int) - 16 ≤ (t.size : Int) := by omega
  have e : ((t.size : Int) - 16).toNat = t.size - 16 := by omega
  have hxs : (t.extract 0 (t.size - 16)).size = t.size - 16 := by rw [ByteArray.size_extract]; omega
  have hx : (t.extract 0 (t.size - 16)).size ≤ 8000 := by omega
  have c3 : (0 : Int) ≤ ((t.size - 16 : Nat) : Int) ∧ ((t.size - 16 : Nat) : Int) ≤ (t.size : Int) := by omega
  have m1 := s_Mask_is k num (t.extract 0 (t.size - 16)).size key hkey hnum hx hk
  have m2 := l06Xor_is k num key (t.extract 0 (t.size - 16)) hx hk
  rw [hxs] at m1 m2
  simp only [c, c1, c2, c3, e, hxs, Int.toNat_natCast, Int.toNat_zero, m1, m2, l06Tag_is k num key _ hkey hnum hx hk, s_SameMac_is, and_self, true_and, decide_false, Bool.not_true, Bool.false_eq_true, if_true, if_false, Option.bind_some]
  by_cases q : tagS key num (t.extract 0 (t.size - 16)) = t.extract (t.size - 16) t.size <;> simp [q]
 ·have c1 : (t.size : Int) < 16 := by omega
  simp [c, c1]
/-- A packet is opened by one set of keys. -/
def opT (key : ByteArray) (seen : List Int) (p : qCm) : Option ByteArray :=
 if (openS key p.2.2.2.2.1.toNat p.2.2.2.2.2.2.1).2.1 = true ∧ qC1 seen p.2.2.2.2.1 = true then some (openS key p.2.2.2.2.1.toNat p.2.2.2.2.2.2.1).1 else none
def setLame (x : qBd) (l : List Int) : qBd := (x.1, (x.2.1, (x.2.2.1, (x.2.2.2.1, (x.2.2.2.2.1, (x.2.2.2.2.2.1, (x.2.2.2.2.2.2.1, (x.2.2.2.2.2.2.2.1, (x.2.2.2.2.2.2.2.2.1, (x.2.2.2.2.2.2.2.2.2.1, (l, x.2.2.2.2.2.2.2.2.2.2.2)))))))))))
abbrev OpenR := qBd × ByteArray × Bool × Unit
def qCM (x : qBd) : OpenR := (x, ((⟨#[]⟩ : ByteArray), (false, ())))
def inMain (x : qBd) (p : qCm) : OpenR := match opT x.2.2.1 x.2.2.2.2.1 p with
 | some t => (setSeen x (qE4 x.2.2.2.2.1 p.2.2.2.2.1), (t, (true, ())))
 | none => qCM x
def qIF (x : qBd) (p : qCm) : OpenR := match opT x.2.2.2.2.2.2.2.2.1 x.2.2.2.2.2.2.2.2.2.2.1 p with
 | some t => (setLame x (qE4 x.2.2.2.2.2.2.2.2.2.2.1 p.2.2.2.2.1), (t, (true, ())))
 | none => qCM x
def openR (x : qBd) (p : qCm) (now : Int) : OpenR :=
 if qIA x = true ∧ pkB p = true ∧ p.1 = 3 then
  (if x.1 ≠ 0 ∧ Int.tmod x.1 8 = p.2.1 then inMain x p
   else if x.2.2.2.2.2.2.1 ≠ 0 ∧ Int.tmod x.2.2.2.2.2.2.1 8 = p.2.1 ∧ ¬ x.2.2.2.2.2.2.2.2.2.2.2.1 ≤ now then qIF x p else qCM x)
 else qCM x
theorem openIn_v1_is (k : Nat) (x : qBd) (p : qCm) (hb : qBL x) (hp : pkB p = true) (hk : 2097152 < k) : qDb k (x, (p, ())) = some (((inMain x p).2.1, ((inMain x p).2.2.1, ())), ((inMain x p).1, ((), ()))) := by
 have h := pkB_ok hp
 obtain ⟨h1, h2⟩ := qDv hb
 have hn := h.num
 have hbody := h.body
 have e1 := qIE k p.2.2.2.2.1.toNat x.2.2.1 p.2.2.2.2.2.2.1 hb.2.1 (by omega) (by omega) hk
 rw [Int.toNat_of_nonneg hn.1] at e1
 unfold qDb inMain opT
 simp only [e1, Option.bind_some]
 generalize openS x.2.2.1 p.2.2.2.2.1.toNat p.2.2.2.2.2.2.1 = r
 obtain ⟨t, o, ⟨⟩⟩ := r
 cases o with
 | false => simp [qCM]
 | true =>
  simp only [qF5 k _ p.2.2.2.2.1 (by omega) h1, qID k _ p.2.2.2.2.1 (by omega) h1, Bool.not_true, if_true, Option.bind_some]
  cases qC1 x.2.2.2.2.1 p.2.2.2.2.1 <;> simp [qCM, setSeen]
theorem openIn_at_6_is (k : Nat) (x : qBd) (p : qCm) (hb : qBL x) (hp : pkB p = true) (hk : 2097152 < k) : qCY k (x, (p, ())) = some (((qIF x p).2.1, ((qIF x p).2.2.1, ())), ((qIF x p).1, ((), ()))) := by
 have h := pkB_ok hp
 obtain ⟨h1, h2⟩ := qDv hb
 have hn := h.num
 have hbody := h.body
 have e1 := qIE k p.2.2.2.2.1.toNat x.2.2.2.2.2.2.2.2.1 p.2.2.2.2.2.2.1 hb.2.2.2.2.1 (by omega) (by omega) hk
 rw [Int.toNat_of_nonneg hn.1] at e1
 unfold qCY qIF opT
 simp only [e1, Option.bind_some]
 generalize openS x.2.2.2.2.2.2.2.2.1 p.2.2.2.2.1.toNat p.2.2.2.2.2.2.1 = r
 obtain ⟨t, o, ⟨⟩⟩ := r
 cases o with
 | false => simp [qCM]
 | true =>
  simp only [qF5 k _ p.2.2.2.2.1 (by omega) h2, qID k _ p.2.2.2.2.1 (by omega) h2, Bool.not_true, if_true, Option.bind_some]
  cases qC1 x.2.2.2.2.2.2.2.2.2.2.1 p.2.2.2.2.1 <;> simp [qCM, setLame]
theorem i_OpenData_is (k : Nat) (x : qBd) (p : qCm) (now : Int) (hb : qBL x) (hl : p.2.2.2.2.2.1.length ≤ 1048576) (hk : 2097152 < k) : qEX k (x, (p, (now, ()))) = some (openR x p now, ((), ((), ((), ())))) := by
 obtain ⟨h1, h2⟩ := qDv hb
 have e1 := qGr k x h1 h2
 have e2 := i_SlotsOk_is k x (by omega) h1 h2
 have e3 := i_PacketOk_is k p hl (by omega)
 unfold qEX openR
 simp only [e1, e2, e3, Option.bind_some]
 cases a : qIA x with
 | false => simp [qCM]
 | true =>
  cases b : pkB p with
  | false => simp [qCM]
  | true =>
   have f1 := openIn_v1_is k x p hb b hk
   have f2 := openIn_at_6_is k x p hb b hk
   have g1 : ∀ r : OpenR, some ((r.1, (r.2.1, (r.2.2.1, ()))), ((), ((), ((), ())))) = some (r, ((), ((), ((), ())))) := fun r => rfl
   by_cases c0 : p.1 = 3
   rotate_left
   ·simp [c0, qCM]
   have k0 : decide (p.1 = 3) = true := decide_eq_true c0
   rw [if_pos (c := true = true ∧ true = true ∧ p.1 = 3) ⟨rfl, rfl, c0⟩]
   unfold jn
   simp only [f1, f2, k0, Bool.not_true, Bool.false_eq_true, if_true, if_false, Option.bind_some]
   have lame : (if (decide (x.2.2.2.2.2.2.1 = (0 : Int))) = false then
(if (!decide ((Int.tmod x.2.2.2.2.2.2.1 (8 : Int)) = p.2.1)) = false then
(if (decide (x.2.2.2.2.2.2.2.2.2.2.2.1 ≤ now)) = true then
some (qCM x, ((), ((), ((), ()))))
else
some (qIF x p, ((), ((), ((), ())))))
else
some (qCM x, ((), ((), ((), ())))))
else
some (qCM x, ((), ((), ((), ()))))) = some ((if x.2.2.2.2.2.2.1 ≠ 0 ∧ Int.tmod x.2.2.2.2.2.2.1 8 = p.2.1 ∧ ¬ x.2.2.2.2.2.2.2.2.2.2.2.1 ≤ now then qIF x p else qCM x), ((), ((), ((), ())))) := by
    by_cases c3 : x.2.2.2.2.2.2.1 = 0
    ·rw [if_neg (by simp [c3]), if_neg (by simp [c3])]
    rw [if_pos (decide_eq_false c3)]
    by_cases c4 : Int.tmod x.2.2.2.2.2.2.1 8 = p.2.1
    ·rw [if_pos (by simp [c4])]
     by_cases c5 : x.2.2.2.2.2.2.2.2.2.2.2.1 ≤ now
     ·rw [if_pos (decide_eq_true c5), if_neg (fun h => h.2.2 c5)]
     ·rw [if_neg (by simpa using c5), if_pos ⟨c3, c4, c5⟩]
    ·rw [if_neg (by simp [c4]), if_neg (fun h => c4 h.2.1)]
   by_cases c1 : x.1 = 0
   ·have k1 : decide (x.1 = 0) = true := decide_eq_true c1
    rw [if_neg (c := x.1 ≠ 0 ∧ Int.tmod x.1 8 = p.2.1) (fun h => h.1 c1)]
    simp only [k1, Bool.true_eq_false, if_false]
    exact lame
   ·have k1 : decide (x.1 = 0) = false := decide_eq_false c1
    by_cases c2 : Int.tmod x.1 8 = p.2.1
    ·have k2 : decide (Int.tmod x.1 8 = p.2.1) = true := decide_eq_true c2
     rw [if_pos (c := x.1 ≠ 0 ∧ Int.tmod x.1 8 = p.2.1) ⟨c1, c2⟩]
     simp only [k1, k2, Bool.not_true, Bool.false_eq_true, if_true, if_false]
    ·have k2 : decide (Int.tmod x.1 8 = p.2.1) = false := decide_eq_false c2
     rw [if_neg (c := x.1 ≠ 0 ∧ Int.tmod x.1 8 = p.2.1) (fun h => c2 h.2)]
     simp only [k1, k2, Bool.not_false, if_true]
     exact lame
theorem noteL_bd {a : List Int} {n : Int} (hl : a.length ≤ 1048576) : (qE4 a n).length ≤ 1048576 := by
 by_cases h : qC1 a n = true
 ·obtain ⟨_, _, _, _, _, _, h5, _⟩ := note_fresh h
  have := (seenB_ok h5).2.2
  omega
 ·unfold qE4; rw [if_neg h]; exact hl
theorem s_l17Copy_f_is (k : Nat) (x : qBd) (h1 : x.2.2.2.2.1.length ≤ 1048576) (h2 : x.2.2.2.2.2.2.2.2.2.2.1.length ≤ 1048576) : qEu k (x, ()) = some (x, ((), ())) := s_l17Copy_is k x h1 h2
def setS (y : SlotA) (l : List Int) : SlotA := (y.1, (y.2.1, (y.2.2.1, (y.2.2.2.1, (l, (y.2.2.2.2.2.1, ()))))))
def openSlot (y : SlotA) (p : qCm) : SlotA × ByteArray × Bool × Unit := match opT y.2.2.1 y.2.2.2.2.1 p with
 | some t => (setS y (qE4 y.2.2.2.2.1 p.2.2.2.2.1), (t, (true, ())))
 | none => (y, ((⟨#[]⟩ : ByteArray), (false, ())))
theorem s_l19Open_is (k : Nat) (y : SlotA) (p : qCm) (hop : y.2.2.1.size ≤ 1048576) (hs : y.2.2.2.2.1.length ≤ 1048576) (hp : pkB p = true) (hk : 2097152 < k) : qCI k (y, (p, ())) = some (openSlot y p, ((), ((), ()))) := by
 have h := pkB_ok hp
 have hn := h.num
 have hbody := h.body
 have e1 := s_OpenText_is k p.2.2.2.2.1.toNat y.2.2.1 p.2.2.2.2.2.2.1 hop (by omega) (by omega) hk
 rw [Int.toNat_of_nonneg hn.1] at e1
 unfold qCI openSlot opT
 simp only [e1, s_IsFresh_is k _ p.2.2.2.2.1 (by omega) hs, s_NoteSeen_is k _ p.2.2.2.2.1 (by omega) hs, Option.bind_some]
 generalize openS y.2.2.1 p.2.2.2.2.1.toNat p.2.2.2.2.2.2.1 = r
 obtain ⟨t, o, ⟨⟩⟩ := r
 cases o <;> cases qC1 y.2.2.2.2.1 p.2.2.2.2.1 <;> simp [setS]
theorem s_OpenData_is (k : Nat) (x : qBd) (p : qCm) (now : Int) (hb : qBL x) (hk : 2097152 < k) : qES k (x, (p, (now, ()))) = some (openR x p now, ((), ((), ((), ())))) := by
 obtain ⟨h1, h2⟩ := qDv hb
 have e1 := s_l17Copy_f_is k x h1 h2
 have e2 := s_SlotsOk_is k x (by omega) h1 h2
 have e3 := s_PacketOk_is k p (by omega)
 unfold qES openR
 simp only [e1, e2, e3, Option.bind_some]
 cases a : qIA x with
 | false => simp [qCM]
 | true =>
  cases b : pkB p with
  | false => simp [qCM]
  | true =>
   have n1 : qBm k ((x.1, (x.2.1, (x.2.2.1, (x.2.2.2.1, (x.2.2.2.2.1, (x.2.2.2.2.2.1, ())))))), ()) = some (decide (x.1 = 0), ((), ())) := by
    rw [show ((x.1, (x.2.1, (x.2.2.1, (x.2.2.2.1, (x.2.2.2.2.1, (x.2.2.2.2.2.1, ())))))) : SlotA) = qH9 x from rfl, qEb, slot_zero (slotsB_iff.1 a).1]
    rfl
   have n2 : qBm k ((x.2.2.2.2.2.2.1, (x.2.2.2.2.2.2.2.1, (x.2.2.2.2.2.2.2.2.1, (x.2.2.2.2.2.2.2.2.2.1, (x.2.2.2.2.2.2.2.2.2.2.1, (x.2.2.2.2.2.2.2.2.2.2.2.1, ())))))), ()) = some (decide (x.2.2.2.2.2.2.1 = 0), ((), ())) := by
    rw [show ((x.2.2.2.2.2.2.1, (x.2.2.2.2.2.2.2.1, (x.2.2.2.2.2.2.2.2.1, (x.2.2.2.2.2.2.2.2.2.1, (x.2.2.2.2.2.2.2.2.2.2.1, (x.2.2.2.2.2.2.2.2.2.2.2.1, ())))))) : SlotA) = qGq x from rfl, qEb, slot_zero (slotsB_iff.1 a).2.1]
    rfl
   have f1 := s_l19Open_is k (x.1, (x.2.1, (x.2.2.1, (x.2.2.2.1, (x.2.2.2.2.1, (x.2.2.2.2.2.1, ())))))) p hb.2.1 h1 b hk
   have f2 := s_l19Open_is k (x.2.2.2.2.2.2.1, (x.2.2.2.2.2.2.2.1, (x.2.2.2.2.2.2.2.2.1, (x.2.2.2.2.2.2.2.2.2.1, (x.2.2.2.2.2.2.2.2.2.2.1, (x.2.2.2.2.2.2.2.2.2.2.2.1, ())))))) p hb.2.2.2.2.1 h2 b hk
   by_cases c0 : p.1 = 3
   rotate_left
   ·simp [c0, qCM]
   have k0 : decide (p.1 = 3) = true := decide_eq_true c0
   rw [if_pos (c := true = true ∧ true = true ∧ p.1 = 3) ⟨rfl, rfl, c0⟩]
   unfold jn
   simp only [n1, n2, f1, f2, k0, Bool.not_true, Bool.false_eq_true, if_true, if_false, Option.bind_some]
   unfold openSlot inMain qIF
   simp only []
   generalize opT x.2.2.1 x.2.2.2.2.1 p = om
   generalize opT x.2.2.2.2.2.2.2.2.1 x.2.2.2.2.2.2.2.2.2.2.1 p = ol
   clear f1 f2 n1 n2 e1 e2 a h1 h2 hb
   obtain ⟨x0, x1, x2, x3, x4, x5, y0, y1, y2, y3, y4, y5, ⟨⟩⟩ := x
   simp only []
   by_cases c5 : now < y5
   ·have c6 : ¬ y5 ≤ now := by omega
    by_cases c1 : x0 = 0 <;> by_cases c2 : Int.tmod x0 8 = p.2.1 <;> by_cases c3 : y0 = 0 <;> by_cases c4 : Int.tmod y0 8 = p.2.1 <;> cases om <;> cases ol <;> simp [c1, c2, c3, c4, c5, c6, qCM, setSeen, setLame, setS]
   ·have c6 : y5 ≤ now := by omega
    by_cases c1 : x0 = 0 <;> by_cases c2 : Int.tmod x0 8 = p.2.1 <;> by_cases c3 : y0 = 0 <;> by_cases c4 : Int.tmod y0 8 = p.2.1 <;> cases om <;> cases ol <;> simp [c1, c2, c3, c4, c5, c6, qCM, setSeen, setLame, setS]
theorem openR_bd {x : qBd} {p : qCm} {now : Int} (h : qBL x) : qBL (openR x p now).1 := by
 obtain ⟨b1, b2, b3, b4, b5, b6, b7⟩ := h
 unfold openR inMain qIF
 split
 ·split
  ·split
   ·exact ⟨b1, b2, noteL_bd b3, b4, b5, b6, b7⟩
   ·exact ⟨b1, b2, b3, b4, b5, b6, b7⟩
  ·split
   ·split
    ·exact ⟨b1, b2, b3, b4, b5, noteL_bd b6, b7⟩
    ·exact ⟨b1, b2, b3, b4, b5, b6, b7⟩
   ·exact ⟨b1, b2, b3, b4, b5, b6, b7⟩
 ·exact ⟨b1, b2, b3, b4, b5, b6, b7⟩
theorem i_ReadInner_is (k : Nat) (s : ByteArray) : qDc k (s, ()) = qCB k (s, ()) := by
 unfold qDc qCB
 simp only [qBg, qBD, qF1, qF2]
theorem s_ReadInner_ends (k : Nat) (s : ByteArray) : ∃ r, qCB k (s, ()) = some r := by
 unfold qCB
 simp only [qBg, qF1, Option.bind_some]
 split
 ·exact ⟨_, rfl⟩
 ·rename_i h
  simp at h
  have h1 : (0 : Int) ≤ 8 ∧ (8 : Int) ≤ (s.size : Int) := by omega
  have h2 : (0 : Int) ≤ 4 ∧ (4 : Int) ≤ (s.size : Int) := by omega
  rw [if_pos h1, if_pos h2]
  simp [h1.2]
theorem qBR {A : Type} {l : List A} {n : Nat} {r d : A} (h : l[n]? = some r) : l.getD n d = r := by simp [List.getD, h]
theorem qIG {A : Type} {l : List A} {n : Nat} {x d : A} (h : n < l.length) : (l.set n x).getD n d = x := by simp [List.getD, h]
theorem set_set' {A : Type} (l : List A) (n : Nat) (x y : A) : (l.set n x).set n y = l.set n y := by simp
/-- Marks are laid row by row, and found again. -/
theorem loop_MH {A R R' : Type} {step : (List A × Int × Int × Unit → Option R) → List A × Int × Int × Unit → Option R} {hstep : (List A × Int × Int × Unit → Option R') → List A × Int × Int × Unit → Option R'} (fin : List A → Int → R) (hfin : Int → R') (c N : Int) (hc : 0 ≤ c) (P : A → Prop)
  (hs : ∀ (r : A), P r → ∀ n : Int, 0 ≤ n → n + c ≤ N → ∃ (r' : A) (n' : Int), n ≤ n' ∧ n' ≤ n + c ∧ (∀ again (out : List A) (i : Int), 0 ≤ i → i < out.length → i ≤ 1048576 → out[i.toNat]? = some r → step again (out, (n, (i, ()))) = again (out.set i.toNat r', (n', (i + 1, ())))) ∧
   (∀ again (out : List A) (i : Int), 0 ≤ i → i < out.length → i ≤ 1048576 → out[i.toNat]? = some r' → hstep again (out, (n, (i, ()))) = again (out, (n', (i + 1, ())))))
  (he : ∀ again (out : List A) (n i : Int), (out.length : Int) ≤ i → step again (out, (n, (i, ()))) = some (fin out n))
  (hhe : ∀ again (out : List A) (n i : Int), (out.length : Int) ≤ i → hstep again (out, (n, (i, ()))) = some (hfin n))
  (a : List A) (ha : ∀ r ∈ a, P r) (hal : a.length ≤ 1048576) (n : Int) (hn : 0 ≤ n) (C : Int) (hC : C = c * (a.length : Nat)) (hN : n + C ≤ N) (k : Nat) (hk : 1048576 < k) :
  ∃ (a' : List A) (n' : Int), a'.length = a.length ∧ n ≤ n' ∧ n' ≤ n + C ∧ qAG step k (a, (n, (0, ()))) = some (fin a' n') ∧ qAG hstep k (a', (n, (0, ()))) = some (hfin n') := by
 subst hC
 have key : ∀ (s p : List A) (n : Int) (k : Nat), (∀ r ∈ s, P r) → p.length + s.length ≤ 1048576 → 0 ≤ n → n + c * (s.length : Nat) ≤ N → s.length < k →
   ∃ (s' : List A) (n' : Int), s'.length = s.length ∧ n ≤ n' ∧ n' ≤ n + c * (s.length : Nat) ∧ qAG step k (p ++ s, (n, ((p.length : Int), ()))) = some (fin (p ++ s') n') ∧ qAG hstep k (p ++ s', (n, ((p.length : Int), ()))) = some (hfin n') := by
  intro s
  induction s with
  | nil =>
   intro p n k _ _ _ _ hk
   obtain ⟨k, rfl⟩ : ∃ k', k = k' + 1 := ⟨k - 1, by omega⟩
   exact ⟨[], n, rfl, by omega, by simp, he _ _ _ _ (by simp), hhe _ _ _ _ (by simp)⟩
  | cons r s ih =>
   intro p n k hP hl hn hN hk
   obtain ⟨k, rfl⟩ : ∃ k', k = k' + 1 := ⟨k - 1, by omega⟩
   simp only [List.length_cons] at hl hN hk
   have e : c * ((s.length + 1 : Nat) : Int) = c * (s.length : Nat) + c := by rw [Int.natCast_add, Int.mul_add]; simp
   have hpos : 0 ≤ c * ((s.length : Nat) : Int) := Int.mul_nonneg hc (by omega)
   rw [e] at hN
   obtain ⟨r', n1, h1, h2, h3, h4⟩ := hs r (hP r (by simp)) n hn (by omega)
   obtain ⟨s', n', g1, g2, g3, g4, g5⟩ := ih (p ++ [r']) n1 k (fun x hx => hP x (List.mem_cons_of_mem _ hx)) (by simp; omega) (by omega) (by omega) (by omega)
   have ep : ((p ++ [r']).length : Int) = (p.length : Int) + 1 := by simp
   rw [ep, List.append_assoc, List.append_assoc] at g4
   rw [ep, List.append_assoc] at g5
   refine ⟨r' :: s', n', by simp [g1], by omega, by simp only [List.length_cons]; rw [e]; omega, ?_, ?_⟩
   ·show step (qAG step k) _ = _
    rw [h3 _ _ _ (by omega) (by simp; omega) (by omega) (by simp)]
    have : (p ++ r :: s).set ((p.length : Int)).toNat r' = p ++ ([r'] ++ s) := by simp
    rw [this]
    exact g4
   ·show hstep (qAG hstep k) _ = _
    rw [h4 _ _ _ (by omega) (by simp; omega) (by omega) (by simp)]
    exact g5
 have := key a [] n k ha (by simpa using hal) hn hN (by omega)
 simpa using this
theorem MH_BoolS (k : Nat) (a : List Bool) (n : Int) (hn : 0 ≤ n) (hN : n + a.length ≤ 4611686018427387904) (hk : 1048576 < k) (hl : a.length ≤ 1048576) :
  ∃ (a' : List Bool) (n' : Int), a'.length = a.length ∧ n ≤ n' ∧ n' ≤ n + a.length ∧ qDU k (a, (n, ())) = some (n', (a', ((), ()))) ∧ qDW k (a', (n, ())) = some (n', ((), ((), ()))) := by
 unfold qDU qDW
 refine loop_MH (A := Bool) (fun out n => (n, (out, ((), ())))) (fun n => (n, ((), ((), ())))) 1 4611686018427387904 (by decide) (fun _ => True) ?_ ?_ ?_ a (fun _ _ => trivial) hl n hn (a.length : Int) (by omega) (by omega) k hk
 ·intro r _ n hn hN
  refine ⟨decide (Int.tmod n 3 = 0), n + 1, by omega, by omega, fun again out i h0 h1 h2 hr => ?_, fun again out i h0 h1 h2 hr => ?_⟩
  ·have w : wi64 (n + 1) = n + 1 := qAH _ (by omega)
   have w' : wi64 (i + 1) = i + 1 := qAH _ (by omega)
   simp only [h0, h1, w, w', decide_true, and_self, if_true]
  ·have w : wi64 (n + 1) = n + 1 := qAH _ (by omega)
   have w' : wi64 (i + 1) = i + 1 := qAH _ (by omega)
   simp only [Ty.rd, qBR hr, h0, h1, w, w', decide_true, and_self, if_true, Bool.not_true, Bool.false_eq_true, if_false]
 ·intro again out n i hi
  have : ¬ i < (out.length : Int) := by omega
  simp [this]
 ·intro again out n i hi
  have : ¬ i < (out.length : Int) := by omega
  simp [this]
theorem MH_IntS (k : Nat) (a : List Int) (n : Int) (hn : 0 ≤ n) (hN : n + a.length ≤ 4611686018427387904) (hk : 1048576 < k) (hl : a.length ≤ 1048576) :
  ∃ (a' : List Int) (n' : Int), a'.length = a.length ∧ n ≤ n' ∧ n' ≤ n + a.length ∧ qC8 k (a, (n, ())) = some (n', (a', ((), ()))) ∧ qEG k (a', (n, ())) = some (n', ((), ((), ()))) := by
 unfold qC8 qEG
 refine loop_MH (A := Int) (fun out n => (n, (out, ((), ())))) (fun n => (n, ((), ((), ())))) 1 4611686018427387904 (by decide) (fun _ => True) ?_ ?_ ?_ a (fun _ _ => trivial) hl n hn (a.length : Int) (by omega) (by omega) k hk
 ·intro r _ n hn hN
  refine ⟨n, n + 1, by omega, by omega, fun again out i h0 h1 h2 hr => ?_, fun again out i h0 h1 h2 hr => ?_⟩
  ·have w : wi64 (n + 1) = n + 1 := qAH _ (by omega)
   have w' : wi64 (i + 1) = i + 1 := qAH _ (by omega)
   simp only [h0, h1, w, w', decide_true, and_self, if_true]
  ·have w : wi64 (n + 1) = n + 1 := qAH _ (by omega)
   have w' : wi64 (i + 1) = i + 1 := qAH _ (by omega)
   simp only [Ty.rd, qBR hr, h0, h1, w, w', decide_true, and_self, if_true, Bool.not_true, Bool.false_eq_true, if_false]
 ·intro again out n i hi
  have : ¬ i < (out.length : Int) := by omega
  simp [this]
 ·intro again out n i hi
  have : ¬ i < (out.length : Int) := by omega
  simp [this]
theorem markText_ends (k : Nat) (n : Int) (hn : n < 4611686018427387904) (hk : n < k) : ∃ r, qC9 k (n, ()) = some (r, ((), ())) := by
 unfold qC9
 by_cases h0 : n ≤ 0
 ·simp only [h0, decide_true, if_true]
  exact ⟨_, rfl⟩
 ·simp only [h0, decide_false]
  have hm : maxStr = 9223372036854775807 := rfl
  have h1 : (⟨#[109]⟩ : ByteArray).size = 1 := rfl
  refine (whileK_some (g := fun t : ByteArray => (t, ((), ()))) (fun y : Int × ByteArray × Unit => y.1.toNat) (fun y : Int × ByteArray × Unit => 0 ≤ y.1 ∧ y.1 + (y.2.1.size : Int) < 4611686018427387905) (fun _ _ => True) ?_ k (n, ((⟨#[]⟩ : ByteArray), ())) ⟨by simp only; omega, by simp only; have : (⟨#[]⟩ : ByteArray).size = 0 := rfl; omega⟩ (by simp only; omega)).imp fun t h => h.1
  ·rintro ⟨a, s, u⟩ ⟨g1, g2⟩ again hg
   simp only at g1 g2
   have hsz : ∀ c : Int, (qAK [c]).size = 1 := fun c => by simp [qAK, ByteArray.size]
   by_cases ha : 0 < a
   ·have hq : Int.tdiv a 10 = a / 10 := Int.tdiv_eq_ediv_of_nonneg g1
    have hw : wi64 (a / 10) = a / 10 := qAH _ (by omega)
    simp only [ha, decide_true, if_true, hsz, hq, hw]
    rw [if_pos (by omega)]
    exact hg _ ⟨by simp only; omega, by simp only [ByteArray.size_append, hsz]; omega⟩ (by simp only; omega)
   ·simp only [ha, decide_false]
    have : ((⟨#[109]⟩ : ByteArray).size + s.size ≤ maxStr) := by omega
    simp only [this, if_true]
    exact ⟨_, rfl, trivial⟩
theorem MH_StringS (k : Nat) (a : List ByteArray) (n : Int) (hn : 0 ≤ n) (hN : n + a.length < 4611686018427387904) (hk : 4611686018427387904 < k) (hl : a.length ≤ 1048576) :
  ∃ (a' : List ByteArray) (n' : Int), a'.length = a.length ∧ n ≤ n' ∧ n' ≤ n + a.length ∧ qCU k (a, (n, ())) = some (n', (a', ((), ()))) ∧ qCV k (a', (n, ())) = some (n', ((), ((), ()))) := by
 unfold qCU qCV
 refine loop_MH (A := ByteArray) (fun out n => (n, (out, ((), ())))) (fun n => (n, ((), ((), ())))) 1 4611686018427387904 (by decide) (fun _ => True) ?_ ?_ ?_ a (fun _ _ => trivial) hl n hn (a.length : Int) (by omega) (by omega) k (by omega)
 ·intro r _ n hn hN
  obtain ⟨tx, ht⟩ := markText_ends k n (by omega) (by omega)
  refine ⟨tx, n + 1, by omega, by omega, fun again out i h0 h1 h2 hr => ?_, fun again out i h0 h1 h2 hr => ?_⟩
  ·have w : wi64 (n + 1) = n + 1 := qAH _ (by omega)
   have w' : wi64 (i + 1) = i + 1 := qAH _ (by omega)
   simp only [ht, Option.bind_some, h0, h1, w, w', decide_true, and_self, if_true]
  ·have w : wi64 (n + 1) = n + 1 := qAH _ (by omega)
   have w' : wi64 (i + 1) = i + 1 := qAH _ (by omega)
   simp only [ht, Option.bind_some, Ty.rd, qBR hr, h0, h1, w, w', decide_true, and_self, if_true, Bool.not_true, Bool.false_eq_true, if_false]
 ·intro again out n i hi
  have : ¬ i < (out.length : Int) := by omega
  simp [this]
 ·intro again out n i hi
  have : ¬ i < (out.length : Int) := by omega
  simp [this]
theorem MH_HeldS (k : Nat) (a : List (Int × Int × Int × List (ByteArray) × List (Bool) × Int)) (n : Int) (hn : 0 ≤ n) (C : Int) (hC : C = 2097160 * (a.length : Nat)) (hN : n + C < 4611686018427387904) (hk : 4611686018427387904 < k) (hb : qBJ a) :
  ∃ (a' : List (Int × Int × Int × List (ByteArray) × List (Bool) × Int)) (n' : Int), a'.length = a.length ∧ n ≤ n' ∧ n' ≤ n + C ∧ qDV k (a, (n, ())) = some (n', (a', ((), ()))) ∧ qDX k (a', (n, ())) = some (n', ((), ((), ()))) := by
 unfold qDV qDX
 refine loop_MH (A := Int × Int × Int × List (ByteArray) × List (Bool) × Int) (fun out n => (n, (out, ((), ())))) (fun n => (n, ((), ((), ())))) 2097160 4611686018427387903 (by decide) (fun r => r.2.2.2.1.length ≤ 1048576 ∧ r.2.2.2.2.1.length ≤ 1048576) ?_ ?_ ?_ a (fun r hr => ⟨(hb.2 r hr).1, (hb.2 r hr).2.1⟩) hb.1 n hn C hC (by omega) k (by omega)
 ·rintro ⟨r1, r2, r3, ps, hv, r6⟩ ⟨p1, p2⟩ n hn hN
  simp only at p1 p2
  have w1 : wi64 (n + 1) = n + 1 := qAH _ (by omega)
  have w2 : wi64 (n + 1 + 1) = n + 1 + 1 := qAH _ (by omega)
  have w3 : wi64 (n + 1 + 1 + 1) = n + 1 + 1 + 1 := qAH _ (by omega)
  obtain ⟨ps', n1, a1, a2, a3, a4, a5⟩ := MH_StringS k ps (n + 1 + 1 + 1) (by omega) (by omega) hk p1
  obtain ⟨hv', n2, b1, b2, b3, b4, b5⟩ := MH_BoolS k hv n1 (by omega) (by omega) (by omega) p2
  have w4 : wi64 (n2 + 1) = n2 + 1 := qAH _ (by omega)
  have c1 : ¬ n1 < 0 := by omega
  have c2 : ¬ n2 < 0 := by omega
  refine ⟨(n, n + 1, n + 1 + 1, ps', hv', n2), n2 + 1, by omega, by omega, fun again out i h0 h1 h2 hr => ?_, fun again out i h0 h1 h2 hr => ?_⟩
  ·have w' : wi64 (i + 1) = i + 1 := qAH _ (by omega)
   have hlt : i.toNat < out.length := by omega
   simp only [jn, Ty.rd, qBR hr, qIG (show i.toNat < _ by simpa using hlt), List.length_set, set_set', h0, h1, hlt, w1, w2, w3, w4, w', a4, b4, Option.bind_some, decide_true, and_self, if_true, qIG]
  ·have w' : wi64 (i + 1) = i + 1 := qAH _ (by omega)
   simp only [Ty.rd, qBR hr, h0, h1, w1, w2, w3, w4, w', a5, b5, c1, c2, Option.bind_some, decide_true, decide_false, and_self, if_true, Bool.not_true, Bool.false_eq_true, if_false]
 ·intro again out n i hi
  have : ¬ i < (out.length : Int) := by omega
  simp [this]
 ·intro again out n i hi
  have : ¬ i < (out.length : Int) := by omega
  simp [this]
theorem foldE_all {g : Nat → Unit → (Bool × Unit × Unit) ⊕ Unit} {fin : Unit → Bool × Unit × Unit} (hg : ∀ i, g i () = .inr () ∨ ∃ o, g i () = .inl (false, o)) :
  ∀ m i, (qBx g fin m i ()).1 = true → ∀ j, i ≤ j → j < i + m → g j () = .inr () := by
 intro m
 induction m with
 | zero => intro i _ j h1 h2; omega
 | succ m ih =>
  intro i h j h1 h2
  rcases hg i with e | ⟨o, e⟩
  ·by_cases hj : j = i
   ·rw [hj]; exact e
   ·refine ih (i + 1) ?_ j (by omega) (by omega)
    simpa [qBx, e] using h
  ·simp [qBx, e] at h
theorem foldE_fin {g : Nat → Unit → (Bool × Unit × Unit) ⊕ Unit} {fin : Unit → Bool × Unit × Unit} (hg : ∀ i, g i () = .inr () ∨ ∃ o, g i () = .inl (false, o)) :
  ∀ m i, (qBx g fin m i ()).1 = true → (fin ()).1 = true := by
 intro m
 induction m with
 | zero => intro i h; simpa [qBx] using h
 | succ m ih =>
  intro i h
  rcases hg i with e | ⟨o, e⟩
  ·exact ih (i + 1) (by simpa [qBx, e] using h)
  ·simp [qBx, e] at h
def goodP (ps : List ByteArray) (hv : List Bool) (i : Nat) : Bool := decide ((Ty.rd (t := .str) ps i).size ≤ 120) && (Ty.rd (t := .bool) hv i || decide (Ty.rd (t := .str) ps i = (⟨#[]⟩ : ByteArray)))
def gH (ps : List ByteArray) (hv : List Bool) (i : Nat) (n : Int) : (Bool × Unit × Unit) ⊕ Int :=
 if goodP ps hv i then .inr (if Ty.rd (t := .bool) hv i then n + 1 else n) else .inl (false, ((), ()))
def heldB (x : Int × Int × Int × List ByteArray × List Bool × Int × Unit) : Bool :=
 decide ((1 ≤ x.1 ∧ x.1 ≤ 99) ∧ (0 ≤ x.2.1 ∧ x.2.1 ≤ 255) ∧ (2 ≤ x.2.2.1 ∧ x.2.2.1 ≤ 15) ∧ (x.2.2.2.1.length : Int) = x.2.2.1 ∧ (x.2.2.2.2.1.length : Int) = x.2.2.1 ∧ (0 ≤ x.2.2.2.2.2.1 ∧ x.2.2.2.2.2.1 ≤ 1000000000)) &&
  (qBx (gH x.2.2.2.1 x.2.2.2.2.1) (fun n => (decide (1 ≤ n ∧ n < x.2.2.1), ((), ()))) x.2.2.1.toNat 0 0).1
theorem gH_step {ps : List ByteArray} {hv : List Bool} {i : Nat} {n n' : Int} (h : gH ps hv i n = .inr n') (hi : 0 ≤ n ∧ n ≤ i) : 0 ≤ n' ∧ n' ≤ (i + 1 : Nat) := by
 unfold gH at h
 split at h
 ·simp only [Sum.inr.injEq] at h
  subst h
  split <;> omega
 ·simp at h
theorem foldE_unit {g : Nat → Int → (Bool × Unit × Unit) ⊕ Int} {f : Int → Bool × Unit × Unit} (n m : Nat) (a : Int) : qBx g f n m a = ((qBx g f n m a).1, ((), ())) := rfl
theorem s_l20Held_is (k : Nat) (x : Int × Int × Int × List ByteArray × List Bool × Int × Unit) (hk : 1048576 < k) : qFv k (x, ()) = some (heldB x, ((), ())) := by
 obtain ⟨f, id, c, ps, hv, u, w⟩ := x
 unfold qFv heldB
 simp only [qBg, Option.bind_some]
 by_cases h1 : 1 ≤ f ∧ f ≤ 99
 rotate_left
 ·simp [h1]
 by_cases h2 : 0 ≤ id ∧ id ≤ 255
 rotate_left
 ·simp [h2]
 by_cases h3 : 2 ≤ c ∧ c ≤ 15
 rotate_left
 ·simp [h3]
 by_cases h4 : (ps.length : Int) = c
 rotate_left
 ·simp [h4]
 by_cases h5 : (hv.length : Int) = c
 rotate_left
 ·simp [h5]
 by_cases h6 : 0 ≤ u ∧ u ≤ 1000000000
 rotate_left
 ·simp [h6]
 simp only [h1, h2, h3, h4, h5, h6, and_self, decide_true, Bool.not_true, if_true, Bool.true_and, Bool.false_eq_true, if_false]
 refine (qD6 (A := Int) (fun i n => ((f, (id, (c, (ps, (hv, (u, ())))))), (n, ((i : Nat) : Int), ()))) c.toNat (gH ps hv) (fun n => (decide (1 ≤ n ∧ n < c), ((), ()))) (fun i n => 0 ≤ n ∧ n ≤ i) ?_ (fun i a a' _ h e => gH_step e h) ?_ k 0 ⟨by omega, by simp⟩ (by omega)).trans ?_
 ·intro again i n hi hn
  have w1 : wi64 (n + 1) = n + 1 := qAH _ (by omega)
  have w2 : wi64 ((i : Int) + 1) = ((i + 1 : Nat) : Int) := (qAH _ (by omega)).trans (by omega)
  have g1 : (0 : Int) ≤ (i : Int) ∧ (i : Int) < (hv.length : Int) := by omega
  have g2 : (0 : Int) ≤ (i : Int) ∧ (i : Int) < (ps.length : Int) := by omega
  have g3 : (i : Int) < c := by omega
  unfold gH goodP jn
  simp only [g1, g2, g3, w1, w2, and_self, decide_true, if_true]
  generalize Ty.rd (t := .str) ps i = p
  cases hb : Ty.rd (t := .bool) hv i with
  | true =>
   by_cases hs : p.size ≤ 120
   ·have : ¬ (120 : Int) < (p.size : Int) := by omega
    simp [hs, this]
   ·have : (120 : Int) < (p.size : Int) := by omega
    simp [hs, this]
  | false =>
   by_cases he : p = (⟨#[]⟩ : ByteArray)
   ·subst he
    have : (⟨#[]⟩ : ByteArray).size = 0 := rfl
    simp [this]
   ·simp [he]
 ·intro again n hn
  have : ¬ ((c.toNat : Nat) : Int) < c := by omega
  simp only [this, decide_false, Bool.false_eq_true, if_false]
  by_cases a : 1 ≤ n <;> simp [a]
 ·rfl
theorem i_heldOk_is (k : Nat) (x : Int × Int × Int × List ByteArray × List Bool × Int × Unit) (hk : 1048576 < k) : qHz k (x, ()) = some (heldB x, ((), ())) := by
 obtain ⟨f, id, c, ps, hv, u, w⟩ := x
 unfold qHz heldB
 simp only [qBD, isId_is, Option.bind_some]
 by_cases h1 : 1 ≤ f ∧ f ≤ 99
 rotate_left
 ·simp [h1]
 by_cases h2 : 0 ≤ id ∧ id ≤ 255
 rotate_left
 ·simp [h2]
 by_cases h3 : 2 ≤ c ∧ c ≤ 15
 rotate_left
 ·simp [h3]
 by_cases h4 : (ps.length : Int) = c
 rotate_left
 ·simp [h4]
 by_cases h5 : (hv.length : Int) = c
 rotate_left
 ·simp [h5]
 simp only [h1, h2, h3, h4, h5, and_self, decide_true, Bool.not_true, if_true, Bool.false_eq_true, if_false, true_and]
 have wc : wi64 (c - 1) = c - 1 := qAH _ (by omega)
 refine (qD6 (A := Int) (fun i n => ((f, (id, (c, (ps, (hv, (u, ())))))), (n, (hv, (c, ((i : Nat) : Int), ()))))) c.toNat (gH ps hv) (fun n => (decide ((1 ≤ n ∧ n < c) ∧ (0 ≤ u ∧ u ≤ 1000000000)), ((), ()))) (fun i n => 0 ≤ n ∧ n ≤ i) ?_ (fun i a a' _ h e => gH_step e h) ?_ k 0 ⟨by omega, by simp⟩ (by omega)).trans ?_
 ·intro again i n hi hn
  have w1 : wi64 (n + 1) = n + 1 := qAH _ (by omega)
  have w2 : wi64 ((i : Int) + 1) = ((i + 1 : Nat) : Int) := (qAH _ (by omega)).trans (by omega)
  have g1 : (0 : Int) ≤ (i : Int) ∧ (i : Int) < (hv.length : Int) := by omega
  have g2 : (0 : Int) ≤ (i : Int) ∧ (i : Int) < (ps.length : Int) := by omega
  have g3 : (i : Int) < c := by omega
  unfold gH goodP
  simp only [g1, g2, g3, w1, w2, and_self, decide_true, if_true]
  generalize Ty.rd (t := .str) ps i = p
  cases hb : Ty.rd (t := .bool) hv i with
  | true =>
   by_cases hs : p.size ≤ 120
   ·have : ¬ (120 : Int) < (p.size : Int) := by omega
    simp [hs, this]
   ·have : (120 : Int) < (p.size : Int) := by omega
    simp [hs, this]
  | false =>
   by_cases he : p = (⟨#[]⟩ : ByteArray)
   ·subst he
    have : (⟨#[]⟩ : ByteArray).size = 0 := rfl
    simp [this]
   ·by_cases hs : p.size ≤ 120
    ·have : ¬ (120 : Int) < (p.size : Int) := by omega
     simp [he, this]
    ·have : (120 : Int) < (p.size : Int) := by omega
     simp [he, this]
 ·intro again n hn
  have : ¬ ((c.toNat : Nat) : Int) < c := by omega
  simp only [this, decide_false, Bool.false_eq_true, if_false, wc]
  have e : (1 ≤ n ∧ n ≤ c - 1) ↔ (1 ≤ n ∧ n < c) := by omega
  by_cases a : 1 ≤ n ∧ n < c
  ·have a' := e.2 a
   simp [a, a']
  ·have a' : ¬ (1 ≤ n ∧ n ≤ c - 1) := fun h => a (e.1 h)
   simp [a, a']
 ·by_cases h6 : 0 ≤ u ∧ u ≤ 1000000000
  ·simp only [h6, and_self, and_true, decide_true, Bool.true_and]
  ·simp only [h6, and_false, decide_false, Bool.false_and]
   rw [foldE_unit]
   congr 2
   have key : ∀ m i a, (qBx (gH ps hv) (fun _ => (false, ((), ()))) m i a).1 = false := by
    intro m
    induction m with
    | zero => intro i a; rfl
    | succ m ih =>
     intro i a
     unfold qBx
     cases hq : gH ps hv i a with
     | inl r =>
      unfold gH at hq
      split at hq
      ·cases hq
      ·cases hq; rfl
     | inr a' => exact ih _ _
   exact key _ _ _
def sameH (a : List qAP.den) (j i : Nat) : Bool := decide ((Ty.rd (t := qAP) a j).1 = (Ty.rd (t := qAP) a i).1) && decide ((Ty.rd (t := qAP) a j).2.1 = (Ty.rd (t := qAP) a i).2.1)
def gS (a : List qAP.den) (i : Nat) (_ : Unit) : (Bool × Unit × Unit) ⊕ Unit :=
 if heldB (qAe (Ty.rd (t := qAP) a i)) && (List.range i).all (fun j => !sameH a j i) then .inr () else .inl (false, ((), ()))
theorem qIH (n : Nat) (p : Nat → Bool) : (List.range n).all (fun j => !p j) = true ↔ ∀ j, j < n → p j = false := by simp
theorem s_ShelfOk_is (k : Nat) (a : List qAP.den) (hk : 1048576 < k) (hl : a.length ≤ 1048576) : qFw k ((a, ()), ()) = some (qBx (gS a) (fun _ => (decide ((a.length : Int) ≤ 3), ((), ()))) a.length 0 ()) := by
 unfold qFw
 refine qD6 (A := Unit) (fun i _ => ((a, ()), (((i : Nat) : Int), ()))) a.length (gS a) (fun _ => (decide ((a.length : Int) ≤ 3), ((), ()))) (fun _ _ => True) ?_ (fun _ _ _ _ _ _ => trivial) ?_ k () trivial (by omega)
 ·intro again i _ hi _
  have w2 : wi64 ((i : Int) + 1) = ((i + 1 : Nat) : Int) := (qAH _ (by omega)).trans (by omega)
  have g1 : (0 : Int) ≤ (i : Int) ∧ (i : Int) < (a.length : Int) := by omega
  have eh := s_l20Held_is k (qAe (Ty.rd (t := qAP) a i)) hk
  simp only [qAe] at eh
  simp only [g1, and_self, decide_true, if_true, eh, Option.bind_some]
  unfold gS
  cases hh : heldB (qAe (Ty.rd (t := qAP) a i)) with
  | false => simp only [qAe] at hh; simp [hh]
  | true =>
   simp only [qAe] at hh
   simp only [hh, Bool.not_true, Bool.false_eq_true, if_false, Bool.true_and]
   refine (qEd (X := ((List qAP.den) × Unit) × Int × Int × Unit) (fun j => ((a, ()), ((i : Int), (((j : Nat) : Int), ())))) i (fun j => sameH a j i) (some (false, ((), ()))) (again ((a, ()), (((i + 1 : Nat) : Int), ()))) ?_ ?_ k (by omega)).trans ?_
   ·intro ag j hj
    have q1 : (0 : Int) ≤ (j : Int) ∧ (j : Int) < (a.length : Int) := by omega
    have q2 : (j : Int) < (i : Int) := by omega
    have w3 : wi64 ((j : Int) + 1) = ((j + 1 : Nat) : Int) := (qAH _ (by omega)).trans (by omega)
    simp only [q1, q2, g1, w3, and_self, decide_true, if_true]
    unfold sameH
    by_cases e1 : (Ty.rd (t := qAP) a j).1 = (Ty.rd (t := qAP) a i).1 <;> by_cases e2 : (Ty.rd (t := qAP) a j).2.1 = (Ty.rd (t := qAP) a i).2.1 <;> simp [e1, e2]
   ·intro ag
    simp [w2]
   ·cases (List.range i).all (fun j => !sameH a j i) <;> simp
 ·intro again _ _
  simp
def qGa (a : List qAP.den) (f id : Int) (j : Nat) : Bool := decide ((Ty.rd (t := qAP) a j).1 = f) && decide ((Ty.rd (t := qAP) a j).2.1 = id)
theorem heldAt_is (k : Nat) (a : List qAP.den) (f id : Int) (hk : 1048576 < k) (hl : a.length ≤ 1048576) :
  qGT k ((a, ()), (f, (id, ()))) = some ((match (List.range a.length).find? (qGa a f id) with | some i => ((i : Nat) : Int) | none => -1), ((), ((), ((), ())))) := by
 unfold qGT qAQ
 have h := qE8 (X := List qAP.den × ((Int × Unit) × (Int × Unit) × Unit) × Int × Int × Unit) (R := Int × Unit × ((Int × Unit) × (Int × Unit) × Unit) × Unit)
  (step := fun (rec0 : ((List (Int × Int × Int × List (ByteArray) × List (Bool) × Int)) × ((Int × Unit) × (Int × Unit) × Unit) × Int × Int × Unit) → Option _) (y0 : (List (Int × Int × Int × List (ByteArray) × List (Bool) × Int)) × ((Int × Unit) × (Int × Unit) × Unit) × Int × Int × Unit) =>
   (if (decide (y0.2.2.2.1 < y0.2.2.1)) = true then
   (if 0 ≤ y0.2.2.2.1 ∧ y0.2.2.2.1 < (List.length y0.1 : Int) then
   ((qEZ k (((Ty.rd (t := qAP) y0.1 y0.2.2.2.1).1, ((Ty.rd (t := qAP) y0.1 y0.2.2.2.1).2.1, ((Ty.rd (t := qAP) y0.1 y0.2.2.2.1).2.2.1, ((Ty.rd (t := qAP) y0.1 y0.2.2.2.1).2.2.2.1, ((Ty.rd (t := qAP) y0.1 y0.2.2.2.1).2.2.2.2.1, ((Ty.rd (t := qAP) y0.1 y0.2.2.2.1).2.2.2.2.2, ())))))), ((y0.2.1.1.1, ()), ((y0.2.1.2.1.1, ()), ())))).bind fun p1 =>
   (if p1.1 = true then
   some (y0.2.2.2.1, ((), (((p1.2.2.1.1, ()), ((p1.2.2.2.1.1, ()), ())), ())))
   else
   (rec0 (y0.1, (((p1.2.2.1.1, ()), ((p1.2.2.2.1.1, ()), ())), (y0.2.2.1, ((wi64 (y0.2.2.2.1 + (1 : Int))), ())))))))
   else none)
   else
   ((fun (z1 : ((Int × Unit) × (Int × Unit) × Unit) × Unit) =>
   some ((-1 : Int), ((), (((z1.1.1.1, ()), ((z1.1.2.1.1, ()), ())), ())))) (((y0.2.1.1.1, ()), ((y0.2.1.2.1.1, ()), ())), ()))))
  (fun j => (a, (((f, ()), ((id, ()), ())), ((a.length : Int), (((j : Nat) : Int), ()))))) a.length (qGa a f id) (fun j => (((j : Nat) : Int), ((), (((f, ()), ((id, ()), ())), ())))) (-1, ((), (((f, ()), ((id, ()), ())), ()))) ?_ ?_ k (by omega)
 ·refine (congrArg (fun o => Option.bind o _) h).trans ?_
  cases (List.range a.length).find? (qGa a f id) <;> rfl
 ·intro ag j hj
  have q1 : (0 : Int) ≤ (j : Int) ∧ (j : Int) < (a.length : Int) := by omega
  have w3 : wi64 ((j : Int) + 1) = ((j + 1 : Nat) : Int) := (qAH _ (by omega)).trans (by omega)
  simp only [q1, w3, and_self, decide_true, if_true]
  unfold qEZ qGa
  by_cases e1 : (Ty.rd (t := qAP) a j).1 = f <;> by_cases e2 : (Ty.rd (t := qAP) a j).2.1 = id <;> simp [e1, e2]
 ·intro ag
  simp
theorem i_ShelfOk_is (k : Nat) (a : List qAP.den) (hk : 1048576 < k) (hl : a.length ≤ 1048576) : qF0 k ((a, ()), ()) = some (qBx (gS a) (fun _ => (decide ((a.length : Int) ≤ 3), ((), ()))) a.length 0 ()) := by
 unfold qF0
 refine qD6 (A := Unit) (fun i _ => ((a, ()), (a, ((a.length : Int), (((i : Nat) : Int), ()))))) a.length (gS a) (fun _ => (decide ((a.length : Int) ≤ 3), ((), ()))) (fun _ _ => True) ?_ (fun _ _ _ _ _ _ => trivial) ?_ k () trivial (by omega)
 ·intro again i _ hi _
  have w2 : wi64 ((i : Int) + 1) = ((i + 1 : Nat) : Int) := (qAH _ (by omega)).trans (by omega)
  have g1 : (0 : Int) ≤ (i : Int) ∧ (i : Int) < (a.length : Int) := by omega
  have eh := i_heldOk_is k (qAe (Ty.rd (t := qAP) a i)) hk
  simp only [qAe] at eh
  simp only [g1, and_self, decide_true, if_true, eh, Option.bind_some, heldAt_is k a _ _ hk hl]
  unfold gS
  have hsame : (fun j => sameH a j i) = qGa a (Ty.rd (t := qAP) a i).1 (Ty.rd (t := qAP) a i).2.1 := rfl
  have hself : qGa a (Ty.rd (t := qAP) a i).1 (Ty.rd (t := qAP) a i).2.1 i = true := by simp [qGa]
  cases hh : heldB (qAe (Ty.rd (t := qAP) a i)) with
  | false => simp only [qAe] at hh; simp [hh]
  | true =>
   simp only [qAe] at hh
   simp only [hh, Bool.not_true, if_true, Bool.true_and]
   have hfa := find_at hi hself
   have hall : (List.range i).all (fun j => !sameH a j i) = true ↔ ∀ j, j < i → qGa a (Ty.rd (t := qAP) a i).1 (Ty.rd (t := qAP) a i).2.1 j = false := qIH i _
   cases hf : (List.range a.length).find? (qGa a (Ty.rd (t := qAP) a i).1 (Ty.rd (t := qAP) a i).2.1) with
   | none =>
    exfalso
    have := List.find?_eq_none.1 hf i (by simpa using hi)
    exact this hself
   | some j =>
    by_cases hj : j = i
    ·subst hj
     have := hall.2 (hfa.1 hf)
     simp [this, w2]
    ·have hne : ¬ (List.range i).all (fun j => !sameH a j i) = true := fun hh => by
      have := hfa.2 (hall.1 hh)
      rw [hf] at this
      exact hj (Option.some.inj this)
     have hj' : ¬ ((j : Nat) : Int) = (i : Int) := by omega
     simp only [hne, hj', decide_false, Bool.not_false, if_true]
     simp
 ·intro again _ _
  simp
theorem loop_app {X R A : Type} {step : (X → Option R) → X → Option R} (a : List A) (st : Nat → List A → X) (r : R)
  (hs : ∀ again i out x, out.length = i → i < a.length → a[i]? = some x → step again (st i out) = again (st (i + 1) (out ++ [x])))
  (he : ∀ again, step again (st a.length a) = some r) : ∀ k, a.length < k → qAG step k (st 0 []) = some r := by
 have key : ∀ (s p : List A) k, p ++ s = a → s.length < k → qAG step k (st p.length p) = some r := by
  intro s
  induction s with
  | nil =>
   intro p k h hk
   obtain ⟨k, rfl⟩ : ∃ k', k = k' + 1 := ⟨k - 1, by omega⟩
   have : p = a := by simpa using h
   subst this
   exact he _
  | cons x s ih =>
   intro p k h hk
   obtain ⟨k, rfl⟩ : ∃ k', k = k' + 1 := ⟨k - 1, by omega⟩
   show step _ _ = _
   subst h
   rw [hs _ _ _ x rfl (by simp) (by simp)]
   have := ih (p ++ [x]) k (by simp) (by simpa using hk)
   simpa using this
 intro k hk
 exact key a [] k (by simp) hk
theorem held_lens {a : List (Int × Int × Int × List (ByteArray) × List (Bool) × Int)} (hb : qBJ a) {i : Nat} {x : Int × Int × Int × List (ByteArray) × List (Bool) × Int} (h : a[i]? = some x) : x.2.2.2.1.length ≤ 1048576 ∧ x.2.2.2.2.1.length ≤ 1048576 := by
 have := hb.2 x (List.mem_of_getElem? h)
 exact ⟨this.1, this.2.1⟩
theorem s_l20Copy_is (k : Nat) (a : List (Int × Int × Int × List (ByteArray) × List (Bool) × Int)) (hk : 1048576 < k) (hb : qBJ a) : qFY k ((a, ()), ()) = some ((a, ()), ((), ())) := by
 unfold qFY
 have hl : a.length ≤ 1048576 := hb.1
 have hcap : capMax = 274877906944 := rfl
 refine loop_app (A := Int × Int × Int × List (ByteArray) × List (Bool) × Int) a (fun i out => ((a, ()), (([], ()), ((out, ()), ((i : Int), ()))))) ((a, ()), ((), ())) ?_ ?_ k (by omega)
 ·intro again i out x ho hi hx
  obtain ⟨h1, h2⟩ := held_lens hb hx
  have w : wi64 ((i : Int) + 1) = ((i + 1 : Nat) : Int) := by rw [show wi64 ((i : Int) + 1) = (i : Int) + 1 from qAH _ (by omega)]; omega
  have p1 : (i : Int) < (a.length : Int) := by omega
  have p2 : 0 ≤ (i : Int) := by omega
  have c1 : 0 + x.2.2.2.1.length ≤ capMax := by omega
  have c2 : 0 + x.2.2.2.2.1.length ≤ capMax := by omega
  have c3 : out.length + 1 ≤ capMax := by omega
  obtain ⟨x1, x2, x3, x4, x5, x6⟩ := x
  simp only at c1 c2
  simp only [Ty.rd, Int.toNat_natCast, qBR hx, p1, p2, w, c1, c2, c3, List.length_nil, List.length_cons, decide_true, and_self, if_true, List.nil_append, Nat.zero_add]
  rw [if_pos (by omega), if_pos (by omega)]
 ·intro again
  have : ¬ (a.length : Int) < (a.length : Int) := by omega
  simp [this]
theorem qD4 (k : Nat) (a : List (Int × Int × Int × List (ByteArray) × List (Bool) × Int)) (hk : 1048576 < k) (hb : qBJ a) : qCg k ((a, ()), ()) = some ((a, ()), ((), ())) := by
 unfold qCg
 have hl : a.length ≤ 1048576 := hb.1
 have hcap : capMax = 274877906944 := rfl
 refine loop_app (A := Int × Int × Int × List (ByteArray) × List (Bool) × Int) a (fun i out => (([], ()), ((out, ()), (a, ((a.length : Int), ((i : Int), ())))))) ((a, ()), ((), ())) ?_ ?_ k (by omega)
 ·intro again i out x ho hi hx
  obtain ⟨h1, h2⟩ := held_lens hb hx
  have w : wi64 ((i : Int) + 1) = ((i + 1 : Nat) : Int) := by rw [show wi64 ((i : Int) + 1) = (i : Int) + 1 from qAH _ (by omega)]; omega
  have p1 : (i : Int) < (a.length : Int) := by omega
  have p2 : 0 ≤ (i : Int) := by omega
  have c3 : out.length + 1 ≤ capMax := by omega
  obtain ⟨x1, x2, x3, x4, x5, x6⟩ := x
  simp only at h1 h2
  have e : qDQ k (x4, ()) = some (x4, ((), ())) := by
   unfold qDQ
   rw [if_pos (by simp; omega)]
   simp
  simp only [Ty.rd, Int.toNat_natCast, qBR hx, p1, p2, w, c3, e, Option.bind_some, List.length_nil, List.length_cons, decide_true, and_self, if_true, List.nil_append, Nat.zero_add]
  rw [if_pos (by omega)]
 ·intro again
  have : ¬ (a.length : Int) < (a.length : Int) := by omega
  simp [this]
abbrev UserA := Int × Int × Int × ByteArray × ByteArray × Int × List (Int) × Int × Int × ByteArray × ByteArray × Int × List (Int) × Int × (List (Int × Int × Int × List (ByteArray) × List (Bool) × Int)) × Int × Unit
theorem qF6 {a0 a1 a2 : Int} {a3 a4 : ByteArray} {a5 : Int} {a6 : List Int} {a7 a8 : Int} {a9 a10 : ByteArray} {a11 : Int} {a12 : List Int} {a13 : Int} {a14 : List (Int × Int × Int × List (ByteArray) × List (Bool) × Int)} {a15 : Int} (hb : qCF (a0, (a1, (a2, (a3, (a4, (a5, (a6, (a7, (a8, (a9, (a10, (a11, (a12, (a13, (a14, (a15, ()))))))))))))))))) :
  qBL (a2, (a3, (a4, (a5, (a6, (a7, (a8, (a9, (a10, (a11, (a12, (a13, ())))))))))))) ∧ qBJ a14 := by
 unfold qCF at hb
 obtain ⟨b3, b4, b6, b9, b10, b12, b14, b⟩ := hb
 exact ⟨⟨b3, b4, b6, b9, b10, b12, trivial⟩, b14⟩
theorem bd_userOf {a0 a1 a2 : Int} {a3 a4 : ByteArray} {a5 : Int} {a6 : List Int} {a7 a8 : Int} {a9 a10 : ByteArray} {a11 : Int} {a12 : List Int} {a13 : Int} {a14 : List (Int × Int × Int × List (ByteArray) × List (Bool) × Int)} {a15 : Int}
  (h1 : qBL (a2, (a3, (a4, (a5, (a6, (a7, (a8, (a9, (a10, (a11, (a12, (a13, ()))))))))))))) (h2 : qBJ a14) : qCF (a0, (a1, (a2, (a3, (a4, (a5, (a6, (a7, (a8, (a9, (a10, (a11, (a12, (a13, (a14, (a15, ())))))))))))))))) := by
 unfold qBL at h1
 obtain ⟨b3, b4, b6, b9, b10, b12, b⟩ := h1
 exact ⟨b3, b4, b6, b9, b10, b12, h2, trivial⟩
theorem s_l22CopyUser_is (k : Nat) (x : UserA) (hk : 1048576 < k) (hb : qCF x) : qCS k (x, ()) = some (x, ((), ())) := by
 obtain ⟨a0, a1, a2, a3, a4, a5, a6, a7, a8, a9, a10, a11, a12, a13, a14, a15, ⟨⟩⟩ := x
 obtain ⟨h1, h2⟩ := qF6 hb
 have e1 := s_l17Copy_is k (a2, (a3, (a4, (a5, (a6, (a7, (a8, (a9, (a10, (a11, (a12, (a13, ())))))))))))) (qDv h1).1 (qDv h1).2
 have e2 := s_l20Copy_is k a14 hk h2
 unfold qCS
 simp only [e1, e2, Option.bind_some]
theorem i_copyUser_is (k : Nat) (x : UserA) (hk : 1048576 < k) (hb : qCF x) : qEC k (x, ()) = some (x, ((), ())) := by
 obtain ⟨a0, a1, a2, a3, a4, a5, a6, a7, a8, a9, a10, a11, a12, a13, a14, a15, ⟨⟩⟩ := x
 obtain ⟨h1, h2⟩ := qF6 hb
 have e1 := qGr k (a2, (a3, (a4, (a5, (a6, (a7, (a8, (a9, (a10, (a11, (a12, (a13, ())))))))))))) (qDv h1).1 (qDv h1).2
 have e2 := qD4 k a14 hk h2
 unfold qEC
 simp only [e1, e2, Option.bind_some]
theorem MH_User (k : Nat) (hk : 4611686018427387904 < k) (n : Int) (hn : 0 ≤ n) (hn' : n ≤ 1000) {a0 a1 a2 : Int} {a3 a4 : ByteArray} {a5 : Int} {a6 : List Int} {a7 a8 : Int} {a9 a10 : ByteArray} {a11 : Int} {a12 : List Int} {a13 : Int} {a14 : List (Int × Int × Int × List (ByteArray) × List (Bool) × Int)} {a15 : Int} (hb : qCF (a0, (a1, (a2, (a3, (a4, (a5, (a6, (a7, (a8, (a9, (a10, (a11, (a12, (a13, (a14, (a15, ()))))))))))))))))) :
  ∃ (m1 m2 : List Int) (m3 : List (Int × Int × Int × List (ByteArray) × List (Bool) × Int)) (n' : Int), n ≤ n' ∧ n' ≤ 2199100000000 ∧
   qDA k ((a0, (a1, (a2, (a3, (a4, (a5, (a6, (a7, (a8, (a9, (a10, (a11, (a12, (a13, (a14, (a15, ())))))))))))))))), (n, ())) = some (n', (((), ((), ((), ((), ((), ((), (m1, ((), ((), ((), ((), ((), (m2, ((), (m3, ((), ())))))))))))))))), ((), ()))) ∧
   qDB k ((a0, (a1, (a2, (a3, (a4, (a5, (m1, (a7, (a8, (a9, (a10, (a11, (m2, (a13, (m3, (a15, ())))))))))))))))), (n, ())) = some (n', ((), ((), ()))) := by
 unfold qCF at hb
 obtain ⟨b3, b4, b6, b9, b10, b12, b14, b⟩ := hb
 have b6 : a6.length ≤ 1048576 := b6
 have b12 : a12.length ≤ 1048576 := b12
 have b14' : a14.length ≤ 1048576 := b14.1
 obtain ⟨m1, n1, e1, e2, e3, e4, e5⟩ := MH_IntS k a6 n hn (by omega) (by omega) b6
 obtain ⟨m2, n2, f1, f2, f3, f4, f5⟩ := MH_IntS k a12 n1 (by omega) (by omega) (by omega) b12
 obtain ⟨m3, n3, g1, g2, g3, g4, g5⟩ := MH_HeldS k a14 n2 (by omega) _ rfl (by omega) hk b14
 have p1 : ¬ n1 < 0 := by omega
 have p2 : ¬ n2 < 0 := by omega
 have p3 : ¬ n3 < 0 := by omega
 refine ⟨m1, m2, m3, n3, by omega, by omega, ?_, ?_⟩
 ·unfold qDA qEq qEL qEr
  simp only [e4, f4, g4, Option.bind_some]
 ·unfold qDB qEs qEM qEt
  simp only [e5, f5, g5, p1, p2, p3, decide_false, Bool.false_eq_true, if_false, Option.bind_some]
theorem getO_lt : ∀ {t : Ty} {x : t.den} {off : Nat} {o : OL}, t.getO x off = some o → off < t.w
 | .ols _ _, _, 0, _, _ => Nat.zero_lt_one
 | .ols _ _, _, _ + 1, _, h => by simp [Ty.getO] at h
 | .pair a b, x, off, o, h => by
  simp only [Ty.getO] at h
  show off < a.w + b.w
  split at h
  ·omega
  ·have := getO_lt h
   omega
 | .int _, _, _, _, h => by simp [Ty.getO] at h
 | .bool, _, _, _, h => by simp [Ty.getO] at h
 | .str, _, _, _, h => by simp [Ty.getO] at h
 | .list _, _, _, _, h => by simp [Ty.getO] at h
 | .unit, _, _, _, h => by simp [Ty.getO] at h
 | .nm, _, _, _, h => by simp [Ty.getO] at h
 | .olq _ _, _, _, _, h => by simp [Ty.getO] at h
theorem dec_enc {lk : Nat → Option OL} : ∀ {t : Ty} {x : t.den} {n : Nat}, 0 < n → (∀ off o, t.getO x off = some o → lk (n + off) = some o) → t.dec lk (t.enc x n) = some x
 | .ols e u, x, n, hn, h => by
  obtain ⟨m, rfl⟩ : ∃ m, n = m + 1 := ⟨n - 1, by omega⟩
  have := h 0 ⟨e, u, x⟩ rfl
  show decN lk e u (m + 1) = some x
  rw [Nat.add_zero] at this
  simp [decN, this]
 | .pair a b, x, n, hn, h => by
  have h1 := dec_enc (t := a) (x := x.1) (n := n) hn fun off o ho => h off o (by simp only [Ty.getO]; rw [if_pos (getO_lt ho)]; exact ho)
  have h2 := dec_enc (t := b) (x := x.2) (n := n + a.w) (by omega) fun off o ho => by
   rw [Nat.add_assoc]
   exact h (a.w + off) o (by simp only [Ty.getO]; rw [if_neg (by omega), Nat.add_sub_cancel_left]; exact ho)
  show (match a.dec lk (a.enc x.1 n), b.dec lk (b.enc x.2 (n + a.w)) with | some y, some z => some (y, z) | _, _ => none) = _
  rw [h1, h2]
 | .int _, _, _, _, _ => rfl
 | .bool, _, _, _, _ => rfl
 | .str, _, _, _, _ => rfl
 | .list _, _, _, _, _ => rfl
 | .unit, _, _, _, _ => rfl
 | .nm, _, _, _, _ => rfl
 | .olq _ _, x, _, _, _ => by cases x <;> rfl
theorem nms_enc : ∀ {t : Ty} {x : t.den} {n : Nat}, 0 < n → (t.nms (t.enc x n)).Pairwise (· < ·) ∧ ∀ m ∈ t.nms (t.enc x n), n ≤ m ∧ m < n + t.w
 | .ols e u, x, n, hn => by
  obtain ⟨m, rfl⟩ : ∃ m, n = m + 1 := ⟨n - 1, by omega⟩
  show (nmsN (m + 1)).Pairwise _ ∧ ∀ q ∈ nmsN (m + 1), _
  have : (Ty.ols e u).w = 1 := rfl
  simp [nmsN, this]
 | .pair a b, x, n, hn => by
  obtain ⟨h1, h2⟩ := nms_enc (t := a) (x := x.1) (n := n) hn
  obtain ⟨h3, h4⟩ := nms_enc (t := b) (x := x.2) (n := n + a.w) (by omega)
  have hw : (Ty.pair a b).w = a.w + b.w := rfl
  show (a.nms (a.enc x.1 n) ++ b.nms (b.enc x.2 (n + a.w))).Pairwise _ ∧ ∀ m ∈ a.nms (a.enc x.1 n) ++ b.nms (b.enc x.2 (n + a.w)), _
  refine ⟨List.pairwise_append.2 ⟨h1, h3, fun p hp q hq => ?_⟩, fun m hm => ?_⟩
  ·have := h2 p hp
   have := h4 q hq
   omega
  ·rcases List.mem_append.1 hm with hm | hm
   ·have := h2 m hm; omega
   ·have := h4 m hm; omega
 | .int _, _, _, _ => ⟨List.Pairwise.nil, by simp [Ty.nms]⟩
 | .bool, _, _, _ => ⟨List.Pairwise.nil, by simp [Ty.nms]⟩
 | .str, _, _, _ => ⟨List.Pairwise.nil, by simp [Ty.nms]⟩
 | .list _, _, _, _ => ⟨List.Pairwise.nil, by simp [Ty.nms]⟩
 | .unit, _, _, _ => ⟨List.Pairwise.nil, by simp [Ty.nms]⟩
 | .nm, _, _, _ => ⟨List.Pairwise.nil, by simp [Ty.nms]⟩
 | .olq _ _, _, _, _ => ⟨List.Pairwise.nil, by simp [Ty.nms]⟩
def encP (t : Ty) (xs : List t.den) : List (t.nmd.den × t.den) := xs.mapIdx fun i x => (t.enc x (i * t.w + 1), x)
theorem encP_fst (t : Ty) (xs : List t.den) : (encP t xs).map Prod.fst = t.encs xs := by
 apply List.ext_getElem?
 intro i
 simp only [encP, Ty.encs, List.getElem?_map, List.getElem?_mapIdx]
 cases xs[i]? <;> rfl
theorem encP_snd (t : Ty) (xs : List t.den) : (encP t xs).map Prod.snd = xs := by
 apply List.ext_getElem?
 intro i
 simp only [encP, List.getElem?_map, List.getElem?_mapIdx]
 cases xs[i]? <;> rfl
theorem encP_dec {t : Ty} {xs : List t.den} {y : t.nmd.den × t.den} (h : y ∈ encP t xs) : t.dec (t.lookN xs) y.1 = some y.2 ∧ ∃ n, y.1 = t.enc y.2 n := by
 obtain ⟨i, hi⟩ := List.getElem?_of_mem h
 unfold encP at hi
 rw [List.getElem?_mapIdx] at hi
 cases hx : xs[i]? with
 | none => rw [hx] at hi; cases hi
 | some x =>
  rw [hx] at hi
  injection hi with hi
  subst hi
  refine ⟨dec_enc (by omega) fun off o ho => ?_, _, rfl⟩
  have hlt := getO_lt ho
  rw [show i * t.w + 1 + off = (i * t.w + off) + 1 by omega]
  have e1 : (i * t.w + off) / t.w = i := by rw [Nat.mul_comm, Nat.mul_add_div (by omega), Nat.div_eq_of_lt hlt, Nat.add_zero]
  have e2 : (i * t.w + off) % t.w = off := by rw [Nat.mul_comm, Nat.mul_add_mod, Nat.mod_eq_of_lt hlt]
  simp only [Ty.lookN, e1, e2, hx, ho]
theorem decs_map {lk : Nat → Option OL} {t : Ty} : ∀ {Y : List (t.nmd.den × t.den)}, (∀ y ∈ Y, t.dec lk y.1 = some y.2) → t.decs lk (Y.map Prod.fst) = some (Y.map Prod.snd)
 | [], _ => rfl
 | y :: Y, h => by
  have h1 := h y (by simp)
  have h2 := decs_map (Y := Y) fun z hz => h z (List.mem_cons_of_mem _ hz)
  show (match t.dec lk y.1, t.decs lk (Y.map Prod.fst) with | some x, some xs => some (x :: xs) | _, _ => none) = _
  rw [h1, h2]
  rfl
theorem flatMap_sub {A B : Type} {f : A → List B} {l l' : List A} (h : l.Sublist l') : (l.flatMap f).Sublist (l'.flatMap f) := by
 induction h with
 | slnil => exact List.Sublist.refl _
 | cons a _ ih => rw [List.flatMap_cons]; exact ih.trans (List.sublist_append_right _ _)
 | cons_cons a _ ih => rw [List.flatMap_cons, List.flatMap_cons]; exact List.Sublist.append_left ih _
theorem encs_nms (t : Ty) (xs : List t.den) : ((t.encs xs).flatMap t.nms).Nodup := by
 have key : ∀ (xs : List t.den) (s : Nat), ((xs.mapIdx fun i x => t.enc x ((s + i) * t.w + 1)).flatMap t.nms).Pairwise (· < ·) ∧ ∀ m ∈ (xs.mapIdx fun i x => t.enc x ((s + i) * t.w + 1)).flatMap t.nms, s * t.w + 1 ≤ m := by
  intro xs
  induction xs with
  | nil => intro s; simp
  | cons x xs ih =>
   intro s
   rw [List.mapIdx_cons, List.flatMap_cons]
   have e : (xs.mapIdx fun i x => t.enc x ((s + (i + 1)) * t.w + 1)) = xs.mapIdx fun i x => t.enc x ((s + 1 + i) * t.w + 1) := by
    congr 1
    funext i x
    rw [show s + (i + 1) = s + 1 + i by omega]
   rw [e]
   obtain ⟨h1, h2⟩ := ih (s + 1)
   obtain ⟨h3, h4⟩ := nms_enc (t := t) (x := x) (n := (s + 0) * t.w + 1) (by omega)
   have hw : (s + 1) * t.w = s * t.w + t.w := by rw [Nat.add_mul, Nat.one_mul]
   rw [hw] at h2
   simp only [Nat.add_zero] at h3 h4 ⊢
   refine ⟨List.pairwise_append.2 ⟨h3, h1, fun p hp q hq => ?_⟩, fun m hm => ?_⟩
   ·have := h4 p hp
    have := h2 q hq
    omega
   ·rcases List.mem_append.1 hm with hm | hm
    ·exact (h4 m hm).1
    ·have := h2 m hm; omega
 have := (key xs 0).1
 have e : (xs.mapIdx fun i x => t.enc x ((0 + i) * t.w + 1)) = t.encs xs := by
  unfold Ty.encs
  congr 1
  funext i x
  rw [Nat.zero_add]
 rw [e] at this
 exact this.imp fun h => Nat.ne_of_lt h
/-- Rows that are picked under names are those rows. -/
theorem treeF_pick {t : Ty} {Y O : Type} {G : List t.nmd.den × Y → Option (List t.nmd.den × O)} {xs : List t.den} {y : Y} {o : O} {Z : List (t.nmd.den × t.den)} (hZ : Z.Sublist (encP t xs)) (hG : G (t.encs xs, y) = some (Z.map Prod.fst, o)) :
  treeF t G (xs, y) = some (Z.map Prod.snd, o) := by
 unfold treeF
 simp only [hG]
 rw [decs_map fun z hz => (encP_dec (hZ.subset hz)).1]
 have : ((Z.map Prod.fst).flatMap t.nms).Nodup := by
  refine (encs_nms t xs).sublist ?_
  rw [← encP_fst]
  exact flatMap_sub (hZ.map _)
 simp only [this, if_true]
abbrev HeldN := Int × Int × Int × Nat × Nat × Int
abbrev qAm := Int × Int × Int × List (ByteArray) × List (Bool) × Int
def hS (n : Nat) (S : Nat → Bool) : List Bool := (List.range n).map S
theorem rd_bool (n : Nat) (S : Nat → Bool) (j : Nat) (hj : j < n) : Ty.rd (t := .bool) (hS n S) (j : Int) = S j := by
 show (hS n S).getD j _ = _
 unfold hS
 rw [List.getD_eq_getElem?_getD, List.getElem?_map, List.getElem?_range hj]
 rfl
theorem index_bool (k : Nat) (hk : 1048576 < k) (n : Nat) (hn : n ≤ 15) (S : Nat → Bool) : qAM k (hS n S, (false, ())) = some (!(List.range n).all S, ((), ((), ()))) := by
 have l2 : (hS n S).length = n := by simp [hS]
 have h : qAl k (hS n S, (false, ())) = some (match (List.range n).find? (fun j => !S j) with | some i => (((i : Nat) : Int), ((), ((), ()))) | none => (-1, ((), ((), ())))) := by
  unfold qAl
  rw [l2]
  refine qE8 (fun j => (hS n S, (false, ((n : Int), (((j : Nat) : Int), ()))))) n (fun j => !S j) (fun i => (((i : Nat) : Int), ((), ((), ())))) (-1, ((), ((), ()))) ?_ ?_ k (by omega)
  ·intro ag j hj
   have q1 : (0 : Int) ≤ (j : Int) ∧ (j : Int) < (n : Int) := by omega
   have w3 : wi64 ((j : Int) + 1) = ((j + 1 : Nat) : Int) := (qAH _ (by omega)).trans (by omega)
   simp only [l2, q1, w3, and_self, decide_true, if_true, rd_bool n S j hj]
   cases S j <;> simp
  ·intro ag
   simp only [Int.lt_irrefl, decide_false, Bool.false_eq_true, if_false]
 unfold qAM
 rw [h]
 cases hf : (List.range n).find? (fun j => !S j) with
 | none =>
  have ha : (List.range n).all S = true := by
   rw [List.all_eq_true]
   intro j hj
   have := List.find?_eq_none.1 hf j hj
   simpa using this
  simp [ha]
 | some i =>
  have h1 := List.find?_some hf
  have h2 := List.mem_of_find?_eq_some hf
  have ha : (List.range n).all S = false := by
   rw [List.all_eq_false]
   exact ⟨i, h2, by simpa using h1⟩
  simp [ha]
theorem join_flat (xs : List (List UInt8)) : Lib.join xs [] = xs.flatten := by
 unfold Lib.join
 induction xs with
 | nil => rfl
 | cons x xs ih =>
  cases xs with
  | nil => simp [List.intercalate]
  | cons y ys =>
   simp only [List.intercalate, List.intersperse, List.flatten_cons, List.nil_append] at ih ⊢
   rw [ih]
def catS (l : List ByteArray) : ByteArray := ⟨((l.map (·.data.toList)).flatten).toArray⟩
theorem join_is (k : Nat) (l : List ByteArray) (h1 : l.length ≤ 15) (h2 : ∀ x ∈ l, x.size ≤ 120) : qA9 k (l, (⟨#[]⟩, ())) = some (catS l, ((), ((), ()))) := by
 unfold qA9 joinF catS
 have e : (⟨#[]⟩ : ByteArray).data.toList = [] := rfl
 have hlen : ∀ l : List ByteArray, (∀ x ∈ l, x.size ≤ 120) → ((l.map (·.data.toList)).flatten).length ≤ l.length * 120 := by
  intro l
  induction l with
  | nil => intro _; simp
  | cons x l ih =>
   intro h
   have h1 := ih fun y hy => h y (by simp [hy])
   have h2 : x.data.toList.length ≤ 120 := by have := h x (by simp); rw [Array.length_toList]; exact this
   simp only [List.map_cons, List.flatten_cons, List.length_append, List.length_cons]
   omega
 have := hlen l h2
 simp only [e, join_flat]
 rw [if_pos (by omega)]
abbrev HT : Ty := (.pair (.int .i64) (.pair (.int .i64) (.pair (.int .i64) (.pair (.ols 9 .str) (.pair (.ols 4 .bool) (.int .i64))))))
abbrev HeldU := Int × Int × Int × List ByteArray × List Bool × Int × Unit
def shelfB (a : List qAP.den) : Bool := (qBx (gS a) (fun _ => (decide ((a.length : Int) ≤ 3), ((), ()))) a.length 0 ()).1
theorem qF7 (a : List qAP.den) : qBx (gS a) (fun _ => (decide ((a.length : Int) ≤ 3), ((), ()))) a.length 0 () = (shelfB a, ((), ())) := rfl
theorem gS_or (a : List qAP.den) : ∀ i, gS a i () = .inr () ∨ ∃ o, gS a i () = .inl (false, o) := fun i => by
 unfold gS
 split
 ·exact .inl rfl
 ·exact .inr ⟨_, rfl⟩
theorem gH_all {ps : List ByteArray} {hv : List Bool} {fin : Int → Bool × Unit × Unit} : ∀ m i (n : Int), (qBx (gH ps hv) fin m i n).1 = true → ∀ j, i ≤ j → j < i + m → goodP ps hv j = true := by
 intro m
 induction m with
 | zero => intro i n _ j h1 h2; omega
 | succ m ih =>
  intro i n h j h1 h2
  by_cases hg : goodP ps hv i = true
  ·by_cases hj : j = i
   ·rw [hj]; exact hg
   ·refine ih (i + 1) (if Ty.rd (t := .bool) hv i then n + 1 else n) ?_ j (by omega) (by omega)
    simpa [qBx, gH, hg] using h
  ·simp [qBx, gH, hg] at h
structure HeldOk (r : qAm) : Prop where
 cnt : 2 ≤ r.2.2.1 ∧ r.2.2.1 ≤ 15
 ps : (r.2.2.2.1.length : Int) = r.2.2.1
 hv : (r.2.2.2.2.1.length : Int) = r.2.2.1
 size : ∀ x ∈ r.2.2.2.1, x.size ≤ 120
theorem heldB_ok {r : qAm} (h : heldB (qAe r) = true) : HeldOk r := by
 unfold heldB qAe at h
 simp only [Bool.and_eq_true, decide_eq_true_eq] at h
 obtain ⟨⟨_, _, h3, h4, h5, _⟩, h6⟩ := h
 refine ⟨h3, h4, h5, fun x hx => ?_⟩
 obtain ⟨j, hj, rfl⟩ := List.getElem_of_mem hx
 have := gH_all _ _ _ h6 j (by omega) (by omega)
 unfold goodP at this
 simp only [Bool.and_eq_true, decide_eq_true_eq] at this
 have e : Ty.rd (t := .str) r.2.2.2.1 ((j : Nat) : Int) = r.2.2.2.1[j] := by
  show r.2.2.2.1.getD j _ = _
  rw [List.getD_eq_getElem?_getD, List.getElem?_eq_getElem hj]; rfl
 rw [e] at this
 exact this.1
structure ShelfR (a : List qAm) : Prop where
 len : a.length ≤ 3
 ok : ∀ r ∈ a, HeldOk r
 once : ∀ (i j : Nat) x y, a[i]? = some x → a[j]? = some y → j < i → ¬ (y.1 = x.1 ∧ y.2.1 = x.2.1)
theorem qHA {a : List qAm} {i : Nat} {x : qAm} (h : a[i]? = some x) : Ty.rd (t := qAP) a ((i : Nat) : Int) = x := by
 show a.getD i _ = x
 rw [List.getD_eq_getElem?_getD, h]; rfl
theorem shelfB_ok {a : List qAm} (h : shelfB a = true) : ShelfR a := by
 have hlen := foldE_fin (gS_or a) a.length 0 h
 have hall := foldE_all (gS_or a) a.length 0 h
 have hrow : ∀ (i : Nat) x, a[i]? = some x → heldB (qAe x) = true ∧ ∀ j, j < i → sameH a j i = false := fun i x hx => by
  have hi : i < a.length := (List.getElem?_eq_some_iff.1 hx).1
  have := hall i (by omega) (by omega)
  unfold gS at this
  split at this
  ·rename_i hc
   rw [qHA hx] at hc
   simp only [Bool.and_eq_true] at hc
   exact ⟨hc.1, (qIH _ _).1 hc.2⟩
  ·cases this
 refine ⟨by simp only [decide_eq_true_eq] at hlen; omega, fun r hr => ?_, fun i j x y hx hy hji hh => ?_⟩
 ·obtain ⟨i, hi, rfl⟩ := List.getElem_of_mem hr
  exact heldB_ok (hrow i _ (List.getElem?_eq_getElem hi)).1
 ·have := (hrow i x hx).2 j hji
  unfold sameH at this
  rw [qHA hx, qHA hy] at this
  simp [hh.1, hh.2] at this
theorem bd_held {a : List qAm} (h : ShelfR a) : qBJ a := ⟨by have := h.len; omega, fun r hr => by
 have := h.ok r hr
 have h1 := this.cnt
 have h2 := this.ps
 have h3 := this.hv
 exact ⟨by show r.2.2.2.1.length ≤ 1048576; omega, by show r.2.2.2.2.1.length ≤ 1048576; omega, trivial⟩⟩
theorem qB6 (k : Nat) (a : List qAm) (hk : 1048576 < k) (hb : qBJ a) : qBZ k ((a, ()), ()) = some ((a, ()), ((), ())) := by
 unfold qBZ
 have hl : a.length ≤ 1048576 := hb.1
 have hcap : capMax = 274877906944 := rfl
 refine loop_app (A := Int × Int × Int × List (ByteArray) × List (Bool) × Int) a (fun i out => ((a, ()), (([], ()), ((out, ()), ((i : Int), ()))))) ((a, ()), ((), ())) ?_ ?_ k (by omega)
 ·intro again i out x ho hi hx
  obtain ⟨h1, h2⟩ := held_lens hb hx
  have w : wi64 ((i : Int) + 1) = ((i + 1 : Nat) : Int) := by rw [show wi64 ((i : Int) + 1) = (i : Int) + 1 from qAH _ (by omega)]; omega
  have p1 : (i : Int) < (a.length : Int) := by omega
  have p2 : 0 ≤ (i : Int) := by omega
  have c1 : 0 + x.2.2.2.1.length ≤ capMax := by omega
  have c2 : 0 + x.2.2.2.2.1.length ≤ capMax := by omega
  have c3 : out.length + 1 ≤ capMax := by omega
  obtain ⟨x1, x2, x3, x4, x5, x6⟩ := x
  simp only at c1 c2
  simp only [Ty.rd, Int.toNat_natCast, qBR hx, p1, p2, w, c1, c2, c3, List.length_nil, List.length_cons, decide_true, and_self, if_true, List.nil_append, Nat.zero_add]
  rw [if_pos (by omega), if_pos (by omega)]
 ·intro again
  have : ¬ (a.length : Int) < (a.length : Int) := by omega
  simp [this]
def fullB (l : List Bool) : Bool := (List.range l.length).all (fun j => l.getD j false)
theorem hS_of (l : List Bool) : hS l.length (fun j => l.getD j false) = l := by
 refine List.ext_getElem (by simp [hS]) fun i h1 h2 => ?_
 simp [hS, List.getD, h2]
theorem contains_is (k : Nat) (hk : 1048576 < k) (l : List Bool) (hl : l.length ≤ 15) : qAM k (l, (false, ())) = some (!fullB l, ((), ((), ()))) := by
 have := index_bool k hk l.length hl (fun j => l.getD j false)
 rw [hS_of] at this
 exact this
theorem s_l20All_is (k : Nat) (hk : 1048576 < k) (x : HeldU) (hl : x.2.2.2.2.1.length ≤ 1048576) : qHu k (x, ()) = some (fullB x.2.2.2.2.1, ((), ())) := by
 obtain ⟨x1, x2, x3, x4, x5, x6, ⟨⟩⟩ := x
 unfold qHu fullB
 simp only at hl ⊢
 refine (qEd (X := HeldU × Int × Unit) (fun j => ((x1, (x2, (x3, (x4, (x5, (x6, ())))))), (((j : Nat) : Int), ()))) x5.length (fun j => !x5.getD j false) (some (false, ((), ()))) (some (true, ((), ()))) ?_ ?_ k (by omega)).trans ?_
 ·intro ag j hj
  have q1 : (0 : Int) ≤ (j : Int) ∧ (j : Int) < (x5.length : Int) := by omega
  have w3 : wi64 ((j : Int) + 1) = ((j + 1 : Nat) : Int) := (qAH _ (by omega)).trans (by omega)
  have r : Ty.rd (t := .bool) x5 ((j : Nat) : Int) = x5.getD j false := rfl
  simp only [q1, w3, r, and_self, decide_true, if_true]
 ·intro ag
  simp
 ·have e : ∀ l : List Nat, (l.all fun j => !!x5.getD j false) = l.all fun j => x5.getD j false := fun l => by simp
  simp only [e]
  cases (List.range x5.length).all (fun j => x5.getD j false) <;> simp
theorem catS_snoc (l : List ByteArray) (x : ByteArray) : catS (l ++ [x]) = catS l ++ x := by
 unfold catS
 apply ByteArray.ext
 rw [ByteArray.data_append]
 simp
theorem drop_take_del {A : Type} (L R Z : List A) (i : Nat) (hi : i < L.length) : List.take (i + (L.drop (i + 1)).length) (List.take (i + (L.drop (i + 1)).length) (List.take i L ++ (L.drop (i + 1) ++ R)) ++ Z) = L.eraseIdx i := by
 have h1 : (List.take i L ++ L.drop (i + 1)).length = i + (L.drop (i + 1)).length := by rw [List.length_append, List.length_take]; omega
 have h2 : List.take (i + (L.drop (i + 1)).length) (List.take i L ++ (L.drop (i + 1) ++ R)) = List.take i L ++ L.drop (i + 1) := by
  rw [← List.append_assoc, ← h1, List.take_left']
  rfl
 rw [h2, ← h1, List.take_left', List.eraseIdx_eq_take_drop_succ]
 rfl
theorem del_N (k : Nat) (L : List HeldN) (i : Nat) (hi : i < L.length) (hl : L.length ≤ 1048576) : qAT k (L, ((i : Int), (((i + 1 : Nat) : Int), ()))) = some (L.eraseIdx i, ((), ((), ((), ())))) := by
 have hcap : capMax = 274877906944 := rfl
 unfold qAT
 have g1 : (0 : Int) ≤ (L.length : Int) ∧ (L.length : Int) ≤ (L.length : Int) := by omega
 have g2 : (0 : Int) ≤ ((i + 1 : Nat) : Int) ∧ ((i + 1 : Nat) : Int) ≤ (L.length : Int) := by omega
 have g3 : (0 : Int) ≤ (i : Int) ∧ (i : Int) ≤ ((i + 1 : Nat) : Int) := by omega
 have g4 : ¬ (i : Int) = ((i + 1 : Nat) : Int) := by omega
 have g5 : (0 : Int) ≤ (i : Int) ∧ (i : Int) ≤ (L.length : Int) := by omega
 have t1 : List.take L.length L = L := List.take_length
 have dl : (L.drop (i + 1)).length = L.length - (i + 1) := List.length_drop
 have g6 : (i : Int) + ((L.drop (i + 1)).length : Int) ≤ (L.length : Int) ∧ (i : Int) - 0 + ((L.drop (i + 1)).length : Int) ≤ (capMax : Int) := by omega
 have e1 : ∀ n : Nat, ((i : Int) + (n : Int)).toNat = i + n := fun n => by omega
 have e2 : ∀ n : Nat, ((0 : Int) + ((i : Int) + (n : Int) - 0)).toNat = i + n := fun n => by omega
 have lenall : (List.take i L ++ (L.drop (i + 1) ++ List.drop (i + (L.drop (i + 1)).length) L)).length = L.length := by
  simp only [List.length_append, List.length_take, List.length_drop]
  omega
 have g7 : (0 : Int) ≤ (L.length : Int) ∧ (L.length : Int) ≤ (L.length : Int) - 0 := by omega
 have g8 : (0 : Int) ≤ (i : Int) + ((L.drop (i + 1)).length : Int) - 0 ∧ (i : Int) + ((L.drop (i + 1)).length : Int) - 0 ≤ (L.length : Int) := by omega
 simp only [g1, g2, g3, g4, g5, Int.toNat_natCast, t1, decide_false, Bool.false_eq_true, if_false, and_self, if_true]
 rw [if_pos (by first | exact g6 | omega)]
 simp only [e1, e2, lenall]
 rw [if_pos (by refine ⟨trivial, ?_⟩; omega), if_pos g8]
 have z : (0 : Int).toNat = 0 := rfl
 rw [z, List.drop_zero, drop_take_del L _ _ i hi]
theorem map_eraseIdx {A B : Type} (f : A → B) (l : List A) (i : Nat) : (l.eraseIdx i).map f = (l.map f).eraseIdx i := by
 rw [List.eraseIdx_eq_take_drop_succ, List.eraseIdx_eq_take_drop_succ, List.map_append, List.map_take, List.map_drop]
theorem del_at (k : Nat) (L : List qAm) (i : Nat) (hi : i < L.length) (hl : L.length ≤ 1048576) : qAJ k (L, ((i : Int), (((i + 1 : Nat) : Int), ()))) = some (L.eraseIdx i, ((), ((), ((), ())))) := by
 unfold qAJ
 have hlen : (encP HT L).length = L.length := by rw [← List.length_map (f := Prod.snd), encP_snd]
 have := treeF_pick (t := HT) (Y := Int × Int × Unit) (O := Unit × Unit × Unit × Unit) (G := qAT k) (xs := L) (y := ((i : Int), (((i + 1 : Nat) : Int), ()))) (o := ((), ((), ((), ())))) (Z := (encP HT L).eraseIdx i) (List.eraseIdx_sublist _ _) (by
  have := del_N k (HT.encs L) i (Nat.lt_of_lt_of_eq hi (Go.Eng.encs_len HT L).symm) (Nat.le_trans (Nat.le_of_eq (Go.Eng.encs_len HT L)) hl)
  refine this.trans (congrArg (fun q => some (q, ((), ((), ((), ()))))) ?_)
  rw [map_eraseIdx, encP_fst]
  rfl)
 rw [this, map_eraseIdx, encP_snd]
abbrev HeldQ := Int × Int × Int × Option (List ByteArray) × Option (List Bool) × Int
abbrev HQ : Ty := (.pair (.int .i64) (.pair (.int .i64) (.pair (.int .i64) (.pair (.olq 9 .str) (.pair (.olq 4 .bool) (.int .i64))))))
theorem loop_gone {X R A C S : Type} {step : (X → Option R) → X → Option R} (a : List A) (q : A → C) (lf : C → C) (st : Nat → List C → S → X) (f : S → A → S) (I : Nat → S → Prop) (s0 : S) {r : Option R}
  (hs : ∀ again i bs s x, I i s → i < a.length → a[i]? = some x → bs.length = a.length → bs[i]? = some (q x) → step again (st i bs s) = again (st (i + 1) (bs.set i (lf (q x))) (f s x)))
  (hI : ∀ i s x, I i s → I (i + 1) (f s x)) (he : ∀ again bs, bs.length = a.length → I a.length (a.foldl f s0) → step again (st a.length bs (a.foldl f s0)) = r) :
  ∀ k, a.length < k → I 0 s0 → qAG step k (st 0 (a.map q) s0) = r := by
 have key : ∀ (s p : List A) (k : Nat) (bs : List C) (s1 : S), p ++ s = a → s.length < k → bs.length = a.length → (∀ j, p.length ≤ j → bs[j]? = (a.map q)[j]?) → I p.length s1 → s.foldl f s1 = a.foldl f s0 → qAG step k (st p.length bs s1) = r := by
  intro s
  induction s with
  | nil =>
   intro p k bs s1 h hk hl _ hi hf
   obtain ⟨k, rfl⟩ : ∃ k', k = k' + 1 := ⟨k - 1, by omega⟩
   have : p = a := by simpa using h
   subst this
   have hf : s1 = p.foldl f s0 := hf
   subst hf
   exact he _ _ hl hi
  | cons x s ih =>
   intro p k bs s1 h hk hl hb hi hf
   obtain ⟨k, rfl⟩ : ∃ k', k = k' + 1 := ⟨k - 1, by omega⟩
   show step _ _ = _
   have hx : a[p.length]? = some x := by rw [← h]; simp
   have hbx : bs[p.length]? = some (q x) := by rw [hb _ (Nat.le_refl _), List.getElem?_map, hx]; rfl
   rw [hs _ _ _ _ x hi (List.getElem?_eq_some_iff.1 hx).1 hx hl hbx]
   have := ih (p ++ [x]) k (bs.set p.length (lf (q x))) (f s1 x) (by simpa using h) (by simpa using hk) (by simpa using hl) (fun j hj => by
    have hj' : p.length + 1 ≤ j := by simpa using hj
    rw [List.getElem?_set_ne (by omega)]
    exact hb j (by omega)) (by rw [List.length_append]; exact hI _ _ _ hi) hf
   rw [List.length_append] at this
   exact this
 intro k hk hi
 exact key a [] k (a.map q) s0 rfl hk (by simp) (fun _ _ => rfl) hi rfl
def stp (f id c : Int) (s : HeldU × List qAm × Int) (y : qAm) : HeldU × List qAm × Int :=
 if y.1 = f ∧ y.2.1 = id then (if y.2.2.1 = c then (qAe y, (s.2.1, (s.2.1.length : Int))) else s) else (s.1, (s.2.1 ++ [y], s.2.2))
theorem stp_none {f id c : Int} : ∀ (a : List qAm) (s : HeldU × List qAm × Int), (∀ r ∈ a, ¬ (r.1 = f ∧ r.2.1 = id)) → a.foldl (stp f id c) s = (s.1, (s.2.1 ++ a, s.2.2)) := by
 intro a
 induction a with
 | nil => intro s _; simp
 | cons y a ih =>
  intro s h
  have h1 := h y (by simp)
  have e : stp f id c s y = (s.1, (s.2.1 ++ [y], s.2.2)) := by unfold stp; rw [if_neg h1]
  rw [List.foldl_cons, e, ih _ fun r hr => h r (by simp [hr])]
  simp
theorem stp_one {f id c : Int} (u v : List qAm) (y : qAm) (s : HeldU × List qAm × Int) (hy : y.1 = f ∧ y.2.1 = id) (hu : ∀ r ∈ u, ¬ (r.1 = f ∧ r.2.1 = id)) (hv : ∀ r ∈ v, ¬ (r.1 = f ∧ r.2.1 = id)) (hs : s.2.1 = []) :
  (u ++ y :: v).foldl (stp f id c) s = if y.2.2.1 = c then (qAe y, (u ++ v, (u.length : Int))) else (s.1, (u ++ v, s.2.2)) := by
 rw [List.foldl_append, stp_none u s hu, List.foldl_cons]
 have e : stp f id c (s.1, (s.2.1 ++ u, s.2.2)) y = if y.2.2.1 = c then (qAe y, (u, (u.length : Int))) else (s.1, (u, s.2.2)) := by
  unfold stp
  rw [if_pos hy, hs]
  rfl
 rw [e]
 split <;> rw [stp_none v _ hv]
def putP (p : Nat) (t : ByteArray) (r : qAm) : qAm :=
 if r.2.2.2.2.1.getD p false then r else (r.1, (r.2.1, (r.2.2.1, (r.2.2.2.1.set p t, (r.2.2.2.2.1.set p true, r.2.2.2.2.2)))))
def newR (f id now : Int) (c p : Nat) (t : ByteArray) : qAm := putP p t (f, (id, ((c : Int), (List.replicate c ⟨#[]⟩, (List.replicate c false, now + 8)))))
def roll (a : List qAm) : List qAm := if a.length = 3 then a.drop 1 else a
def addR (a : List qAm) (f id now : Int) (c p : Nat) (t : ByteArray) : List qAm × ByteArray × Bool :=
 match (List.range a.length).find? (qGa a f id) with
 | none => (roll a ++ [newR f id now c p t], (⟨#[]⟩, false))
 | some i =>
  if (Ty.rd (t := qAP) a i).2.2.1 = (c : Int) then
   (if fullB (putP p t (Ty.rd (t := qAP) a i)).2.2.2.2.1 then (a.eraseIdx i, (catS (putP p t (Ty.rd (t := qAP) a i)).2.2.2.1, true))
    else (a.set i (putP p t (Ty.rd (t := qAP) a i)), (⟨#[]⟩, false)))
  else (roll (a.eraseIdx i) ++ [newR f id now c p t], (⟨#[]⟩, false))
theorem new_full {f id now : Int} {c p : Nat} {t : ByteArray} (hc : 2 ≤ c) (hp : p < c) : fullB (newR f id now c p t).2.2.2.2.1 = false := by
 have e : (List.replicate c false).getD p false = false := by simp [List.getD, List.getElem?_replicate, hp]
 unfold newR putP
 simp only [e, Bool.false_eq_true, if_false]
 unfold fullB
 rw [List.all_eq_false]
 refine ⟨if p = 0 then 1 else 0, ?_, ?_⟩
 ·simp; split <;> omega
 ·by_cases h : p = 0
  ·subst h
   have : 1 < c := by omega
   simp [List.getD, List.getElem?_set, List.getElem?_replicate, this]
  ·have : 0 < c := by omega
   simp [h, List.getD, List.getElem?_set, List.getElem?_replicate, this]
/-- The rest of the reference's function, behind the loop. -/
theorem putP_ok {p : Nat} {t : ByteArray} {r : qAm} (h : HeldOk r) (ht : t.size ≤ 120) : HeldOk (putP p t r) := by
 unfold putP
 split
 ·exact h
 ·refine ⟨h.cnt, by simpa using h.ps, by simpa using h.hv, fun x hx => ?_⟩
  rcases List.mem_or_eq_of_mem_set hx with hx | hx
  ·exact h.size x hx
  ·subst hx; exact ht
theorem find_split {a : List qAm} (hA : ShelfR a) (f id : Int) : match (List.range a.length).find? (qGa a f id) with
  | none => ∀ r ∈ a, ¬ (r.1 = f ∧ r.2.1 = id)
  | some i => ∃ u y v, a = u ++ y :: v ∧ u.length = i ∧ (y.1 = f ∧ y.2.1 = id) ∧ (∀ r ∈ u, ¬ (r.1 = f ∧ r.2.1 = id)) ∧ (∀ r ∈ v, ¬ (r.1 = f ∧ r.2.1 = id)) := by
 have hk : ∀ (j : Nat) x, a[j]? = some x → (qGa a f id j = true ↔ (x.1 = f ∧ x.2.1 = id)) := fun j x hx => by
  unfold qGa
  rw [qHA hx]
  simp
 cases hq : (List.range a.length).find? (qGa a f id) with
 | none =>
  intro r hr hh
  obtain ⟨j, hj, rfl⟩ := List.getElem_of_mem hr
  exact List.find?_eq_none.1 hq j (by simpa using hj) ((hk j _ (List.getElem?_eq_getElem hj)).2 hh)
 | some i =>
  have hi : i < a.length := by simpa using List.mem_of_find?_eq_some hq
  have h1 := (hk i _ (List.getElem?_eq_getElem hi)).1 (List.find?_some hq)
  have hsp : a = a.take i ++ a[i] :: a.drop (i + 1) := by rw [← List.drop_eq_getElem_cons hi, List.take_append_drop]
  refine ⟨a.take i, a[i], a.drop (i + 1), hsp, by simp; omega, h1, fun r hr hh => ?_, fun r hr hh => ?_⟩
  ·obtain ⟨j, hj, rfl⟩ := List.getElem_of_mem hr
   have hji : j < i := by simp at hj; omega
   rw [List.getElem_take] at hh
   exact hA.once i j _ _ (List.getElem?_eq_getElem hi) (List.getElem?_eq_getElem (by omega)) hji ⟨hh.1.trans h1.1.symm, hh.2.trans h1.2.symm⟩
  ·obtain ⟨j, hj, rfl⟩ := List.getElem_of_mem hr
   have hlt : i + 1 + j < a.length := by rw [List.length_drop] at hj; omega
   rw [List.getElem_drop] at hh
   exact hA.once (i + 1 + j) i _ _ (List.getElem?_eq_getElem hlt) (List.getElem?_eq_getElem hi) (by omega) ⟨h1.1.trans hh.1.symm, h1.2.trans hh.2.symm⟩
def qEc (f id now : Int) (c : Nat) : qAm := (f, (id, ((c : Int), (List.replicate c ⟨#[]⟩, (List.replicate c false, now + 8)))))
theorem freshR_ok (f id now : Int) {c : Nat} (hc : 2 ≤ c ∧ c ≤ 15) : HeldOk (qEc f id now c) := by
 refine ⟨by show 2 ≤ (c : Int) ∧ (c : Int) ≤ 15; omega, by simp [qEc], by simp [qEc], fun x hx => ?_⟩
 have : x = ⟨#[]⟩ := (List.mem_replicate.1 hx).2
 subst this
 simp [ByteArray.size]
def tailR (p : Nat) (t : ByteArray) (x : qAm) (rest : List qAm) (at' : Int) : List qAm × ByteArray × Bool :=
 if fullB (putP p t x).2.2.2.2.1 then (rest, (catS (putP p t x).2.2.2.1, true))
 else if 0 ≤ at' then (rest.take at'.toNat ++ [putP p t x] ++ rest.drop at'.toNat, (⟨#[]⟩, false)) else (roll rest ++ [putP p t x], (⟨#[]⟩, false))
theorem add_cases {a : List qAm} (hA : ShelfR a) (f id now : Int) (c p : Nat) (t : ByteArray) (hc : 2 ≤ c ∧ c ≤ 15) (hp : p < c) :
  ∃ (x : qAm) (rest : List qAm) (at' : Int), a.foldl (stp f id (c : Int)) (qAe (qEc f id now c), ([], -1)) = (qAe x, (rest, at')) ∧ HeldOk x ∧ x.2.2.1 = (c : Int) ∧
   (rest.length ≤ 3 ∧ (∀ r ∈ rest, HeldOk r)) ∧ at' ≤ (rest.length : Int) ∧ (rest.length < 3 ∨ at' < 0) ∧ addR a f id now c p t = tailR p t x rest at' := by
 have hl := hA.len
 have hsp := find_split hA f id
 have hnf : fullB (putP p t (qEc f id now c)).2.2.2.2.1 = false := new_full (f := f) (id := id) (now := now) (t := t) hc.1 hp
 have hneg : ¬ (0 : Int) ≤ -1 := by omega
 unfold addR
 cases hq : (List.range a.length).find? (qGa a f id) with
 | none =>
  rw [hq] at hsp
  dsimp only at hsp ⊢
  refine ⟨qEc f id now c, a, -1, by rw [stp_none a _ hsp]; rfl, freshR_ok f id now hc, rfl, ⟨hl, hA.ok⟩, by omega, .inr (by omega), ?_⟩
  unfold tailR
  rw [hnf, if_neg (by simp), if_neg hneg]
  rfl
 | some i =>
  rw [hq] at hsp
  dsimp only at hsp ⊢
  obtain ⟨u, y, v, rfl, rfl, hy, hu, hv⟩ := hsp
  have hrd : Ty.rd (t := qAP) (u ++ y :: v) ((u.length : Nat) : Int) = y := qHA (by simp)
  have hel : (u ++ y :: v).eraseIdx u.length = u ++ v := by simp [List.eraseIdx_append_of_length_le]
  have hset : ∀ z, (u ++ y :: v).set u.length z = u ++ z :: v := fun z => by simp
  have hlen : (u ++ v).length + 1 ≤ 3 := by simp only [List.length_append, List.length_cons] at hl ⊢; omega
  have hok : ∀ r ∈ u ++ v, HeldOk r := fun r hr => hA.ok r (by rcases List.mem_append.1 hr with h | h <;> simp [h])
  rw [hrd, hel, hset, stp_one u v y _ hy hu hv rfl]
  by_cases hcnt : y.2.2.1 = (c : Int)
  ·rw [if_pos hcnt, if_pos hcnt]
   refine ⟨y, u ++ v, (u.length : Int), rfl, hA.ok y (by simp), hcnt, ⟨by omega, hok⟩, by simp only [List.length_append]; omega, .inl (by omega), ?_⟩
   unfold tailR
   split
   ·rfl
   ·rw [if_pos (by omega)]
    simp
  ·rw [if_neg hcnt, if_neg hcnt]
   refine ⟨qEc f id now c, u ++ v, -1, rfl, freshR_ok f id now hc, rfl, ⟨by omega, hok⟩, by omega, .inr (by omega), ?_⟩
   unfold tailR
   rw [hnf, if_neg (by simp), if_neg hneg]
   rfl
theorem foldl_catS : ∀ (l p : List ByteArray), l.foldl (fun t x => t ++ x) (catS p) = catS (p ++ l)
 | [], p => by simp
 | x :: l, p => by
  rw [List.foldl_cons, ← catS_snoc, foldl_catS l (p ++ [x])]
  simp
theorem loop_cat {X R A : Type} {step : (X → Option R) → X → Option R} (a : List A) (T : A → ByteArray) (B : Nat) (st : Nat → ByteArray → X) (r : Option R) (hT : ∀ x ∈ a, (T x).size ≤ B)
  (hs : ∀ again i t x, t.size ≤ i * B → i < a.length → a[i]? = some x → step again (st i t) = again (st (i + 1) (t ++ T x)))
  (he : ∀ again, step again (st a.length (a.foldl (fun t x => t ++ T x) ⟨#[]⟩)) = r) : ∀ k, a.length < k → qAG step k (st 0 ⟨#[]⟩) = r := by
 have key : ∀ (s p : List A) k, p ++ s = a → s.length < k → (p.foldl (fun t x => t ++ T x) ⟨#[]⟩).size ≤ p.length * B → qAG step k (st p.length (p.foldl (fun t x => t ++ T x) ⟨#[]⟩)) = r := by
  intro s
  induction s with
  | nil =>
   intro p k h hk _
   obtain ⟨k, rfl⟩ : ∃ k', k = k' + 1 := ⟨k - 1, by omega⟩
   have : p = a := by simpa using h
   subst this
   exact he _
  | cons x s ih =>
   intro p k h hk hb
   obtain ⟨k, rfl⟩ : ∃ k', k = k' + 1 := ⟨k - 1, by omega⟩
   show step _ _ = _
   have hx : a[p.length]? = some x := by rw [← h]; simp
   have hlt : p.length < a.length := by rw [← h]; simp
   rw [hs _ _ _ x hb hlt hx]
   have := ih (p ++ [x]) k (by simpa using h) (by simpa using hk) (by
    rw [List.foldl_append, List.length_append]
    simp only [List.foldl_cons, List.foldl_nil, ByteArray.size_append, List.length_cons, List.length_nil, Nat.add_mul]
    have := hT x (by rw [← h]; simp)
    omega)
   rw [List.foldl_append, List.length_append] at this
   simpa using this
 intro k hk
 exact key a [] k (by simp) hk (by simp [ByteArray.size])
def put4 (p : Nat) (t : ByteArray) (x4 : List ByteArray) (x5 : List Bool) : List ByteArray := if x5.getD p false then x4 else x4.set p t
def put5 (p : Nat) (x5 : List Bool) : List Bool := if x5.getD p false then x5 else x5.set p true
theorem putP_eq (p : Nat) (t : ByteArray) (x1 x2 x3 : Int) (x4 : List ByteArray) (x5 : List Bool) (x6 : Int) : putP p t (x1, (x2, (x3, (x4, (x5, x6))))) = (x1, (x2, (x3, (put4 p t x4 x5, (put5 p x5, x6))))) := by
 unfold putP put4 put5
 split <;> simp_all
theorem sel_jn {R : Type} {p : Nat} {t : ByteArray} {x4 : List ByteArray} {x5 : List Bool} (h4 : p < x4.length) (h5 : p < x5.length) (F : List ByteArray → List Bool → Option R) :
  jn F (fun (j3 : List ByteArray → List Bool → Option R) =>
   if 0 ≤ (p : Int) ∧ (p : Int) < (List.length x5 : Int) then
    (if (!(Ty.rd (t := .bool) x5 (p : Int))) = true then
     (if 0 ≤ (p : Int) ∧ (p : Int) < (List.length x5 : Int) then
      (if 0 ≤ (p : Int) ∧ (p : Int) < (List.length x4 : Int) then j3 (List.set x4 (Int.toNat (p : Int)) t) (List.set x5 (Int.toNat (p : Int)) true) else none)
     else none)
    else j3 x4 x5)
   else none) = F (put4 p t x4 x5) (put5 p x5) := by
 have g5 : (0 : Int) ≤ (p : Int) ∧ (p : Int) < (x5.length : Int) := by omega
 have g4 : (0 : Int) ≤ (p : Int) ∧ (p : Int) < (x4.length : Int) := by omega
 have r : Ty.rd (t := .bool) x5 (p : Int) = x5.getD p false := rfl
 unfold jn put4 put5
 dsimp only
 rw [if_pos g5, r, if_pos g5, if_pos g4, Int.toNat_natCast]
 cases x5.getD p false <;> rfl
theorem bd_rest {a : List qAm} (h : a.length ≤ 3 ∧ ∀ r ∈ a, HeldOk r) : qBJ a := ⟨by have := h.1; omega, fun r hr => by
 have := h.2 r hr
 have h1 := this.cnt
 have h2 := this.ps
 have h3 := this.hv
 exact ⟨by show r.2.2.2.1.length ≤ 1048576; omega, by show r.2.2.2.2.1.length ≤ 1048576; omega, trivial⟩⟩
theorem roll_ok {a : List qAm} (h : a.length ≤ 3 ∧ ∀ r ∈ a, HeldOk r) : (roll a).length ≤ 2 ∧ ∀ r ∈ roll a, HeldOk r := by
 unfold roll
 split
 ·exact ⟨by rw [List.length_drop]; omega, fun r hr => h.2 r (List.mem_of_mem_drop hr)⟩
 ·exact ⟨by omega, h.2⟩
theorem s_add (k : Nat) (hk : 1048576 < k) (a : List qAm) (f id now : Int) (c p : Nat) (t : ByteArray) (T : ByteArray) (ha : shelfB a = true) (hr : qDC k (T, ()) = some ((id, ((p : Int), ((c : Int), (t, (true, ()))))), ((), ())))
  (hf : 1 ≤ f ∧ f ≤ 99) (hc : 2 ≤ c ∧ c ≤ 15) (hp : p < c) (ht : t.size ≤ 120) (hnow : 0 ≤ now ∧ now ≤ 999999992) :
  qCW k ((a, ()), (f, (T, (now, ())))) = some ((((addR a f id now c p t).1, ()), ((addR a f id now c p t).2.1, ((addR a f id now c p t).2.2, ()))), ((), ((), ((), ((), ()))))) := by
 have hA := shelfB_ok ha
 have hcap : capMax = 274877906944 := rfl
 have hl := hA.len
 have h1 := qB6 k a hk (bd_held hA)
 have h2 := s_ShelfOk_is k a hk (by omega)
 rw [qF7, ha] at h2
 have hsz : ¬ (120 : Int) < (t.size : Int) := by omega
 have hn1 : ¬ (c : Int) = 1 := by omega
 have w8 : wi64 (now + 8) = now + 8 := qAH _ (by omega)
 have g1 : (0 : Int) ≤ (c : Int) ∧ (c : Int) ≤ (capMax : Int) := by omega
 unfold qCW
 simp only [h1, h2, hr, qBg, hf, hsz, hn1, hnow, w8, g1, Option.bind_some, decide_true, decide_false, Bool.not_true, Bool.false_eq_true, if_false, if_true, and_self, Int.toNat_natCast]
 refine (loop_gone (A := qAm) (C := HeldQ) (S := HeldU × List qAm × Int) a HT.toq HQ.left (fun i bs s => (f, (([], ()), (id, ((p : Int), ((c : Int), (t, ((bs, ()), (s.1, (s.2.1, (s.2.2, ((i : Int), ()))))))))))))
  (stp f id (c : Int)) (fun i s => s.2.1.length ≤ i) ((f, (id, ((c : Int), (List.replicate c ⟨#[]⟩, (List.replicate c false, (now + 8, ())))))), ([], -1)) ?_ ?_ ?_ k (by omega) (Nat.le_refl _))
 ·intro again i bs s x hI hi hx hbl hbx
  obtain ⟨⟨s1, s2, s3, s4, s5, s6, ⟨⟩⟩, rest, at'⟩ := s
  obtain ⟨x1, x2, x3, x4, x5, x6⟩ := x
  have hq : HT.toq (x1, (x2, (x3, (x4, (x5, x6))))) = ((x1, (x2, (x3, (some x4, (some x5, x6))))) : HeldQ) := rfl
  rw [hq] at hbx ⊢
  have q1 : (i : Int) < (bs.length : Int) := by omega
  have q2 : (0 : Int) ≤ (i : Int) ∧ (i : Int) < (bs.length : Int) := by omega
  have w : wi64 ((i : Int) + 1) = ((i + 1 : Nat) : Int) := (qAH _ (by omega)).trans (by omega)
  simp only at hI
  have c3 : rest.length + 1 ≤ capMax := by omega
  simp only [jn, Ty.rd, Int.toNat_natCast, qBR hbx, q1, q2, w, decide_true, and_self, if_true, Option.bind_some, List.length_cons, List.length_nil, Nat.zero_add, c3]
  by_cases e1 : x1 = f
  ·by_cases e2 : x2 = id
   ·by_cases e3 : x3 = (c : Int)
    ·simp only [stp, e1, e2, e3, qAe, decide_true, and_self, if_true]
    ·simp only [stp, e1, e2, e3, decide_true, decide_false, Bool.false_eq_true, if_false, and_self, if_true]
   ·simp only [stp, e1, e2, decide_true, decide_false, Bool.false_eq_true, if_false, and_false, if_true]
  ·simp only [stp, e1, decide_false, Bool.false_eq_true, if_false, false_and]
 ·intro i s x hI
  unfold stp
  split
  ·split
   ·exact Nat.le_succ_of_le hI
   ·exact Nat.le_succ_of_le hI
  ·simp only [List.length_append, List.length_cons, List.length_nil]
   omega
 ·intro again bs hbl hI
  rw [if_neg (by simp [hbl])]
  obtain ⟨x, rest, at', hfold, hx, hxc, hrest, hat, hroom, hadd⟩ := add_cases hA f id now c p t hc hp
  rw [hadd]
  have hfold' : a.foldl (stp f id (c : Int)) ((f, (id, ((c : Int), (List.replicate c ⟨#[]⟩, (List.replicate c false, (now + 8, ())))))), ([], -1)) = (qAe x, (rest, at')) := hfold
  rw [hfold']
  have hx' := putP_ok (p := p) hx ht
  obtain ⟨x1, x2, x3, x4, x5, x6⟩ := x
  have l4 : x4.length = c := by have := hx.ps; simp only at this hxc; omega
  have l5 : x5.length = c := by have := hx.hv; simp only at this hxc; omega
  unfold tailR
  rw [putP_eq] at hx' ⊢
  have m4 : ((put4 p t x4 x5).length : Int) = x3 := hx'.ps
  have m5 : ((put5 p x5).length : Int) = x3 := hx'.hv
  simp only at hxc
  have mz : ∀ q ∈ put4 p t x4 x5, q.size ≤ 120 := hx'.size
  dsimp only [qAe]
  refine (sel_jn (p := p) (t := t) (x4 := x4) (x5 := x5) (by omega) (by omega) _).trans ?_
  generalize put4 p t x4 x5 = y4 at *
  generalize put5 p x5 = y5 at *
  rw [s_l20All_is k hk _ (by dsimp only; omega)]
  dsimp only [Option.bind_some]
  have hnil : ([] : List qAm) ++ List.drop (0 : Int).toNat (List.take at'.toNat rest) = List.take at'.toNat rest := by simp
  cases hfull : fullB y5 with
  | true =>
   simp only [if_true]
   refine loop_cat (A := ByteArray) y4 (fun x => x) 120 (fun i w => (([], ()), ((c : Int), ((x1, (x2, (x3, (y4, (y5, (x6, ())))))), (rest, (w, ((i : Int), ()))))))) _ mz ?_ ?_ k (by omega)
   ·intro again i w z hw hi hz
    have q1 : (i : Int) < (c : Int) := by omega
    have q2 : (0 : Int) ≤ (i : Int) ∧ (i : Int) < (y4.length : Int) := by omega
    have w1 : wi64 ((i : Int) + 1) = ((i + 1 : Nat) : Int) := (qAH _ (by omega)).trans (by omega)
    have r : Ty.rd (t := .str) y4 ((i : Nat) : Int) = z := qBR hz
    have hzs := mz z (List.mem_of_getElem? hz)
    have hmx : maxStr = 9223372036854775807 := rfl
    simp only [r, q1, q2, w1, decide_true, and_self, if_true]
    rw [if_pos (by omega)]
   ·intro again
    have e : y4.foldl (fun t x => t ++ x) ⟨#[]⟩ = catS y4 := (foldl_catS y4 []).trans (by simp)
    rw [if_neg (by simp; omega), e]
    dsimp only
    rw [qB6 k rest hk (bd_rest hrest)]
    rfl
  | false =>
   simp only [Bool.false_eq_true, if_false]
   have b1 := roll_ok hrest
   have hxr : HeldOk (x1, (x2, (x3, (y4, (y5, x6))))) := hx'
   by_cases hat0 : 0 ≤ at'
   ·have k1 : 0 ≤ at' ∧ at' ≤ (rest.length : Int) := ⟨hat0, hat⟩
    have tk : List.take rest.length rest = rest := List.take_length
    have lt : (List.take at'.toNat rest).length = at'.toNat := by rw [List.length_take]; omega
    have ld : (List.drop at'.toNat rest).length = rest.length - at'.toNat := List.length_drop
    simp only [hat0, k1, and_self, decide_true, if_true, hnil, tk]
    rw [if_pos (by simp only [List.length_nil, List.drop_zero, show (0 : Int).toNat = 0 from rfl, lt]; omega), if_pos (by simp only [List.length_cons, List.length_nil, lt]; omega), if_pos (by simp only [List.length_append, List.length_cons, List.length_nil, lt, ld]; omega)]
    rw [qB6 k _ hk (bd_rest ⟨by simp only [List.length_append, List.length_cons, List.length_nil, lt, ld]; omega, fun r hr => by
     simp only [List.mem_append, List.mem_cons, List.not_mem_nil, or_false] at hr
     rcases hr with (hr | rfl) | hr
     ·exact hrest.2 r (List.mem_of_mem_take hr)
     ·exact hxr
     ·exact hrest.2 r (List.mem_of_mem_drop hr)⟩)]
    rfl
   ·simp only [hat0, decide_false, Bool.false_eq_true, if_false]
    have hcopy := qB6 k (roll rest ++ [(x1, (x2, (x3, (y4, (y5, x6)))))]) hk (bd_rest ⟨by simp only [List.length_append, List.length_cons, List.length_nil]; omega, fun r hr => by
     simp only [List.mem_append, List.mem_cons, List.not_mem_nil, or_false] at hr
     rcases hr with hr | rfl
     ·exact b1.2 r hr
     ·exact hxr⟩)
    unfold roll at hcopy ⊢
    by_cases h3 : rest.length = 3
    ·have h3' : (rest.length : Int) = 3 := by omega
     rw [if_pos h3] at hcopy ⊢
     have e1 : (0 : Int) ≤ 1 ∧ (1 : Int) ≤ (rest.length : Int) := by omega
     simp only [h3', decide_true, if_true]
     rw [if_pos (by omega), if_pos (by refine ⟨trivial, ?_⟩; simp only [List.length_cons, List.length_nil]; omega), show (1 : Int).toNat = 1 from rfl, hcopy]
     rfl
    ·have h3' : ¬ (rest.length : Int) = 3 := by omega
     rw [if_neg h3] at hcopy ⊢
     simp only [h3', decide_false, Bool.false_eq_true, if_false]
     rw [if_pos (by simp only [List.length_cons, List.length_nil]; omega), hcopy]
     rfl
theorem jn_eq {A R : Type} (f : A) (g : A → R) : jn f g = g f := rfl
theorem put_jn {R : Type} {L : List qAm} {v : Int} {p : Nat} {t : ByteArray} {x : qAm} (hv : 0 ≤ v) (hx : L[v.toNat]? = some x) (h4 : p < x.2.2.2.1.length) (h5 : p < x.2.2.2.2.1.length) (F : List qAm → Option R) :
  jn F (fun (j3 : List qAm → Option R) =>
   if 0 ≤ (p : Int) ∧ (p : Int) < (List.length (Ty.rd (t := HT) L v).2.2.2.2.1 : Int) then
    (if (!(Ty.rd (t := .bool) (Ty.rd (t := HT) L v).2.2.2.2.1 (p : Int))) = true then
     (if 0 ≤ (p : Int) ∧ (p : Int) < (List.length (Ty.rd (t := HT) L v).2.2.2.2.1 : Int) then
      (jn (List.set L (Int.toNat v) ((Ty.rd (t := HT) L v).1, ((Ty.rd (t := HT) L v).2.1, ((Ty.rd (t := HT) L v).2.2.1, ((Ty.rd (t := HT) L v).2.2.2.1, ((List.set (Ty.rd (t := HT) L v).2.2.2.2.1 (Int.toNat (p : Int)) true), (Ty.rd (t := HT) L v).2.2.2.2.2)))))) (fun (q3 : List qAm) =>
       (if 0 ≤ (p : Int) ∧ (p : Int) < (List.length (Ty.rd (t := HT) q3 v).2.2.2.1 : Int) then
        (jn (List.set q3 (Int.toNat v) ((Ty.rd (t := HT) q3 v).1, ((Ty.rd (t := HT) q3 v).2.1, ((Ty.rd (t := HT) q3 v).2.2.1, ((List.set (Ty.rd (t := HT) q3 v).2.2.2.1 (Int.toNat (p : Int)) t), (Ty.rd (t := HT) q3 v).2.2.2.2))))) (fun (q4 : List qAm) => j3 q4))
       else none)))
     else none)
    else j3 L)
   else none) = F (L.set v.toNat (putP p t x)) := by
 have hn : v.toNat < L.length := (List.getElem?_eq_some_iff.1 hx).1
 have r1 : Ty.rd (t := HT) L v = x := qBR hx
 have g5 : (0 : Int) ≤ (p : Int) ∧ (p : Int) < (x.2.2.2.2.1.length : Int) := by omega
 have g4 : (0 : Int) ≤ (p : Int) ∧ (p : Int) < (x.2.2.2.1.length : Int) := by omega
 have r : Ty.rd (t := .bool) x.2.2.2.2.1 (p : Int) = x.2.2.2.2.1.getD p false := rfl
 have r2 : ∀ z : qAm, Ty.rd (t := HT) (L.set v.toNat z) v = z := fun z => qIG hn
 unfold jn
 dsimp only
 rw [r1, if_pos g5, r, if_pos g5, r2, if_pos g4, Int.toNat_natCast, List.set_set]
 cases hb : x.2.2.2.2.1.getD p false with
 | true =>
  have e : putP p t x = x := by unfold putP; rw [hb]; rfl
  rw [e]
  have : L.set v.toNat x = L := by
   refine List.ext_getElem? fun q => ?_
   rw [List.getElem?_set]
   split
   ·rename_i e; subst e; rw [hx]
   ·rfl
  rw [this]
  rfl
 | false =>
  have e : putP p t x = (x.1, (x.2.1, (x.2.2.1, (x.2.2.2.1.set p t, (x.2.2.2.2.1.set p true, x.2.2.2.2.2))))) := by unfold putP; rw [hb]; rfl
  rw [e]
  rfl
def tailI (k : Nat) (p : Nat) (t : ByteArray) (v : Int) (L : List qAm) : Option ((((List (Int × Int × Int × List (ByteArray) × List (Bool) × Int)) × Unit) × ByteArray × Bool × Unit) × Unit × Unit × Unit × Unit × Unit) :=
 if 0 ≤ v ∧ v < (List.length L : Int) then
  jn (fun (j12v0 : List qAm) =>
   ((qAM k ((Ty.rd (t := HT) j12v0 v).2.2.2.2.1, (false, ()))).bind fun p53 =>
   (if p53.1 = true then
   some (((j12v0, ()), ((⟨#[]⟩ : ByteArray), (false, ()))), ((), ((), ((), ((), ())))))
   else
   ((qA9 k ((Ty.rd (t := HT) j12v0 v).2.2.2.1, ((⟨#[]⟩ : ByteArray), ()))).bind fun p54 =>
   ((qAJ k (j12v0, (v, ((wi64 (v + (1 : Int))), ())))).bind fun p55 =>
   some (((p55.1, ()), (p54.1, (true, ()))), ((), ((), ((), ((), ())))))))))) (fun (j3 : List qAm → Option _) =>
   if 0 ≤ (p : Int) ∧ (p : Int) < (List.length (Ty.rd (t := HT) L v).2.2.2.2.1 : Int) then
    (if (!(Ty.rd (t := .bool) (Ty.rd (t := HT) L v).2.2.2.2.1 (p : Int))) = true then
     (if 0 ≤ (p : Int) ∧ (p : Int) < (List.length (Ty.rd (t := HT) L v).2.2.2.2.1 : Int) then
      (jn (List.set L (Int.toNat v) ((Ty.rd (t := HT) L v).1, ((Ty.rd (t := HT) L v).2.1, ((Ty.rd (t := HT) L v).2.2.1, ((Ty.rd (t := HT) L v).2.2.2.1, ((List.set (Ty.rd (t := HT) L v).2.2.2.2.1 (Int.toNat (p : Int)) true), (Ty.rd (t := HT) L v).2.2.2.2.2)))))) (fun (q3 : List qAm) =>
       (if 0 ≤ (p : Int) ∧ (p : Int) < (List.length (Ty.rd (t := HT) q3 v).2.2.2.1 : Int) then
        (jn (List.set q3 (Int.toNat v) ((Ty.rd (t := HT) q3 v).1, ((Ty.rd (t := HT) q3 v).2.1, ((Ty.rd (t := HT) q3 v).2.2.1, ((List.set (Ty.rd (t := HT) q3 v).2.2.2.1 (Int.toNat (p : Int)) t), (Ty.rd (t := HT) q3 v).2.2.2.2))))) (fun (q4 : List qAm) => j3 q4))
       else none)))
     else none)
    else j3 L)
   else none)
 else none
theorem tailI_is (k : Nat) (hk : 1048576 < k) {L : List qAm} {v : Int} {i : Nat} (hvi : v = (i : Int)) {x : qAm} (hx : L[i]? = some x) (hok : HeldOk x) {p : Nat} (hp : (p : Int) < x.2.2.1) {t : ByteArray} (ht : t.size ≤ 120) (hl : L.length ≤ 1048576) :
  tailI k p t v L = some (if fullB (putP p t x).2.2.2.2.1 then (((L.eraseIdx i, ()), (catS (putP p t x).2.2.2.1, (true, ()))), ((), ((), ((), ((), ()))))) else (((L.set i (putP p t x), ()), (⟨#[]⟩, (false, ()))), ((), ((), ((), ((), ())))))) := by
 subst hvi
 have hi : i < L.length := (List.getElem?_eq_some_iff.1 hx).1
 have g : (0 : Int) ≤ (i : Int) ∧ (i : Int) < (L.length : Int) := by omega
 have h4 := hok.ps
 have h5 := hok.hv
 have hok' := putP_ok (p := p) hok ht
 have c1 := hok'.cnt
 have c2 := hok'.ps
 have c3 := hok'.hv
 unfold tailI
 rw [if_pos g]
 refine (put_jn (v := (i : Int)) (p := p) (t := t) (x := x) (by omega) (by rw [Int.toNat_natCast]; exact hx) (by omega) (by omega) _).trans ?_
 rw [Int.toNat_natCast]
 have r1 : Ty.rd (t := HT) (L.set i (putP p t x)) (i : Int) = putP p t x := qIG hi
 have hd : qAJ k (L.set i (putP p t x), ((i : Int), (((i + 1 : Nat) : Int), ()))) = some ((L.set i (putP p t x)).eraseIdx i, ((), ((), ((), ())))) := del_at k _ i (by rw [List.length_set]; exact hi) (by rw [List.length_set]; exact hl)
 have w1 : wi64 ((i : Int) + 1) = ((i + 1 : Nat) : Int) := (qAH _ (by omega)).trans (by omega)
 have he : (L.set i (putP p t x)).eraseIdx i = L.eraseIdx i := by
  rw [List.eraseIdx_eq_take_drop_succ, List.eraseIdx_eq_take_drop_succ, List.take_set_of_le (Nat.le_refl _), List.drop_set_of_lt (Nat.lt_succ_self _)]
 rw [r1, contains_is k hk _ (by omega), w1, hd, he]
 have hj := join_is k (putP p t x).2.2.2.1 (by omega) hok'.size
 rw [hj]
 cases fullB (putP p t x).2.2.2.2.1 <;> rfl
theorem i_add (k : Nat) (hk : 1048576 < k) (a : List qAm) (f id now : Int) (c p : Nat) (t : ByteArray) (T : ByteArray) (ha : shelfB a = true) (hr : qEY k (T, ()) = some ((id, ((p : Int), ((c : Int), (t, (true, ()))))), ((), ())))
  (hf : 1 ≤ f ∧ f ≤ 99) (hc : 2 ≤ c ∧ c ≤ 15) (hp : p < c) (ht : t.size ≤ 120) (hnow : 0 ≤ now ∧ now ≤ 999999992) :
  qB5 k ((a, ()), (f, (T, (now, ())))) = some ((((addR a f id now c p t).1, ()), ((addR a f id now c p t).2.1, ((addR a f id now c p t).2.2, ()))), ((), ((), ((), ((), ()))))) := by
 have hA := shelfB_ok ha
 have hcap : capMax = 274877906944 := rfl
 have hl := hA.len
 have h1 := qD4 k a hk (bd_held hA)
 have h2 := i_ShelfOk_is k a hk (by omega)
 rw [qF7, ha] at h2
 have h6 := heldAt_is k a f id hk (by omega)
 have hsz : ¬ (120 : Int) < (t.size : Int) := by omega
 have hn1 : ¬ (c : Int) = 1 := by omega
 have w8 : wi64 (now + 8) = now + 8 := qAH _ (by omega)
 have g1 : (0 : Int) ≤ (c : Int) ∧ (c : Int) ≤ (capMax : Int) := by omega
 have hsp := find_split hA f id
 have hnf : fullB (newR f id now c p t).2.2.2.2.1 = false := new_full hc.1 hp
 unfold addR
 have hrow : ∀ b : List qAm, (b ++ [qEc f id now c])[b.length]? = some (qEc f id now c) := fun b => by simp
 have hset : ∀ b : List qAm, (b ++ [qEc f id now c]).set b.length (newR f id now c p t) = b ++ [newR f id now c p t] := fun b => by simp
 have hfp : (p : Int) < (qEc f id now c).2.2.1 := by show (p : Int) < (c : Int); omega
 have hnewT : ∀ (b : List qAm) (v : Int), b.length ≤ 3 → v = (b.length : Int) → tailI k p t v (b ++ [qEc f id now c]) = some ((((b ++ [newR f id now c p t]), ()), (⟨#[]⟩, (false, ()))), ((), ((), ((), ((), ()))))) := fun b v hb hv => by
  rw [tailI_is k hk hv (hrow b) (freshR_ok f id now hc) hfp ht (by simp only [List.length_append, List.length_cons, List.length_nil]; omega)]
  have e : putP p t (qEc f id now c) = newR f id now c p t := rfl
  rw [e, hnf, hset]
  rfl
 cases hq : (List.range a.length).find? (qGa a f id) with
 | none =>
  rw [hq] at h6 hsp
  dsimp only at h6 hsp ⊢
  unfold qB5
  simp only [h1, h2, hr, h6, isId_is, qBD, hf, hsz, hn1, hnow, w8, g1, Option.bind_some, decide_true, decide_false, Bool.not_true, Bool.false_eq_true, if_false, if_true, and_self]
  rw [jn_eq, if_neg (by decide), jn_eq, if_pos (by decide)]
  unfold roll
  by_cases h3 : a.length = 3
  ·have h3' : (a.length : Int) = 3 := by omega
   rw [if_pos h3, if_pos (by simp only [h3', decide_true]), if_pos (by omega), if_pos (by refine ⟨trivial, ?_⟩; simp only [List.length_cons, List.length_nil]; omega)]
   exact hnewT (a.drop 1) _ (by rw [List.length_drop]; omega) (by rw [List.length_drop]; omega)
  ·have h3' : ¬ (a.length : Int) = 3 := by omega
   rw [if_neg h3, if_neg (by simp only [h3', decide_false, Bool.false_eq_true, not_false_eq_true]), if_pos (by simp only [List.length_cons, List.length_nil]; omega)]
   exact hnewT a _ (by omega) rfl
 | some i =>
  rw [hq] at h6 hsp
  dsimp only at h6 hsp ⊢
  obtain ⟨u, y, v, he, hui, hy, hu, hv⟩ := hsp
  have hxi : a[i]? = some y := by rw [he, ← hui]; simp
  have hi : i < a.length := (List.getElem?_eq_some_iff.1 hxi).1
  have hrd : Ty.rd (t := qAP) a ((i : Nat) : Int) = y := qHA hxi
  have hrd' : Ty.rd (t := HT) a ((i : Nat) : Int) = y := qHA hxi
  have w1 : wi64 ((i : Int) + 1) = ((i + 1 : Nat) : Int) := (qAH _ (by omega)).trans (by omega)
  have hyok := hA.ok y (List.mem_of_getElem? hxi)
  rw [hrd]
  unfold qB5
  simp only [h1, h2, hr, h6, isId_is, qBD, hf, hsz, hn1, hnow, w8, g1, Option.bind_some, decide_true, decide_false, Bool.not_true, Bool.false_eq_true, if_false, if_true, and_self]
  have i0 : (0 : Int) ≤ (i : Int) := by omega
  have i1 : ¬ (i : Int) < 0 := by omega
  have i2 : (0 : Int) ≤ (i : Int) ∧ (i : Int) < (a.length : Int) := by omega
  rw [jn_eq, if_pos (by simp only [i0, decide_true]), if_pos i2]
  by_cases hcnt : y.2.2.1 = (c : Int)
  ·rw [if_neg (by rw [hrd']; simp only [hcnt, decide_true, Bool.not_true, Bool.false_eq_true, not_false_eq_true]), jn_eq, if_neg (by simp only [i1, decide_false, Bool.false_eq_true, not_false_eq_true]), if_pos hcnt]
   refine (tailI_is k hk (L := a) (v := (i : Int)) (p := p) (t := t) rfl hxi hyok (by omega) ht (by omega)).trans ?_
   split <;> rfl
  ·rw [if_pos (by rw [hrd']; simp only [hcnt, decide_false, Bool.not_false]), if_neg hcnt, w1, del_at k a i hi (by omega)]
   dsimp only [Option.bind_some]
   have hel : (a.eraseIdx i).length = a.length - 1 := List.length_eraseIdx_of_lt hi
   have h3 : ¬ (a.eraseIdx i).length = 3 := by omega
   have h3' : ¬ ((a.eraseIdx i).length : Int) = 3 := by omega
   unfold roll
   rw [jn_eq, if_pos (by decide), if_neg (by simp only [h3', decide_false, Bool.false_eq_true, not_false_eq_true]), if_pos (by simp only [List.length_cons, List.length_nil]; omega), if_neg h3]
   exact hnewT (a.eraseIdx i) _ (by omega) rfl
theorem bt_pos (s : ByteArray) (i : Int) : 0 ≤ bt s i ∧ bt s i ≤ 255 := by
 unfold bt
 split
 ·have := (s[i.toNat]).toNat_lt
  omega
 ·omega
theorem readPart_facts (k : Nat) (T : ByteArray) : ∃ (id pl c : Int) (t : ByteArray) (ok : Bool), qDC k (T, ()) = some ((id, (pl, (c, (t, (ok, ()))))), ((), ())) ∧ (ok = true → (1 ≤ c ∧ c ≤ 15) ∧ 0 ≤ pl ∧ pl < c ∧ (0 ≤ id ∧ id ≤ 255)) := by
 unfold qDC
 simp only [qBg, Option.bind_some]
 have b1 := bt_pos T 1
 have b2 := bt_pos T 2
 have b0 := bt_pos T 0
 have w1 : wi64 (bt T 1) = bt T 1 := qAH _ (by omega)
 have w2 : wi64 (bt T 2) = bt T 2 := qAH _ (by omega)
 have w0 : wi64 (bt T 0) = bt T 0 := qAH _ (by omega)
 by_cases h3 : (T.size : Int) < 3
 ·exact ⟨0, 0, 0, ⟨#[]⟩, false, by simp [h3], by simp⟩
 ·have q2 : (0 : Int) ≤ 2 ∧ (2 : Int) < (T.size : Int) := by omega
  have q1 : (0 : Int) ≤ 1 ∧ (1 : Int) < (T.size : Int) := by omega
  have q0 : (0 : Int) ≤ 0 ∧ (0 : Int) < (T.size : Int) := by omega
  have q3 : (0 : Int) ≤ 3 ∧ (3 : Int) ≤ (T.size : Int) := by omega
  simp only [h3, q0, q1, q2, q3, w0, w1, w2, decide_false, if_true, and_self]
  by_cases h4 : 1 ≤ bt T 2 ∧ bt T 2 ≤ 15
  ·by_cases h5 : bt T 2 ≤ bt T 1
   ·exact ⟨0, 0, 0, ⟨#[]⟩, false, by simp [h4, h5], by simp⟩
   ·refine ⟨_, _, _, _, true, by simp only [h4, h5, decide_true, decide_false, and_self, Bool.not_true, if_true, Bool.false_eq_true, if_false]; rfl, fun _ => ⟨h4, b1.1, by omega, by omega⟩⟩
  ·exact ⟨0, 0, 0, ⟨#[]⟩, false, by simp only [h4, decide_false, Bool.not_false, Bool.true_eq_false, if_false], by simp⟩
theorem add_ok {a : List qAm} (hA : ShelfR a) (f id now : Int) (c p : Nat) (t : ByteArray) (hc : 2 ≤ c ∧ c ≤ 15) (hp : p < c) (ht : t.size ≤ 120) : (addR a f id now c p t).1.length ≤ 3 ∧ ∀ r ∈ (addR a f id now c p t).1, HeldOk r := by
 obtain ⟨x, rest, at', _, hx, hxc, hrest, hat, hroom, hadd⟩ := add_cases hA f id now c p t hc hp
 rw [hadd]
 have hx' := putP_ok (p := p) hx ht
 unfold tailR
 split
 ·exact hrest
 ·split
  ·have lt : (List.take at'.toNat rest).length = at'.toNat := by rw [List.length_take]; omega
   have ld : (List.drop at'.toNat rest).length = rest.length - at'.toNat := List.length_drop
   refine ⟨by simp only [List.length_append, List.length_cons, List.length_nil, lt, ld]; omega, fun r hr => ?_⟩
   simp only [List.mem_append, List.mem_cons, List.not_mem_nil, or_false] at hr
   rcases hr with (hr | rfl) | hr
   ·exact hrest.2 r (List.mem_of_mem_take hr)
   ·exact hx'
   ·exact hrest.2 r (List.mem_of_mem_drop hr)
  ·have b1 := roll_ok hrest
   refine ⟨by simp only [List.length_append, List.length_cons, List.length_nil]; omega, fun r hr => ?_⟩
   simp only [List.mem_append, List.mem_cons, List.not_mem_nil, or_false] at hr
   rcases hr with hr | rfl
   ·exact b1.2 r hr
   ·exact hx'
theorem addPart_is0 (k : Nat) (hk : 1048576 < k) (a : List qAm) (hb : qBJ a) (f now : Int) (T : ByteArray) : ∃ r : List qAm × ByteArray × Bool, (r.1 = a ∨ ∃ (id : Int) (c p : Nat) (t : ByteArray), shelfB a = true ∧ (1 ≤ f ∧ f ≤ 99) ∧ (0 ≤ id ∧ id ≤ 255) ∧ (2 ≤ c ∧ c ≤ 15) ∧ p < c ∧ t.size ≤ 120 ∧ (0 ≤ now ∧ now ≤ 999999992) ∧ r = addR a f id now c p t) ∧
  qCW k ((a, ()), (f, (T, (now, ())))) = some (((r.1, ()), (r.2.1, (r.2.2, ()))), ((), ((), ((), ((), ()))))) ∧
  qB5 k ((a, ()), (f, (T, (now, ())))) = some (((r.1, ()), (r.2.1, (r.2.2, ()))), ((), ((), ((), ((), ()))))) := by
 obtain ⟨id, pl, c, t, ok, hr, hok⟩ := readPart_facts k T
 have hr' : qEY k (T, ()) = some ((id, (pl, (c, (t, (ok, ()))))), ((), ())) := hr
 have hl : a.length ≤ 1048576 := hb.1
 have c1 := qB6 k a hk hb
 have c2 := qD4 k a hk hb
 have s1 := s_ShelfOk_is k a hk hl
 have s2 := i_ShelfOk_is k a hk hl
 rw [qF7] at s1 s2
 by_cases H : shelfB a = true ∧ (1 ≤ f ∧ f ≤ 99) ∧ ok = true ∧ t.size ≤ 120 ∧ (0 ≤ now ∧ now ≤ 999999992)
 ·obtain ⟨h1, h2, h3, h4, h5⟩ := H
  subst h3
  obtain ⟨k1, k2, k3, k4⟩ := hok rfl
  by_cases h6 : c = 1
  ·refine ⟨(a, (t, true)), .inl rfl, ?_, ?_⟩
   ·have hsz : ¬ (120 : Int) < (t.size : Int) := by omega
    unfold qCW
    simp only [c1, s1, hr, h1, qBg, h2, hsz, h5, h6, Option.bind_some, decide_true, decide_false, Bool.not_true, Bool.false_eq_true, if_false, if_true, and_self]
   ·have hsz : ¬ (120 : Int) < (t.size : Int) := by omega
    unfold qB5
    simp only [c2, s2, hr', h1, isId_is, qBD, h2, hsz, h5, h6, Option.bind_some, decide_true, decide_false, Bool.not_true, Bool.false_eq_true, if_false, if_true, and_self]
  ·obtain ⟨c', rfl⟩ : ∃ c' : Nat, c = (c' : Int) := ⟨c.toNat, by omega⟩
   obtain ⟨p, rfl⟩ : ∃ p : Nat, pl = (p : Int) := ⟨pl.toNat, by omega⟩
   exact ⟨addR a f id now c' p t, .inr ⟨id, c', p, t, h1, h2, k4, by omega, by omega, h4, h5, rfl⟩,
    s_add k hk a f id now c' p t T h1 hr h2 (by omega) (by omega) h4 h5, i_add k hk a f id now c' p t T h1 hr' h2 (by omega) (by omega) h4 h5⟩
 ·refine ⟨(a, (⟨#[]⟩, false)), .inl rfl, ?_, ?_⟩
  ·unfold qCW
   simp only [c1, s1, hr, qBg, Option.bind_some]
   by_cases h1 : shelfB a = true
   ·by_cases h2 : 1 ≤ f ∧ f ≤ 99
    ·by_cases h3 : ok = true
     ·by_cases h4 : (120 : Int) < (t.size : Int)
      ·simp [h1, h2, h3, h4]
      ·by_cases h5 : 0 ≤ now ∧ now ≤ 999999992
       ·exact absurd ⟨h1, h2, h3, by omega, h5⟩ H
       ·simp only [h1, h2, h3, h4, h5, decide_true, decide_false, and_self, Bool.not_true, Bool.not_false, if_true, Bool.false_eq_true, if_false]
     ·simp [h1, h2, h3]
    ·simp only [h1, h2, decide_false, Bool.not_true, Bool.not_false, if_true, Bool.true_eq_false, if_false]
   ·simp [h1]
  ·unfold qB5
   simp only [c2, s2, hr', isId_is, qBD, Option.bind_some]
   by_cases h1 : shelfB a = true
   ·by_cases h2 : 1 ≤ f ∧ f ≤ 99
    ·by_cases h3 : ok = true
     ·by_cases h4 : (120 : Int) < (t.size : Int)
      ·simp [h1, h2, h3, h4]
      ·by_cases h5 : 0 ≤ now ∧ now ≤ 999999992
       ·exact absurd ⟨h1, h2, h3, by omega, h5⟩ H
       ·simp only [h1, h2, h3, h4, h5, decide_true, decide_false, and_self, Bool.not_true, Bool.not_false, if_true, Bool.false_eq_true, if_false]
     ·simp [h1, h2, h3]
    ·simp only [h1, h2, decide_false, Bool.not_true, Bool.not_false, if_true, Bool.true_eq_false, if_false]
   ·simp [h1]
theorem addPart_is (k : Nat) (hk : 1048576 < k) (a : List qAm) (hb : qBJ a) (f now : Int) (T : ByteArray) : ∃ r : List qAm × ByteArray × Bool, qBJ r.1 ∧
  qCW k ((a, ()), (f, (T, (now, ())))) = some (((r.1, ()), (r.2.1, (r.2.2, ()))), ((), ((), ((), ((), ()))))) ∧
  qB5 k ((a, ()), (f, (T, (now, ())))) = some (((r.1, ()), (r.2.1, (r.2.2, ()))), ((), ((), ((), ((), ()))))) := by
 obtain ⟨r, hr, h1, h2⟩ := addPart_is0 k hk a hb f now T
 refine ⟨r, ?_, h1, h2⟩
 rcases hr with hr | ⟨id, c, p, t, g1, g2, g3, g4, g5, g6, g7, rfl⟩
 ·rw [hr]; exact hb
 ·exact bd_rest (add_ok (shelfB_ok g1) f id now c p t g4 g5 g6)
theorem szPacket_le (k : Nat) (x : Int × Int × Int × Int × Int × List (Int) × ByteArray × Unit) (n : Int) (h : 0 ≤ n ∧ n ≤ 1048576) (hk : 1048576 < k) (hw : qIB x) : ∃ m : Int, qEN k (x, (n, ())) = some (m, ((), ((), ()))) ∧ (0 ≤ m → m ≤ n ∧ qDh x) := by
 obtain ⟨a0, a1, a2, a3, a4, a5, a6, u⟩ := x
 unfold qEN
 unfold qIB at hw
 unfold qDh
 simp only [] at hw ⊢
 obtain ⟨w5, w6, _⟩ := hw
 obtain ⟨m0, e0, b0⟩ := szIntS_le k a5 n ⟨by omega, by omega⟩ hk w5
 simp only [e0, Option.bind_some]
 by_cases c0 : m0 < 0
 ·simp only [c0, decide_true, if_true]
  exact ⟨_, rfl, fun h => by omega⟩
 have d0 := b0 (by omega)
 simp only [c0, decide_false, Bool.false_eq_true, if_false]
 have e1 : wi64 (m0 - (ByteArray.size a6 : Int)) = m0 - (ByteArray.size a6 : Int) := qAH _ (by omega)
 simp only [e1]
 by_cases c1 : (m0 - (ByteArray.size a6 : Int)) < 0
 ·simp only [c1, decide_true, if_true]
  exact ⟨_, rfl, fun h => by omega⟩
 simp only [c1, decide_false, Bool.false_eq_true, if_false]
 exact ⟨_, rfl, fun _ => ⟨by omega, ⟨d0.2, by omega, trivial⟩⟩⟩
theorem toPacket_is (k : Nat) (x : Int × Int × Int × Int × Int × List (Int) × ByteArray × Unit) (hk : 1048576 < k) (hb : qDh x) : qCK k (x, ()) = some (x, ((), ())) := by
 obtain ⟨a0, a1, a2, a3, a4, a5, a6, u⟩ := x
 unfold qCK
 unfold qDh at hb
 obtain ⟨b5, b6, b⟩ := hb
 simp only [] at b5 b6
 simp only [toIntS_is k a5 hk b5, Option.bind_some]
abbrev InnerA := Int × Int × ByteArray × Unit
def zeroI : InnerA := ((0 : Int), ((0 : Int), ((⟨#[]⟩ : ByteArray), ())))
theorem take_both (k : Nat) (hk : 2097152 < k) (u : UserA) (p : qCm) (now : Int) (hb : qCF u) (hp : qDh p) : ∃ r : UserA × InnerA × Bool, qCF r.1 ∧
  qDD k (u, (p, (now, ()))) = some ((r.1, (r.2.1, (r.2.2, ()))), ((), ((), ((), ())))) ∧ qCi k (u, (p, (now, ()))) = some ((r.1, (r.2.1, (r.2.2, ()))), ((), ((), ((), ())))) := by
 have c1 := s_l22CopyUser_is k u (by omega) hb
 have c2 := i_copyUser_is k u (by omega) hb
 obtain ⟨a0, a1, a2, a3, a4, a5, a6, a7, a8, a9, a10, a11, a12, a13, a14, a15, ⟨⟩⟩ := u
 obtain ⟨p1, p2, p3, p4, p5, p6, p7, ⟨⟩⟩ := p
 obtain ⟨hs, hh⟩ := qF6 hb
 have e1 := s_OpenData_is k _ (p1, (p2, (p3, (p4, (p5, (p6, (p7, ()))))))) now hs hk
 have e2 := i_OpenData_is k _ (p1, (p2, (p3, (p4, (p5, (p6, (p7, ()))))))) now hs hp.1 hk
 have hy := openR_bd (p := (p1, (p2, (p3, (p4, (p5, (p6, (p7, ())))))))) (now := now) hs
 generalize openR (a2, (a3, (a4, (a5, (a6, (a7, (a8, (a9, (a10, (a11, (a12, (a13, ())))))))))))) (p1, (p2, (p3, (p4, (p5, (p6, (p7, ()))))))) now = r at e1 e2 hy
 obtain ⟨⟨y1, y2, y3, y4, y5, y6, y7, y8, y9, y10, y11, y12, ⟨⟩⟩, t, ok, ⟨⟩⟩ := r
 cases ok with
 | false =>
  refine ⟨((a0, (a1, (a2, (a3, (a4, (a5, (a6, (a7, (a8, (a9, (a10, (a11, (a12, (a13, (a14, (a15, ())))))))))))))))), (zeroI, false)), hb, ?_, ?_⟩
  ·unfold qDD
   simp only [c1, e1, Option.bind_some, Bool.not_false, if_true]
   rfl
  ·unfold qCi
   simp only [c2, e2, Option.bind_some, Bool.not_false, if_true]
   rfl
 | true =>
  obtain ⟨⟨a, w, d⟩, hA, f1, f2⟩ := addPart_is k (by omega) a14 hh p3 now t
  obtain ⟨⟨⟨x, is, ⟨⟩⟩, ⟨⟩, ⟨⟩⟩, g1⟩ := s_ReadInner_ends k w
  have g2 := g1
  rw [← i_ReadInner_is] at g2
  obtain ⟨x1, x2, x3, ⟨⟩⟩ := x
  simp only at hA f1 f2
  refine ⟨((a0, (a1, (y1, (y2, (y3, (y4, (y5, (y6, (y7, (y8, (y9, (y10, (y11, (y12, (a, (a15, ())))))))))))))))), (if d = true ∧ is = true then ((x1, (x2, (x3, ()))), true) else (zeroI, false))), bd_userOf hy hA, ?_, ?_⟩
  ·unfold qDD
   simp only [c1, e1, f1, g1, Option.bind_some, Bool.not_true, Bool.false_eq_true, if_false]
   cases d <;> cases is <;> rfl
  ·unfold qCi
   simp only [c2, e2, f2, g2, Option.bind_some, Bool.not_true, Bool.false_eq_true, if_false]
   cases d <;> cases is <;> rfl
theorem eqInner_self (k : Nat) (x : InnerA) : qDd k (x, (x, ())) = some (true, ((), ((), ()))) := by
 unfold qDd
 simp
theorem takeData_law (k : Nat) (hk : 4611686018427387904 < k) (u : UserA) (p : qCm) (now : Int) (hw : Wf_User u) (hwp : qIB p) : w_FnExactTakeData k (u, (p, (now, ()))) = some (true, ((), ((), ((), ())))) := by
 unfold w_FnExactTakeData
 obtain ⟨m, h1, h2⟩ := szUser_le k u 1048576 (by omega) (by omega) hw
 simp only [h1, Option.bind_some]
 by_cases hm : m < 0
 ·simp [hm]
 obtain ⟨hm', hb⟩ := h2 (by omega)
 obtain ⟨m', h3, h4⟩ := szPacket_le k p m (by omega) (by omega) hwp
 simp only [hm, decide_false, Bool.false_eq_true, if_false, h3, Option.bind_some]
 by_cases hm2 : m' < 0
 ·simp [hm2]
 obtain ⟨_, hbp⟩ := h4 (by omega)
 have e1 := toUser_is k u (by omega) hb
 have e2 := toPacket_is k p (by omega) hbp
 obtain ⟨⟨v, x, d⟩, hv, e3, e4⟩ := take_both k (by omega) u p now hb hbp
 simp only at hv e3 e4
 have e5 := eqUser_is k v v (by omega) hv
 have e6 := eqInner_self k x
 have e7 := eqUser_is k u u (by omega) hb
 have e8 := eqPacket_is k p p (by omega) hbp
 obtain ⟨a0, a1, a2, a3, a4, a5, a6, a7, a8, a9, a10, a11, a12, a13, a14, a15, ⟨⟩⟩ := u
 obtain ⟨v0, v1, v2, v3, v4, v5, v6, v7, v8, v9, v10, v11, v12, v13, v14, v15, ⟨⟩⟩ := v
 obtain ⟨m1, m2, m3, n1, i1, i2, i3, i4⟩ := MH_User k hk 1 (by omega) (by omega) hb
 obtain ⟨m4, m5, m6, n2, j1, j2, j3, j4⟩ := MH_User k hk 1 (by omega) (by omega) hv
 have hac : p.2.2.2.2.2.1.length ≤ 1048576 := hbp.1
 obtain ⟨m7, n3, l1, l2, l3, l4, l5⟩ := MH_IntS k p.2.2.2.2.2.1 n1 (by omega) (by omega) (by omega) hac
 have p1 : ¬ n1 < 0 := by omega
 have p2 : ¬ n2 < 0 := by omega
 have p3 : ¬ n3 < 0 := by omega
 unfold qDt
 simp only [hm2, decide_false, Bool.false_eq_true, if_false, e1, e2, e3, e4, e5, e6, e7, e8, i3, j3, j4, l4, l5, p1, p2, p3, qDx, Option.bind_some, Bool.not_true, if_true, decide_true]
theorem pure_FnExactTakeData (x : qGy pars_FnExactTakeData) (hx : argsWf pars_FnExactTakeData x) : ∃ k o, w_FnExactTakeData k (argsX pars_FnExactTakeData x) = some (true, o) := by
 obtain ⟨⟨a0, a1, ⟨⟨a2, a3, a4, a5, a6, a7⟩, a8, a9, a10, a11, a12, a13⟩, a14, a15⟩, ⟨op, key, fr, tg, num, acks, body⟩, now, u⟩ := x
 refine ⟨4611686018427387905, ((), ((), ((), ()))), ?_⟩
 show w_FnExactTakeData 4611686018427387905 ((a0, (a1, (a2, (a3, (a4, (a5, (a6, (a7, (a8, (a9, (a10, (a11, (a12, (a13, (a14, (a15, ())))))))))))))))), ((op, (key, (fr, (tg, (num, (acks, (body, ()))))))), (now, ()))) = _
 have hu := hx.1
 have hw : Wf_User (a0, (a1, (a2, (a3, (a4, (a5, (a6, (a7, (a8, (a9, (a10, (a11, (a12, (a13, (a14, (a15, ())))))))))))))))) :=
  ⟨hu.2.2.1.1.2.1, hu.2.2.1.1.2.2.1, hu.2.2.1.1.2.2.2.2.1.1, hu.2.2.1.2.2.1, hu.2.2.1.2.2.2.1, hu.2.2.1.2.2.2.2.2.1.1,
   ⟨hu.2.2.2.1.1, fun r hr => ⟨(hu.2.2.2.1.2 r hr).2.2.2.1, (hu.2.2.2.1.2 r hr).2.2.2.2.1.1, trivial⟩⟩, trivial⟩
 have hc : qIB (op, (key, (fr, (tg, (num, (acks, (body, ()))))))) := ⟨hx.2.1.2.2.2.2.2.1.1, hx.2.1.2.2.2.2.2.2, trivial⟩
 exact takeData_law 4611686018427387905 (by decide) _ _ now hw hc
open Go.ChangeShapes Go.WideShapes Go.ChangeAt Go.RowKit
theorem own_FnExactTakeData : ownKnob Tryz.prog.godebug = none := by kernel_rfl
theorem lifted_FnExactTakeData (os : Os) (started : os.Started) (H : Type) (enc : TypeId × Value → H) :
  ReturnsInHanded {} Tryz.checked os 7 .any (Rows.fnExactTakeDataSpec.pre6 enc Tryz.prog Tryz.f7 Rows.fnExactTakeDataRow.domain false) (Rows.fnExactTakeDataSpec.post enc Tryz.prog Tryz.f7 false true false false) :=
 law_lifted (C := Tryz.checked) (l := pars_FnExactTakeData) (rb := 4) own_FnExactTakeData started (by kernel_rfl) Tryz.func7
  (ChangeSpec.witness6 (enc := enc) (C := Tryz.checked) false ⟨#[], #[.agg #[.int .i64 0, .int .i64 0, .int .i64 0, .string ByteArray.empty, .string ByteArray.empty, .int .i64 0, .slice none 0 0, .int .i64 0, .int .i64 0, .string ByteArray.empty, .string ByteArray.empty, .int .i64 0, .slice none 0 0, .int .i64 0, .slice none 0 0, .int .i64 0], .agg #[.int .i64 0, .int .i64 0, .int .i64 0, .int .i64 0, .int .i64 0, .slice none 0 0, .string ByteArray.empty], .int .i64 0], []⟩ 8 (by kernel_rfl) (by kernel_rfl) (by kernel_rfl) (by kernel_rfl))
  e_w_FnExactTakeData rfl (by decide) pure_FnExactTakeData (by kernel_rfl) rfl Tryz.underlying4 (by kernel_rfl) (by kernel_rfl) rfl (fun _ => ⟨fun _ h => h.elim, trivial⟩)
  (fun ds h => match ds, h with | [_, _, _], _ => rfl)
theorem inPlace_FnExactTakeData : Tryz.prog.inPlace 7 = Rows.fnExactTakeDataRow.inPlace := by kernel_rfl
theorem unfollowed_FnExactTakeData : Tryz.prog.unfollowed 7 = Rows.fnExactTakeDataRow.unfollowed := by kernel_rfl
theorem recurses_FnExactTakeData : Tryz.prog.recurses 7 = Rows.fnExactTakeDataRow.recurses := by kernel_rfl
theorem named_FnExactTakeData : Tryz.prog.varsNamed 7 = Rows.fnExactTakeDataRow.named := by kernel_rfl
theorem facts_FnExactTakeData : joinedFacts Tryz.prog 7 Tryz.f7 Rows.fnExactTakeDataSpec Rows.fnExactTakeDataRow = true := by
 unfold joinedFacts
 rw [seat_laid, seat_maps, seat_heard, seat_enter, inPlace_FnExactTakeData, unfollowed_FnExactTakeData, recurses_FnExactTakeData, named_FnExactTakeData]
 kernel_rfl
theorem fnExactTakeData_holds : Rows.FnExactTakeDataSaid :=
 OpenClaim.holds_of_wide 7 Tryz.f7 rfl rfl rfl rfl rfl rfl rfl ⟨rfl, rfl, rfl, rfl, rfl⟩ rfl rfl rfl rfl rfl (by kernel_rfl) Tryz.func7 facts_FnExactTakeData (of_decide_eq_true (by kernel_rfl))
  (by unfold Func.isWrapper; first | (rw [if_pos (by decide +kernel)]; kernel_rfl) | (rw [if_neg (by decide +kernel)]; exact ⟨rfl, rfl⟩)) (fun os started H enc _ => lifted_FnExactTakeData os started H enc)
#print axioms fnExactTakeData_holds
end Go.Proofs.YtnfllchbpechlaaGreat
