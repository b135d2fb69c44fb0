import Derived.Test.YtaamcelinnnncaaRows
import Derived.Test.YtaamcelinnnncaaFun1
import Derived.Test.YtaamcelinnnncaaBase
import Derived.Test.YtaamcelinnnncaaFacts
import Derived.WalkKit
import Derived.ProofKit
import Derived.OpenShut
import Derived.ShutString
import Derived.ChangeOld
import Derived.Below
import Derived.SizedLaws
/- FnSettles answers true for every input, and its arguments read behind the call as they did ahead of it. Conditions: none. -/
set_option linter.unusedVariables false
set_option linter.unusedSimpArgs false
namespace Go.Proofs.Ytaamcelinnnncaa
open Go Go.Eng Go.Proofs
abbrev pars_FnSettles : List Par := [(false, (.list (.int .u8)))]
theorem l01In_is (k : Nat) (a b c : Int) : s_l01In k (a, (b, (c, ()))) = some (decide (b ≤ a ∧ a ≤ c), ((), ((), ((), ())))) := by
  unfold s_l01In
  by_cases h : b ≤ a <;> simp [h]
theorem within_is (k : Nat) (a b c : Int) : i_within k (a, (b, (c, ()))) = some (decide (b ≤ a ∧ a ≤ c), ((), ((), ((), ())))) := l01In_is k a b c
theorem isId_is (k : Nat) (a : Int) : i_isId k (a, ()) = some (decide (1 ≤ a ∧ a ≤ 99), ((), ())) := by
  unfold i_isId
  rw [within_is]
  rfl
/-- A loop that looks at each place, and gives up at the first that is not as it should be. -/
theorem all_loop {X R : Type} {step : (X → Option R) → X → Option R} (st : Nat → X) (n : Nat) (p : Nat → Bool) (no fin : Option R)
    (hs : ∀ again i, i < n → step again (st i) = if p i = true then again (st (i + 1)) else no) (he : ∀ again, step again (st n) = fin) (k : Nat) (hk : n < k) :
    whileK step k (st 0) = if (List.range n).all p = true then fin else no := by
  rw [find_loop_opt st n (fun i => !p i) no fin (fun again i hi => by rw [hs again i hi]; cases p i <;> simp) he k hk]
  simp
theorem all_rd {t : Ty} (l : List t.den) (p : t.den → Bool) : (List.range l.length).all (fun i => p (Ty.rd (t := t) l ((i : Nat) : Int))) = l.all p := by
  rw [Bool.eq_iff_iff, List.all_eq_true, List.all_eq_true]
  constructor
  · intro h x hx
    obtain ⟨i, hi, rfl⟩ := List.mem_iff_getElem.1 hx
    have := h i (by simpa using hi)
    rw [rd_get (t := t) l _ (by simpa using hi)] at this
    exact this
  · intro h i hi
    have hi' : i < l.length := by simpa using hi
    rw [rd_get (t := t) l _ (by simpa using hi')]
    exact h _ (List.getElem_mem _)
theorem find_mem (a : List Int) (n : Int) (p : Nat → Bool) (hp : ∀ i (hi : i < a.length), p i = true ↔ a[i] = n) : ((List.range a.length).find? p).isSome = decide (n ∈ a) := by
  rw [Bool.eq_iff_iff, decide_eq_true_eq, List.find?_isSome]
  constructor
  · rintro ⟨i, hi, h⟩
    have hi : i < a.length := by simpa using hi
    rw [← (hp i hi).1 h]
    exact List.getElem_mem hi
  · intro h
    obtain ⟨i, hi, e⟩ := List.mem_iff_getElem.1 h
    exact ⟨i, by simpa using hi, (hp i hi).2 e⟩
theorem rd_i (a : List Int) (i : Nat) (hi : i < a.length) : Ty.rd (t := (.int .i64)) a ((i : Nat) : Int) = a[i] := rd_get (t := .int .i64) a _ (by simpa using hi)
theorem Contains_is (k : Nat) (a : List Int) (n : Int) (hk : 1048576 < k) (hl : a.length ≤ 1048576) : x_slices_Contains_int_int k (a, (n, ())) = some (decide (n ∈ a), ((), ((), ()))) := by
  have e : x_slices_Index_int_int k (a, (n, ())) = some ((match (List.range a.length).find? (fun i => decide (n = Ty.rd (t := (.int .i64)) a ((i : Nat) : Int))) with | some i => (((i : Nat) : Int), ((), ((), ()))) | none => (-1, ((), ((), ()))))) := by
    unfold x_slices_Index_int_int
    refine loop_find (fun i => (a, (n, ((a.length : Int), (((i : Nat) : Int), ()))))) a.length (fun i => decide (n = Ty.rd (t := (.int .i64)) a ((i : Nat) : Int))) (fun i => (((i : Nat) : Int), ((), ((), ())))) (-1, ((), ((), ()))) ?_ ?_ k (by omega)
    · intro again i hi
      have g1 : (0 : Int) ≤ (i : Int) ∧ (i : Int) < (a.length : Int) := by omega
      have w2 : wi64 ((i : Int) + 1) = ((i + 1 : Nat) : Int) := (w64_id _ (by omega)).trans (by omega)
      simp only [g1, w2, and_self, decide_true, if_true]
    · intro again
      simp
  unfold x_slices_Contains_int_int
  rw [← find_mem a n (fun i => decide (n = Ty.rd (t := (.int .i64)) a ((i : Nat) : Int))) (fun i hi => by rw [rd_i a i hi, decide_eq_true_eq]; exact eq_comm)]
  simp only [e, Option.bind_some]
  cases (List.range a.length).find? (fun i => decide (n = Ty.rd (t := (.int .i64)) a ((i : Nat) : Int))) with
  | none => rfl
  | some i => simp
abbrev Pk : Type := Int × Int × Int × Int × Int × List Int × ByteArray × Unit
/-- Is a packet right? -/
def pkB (p : Pk) : Bool := decide (1 ≤ p.1 ∧ p.1 ≤ 3) && (decide (0 ≤ p.2.1 ∧ p.2.1 ≤ 7) && (decide (1 ≤ p.2.2.1 ∧ p.2.2.1 ≤ 99) && (decide (1 ≤ p.2.2.2.1 ∧ p.2.2.2.1 ≤ 99) && (decide (0 ≤ p.2.2.2.2.1 ∧ p.2.2.2.2.1 ≤ 1000000000) && (decide (p.2.2.2.2.2.1.length ≤ 4) && (decide (p.2.2.2.2.2.2.1.size ≤ 120) && (p.2.2.2.2.2.1.all (fun n => decide (1 ≤ n ∧ n ≤ 1000000000)) && ((decide (p.2.2.2.2.2.1 = []) || decide (p.1 ≠ 3)) && ((decide (p.1 ≠ 2) || (decide (p.2.2.2.2.2.2.1 = (⟨#[]⟩ : ByteArray)) && decide (p.2.2.2.2.1 = 0))))))))))))
def pkT (op key fr dst num : Int) (acks : List Int) (body : ByteArray) : Bool := decide (1 ≤ op ∧ op ≤ 3) && (decide (0 ≤ key ∧ key ≤ 7) && (decide (1 ≤ fr ∧ fr ≤ 99) && (decide (1 ≤ dst ∧ dst ≤ 99) && (decide (0 ≤ num ∧ num ≤ 1000000000) && ((decide (acks = []) || (decide (op ≠ 3) && decide (acks.length ≤ 4))) && (decide (body.size ≤ 120) && ((decide (op ≠ 2) || (decide (body = (⟨#[]⟩ : ByteArray)) && decide (num = 0))))))))))
theorem i_PacketOk_is (k : Nat) (p : Pk) (hl : p.2.2.2.2.2.1.length ≤ 1048576) (hk : 1048576 < k) : i_PacketOk k (p, ()) = some (pkB p, ((), ())) := by
  obtain ⟨op, key, fr, dst, num, acks, body, u⟩ := p
  simp only at hl
  unfold i_PacketOk
  refine (all_loop (fun i => ((op, (key, (fr, (dst, (num, (acks, (body, ()))))))), (acks, ((acks.length : Int), ((i : Int), ()))))) acks.length (fun i => decide (1 ≤ Ty.rd (t := .int .i64) acks (i : Int) ∧ Ty.rd (t := .int .i64) acks (i : Int) ≤ 1000000000)) (some (false, ((), ())))
    (some (pkT op key fr dst num acks body, ((), ()))) ?_ ?_ k (by omega)).trans ?_
  · intro again i hi
    have g1 : (i : Int) < (acks.length : Int) := by omega
    have g2 : (0 : Int) ≤ (i : Int) := by omega
    have w : wi64 ((i : Int) + 1) = ((i + 1 : Nat) : Int) := (w64_id _ (by omega)).trans (by omega)
    simp only [g1, g2, w, within_is, and_self, decide_true, if_true, Option.bind_some]
    by_cases q1 : 1 ≤ Ty.rd (t := .int .i64) acks (i : Int) ∧ Ty.rd (t := .int .i64) acks (i : Int) ≤ 1000000000 <;> simp [q1]
  · intro again
    have hne : (decide ((acks.length : Int) = 0)) = decide (acks = []) := by cases acks <;> simp; omega
    have h4 : (decide ((acks.length : Int) ≤ 4)) = decide (acks.length ≤ 4) := by congr 1; exact propext (by omega)
    have h7 : (decide ((body.size : Int) ≤ 120)) = decide (body.size ≤ 120) := by congr 1; exact propext (by omega)
    have hz : (⟨#[]⟩ : ByteArray).size = 0 := rfl
    unfold pkT
    simp only [Int.lt_irrefl, decide_false, Bool.false_eq_true, if_false, within_is, isId_is, Option.bind_some, hne, h4, h7]
    by_cases c1 : 1 ≤ op ∧ op ≤ 3
    · by_cases c2 : 0 ≤ key ∧ key ≤ 7
      · by_cases c3 : 1 ≤ fr ∧ fr ≤ 99
        · by_cases c4 : 1 ≤ dst ∧ dst ≤ 99
          · by_cases c5 : 0 ≤ num ∧ num ≤ 1000000000
            · by_cases c6 : acks = [] <;> by_cases c7 : body.size ≤ 120 <;> by_cases c8 : op = 3 <;> by_cases c9 : op = 2 <;> by_cases c10 : body = (⟨#[]⟩ : ByteArray) <;> by_cases c11 : acks.length ≤ 4 <;> simp [c1, c2, c3, c4, c5, c6, c7, c8, c9, c10, c11, hz]
            · simp [c1, c2, c3, c4, c5]
          · simp [c1, c2, c3, c4]
        · simp [c1, c2, c3]
      · simp [c1, c2]
    · simp [c1]
  · rw [all_rd (t := .int .i64) acks (fun n => decide (1 ≤ n ∧ n ≤ 1000000000))]
    unfold pkB pkT
    by_cases ha : acks = []
    · subst ha; simp
    · cases acks.all (fun n => decide (1 ≤ n ∧ n ≤ 1000000000)) <;> simp [ha]
      · by_cases c11 : acks.length ≤ 4 <;> by_cases c8 : op = 3 <;> simp [c11, c8]
theorem del_run {A R C : Type} {step : (List A × C × Int × Int × Unit → Option R) → List A × C × Int × Int × Unit → Option R} (D : A → Bool) (c : C) (fin : List A → R)
    (hs : ∀ again (p gs r : List A) (g v : A), p.length + gs.length + r.length ≤ 1048576 → step again (p ++ g :: (gs ++ v :: r), (c, ((p.length : Int), (((p.length + gs.length + 1 : Nat) : Int), ())))) =
      if D v = true then again (p ++ g :: (gs ++ v :: r), (c, ((p.length : Int), (((p.length + gs.length + 2 : Nat) : Int), ())))) else again (p ++ v :: (gs ++ v :: r), (c, (((p.length + 1 : Nat) : Int), (((p.length + gs.length + 2 : Nat) : Int), ())))))
    (he : ∀ again (q t : List A), step again (q ++ t, (c, ((q.length : Int), ((((q ++ t).length : Nat) : Int), ())))) = some (fin q)) :
    ∀ (r p gs : List A) (g : A) (k : Nat), p.length + gs.length + r.length ≤ 1048576 → r.length < k → whileK step k (p ++ g :: (gs ++ r), (c, ((p.length : Int), (((p.length + gs.length + 1 : Nat) : Int), ())))) = some (fin (p ++ r.filter (fun v => !D v))) := by
  intro r
  induction r with
  | nil =>
    intro p gs g k hb hk
    obtain ⟨k, rfl⟩ : ∃ k', k = k' + 1 := ⟨k - 1, by omega⟩
    have e1 : ((p.length + gs.length + 1 : Nat) : Int) = (((p ++ (g :: (gs ++ []))).length : Nat) : Int) := by simp; omega
    have := he (whileK step k) p (g :: (gs ++ []))
    show step _ _ = _
    rw [e1]
    simpa using this
  | cons v r ih =>
    intro p gs g k hb hk
    obtain ⟨k, rfl⟩ : ∃ k', k = k' + 1 := ⟨k - 1, by omega⟩
    simp only [List.length_cons] at hb hk
    by_cases d : D v = true
    · have ht := ih p (gs ++ [v]) g k (by simp; omega) (by omega)
      show step _ _ = _
      rw [hs _ p gs r g v (by omega), if_pos d, List.filter_cons_of_neg (by simp [d]), ← ht]
      simp
      rfl
    · have ht : whileK step k (p ++ v :: (gs ++ v :: r), (c, (((p.length + 1 : Nat) : Int), (((p.length + gs.length + 2 : Nat) : Int), ())))) = some (fin (p ++ (v :: r).filter (fun v => !D v))) := by
        cases gs with
        | nil =>
          have ht := ih (p ++ [v]) [] v k (by simp; omega) (by omega)
          rw [List.filter_cons_of_pos (by simp [d])]
          have e1 : ((p ++ [v]).length : Int) = ((p.length + 1 : Nat) : Int) := by simp
          have e2 : (((p ++ [v]).length + ([] : List A).length + 1 : Nat) : Int) = ((p.length + ([] : List A).length + 2 : Nat) : Int) := by simp; omega
          rw [e1, e2] at ht
          simpa using ht
        | cons g' gs' =>
          have ht := ih (p ++ [v]) (gs' ++ [v]) g' k (by simp at hb ⊢; omega) (by omega)
          rw [List.filter_cons_of_pos (by simp [d])]
          have e1 : ((p ++ [v]).length : Int) = ((p.length + 1 : Nat) : Int) := by simp
          have e2 : (((p ++ [v]).length + (gs' ++ [v]).length + 1 : Nat) : Int) = ((p.length + (g' :: gs').length + 2 : Nat) : Int) := by simp; omega
          rw [e1, e2] at ht
          simpa using ht
      show step _ _ = _
      rw [hs _ p gs r g v (by omega), if_neg d]
      exact ht
/-- What is found first, and the rest that stays. -/
theorem first_split {A : Type} (d : A) (D : A → Bool) (L : List A) : (match (List.range L.length).find? (fun i => D (L.getD i d)) with
    | none => L.filter (fun x => !D x) = L
    | some i => ∃ p g r, L = p ++ g :: r ∧ p.length = i ∧ L.filter (fun x => !D x) = p ++ r.filter (fun x => !D x)) := by
  cases hq : (List.range L.length).find? (fun i => D (L.getD i d)) with
  | none =>
    rw [List.find?_eq_none] at hq
    rw [List.filter_eq_self]
    intro x hx
    obtain ⟨i, hi, rfl⟩ := List.mem_iff_getElem.1 hx
    have := hq i (by simpa using hi)
    simp only [List.getD, List.getElem?_eq_getElem hi, Option.getD_some] at this
    simpa using this
  | some i =>
    have hi : i < L.length := by
      have := List.mem_of_find?_eq_some hq
      simpa using this
    have h1 := List.find?_some hq
    have h2 := (find_at hi h1).1 hq
    simp only [List.getD, List.getElem?_eq_getElem hi, Option.getD_some] at h1
    refine ⟨L.take i, L[i], L.drop (i + 1), ?_, by simp; omega, ?_⟩
    · rw [← List.drop_eq_getElem_cons hi, List.take_append_drop]
    · have hsplit : L = L.take i ++ L[i] :: L.drop (i + 1) := by rw [← List.drop_eq_getElem_cons hi, List.take_append_drop]
      conv => lhs; rw [hsplit]
      rw [List.filter_append, List.filter_cons_of_neg (by simp [h1])]
      congr 1
      rw [List.filter_eq_self]
      intro x hx
      obtain ⟨j, hj, rfl⟩ := List.mem_iff_getElem.1 hx
      have hj' : j < i := by simp at hj; omega
      have := h2 j hj'
      simp only [List.getD, List.getElem?_eq_getElem (show j < L.length by omega), Option.getD_some] at this
      rw [List.getElem_take]
      simp [this]
theorem getO_lt : ∀ {t : Ty} {x : t.den} {off : Nat} {o : OL}, t.getO x off = some o → off < t.w
  | .ols _ _, _, 0, _, _ => Nat.zero_lt_one
  | .ols _ _, _, _ + 1, _, h => by simp [Ty.getO] at h
  | .pair a b, x, off, o, h => by
    simp only [Ty.getO] at h
    show off < a.w + b.w
    split at h
    · omega
    · have := getO_lt h
      omega
  | .int _, _, _, _, h => by simp [Ty.getO] at h
  | .bool, _, _, _, h => by simp [Ty.getO] at h
  | .str, _, _, _, h => by simp [Ty.getO] at h
  | .list _, _, _, _, h => by simp [Ty.getO] at h
  | .unit, _, _, _, h => by simp [Ty.getO] at h
  | .nm, _, _, _, h => by simp [Ty.getO] at h
  | .olq _ _, _, _, _, h => by simp [Ty.getO] at h
theorem dec_enc {lk : Nat → Option OL} : ∀ {t : Ty} {x : t.den} {n : Nat}, 0 < n → (∀ off o, t.getO x off = some o → lk (n + off) = some o) → t.dec lk (t.enc x n) = some x
  | .ols e u, x, n, hn, h => by
    obtain ⟨m, rfl⟩ : ∃ m, n = m + 1 := ⟨n - 1, by omega⟩
    have := h 0 ⟨e, u, x⟩ rfl
    show decN lk e u (m + 1) = some x
    rw [Nat.add_zero] at this
    simp [decN, this]
  | .pair a b, x, n, hn, h => by
    have h1 := dec_enc (t := a) (x := x.1) (n := n) hn fun off o ho => h off o (by simp only [Ty.getO]; rw [if_pos (getO_lt ho)]; exact ho)
    have h2 := dec_enc (t := b) (x := x.2) (n := n + a.w) (by omega) fun off o ho => by
      rw [Nat.add_assoc]
      exact h (a.w + off) o (by simp only [Ty.getO]; rw [if_neg (by omega), Nat.add_sub_cancel_left]; exact ho)
    show (match a.dec lk (a.enc x.1 n), b.dec lk (b.enc x.2 (n + a.w)) with | some y, some z => some (y, z) | _, _ => none) = _
    rw [h1, h2]
  | .int _, _, _, _, _ => rfl
  | .bool, _, _, _, _ => rfl
  | .str, _, _, _, _ => rfl
  | .list _, _, _, _, _ => rfl
  | .unit, _, _, _, _ => rfl
  | .nm, _, _, _, _ => rfl
  | .olq _ _, x, _, _, _ => by cases x <;> rfl
theorem nms_enc : ∀ {t : Ty} {x : t.den} {n : Nat}, 0 < n → (t.nms (t.enc x n)).Pairwise (· < ·) ∧ ∀ m ∈ t.nms (t.enc x n), n ≤ m ∧ m < n + t.w
  | .ols e u, x, n, hn => by
    obtain ⟨m, rfl⟩ : ∃ m, n = m + 1 := ⟨n - 1, by omega⟩
    show (nmsN (m + 1)).Pairwise _ ∧ ∀ q ∈ nmsN (m + 1), _
    have : (Ty.ols e u).w = 1 := rfl
    simp [nmsN, this]
  | .pair a b, x, n, hn => by
    obtain ⟨h1, h2⟩ := nms_enc (t := a) (x := x.1) (n := n) hn
    obtain ⟨h3, h4⟩ := nms_enc (t := b) (x := x.2) (n := n + a.w) (by omega)
    have hw : (Ty.pair a b).w = a.w + b.w := rfl
    show (a.nms (a.enc x.1 n) ++ b.nms (b.enc x.2 (n + a.w))).Pairwise _ ∧ ∀ m ∈ a.nms (a.enc x.1 n) ++ b.nms (b.enc x.2 (n + a.w)), _
    refine ⟨List.pairwise_append.2 ⟨h1, h3, fun p hp q hq => ?_⟩, fun m hm => ?_⟩
    · have := h2 p hp
      have := h4 q hq
      omega
    · rcases List.mem_append.1 hm with hm | hm
      · have := h2 m hm; omega
      · have := h4 m hm; omega
  | .int _, _, _, _ => ⟨List.Pairwise.nil, by simp [Ty.nms]⟩
  | .bool, _, _, _ => ⟨List.Pairwise.nil, by simp [Ty.nms]⟩
  | .str, _, _, _ => ⟨List.Pairwise.nil, by simp [Ty.nms]⟩
  | .list _, _, _, _ => ⟨List.Pairwise.nil, by simp [Ty.nms]⟩
  | .unit, _, _, _ => ⟨List.Pairwise.nil, by simp [Ty.nms]⟩
  | .nm, _, _, _ => ⟨List.Pairwise.nil, by simp [Ty.nms]⟩
  | .olq _ _, _, _, _ => ⟨List.Pairwise.nil, by simp [Ty.nms]⟩
theorem decs_map {lk : Nat → Option OL} {t : Ty} : ∀ {Y : List (t.nmd.den × t.den)}, (∀ y ∈ Y, t.dec lk y.1 = some y.2) → t.decs lk (Y.map Prod.fst) = some (Y.map Prod.snd)
  | [], _ => rfl
  | y :: Y, h => by
    have h1 := h y (by simp)
    have h2 := decs_map (Y := Y) fun z hz => h z (List.mem_cons_of_mem _ hz)
    show (match t.dec lk y.1, t.decs lk (Y.map Prod.fst) with | some x, some xs => some (x :: xs) | _, _ => none) = _
    rw [h1, h2]
    rfl
abbrev PendR := Int × ByteArray × Int × Int
abbrev EarlyR := Int × ByteArray
abbrev ChanA := Int × Int × Int × List ByteArray × List PendR × Int × List EarlyR × List Int × List ByteArray × Unit
abbrev TPend : Ty := .pair (.int .i64) (.pair .str (.pair (.int .i64) (.int .i64)))
abbrev TEarly : Ty := .pair (.int .i64) .str
def sentP (nx : Int) (l : List PendR) (i : Nat) : Bool :=
  decide ((0 < i → (Ty.rd (t := TPend) l ((i - 1 : Nat) : Int)).1 < (Ty.rd (t := TPend) l (i : Int)).1) ∧ (1 ≤ (Ty.rd (t := TPend) l (i : Int)).1 ∧ (Ty.rd (t := TPend) l (i : Int)).1 ≤ nx) ∧ (0 ≤ (Ty.rd (t := TPend) l (i : Int)).2.2.1 ∧ (Ty.rd (t := TPend) l (i : Int)).2.2.1 ≤ 1000000000) ∧ (1 ≤ (Ty.rd (t := TPend) l (i : Int)).2.2.2 ∧ (Ty.rd (t := TPend) l (i : Int)).2.2.2 ≤ 8) ∧ (Ty.rd (t := TPend) l (i : Int)).2.1.size ≤ 120)
def earlyP (got : Int) (l : List EarlyR) (i : Nat) : Bool :=
  decide ((0 < i → (Ty.rd (t := TEarly) l ((i - 1 : Nat) : Int)).1 < (Ty.rd (t := TEarly) l (i : Int)).1) ∧ (wi64 (got + 2) ≤ (Ty.rd (t := TEarly) l (i : Int)).1 ∧ (Ty.rd (t := TEarly) l (i : Int)).1 ≤ wi64 (got + 4)) ∧ (Ty.rd (t := TEarly) l (i : Int)).2.size ≤ 120)
def owedP (got : Int) (l : List Int) (i : Nat) : Bool := decide (1 ≤ Ty.rd (t := .int .i64) l (i : Int) ∧ Ty.rd (t := .int .i64) l (i : Int) ≤ wi64 (got + 4))
def textP (l : List ByteArray) (i : Nat) : Bool := decide ((Ty.rd (t := .str) l (i : Int)).size ≤ 120)
def textsB (l : List ByteArray) : Bool := (List.range l.length).all (textP l)
def chanB (c : ChanA) : Bool :=
  decide ((1 ≤ c.1 ∧ c.1 ≤ 99) ∧ (1 ≤ c.2.1 ∧ c.2.1 ≤ 99) ∧ (0 ≤ c.2.2.1 ∧ c.2.2.1 ≤ 1000) ∧ (c.2.2.2.1.length : Int) ≤ 30 ∧ (0 ≤ c.2.2.2.2.2.1 ∧ c.2.2.2.2.2.1 ≤ 1000) ∧ (c.2.2.2.2.2.2.2.2.1.length : Int) = c.2.2.2.2.2.1 ∧ (c.2.2.2.2.1.length : Int) ≤ 4 ∧ (c.2.2.2.2.2.2.2.1.length : Int) ≤ 4) &&
  (textsB c.2.2.2.1 && (textsB c.2.2.2.2.2.2.2.2.1 && ((List.range c.2.2.2.2.1.length).all (sentP c.2.2.1 c.2.2.2.2.1) && ((List.range c.2.2.2.2.2.2.1.length).all (earlyP c.2.2.2.2.2.1 c.2.2.2.2.2.2.1) && (List.range c.2.2.2.2.2.2.2.1.length).all (owedP c.2.2.2.2.2.1 c.2.2.2.2.2.2.2.1)))))
/-- Lists that a walk comes through. -/
def LenC (c : ChanA) : Prop := c.2.2.2.1.length ≤ 1048576 ∧ c.2.2.2.2.1.length ≤ 1048576 ∧ c.2.2.2.2.2.2.1.length ≤ 1048576 ∧ c.2.2.2.2.2.2.2.1.length ≤ 1048576 ∧ c.2.2.2.2.2.2.2.2.1.length ≤ 1048576
theorem i_textsOk_is (k : Nat) (a b : List ByteArray) (hk : 1048576 < k) (ha : a.length ≤ 1048576) (hb : b.length ≤ 1048576) : i_textsOk k ([a, b], ()) = some (textsB a && textsB b, ((), ())) := by
  unfold i_textsOk
  have key : ∀ l : List ByteArray, l.length ≤ 1048576 → ∀ (j : Int) (f : Option (Bool × Unit × Unit)) (again : List (List ByteArray) × Int × Int × Unit → Option (Bool × Unit × Unit)), again ([a, b], (2, (wi64 (j + 1), ()))) = f →
      whileK (fun (rec2 : (List (List (ByteArray)) × Int × Int × List (ByteArray) × Int × Int × Unit) → Option (Bool × Unit × Unit)) (y2 : List (List (ByteArray)) × Int × Int × List (ByteArray) × Int × Int × Unit) =>
        (if (decide (y2.2.2.2.2.2.1 < y2.2.2.2.2.1)) = true then
        (if 0 ≤ y2.2.2.2.2.2.1 ∧ y2.2.2.2.2.2.1 < (List.length y2.2.2.2.1 : Int) then
        (if (decide ((120 : Int) < (ByteArray.size (Ty.rd (t := .str) y2.2.2.2.1 y2.2.2.2.2.2.1) : Int))) = true then
        some (false, ((), ()))
        else
        (rec2 (y2.1, (y2.2.1, (y2.2.2.1, (y2.2.2.2.1, (y2.2.2.2.2.1, ((wi64 (y2.2.2.2.2.2.1 + (1 : Int))), ()))))))))
        else none)
        else
        ((fun (z1 : List (List (ByteArray)) × Int × Int × Unit) =>
        (again (z1.1, (z1.2.1, ((wi64 (z1.2.2.1 + (1 : Int))), ()))))) (y2.1, (y2.2.1, (y2.2.2.1, ())))))) k ([a, b], (2, (j, (l, ((List.length l : Int), ((0 : Int), ())))))) = if textsB l = true then f else some (false, ((), ())) := by
    intro l hl j f again hf
    refine (all_loop (fun i => ([a, b], (2, (j, (l, ((List.length l : Int), (((i : Nat) : Int), ()))))))) l.length (textP l) (some (false, ((), ()))) f (fun rec i hi => ?_) (fun rec => ?_) k (by omega))
    · have w2 : wi64 ((i : Int) + 1) = ((i + 1 : Nat) : Int) := (w64_id _ (by omega)).trans (by omega)
      have g1 : (0 : Int) ≤ (i : Int) ∧ (i : Int) < (l.length : Int) := by omega
      unfold textP
      simp only [g1, w2, and_self, decide_true, if_true]
      by_cases h : (Ty.rd (t := .str) l (i : Int)).size ≤ 120
      · have : ¬ (120 : Int) < ((Ty.rd (t := .str) l (i : Int)).size : Int) := by omega
        simp [h, this]
      · have : (120 : Int) < ((Ty.rd (t := .str) l (i : Int)).size : Int) := by omega
        simp [h, this]
    · simp only [Int.lt_irrefl, decide_false, Bool.false_eq_true, if_false, hf]
  refine (all_loop (fun i => ([a, b], ((2 : Int), (((i : Nat) : Int), ())))) 2 (fun i => textsB (Ty.rd (t := .list .str) [a, b] (i : Int))) (some (false, ((), ()))) (some (true, ((), ()))) (fun again i hi => ?_) (fun again => ?_) k (by omega)).trans ?_
  · have w2 : wi64 ((i : Int) + 1) = ((i + 1 : Nat) : Int) := (w64_id _ (by omega)).trans (by omega)
    have g0 : (i : Int) < 2 := by omega
    have g1 : (0 : Int) ≤ (i : Int) ∧ (i : Int) < (([a, b] : List (List ByteArray)).length : Int) := ⟨by omega, g0⟩
    simp only [g0, g1, and_self, decide_true, if_true]
    refine key _ ?_ _ _ again (by rw [w2])
    have : i = 0 ∨ i = 1 := by omega
    rcases this with rfl | rfl
    · exact ha
    · exact hb
  · rfl
  · have e0 : Ty.rd (t := .list .str) [a, b] ((0 : Nat) : Int) = a := rfl
    have e1 : Ty.rd (t := .list .str) [a, b] ((1 : Nat) : Int) = b := rfl
    have : (List.range 2).all (fun i => textsB (Ty.rd (t := .list .str) [a, b] (i : Int))) = (textsB a && textsB b) := by
      show ([0, 1] : List Nat).all (fun i => textsB (Ty.rd (t := .list .str) [a, b] (i : Int))) = _
      simp only [List.all_cons, List.all_nil, e0, e1, Bool.and_true]
    rw [this]
    cases textsB a && textsB b <;> rfl
theorem i_ChanOk_is (k : Nat) (c : ChanA) (hk : 1048576 < k) (hl : LenC c) : i_ChanOk k (c, ()) = some (chanB c, ((), ())) := by
  obtain ⟨me, peer, nx, qu, se, got, ea, ow, out, ⟨⟩⟩ := c
  obtain ⟨h1, h2, h3, h4, h5⟩ := hl
  dsimp only at h1 h2 h3 h4 h5
  have eT := i_textsOk_is k qu out hk h1 h5
  unfold i_ChanOk i_ChanOk_z
  simp only [within_is, isId_is, Option.bind_some, i_textsOk_is k qu out hk h1 h5]
  refine (all_loop (fun i => ((me, (peer, (nx, (qu, (se, (got, (ea, (ow, (out, ()))))))))), (se, ((se.length : Int), (((i : Nat) : Int), ()))))) se.length (sentP nx se) (some (false, ((), ())))
    (if (List.range ea.length).all (earlyP got ea) = true then (if (List.range ow.length).all (owedP got ow) = true then some (decide ((1 ≤ me ∧ me ≤ 99) ∧ (1 ≤ peer ∧ peer ≤ 99) ∧ (0 ≤ nx ∧ nx ≤ 1000) ∧ (qu.length : Int) ≤ 30 ∧ (0 ≤ got ∧ got ≤ 1000) ∧ (out.length : Int) = got ∧ (se.length : Int) ≤ 4 ∧ (ow.length : Int) ≤ 4) && (textsB qu && textsB out), ((), ())) else some (false, ((), ()))) else some (false, ((), ())))
    (fun again i hi => ?_) (fun again => ?_) k (by omega)).trans ?_
  · have w2 : wi64 ((i : Int) + 1) = ((i + 1 : Nat) : Int) := (w64_id _ (by omega)).trans (by omega)
    have g0 : (i : Int) < (se.length : Int) := by omega
    have g1 : (0 : Int) ≤ (i : Int) := by omega
    unfold sentP
    simp only [g0, g1, w2, and_self, decide_true, if_true]
    by_cases hz : 0 < i
    · have w3 : wi64 ((i : Int) - 1) = ((i - 1 : Nat) : Int) := (w64_id _ (by omega)).trans (by omega)
      have g2 : (0 : Int) < (i : Int) := by omega
      have g3 : (0 : Int) ≤ ((i - 1 : Nat) : Int) ∧ ((i - 1 : Nat) : Int) < (se.length : Int) := by omega
      simp only [g2, g3, w3, hz, and_self, decide_true, if_true, true_implies]
      generalize Ty.rd (t := TPend) se (i : Int) = a
      generalize Ty.rd (t := TPend) se ((i - 1 : Nat) : Int) = b
      obtain ⟨a1, a2, a3, a4⟩ := a
      by_cases c2 : a1 ≤ b.1
      · have c2' : ¬ b.1 < a1 := Int.not_lt.2 c2
        simp [c2, c2']
      by_cases c1 : 1 ≤ a1 ∧ a1 ≤ nx
      rotate_left
      · simp [c1, c2]
      by_cases c3 : 0 ≤ a3 ∧ a3 ≤ 1000000000
      rotate_left
      · simp [c1, c2, c3]
      by_cases c4 : 1 ≤ a4 ∧ a4 ≤ 8
      rotate_left
      · simp [c1, c2, c3, c4]
      by_cases c5 : a2.size ≤ 120
      · have : ¬ (120 : Int) < (a2.size : Int) := by omega
        have c2' : b.1 < a1 := Int.not_le.1 c2
        simp [c1, c2, c2', c3, c4, c5, this]
      · have : (120 : Int) < (a2.size : Int) := by omega
        simp [c1, c2, c3, c4, c5, this]
    · have g2 : ¬ (0 : Int) < (i : Int) := by omega
      simp only [g2, hz, decide_false, Bool.false_eq_true, if_false, false_implies, true_and]
      generalize Ty.rd (t := TPend) se (i : Int) = a
      obtain ⟨a1, a2, a3, a4⟩ := a
      by_cases c1 : 1 ≤ a1 ∧ a1 ≤ nx
      rotate_left
      · simp [c1]
      by_cases c3 : 0 ≤ a3 ∧ a3 ≤ 1000000000
      rotate_left
      · simp [c1, c3]
      by_cases c4 : 1 ≤ a4 ∧ a4 ≤ 8
      rotate_left
      · simp [c1, c3, c4]
      by_cases c5 : a2.size ≤ 120
      · have : ¬ (120 : Int) < (a2.size : Int) := by omega
        simp [c1, c3, c4, c5, this]
      · have : (120 : Int) < (a2.size : Int) := by omega
        simp [c1, c3, c4, c5, this]
  · simp only [Int.lt_irrefl, decide_false, Bool.false_eq_true, if_false]
    refine (all_loop (fun i => ((me, (peer, (nx, (qu, (se, (got, (ea, (ow, (out, ()))))))))), (ea, ((ea.length : Int), (((i : Nat) : Int), ()))))) ea.length (earlyP got ea) (some (false, ((), ())))
      (if (List.range ow.length).all (owedP got ow) = true then some (decide ((1 ≤ me ∧ me ≤ 99) ∧ (1 ≤ peer ∧ peer ≤ 99) ∧ (0 ≤ nx ∧ nx ≤ 1000) ∧ (qu.length : Int) ≤ 30 ∧ (0 ≤ got ∧ got ≤ 1000) ∧ (out.length : Int) = got ∧ (se.length : Int) ≤ 4 ∧ (ow.length : Int) ≤ 4) && (textsB qu && textsB out), ((), ())) else some (false, ((), ())))
      (fun again i hi => ?_) (fun again => ?_) k (by omega))
    · have w2 : wi64 ((i : Int) + 1) = ((i + 1 : Nat) : Int) := (w64_id _ (by omega)).trans (by omega)
      have g0 : (i : Int) < (ea.length : Int) := by omega
      have g1 : (0 : Int) ≤ (i : Int) := by omega
      unfold earlyP
      simp only [g0, g1, w2, and_self, decide_true, if_true]
      by_cases hz : 0 < i
      · have w3 : wi64 ((i : Int) - 1) = ((i - 1 : Nat) : Int) := (w64_id _ (by omega)).trans (by omega)
        have g2 : (0 : Int) < (i : Int) := by omega
        have g3 : (0 : Int) ≤ ((i - 1 : Nat) : Int) ∧ ((i - 1 : Nat) : Int) < (ea.length : Int) := by omega
        simp only [g2, g3, w3, hz, and_self, decide_true, if_true, true_implies]
        generalize Ty.rd (t := TEarly) ea (i : Int) = a
        generalize Ty.rd (t := TEarly) ea ((i - 1 : Nat) : Int) = b
        obtain ⟨a1, a2⟩ := a
        by_cases d2 : a1 ≤ b.1
        · have d2' : ¬ b.1 < a1 := Int.not_lt.2 d2
          simp [d2, d2']
        by_cases d1 : wi64 (got + 2) ≤ a1 ∧ a1 ≤ wi64 (got + 4)
        rotate_left
        · simp [d1, d2]
        by_cases d5 : a2.size ≤ 120
        · have : ¬ (120 : Int) < (a2.size : Int) := by omega
          have d2' : b.1 < a1 := Int.not_le.1 d2
          simp [d1, d2, d2', d5, this]
        · have : (120 : Int) < (a2.size : Int) := by omega
          simp [d1, d2, d5, this]
      · have g2 : ¬ (0 : Int) < (i : Int) := by omega
        simp only [g2, hz, decide_false, Bool.false_eq_true, if_false, false_implies, true_and]
        generalize Ty.rd (t := TEarly) ea (i : Int) = a
        obtain ⟨a1, a2⟩ := a
        by_cases d1 : wi64 (got + 2) ≤ a1 ∧ a1 ≤ wi64 (got + 4)
        rotate_left
        · simp [d1]
        by_cases d5 : a2.size ≤ 120
        · have : ¬ (120 : Int) < (a2.size : Int) := by omega
          simp [d1, d5, this]
        · have : (120 : Int) < (a2.size : Int) := by omega
          simp [d1, d5, this]
    · simp only [Int.lt_irrefl, decide_false, Bool.false_eq_true, if_false]
      refine (all_loop (fun i => ((me, (peer, (nx, (qu, (se, (got, (ea, (ow, (out, ()))))))))), (ow, ((ow.length : Int), (((i : Nat) : Int), ()))))) ow.length (owedP got ow) (some (false, ((), ()))) _ (fun again i hi => ?_) (fun again => ?_) k (by omega))
      · have w2 : wi64 ((i : Int) + 1) = ((i + 1 : Nat) : Int) := (w64_id _ (by omega)).trans (by omega)
        have g0 : (i : Int) < (ow.length : Int) := by omega
        have g1 : (0 : Int) ≤ (i : Int) := by omega
        unfold owedP
        simp only [g0, g1, w2, and_self, decide_true, if_true]
        by_cases d1 : 1 ≤ Ty.rd (t := .int .i64) ow (i : Int) ∧ Ty.rd (t := .int .i64) ow (i : Int) ≤ wi64 (got + 4) <;> simp [d1]
      · simp only [Int.lt_irrefl, decide_false, Bool.false_eq_true, if_false]
        by_cases c1 : 1 ≤ me ∧ me ≤ 99
        rotate_left
        · simp [c1]
        by_cases c2 : 1 ≤ peer ∧ peer ≤ 99
        rotate_left
        · simp [c1, c2]
        by_cases c3 : 0 ≤ nx ∧ nx ≤ 1000
        rotate_left
        · simp [c1, c2, c3]
        by_cases c8 : 0 ≤ got ∧ got ≤ 1000
        rotate_left
        · simp [c1, c2, c3, c8]
        by_cases c9 : (out.length : Int) = got
        rotate_left
        · simp [c1, c2, c3, c8, c9]
        by_cases c4 : (qu.length : Int) ≤ 30
        rotate_left
        · simp [c1, c2, c3, c4, c8, c9]
        cases c5 : textsB qu && textsB out
        · simp [c1, c2, c3, c4, c8, c9, eT, c5]
        by_cases c7 : (se.length : Int) ≤ 4
        rotate_left
        · simp [c1, c2, c3, c4, c7, c8, c9, eT, c5]
        by_cases c11 : (ow.length : Int) ≤ 4 <;> simp [c1, c2, c3, c4, c7, c8, c9, c11, eT, c5]
  · unfold chanB
    dsimp only
    cases (List.range se.length).all (sentP nx se) <;> cases (List.range ea.length).all (earlyP got ea) <;> cases (List.range ow.length).all (owedP got ow) <;> cases textsB qu <;> cases textsB out <;> simp
theorem cap_le {n : Nat} (h : n ≤ 2097152) : n ≤ capMax := by
  have : capMax = 274877906944 := rfl
  omega
theorem i_copyChan_is (k : Nat) (c : ChanA) (hl : LenC c) : i_copyChan k (c, ()) = some (c, ((), ())) := by
  obtain ⟨me, peer, nx, qu, se, got, ea, ow, out, ⟨⟩⟩ := c
  obtain ⟨h1, h2, h3, h4, h5⟩ := hl
  dsimp only at h1 h2 h3 h4 h5
  unfold i_copyChan i_copyTexts i_copyInts
  have t1 : List.length ([] : List ByteArray) + qu.length ≤ capMax := by simpa using cap_le (by omega : qu.length ≤ 2097152)
  have t2 : List.length ([] : List (Int × ByteArray × Int × Int)) + se.length ≤ capMax := by simpa using cap_le (by omega : se.length ≤ 2097152)
  have t3 : List.length ([] : List (Int × ByteArray)) + ea.length ≤ capMax := by simpa using cap_le (by omega : ea.length ≤ 2097152)
  have t4 : List.length ([] : List Int) + ow.length ≤ capMax := by simpa using cap_le (by omega : ow.length ≤ 2097152)
  have t5 : List.length ([] : List ByteArray) + out.length ≤ capMax := by simpa using cap_le (by omega : out.length ≤ 2097152)
  simp only [t1, t2, t3, t4, t5, if_true, Option.bind_some, List.nil_append]
theorem chanB_facts {c : ChanA} (h : chanB c = true) : (1 ≤ c.1 ∧ c.1 ≤ 99) ∧ (1 ≤ c.2.1 ∧ c.2.1 ≤ 99) ∧ (0 ≤ c.2.2.1 ∧ c.2.2.1 ≤ 1000) ∧ (c.2.2.2.1.length : Int) ≤ 30 ∧ (0 ≤ c.2.2.2.2.2.1 ∧ c.2.2.2.2.2.1 ≤ 1000) ∧ (c.2.2.2.2.2.2.2.2.1.length : Int) = c.2.2.2.2.2.1 ∧ (c.2.2.2.2.1.length : Int) ≤ 4 ∧ (c.2.2.2.2.2.2.2.1.length : Int) ≤ 4 := by
  unfold chanB at h
  simp only [Bool.and_eq_true, decide_eq_true_eq] at h
  exact h.1
def pushB (c : ChanA) (s : ByteArray) : Bool := chanB c && decide (s.size ≤ 120 ∧ (c.2.2.2.1.length : Int) < 30 ∧ wi64 (c.2.2.1 + (c.2.2.2.1.length : Int)) < 1000)
def pushC (c : ChanA) (s : ByteArray) : ChanA := (c.1, (c.2.1, (c.2.2.1, (c.2.2.2.1 ++ [s], c.2.2.2.2))))
def pushR (c : ChanA) (s : ByteArray) : ChanA := if pushB c s = true then pushC c s else c
theorem i_Push_is (k : Nat) (c : ChanA) (s : ByteArray) (hk : 1048576 < k) (hl : LenC c) : i_Push k (c, (s, ())) = some ((pushR c s, (pushB c s, ())), ((), ((), ()))) := by
  have e1 := i_copyChan_is k c hl
  have e2 := i_ChanOk_is k c hk hl
  have hf := @chanB_facts c
  unfold pushR pushB pushC
  cases hb : chanB c
  · unfold i_Push
    simp only [e1, e2, hb, Option.bind_some, Bool.false_and, Bool.not_false, Bool.true_eq_false, Bool.false_eq_true, if_false]
  obtain ⟨_, _, _, f4, _⟩ := hf hb
  obtain ⟨me, peer, nx, qu, se, got, ea, ow, out, ⟨⟩⟩ := c
  dsimp only at f4 ⊢
  unfold i_Push
  simp only [e1, e2, hb, Option.bind_some, Bool.true_and, Bool.not_true, if_true]
  by_cases c1 : s.size ≤ 120
  rotate_left
  · have : (120 : Int) < (s.size : Int) := by omega
    simp [c1, this]
  have c1' : ¬ (120 : Int) < (s.size : Int) := by omega
  by_cases c2 : (qu.length : Int) < 30
  rotate_left
  · have : (qu.length : Int) = 30 := by omega
    simp [c1, c1', c2, this]
  have c2' : ¬ (qu.length : Int) = 30 := by omega
  by_cases c3 : wi64 (nx + (qu.length : Int)) < 1000
  · have c3' : ¬ (1000 : Int) ≤ wi64 (nx + (qu.length : Int)) := by omega
    have t : qu.length + [s].length ≤ capMax := cap_le (by simp; omega)
    simp only [c1, c1', c2, c2', c3, c3', t, and_self, decide_true, decide_false, Bool.false_eq_true, if_true, if_false]
  · have c3' : (1000 : Int) ≤ wi64 (nx + (qu.length : Int)) := by omega
    simp [c1, c1', c2, c2', c3, c3']
theorem pushR_len {c : ChanA} {s : ByteArray} (hl : LenC c) : LenC (pushR c s) := by
  unfold pushR
  split
  · rename_i h
    unfold pushB at h
    simp only [Bool.and_eq_true, decide_eq_true_eq] at h
    obtain ⟨h1, h2, h3, h4, h5⟩ := hl
    refine ⟨?_, h2, h3, h4, h5⟩
    show (c.2.2.2.1 ++ [s]).length ≤ 1048576
    simp only [List.length_append, List.length_cons, List.length_nil]
    omega
  · exact hl
/-- What is in Queue is Sent, as far as it may. -/
def fillL (now : Int) : List ByteArray → Int → List PendR → Int × List ByteArray × List PendR
  | [], nx, se => (nx, [], se)
  | q :: qu, nx, se => if se.length < 4 ∧ (se.length = 0 ∨ wi64 (wi64 (nx + 1) - 4) < (Ty.rd (t := TPend) se 0).1) then fillL now qu (wi64 (nx + 1)) (se ++ [(wi64 (nx + 1), (q, (now, 0)))]) else (nx, q :: qu, se)
def fillC (c : ChanA) (now : Int) : ChanA := (c.1, (c.2.1, ((fillL now c.2.2.2.1 c.2.2.1 c.2.2.2.2.1).1, ((fillL now c.2.2.2.1 c.2.2.1 c.2.2.2.2.1).2.1, ((fillL now c.2.2.2.1 c.2.2.1 c.2.2.2.2.1).2.2, c.2.2.2.2.2)))))
theorem fill_loop {X R : Type} {step : (X → Option R) → X → Option R} (now : Int) (st : Int → List ByteArray → List PendR → X) (fin : Int → List ByteArray → List PendR → Option R)
    (hs : ∀ again nx q qu (se : List PendR), se.length < 4 → se.length = 0 ∨ wi64 (wi64 (nx + 1) - 4) < (Ty.rd (t := TPend) se 0).1 → qu.length ≤ 1048576 → step again (st nx (q :: qu) se) = again (st (wi64 (nx + 1)) qu (se ++ [(wi64 (nx + 1), (q, (now, 0)))])))
    (he : ∀ again nx qu (se : List PendR), (qu = [] ∨ ¬ (se.length < 4 ∧ (se.length = 0 ∨ wi64 (wi64 (nx + 1) - 4) < (Ty.rd (t := TPend) se 0).1))) → step again (st nx qu se) = fin nx qu se) :
    ∀ (qu : List ByteArray) (k : Nat) (nx : Int) (se : List PendR), qu.length < k → qu.length ≤ 1048576 → whileK step k (st nx qu se) = fin (fillL now qu nx se).1 (fillL now qu nx se).2.1 (fillL now qu nx se).2.2 := by
  intro qu
  induction qu with
  | nil =>
    intro k nx se hk _
    obtain ⟨k, rfl⟩ : ∃ k', k = k' + 1 := ⟨k - 1, by omega⟩
    exact he _ _ _ _ (.inl rfl)
  | cons q qu ih =>
    intro k nx se hk hl
    simp only [List.length_cons] at hk hl
    obtain ⟨k, rfl⟩ : ∃ k', k = k' + 1 := ⟨k - 1, by omega⟩
    show step _ _ = _
    unfold fillL
    by_cases h : se.length < 4 ∧ (se.length = 0 ∨ wi64 (wi64 (nx + 1) - 4) < (Ty.rd (t := TPend) se 0).1)
    · rw [hs _ nx q qu se h.1 h.2 (by omega), if_pos h]
      exact ih k _ _ (by omega) (by omega)
    · rw [he _ nx (q :: qu) se (.inr h), if_neg h]
theorem i_fill_is (k : Nat) (c : ChanA) (now : Int) (hk : 1048576 < k) (hl : c.2.2.2.1.length ≤ 1048576) : i_Chan_fill k (c, (now, ())) = some ((), (fillC c now, ((), ()))) := by
  obtain ⟨me, peer, nx, qu, se, got, ea, ow, out, ⟨⟩⟩ := c
  dsimp only at hl
  unfold i_Chan_fill
  refine (fill_loop now (fun nx qu se => ((me, (peer, (nx, (qu, (se, (got, (ea, (ow, (out, ()))))))))), (now, ()))) (fun nx qu se => some ((), ((me, (peer, (nx, (qu, (se, (got, (ea, (ow, (out, ()))))))))), ((), ())))) (fun again nx q qu se h1 h2 hq => ?_) (fun again nx qu se h => ?_) qu k nx se (by omega) hl).trans rfl
  · have g1 : (0 : Int) < ((q :: qu).length : Int) := by simp only [List.length_cons]; omega
    have g2 : (se.length : Int) < 4 := by omega
    have t1 : se.length + ([(wi64 (nx + 1), (q, (now, (0 : Int))))] : List PendR).length ≤ capMax := cap_le (by simp; omega)
    have g3 : (0 : Int) ≤ 0 := by omega
    have g4 : (0 : Int) ≤ 1 ∧ (1 : Int) ≤ ((q :: qu).length : Int) := ⟨by omega, by simp only [List.length_cons]; omega⟩
    have d1 : List.drop (Int.toNat (1 : Int)) (List.take (Int.toNat ((q :: qu).length : Int)) (q :: qu)) = qu := by simp
    have d2 : Ty.rd (t := .str) (q :: qu) (0 : Int) = q := rfl
    unfold jn
    simp only [g1, g2, g3, g4, d1, d2, and_self, decide_true, if_true]
    rw [if_pos t1]
    rcases h2 with h2 | h2
    · have : (se.length : Int) = 0 := by omega
      simp only [this, decide_true, Bool.true_eq_false, if_false]
    · by_cases h0 : se.length = 0
      · have : (se.length : Int) = 0 := by omega
        simp only [this, decide_true, Bool.true_eq_false, if_false]
      · have a0 : ¬ (se.length : Int) = 0 := by omega
        have a1 : (0 : Int) < (se.length : Int) := by omega
        simp only [a0, a1, h2, and_self, decide_true, decide_false, if_true]
  · unfold jn
    rcases h with rfl | h
    · simp
    · by_cases g1 : (0 : Int) < (qu.length : Int)
      rotate_left
      · simp only [g1, decide_false, Bool.false_eq_true, if_false]
      by_cases g2 : (se.length : Int) < 4
      rotate_left
      · simp only [g1, g2, decide_true, decide_false, Bool.false_eq_true, if_true, if_false]
      have g2' : se.length < 4 := by omega
      have h' : ¬ (se.length = 0 ∨ wi64 (wi64 (nx + 1) - 4) < (Ty.rd (t := TPend) se 0).1) := fun e => h ⟨g2', e⟩
      have a0 : ¬ (se.length : Int) = 0 := fun e => h' (.inl (by omega))
      have a1 : (0 : Int) < (se.length : Int) := by omega
      have a2 : ¬ wi64 (wi64 (nx + 1) - 4) < (Ty.rd (t := TPend) se 0).1 := fun e => h' (.inr e)
      have g3 : (0 : Int) ≤ 0 := by omega
      simp only [g1, g2, g3, a0, a1, a2, and_self, decide_true, decide_false, Bool.false_eq_true, if_true, if_false]
abbrev PacketR := Int × Int × Int × Int × Int × List Int × ByteArray
abbrev TPk : Ty := .pair (.int .i64) (.pair (.int .i64) (.pair (.int .i64) (.pair (.int .i64) (.pair (.int .i64) (.pair (.list (.int .i64)) .str)))))
theorem rd_at {t : Ty} (xs : List t.den) (i : Nat) (h : i < xs.length) : Ty.rd (t := t) xs (i : Int) = xs[i] := by
  rw [rd_get (t := t) xs _ (by simpa using h)]
  simp
theorem rd_set_at {t : Ty} (xs : List t.den) (i : Nat) (v : t.den) (h : i < xs.length) : Ty.rd (t := t) (xs.set i v) (i : Int) = v := by
  rw [rd_at (t := t) _ i (by simpa using h)]
  simp
def Tries (se : List PendR) : Prop := ∀ x ∈ se, 0 ≤ x.2.2.2 ∧ x.2.2.2 ≤ 8
theorem chanB_tries {c : ChanA} (h : chanB c = true) : Tries c.2.2.2.2.1 := by
  unfold chanB at h
  simp only [Bool.and_eq_true] at h
  have hs := h.2.2.2.1
  intro x hx
  obtain ⟨i, hi, rfl⟩ := List.mem_iff_getElem.1 hx
  have := List.all_eq_true.1 hs i (by simpa using hi)
  unfold sentP at this
  simp only [decide_eq_true_eq] at this
  rw [rd_at (t := TPend) _ i hi] at this
  exact ⟨by have := this.2.2.2.1.1; exact Int.le_trans (by decide) this, this.2.2.2.1.2⟩
theorem fillL_ok (now : Int) : ∀ (qu : List ByteArray) (nx : Int) (se : List PendR), se.length ≤ 4 → Tries se → (fillL now qu nx se).2.2.length ≤ 4 ∧ Tries (fillL now qu nx se).2.2 ∧ (fillL now qu nx se).2.1.length ≤ qu.length
  | [], nx, se, h, ht => ⟨h, ht, Nat.le_refl _⟩
  | q :: qu, nx, se, h, ht => by
    unfold fillL
    split
    · rename_i hc
      have := fillL_ok now qu (wi64 (nx + 1)) (se ++ [(wi64 (nx + 1), (q, (now, 0)))]) (by simp; omega) (fun x hx => by
        rcases List.mem_append.1 hx with hx | hx
        · exact ht x hx
        · simp only [List.mem_singleton] at hx
          subst hx
          exact ⟨Int.le_refl _, by show (0 : Int) ≤ 8; decide⟩)
      exact ⟨this.1, this.2.1, by simp only [List.length_cons]; omega⟩
    · exact ⟨h, ht, Nat.le_refl _⟩
def setAck (o : List Int) : List PacketR → List PacketR
  | [] => []
  | p :: ps => (p.1, (p.2.1, (p.2.2.1, (p.2.2.2.1, (p.2.2.2.2.1, (o, p.2.2.2.2.2.2)))))) :: ps
theorem setAck_len (o : List Int) (ps : List PacketR) : (setAck o ps).length = ps.length := by cases ps <;> rfl
abbrev SendS := List PendR × List PacketR
abbrev SendO := (ChanA × List PacketR × Unit) × Unit × Unit × Unit
def sendG (me peer now : Int) (i : Nat) (a : SendS) : SendO ⊕ SendS :=
  .inr (if now < (Ty.rd (t := TPend) a.1 (i : Int)).2.2.1 ∨ 8 ≤ (Ty.rd (t := TPend) a.1 (i : Int)).2.2.2 then a
    else (a.1.set i ((Ty.rd (t := TPend) a.1 (i : Int)).1, ((Ty.rd (t := TPend) a.1 (i : Int)).2.1, (wi64 (now + 2 ^ ((Ty.rd (t := TPend) a.1 (i : Int)).2.2.2 + 1).toNat), (Ty.rd (t := TPend) a.1 (i : Int)).2.2.2 + 1))),
      a.2 ++ [((1 : Int), ((0 : Int), (me, (peer, ((Ty.rd (t := TPend) a.1 (i : Int)).1, (([] : List Int), (Ty.rd (t := TPend) a.1 (i : Int)).2.1))))))]))
def sendPk (me peer : Int) (ow : List Int) (ps : List PacketR) : List PacketR := if ps.length = 0 ∧ 0 < ow.length then [((2 : Int), ((0 : Int), (me, (peer, ((0 : Int), (([] : List Int), (⟨#[]⟩ : ByteArray)))))))] else ps
/-- The end with the list Sent and what it owes. -/
def sendC (c : ChanA) (se : List PendR) (ow : List Int) : ChanA := (c.1, (c.2.1, (c.2.2.1, (c.2.2.2.1, (se, (c.2.2.2.2.2.1, (c.2.2.2.2.2.2.1, (ow, (c.2.2.2.2.2.2.2.2.1, ())))))))))
def sendFin (c : ChanA) (a : SendS) : SendO :=
  ((sendC c a.1 (if 0 < (sendPk c.1 c.2.1 c.2.2.2.2.2.2.2.1 a.2).length then [] else c.2.2.2.2.2.2.2.1), (setAck c.2.2.2.2.2.2.2.1 (sendPk c.1 c.2.1 c.2.2.2.2.2.2.2.1 a.2), ())), ((), ((), ())))
/-- What Send tells, of an end that is filled. -/
def sendX (c : ChanA) (now : Int) : SendO := foldE (sendG c.1 c.2.1 now) (sendFin c) c.2.2.2.2.1.length 0 (c.2.2.2.2.1, [])
def sendB (c : ChanA) (now : Int) : Bool := chanB c && decide (0 ≤ now ∧ now ≤ 999999000)
def sendR (c : ChanA) (now : Int) : SendO := if sendB c now = true then sendX (fillC c now) now else ((c, ([], ())), ((), ((), ())))
def SendI (n : Nat) (i : Nat) (a : SendS) : Prop := a.1.length = n ∧ Tries a.1 ∧ a.2.length ≤ i
theorem sendG_I {me peer now : Int} {n i : Nat} {a a' : SendS} (hi : i < n) (h : SendI n i a) (e : sendG me peer now i a = .inr a') : SendI n (i + 1) a' := by
  obtain ⟨h1, h2, h3⟩ := h
  simp only [sendG, Sum.inr.injEq] at e
  subst e
  split
  · exact ⟨h1, h2, by omega⟩
  · rename_i hc
    have hr := h2 _ (List.getElem_mem (l := a.1) (n := i) (by omega))
    rw [rd_at (t := TPend) _ i (by omega : i < a.1.length)] at hc ⊢
    generalize a.1[i]'(by omega) = x at hc hr ⊢
    obtain ⟨x1, x2, x3, x4⟩ := x
    have hc : ¬ (now < x3 ∨ 8 ≤ x4) := hc
    have hr : 0 ≤ x4 ∧ x4 ≤ 8 := hr
    refine ⟨by simpa using h1, fun y hy => ?_, by simp; omega⟩
    rcases List.mem_or_eq_of_mem_set hy with hy | rfl
    · exact h2 y hy
    · show 0 ≤ x4 + 1 ∧ x4 + 1 ≤ 8
      omega
theorem pow_small {x : Int} (h : 0 ≤ x ∧ x ≤ 8) : (1 : Int) ≤ 2 ^ x.toNat ∧ (2 : Int) ^ x.toNat ≤ 256 := by
  obtain ⟨n, rfl⟩ := Int.eq_ofNat_of_zero_le h.1
  have : n ≤ 8 := by omega
  have : n = 0 ∨ n = 1 ∨ n = 2 ∨ n = 3 ∨ n = 4 ∨ n = 5 ∨ n = 6 ∨ n = 7 ∨ n = 8 := by omega
  rcases this with rfl | rfl | rfl | rfl | rfl | rfl | rfl | rfl | rfl <;> decide
theorem i_Send_is (k : Nat) (c : ChanA) (now : Int) (hk : 1048576 < k) (hl : LenC c) : i_Send k (c, (now, ())) = some (sendR c now) := by
  have e1 := i_copyChan_is k c hl
  have e2 := i_ChanOk_is k c hk hl
  have hf := @chanB_facts c
  have ht := @chanB_tries c
  have e4 := i_fill_is k c now hk hl.1
  unfold sendR sendB
  cases hb : chanB c
  · unfold i_Send
    simp only [e1, e2, hb, Option.bind_some, Bool.false_and, Bool.not_false, Bool.true_eq_false, Bool.false_eq_true, if_false]
  obtain ⟨_, _, _, f4, _, _, f7, f8⟩ := hf hb
  have ht := ht hb
  have hfl := fillL_ok now c.2.2.2.1 c.2.2.1 c.2.2.2.2.1 (by omega) ht
  by_cases hn : 0 ≤ now ∧ now ≤ 999999000
  rotate_left
  · unfold i_Send
    simp only [e1, e2, hb, hn, within_is, Option.bind_some, Bool.true_and, Bool.not_true, decide_false, Bool.not_false, if_true, Bool.false_eq_true, if_false]
  unfold i_Send
  simp only [e1, e2, e4, hb, hn, within_is, Option.bind_some, Bool.true_and, Bool.not_true, decide_true, and_self, if_true, Bool.false_eq_true, if_false]
  obtain ⟨me, peer, nx, qu, se, got, ea, ow, out, ⟨⟩⟩ := c
  unfold sendX fillC
  dsimp only at hfl f8 ⊢
  generalize fillL now qu nx se = F at hfl
  obtain ⟨nx', qu', se'⟩ := F
  obtain ⟨hl1, hl2, hl3⟩ := hfl
  dsimp only at hl1 hl2 hl3 ⊢
  refine (loop_fold (A := SendS) (fun i a => (now, ((me, (peer, (nx, (qu, (se, (got, (ea, (ow, (out, ()))))))))), (((0 : Int), ((0 : Int), ((0 : Int), ([], ([], ((0 : Int), ([], ([], ([], ()))))))))), ((me, (peer, (nx', (qu', (a.1, (got, (ea, (ow, (out, ()))))))))), (a.2, ((se'.length : Int), (((i : Nat) : Int), ()))))))))
    se'.length (sendG me peer now) (sendFin (me, (peer, (nx', (qu', (se', (got, (ea, (ow, (out, ())))))))))) (SendI se'.length) (fun again i a hi h => ?_) (fun i a a' hi h e => sendG_I hi h e) (fun again a h => ?_) k (se', []) ⟨rfl, hl2, Nat.zero_le _⟩ (by omega))
  · obtain ⟨a1, a2⟩ := a
    obtain ⟨h1, h2, h3⟩ := h
    dsimp only at h1 h2 h3 ⊢
    have w2 : wi64 ((i : Int) + 1) = ((i + 1 : Nat) : Int) := (w64_id _ (by omega)).trans (by omega)
    have g0 : (i : Int) < (se'.length : Int) := by omega
    have g1 : (0 : Int) ≤ (i : Int) ∧ (i : Int) < (a1.length : Int) := by omega
    have hr := h2 _ (List.getElem_mem (l := a1) (n := i) (by omega))
    unfold sendG jn
    have hrd := rd_at (t := TPend) a1 i (by omega)
    simp only [g0, g1, w2, and_self, decide_true, if_true]
    simp only [hrd] at *
    generalize a1[i]'(by omega) = x at *
    obtain ⟨x1, x2, x3, x4⟩ := x
    have hr : 0 ≤ x4 ∧ x4 ≤ 8 := hr
    by_cases c1 : now < x3
    · simp [c1]
    by_cases c2 : 8 ≤ x4
    · simp [c1, c2]
    have w3 : wi64 (x4 + 1) = x4 + 1 := w64_id _ (by omega)
    have c3 : ¬ x4 + 1 < 0 := by omega
    have hp := pow_small (x := x4 + 1) (by omega)
    have hm : min (Int.toNat (x4 + 1)) (IntKind.bits .i64) = (x4 + 1).toNat := by
      show min (Int.toNat (x4 + 1)) 64 = _
      omega
    have w4 : wi64 (1 * 2 ^ (x4 + 1).toNat) = 2 ^ (x4 + 1).toNat := by
      rw [Int.one_mul]
      exact w64_id _ (by omega)
    have r1 := rd_set_at (t := TPend) a1 i (x1, (x2, (x3, x4 + 1))) (by omega)
    have t1 : a2.length + ([((1 : Int), ((0 : Int), (me, (peer, (x1, (([] : List Int), x2))))))] : List PacketR).length ≤ capMax := cap_le (by simp; omega)
    have hcond : ¬ (now < x3 ∨ 8 ≤ x4) := by omega
    simp only [c1, c2, w3, hcond, decide_false, Bool.false_eq_true, if_false, if_true, Int.toNat_natCast, r1, c3, hm, w4, List.set_set, t1]
    have r2 := rd_set_at (t := TPend) a1 i (x1, (x2, (wi64 (now + 2 ^ (x4 + 1).toNat), x4 + 1))) (by omega)
    simp only [r2, t1, if_true, or_self, if_false]
  · obtain ⟨a1, a2⟩ := a
    obtain ⟨h1, h2, h3⟩ := h
    dsimp only at h1 h2 h3 ⊢
    unfold jn sendFin sendPk sendC i_copyInts
    have to : List.length ([] : List Int) + ow.length ≤ capMax := by simpa using cap_le (by omega : ow.length ≤ 2097152)
    simp only [Int.lt_irrefl, decide_false, Bool.false_eq_true, if_false, to, if_true, Option.bind_some, List.nil_append]
    cases a2 with
    | nil =>
      by_cases c1 : 0 < ow.length
      · have c1' : (0 : Int) < (ow.length : Int) := by omega
        have t1 : ([] : List PacketR).length + ([((2 : Int), ((0 : Int), (me, (peer, ((0 : Int), (([] : List Int), (⟨#[]⟩ : ByteArray)))))))] : List PacketR).length ≤ capMax := cap_le (by simp)
        simp only [c1, c1', t1, if_true, decide_true, List.length_nil, List.nil_append, and_self]
        rfl
      · have c1' : ¬ (0 : Int) < (ow.length : Int) := by omega
        simp [c1, c1', setAck]
    | cons p ps =>
      have c0 : ¬ ((p :: ps).length : Int) = 0 := by simp only [List.length_cons]; omega
      have c0' : (0 : Int) < ((p :: ps).length : Int) := by simp only [List.length_cons]; omega
      have c0'' : ¬ (p :: ps).length = 0 := by simp
      simp only [c0, c0', c0'', decide_true, decide_false, Bool.false_eq_true, if_true, if_false, false_and]
      rfl
theorem jn_via {A R : Type} {f : A → R} {g : (A → R) → R} {a : A} {r : R} (h1 : ∀ E : A → R, g E = E a) (h2 : f a = r) : jn f g = r := (h1 f).trans h2
theorem asc_pair {L : List EarlyR} (h : ∀ i (hi : i + 1 < L.length), (L[i]'(by omega)).1 < (L[i + 1]).1) : L.Pairwise (fun a b => a.1 < b.1) := by
  rw [List.pairwise_iff_getElem]
  have key : ∀ d i (hi : i + d + 1 < L.length), (L[i]'(by omega)).1 < (L[i + d + 1]).1 := by
    intro d
    induction d with
    | zero => intro i hi; exact h i hi
    | succ d ih => intro i hi; exact Int.lt_trans (ih i (by omega)) (h (i + d + 1) (by omega))
  intro i j hi hj hij
  have := key (j - i - 1) i (by omega)
  have e : i + (j - i - 1) + 1 = j := by omega
  simpa only [e] using this
theorem chanB_early {c : ChanA} (h : chanB c = true) : c.2.2.2.2.2.2.1.Pairwise (fun a b => a.1 < b.1) ∧ c.2.2.2.2.2.2.1.length ≤ 3 := by
  have hf := chanB_facts h
  unfold chanB at h
  simp only [Bool.and_eq_true] at h
  have hs := h.2.2.2.2.1
  obtain ⟨me, peer, nx, qu, se, got, ea, ow, out, ⟨⟩⟩ := c
  dsimp only at hs hf ⊢
  obtain ⟨_, _, _, _, hg, _⟩ := hf
  have w2 : wi64 (got + 2) = got + 2 := w64_id _ (by omega)
  have w4 : wi64 (got + 4) = got + 4 := w64_id _ (by omega)
  have hp : ∀ i (hi : i < ea.length), (0 < i → (ea[i - 1]'(by omega)).1 < (ea[i]).1) ∧ got + 2 ≤ (ea[i]).1 ∧ (ea[i]).1 ≤ got + 4 := fun i hi => by
    have := List.all_eq_true.1 hs i (by simpa using hi)
    unfold earlyP at this
    simp only [decide_eq_true_eq] at this
    rw [rd_at (t := TEarly) _ i hi, rd_at (t := TEarly) _ (i - 1) (by omega), w2, w4] at this
    exact ⟨this.1, this.2.1.1, this.2.1.2⟩
  have hasc : ∀ i (hi : i + 1 < ea.length), (ea[i]'(by omega)).1 < (ea[i + 1]).1 := fun i hi => (hp (i + 1) hi).1 (by omega)
  refine ⟨asc_pair hasc, ?_⟩
  have hge : ∀ i (hi : i < ea.length), got + 2 + (i : Int) ≤ (ea[i]).1 := by
    intro i
    induction i with
    | zero => intro hi; have := (hp 0 hi).2.1; simpa using this
    | succ i ih =>
      intro hi
      have a := ih (by omega)
      have b := hasc i hi
      omega
  by_cases h0 : 3 < ea.length
  · have a := hge 3 h0
    have b := (hp 3 h0).2.2
    omega
  · omega
/-- A text in its place among those that came too early. -/
def putS (n : Int) (b : ByteArray) (L : List EarlyR) : Option (List EarlyR) :=
  if L.any (fun e => decide (e.1 = n)) = true then none else some (L.filter (fun e => decide (e.1 < n)) ++ (n, b) :: L.filter (fun e => decide (n < e.1)))
theorem put_split {n : Int} : ∀ {L : List EarlyR}, L.Pairwise (fun a b => a.1 < b.1) →
    (∃ p e r, L = p ++ e :: r ∧ (∀ x ∈ p, x.1 < n) ∧ e.1 = n ∧ L.any (fun e => decide (e.1 = n)) = true) ∨
    (∃ p r, L = p ++ r ∧ (∀ x ∈ p, x.1 < n) ∧ (∀ x ∈ r, n < x.1) ∧ L.any (fun e => decide (e.1 = n)) = false ∧ L.filter (fun e => decide (e.1 < n)) = p ∧ L.filter (fun e => decide (n < e.1)) = r)
  | [], _ => .inr ⟨[], [], rfl, by simp, by simp, rfl, rfl, rfl⟩
  | e :: L, h => by
    obtain ⟨h1, h2⟩ := List.pairwise_cons.1 h
    by_cases c1 : e.1 < n
    · rcases put_split (n := n) h2 with ⟨p, x, r, rfl, hp, hx, ha⟩ | ⟨p, r, rfl, hp, hr, ha, f1, f2⟩
      · exact .inl ⟨e :: p, x, r, rfl, fun y hy => by rcases List.mem_cons.1 hy with rfl | hy; exact c1; exact hp y hy, hx, by rw [List.any_cons, ha, Bool.or_true]⟩
      · have c2 : ¬ n < e.1 := by omega
        have c3 : ¬ e.1 = n := by omega
        refine .inr ⟨e :: p, r, rfl, fun y hy => by rcases List.mem_cons.1 hy with rfl | hy; exact c1; exact hp y hy, hr, ?_, ?_, ?_⟩
        · rw [List.any_cons, ha]
          simp [c3]
        · rw [List.filter_cons, if_pos (by simpa using c1), f1]
        · rw [List.filter_cons, if_neg (by simpa using c2), f2]
    · by_cases c2 : e.1 = n
      · exact .inl ⟨[], e, L, rfl, by simp, c2, by simp [c2]⟩
      · have c3 : n < e.1 := by omega
        have hL : ∀ x ∈ L, n < x.1 := fun x hx => Int.lt_trans c3 (h1 x hx)
        refine .inr ⟨[], e :: L, rfl, by simp, fun x hx => by rcases List.mem_cons.1 hx with rfl | hx; exact c3; exact hL x hx, ?_, ?_, ?_⟩
        · rw [Bool.eq_false_iff]
          intro ha
          obtain ⟨x, hx, hxn⟩ := List.any_eq_true.1 ha
          simp only [decide_eq_true_eq] at hxn
          rcases List.mem_cons.1 hx with rfl | hx
          · exact c2 hxn
          · have := hL x hx
            omega
        · rw [List.filter_eq_nil_iff]
          intro x hx
          simp only [decide_eq_true_eq]
          rcases List.mem_cons.1 hx with rfl | hx
          · exact c1
          · have := hL x hx
            omega
        · rw [List.filter_eq_self]
          intro x hx
          simp only [decide_eq_true_eq]
          rcases List.mem_cons.1 hx with rfl | hx
          · exact c3
          · exact hL x hx
/-- What comes in turn goes out. -/
def popL : List EarlyR → Int → List ByteArray → List EarlyR × Int × List ByteArray
  | [], g, o => ([], g, o)
  | e :: es, g, o => if e.1 = wi64 (g + 1) then popL es (wi64 (g + 1)) (o ++ [e.2]) else (e :: es, g, o)
theorem popL_len : ∀ (L : List EarlyR) (g : Int) (o : List ByteArray), (popL L g o).1.length ≤ L.length ∧ (popL L g o).2.2.length ≤ o.length + L.length
  | [], g, o => ⟨Nat.le_refl _, by simp [popL]⟩
  | e :: es, g, o => by
    unfold popL
    split
    · have := popL_len es (wi64 (g + 1)) (o ++ [e.2])
      simp only [List.length_append, List.length_cons, List.length_nil] at this ⊢
      omega
    · simp
theorem pop_loop {X R : Type} {step : (X → Option R) → X → Option R} (st : List EarlyR → Int → List ByteArray → X) (fin : List EarlyR → Int → List ByteArray → Option R)
    (hs : ∀ again (e : EarlyR) es g o, e.1 = wi64 (g + 1) → es.length + o.length ≤ 2097152 → step again (st (e :: es) g o) = again (st es (wi64 (g + 1)) (o ++ [e.2])))
    (h1 : ∀ again (e : EarlyR) es g o, ¬ e.1 = wi64 (g + 1) → step again (st (e :: es) g o) = fin (e :: es) g o) (h0 : ∀ again g o, step again (st [] g o) = fin [] g o) :
    ∀ (L : List EarlyR) (k : Nat) (g : Int) (o : List ByteArray), L.length < k → L.length + o.length ≤ 2097152 → whileK step k (st L g o) = fin (popL L g o).1 (popL L g o).2.1 (popL L g o).2.2 := by
  intro L
  induction L with
  | nil =>
    intro k g o hk _
    obtain ⟨k, rfl⟩ : ∃ k', k = k' + 1 := ⟨k - 1, by omega⟩
    exact h0 _ _ _
  | cons e es ih =>
    intro k g o hk hl
    simp only [List.length_cons] at hk hl
    obtain ⟨k, rfl⟩ : ∃ k', k = k' + 1 := ⟨k - 1, by omega⟩
    show step _ _ = _
    unfold popL
    by_cases h : e.1 = wi64 (g + 1)
    · rw [hs _ e es g o h (by omega), if_pos h]
      exact ih k _ _ (by omega) (by simp; omega)
    · rw [h1 _ e es g o h, if_neg h]
/-- An end that took a text. -/
def earlyC (c : ChanA) (n : Int) (b : ByteArray) : ChanA := match putS n b c.2.2.2.2.2.2.1 with
  | none => c
  | some L => (c.1, (c.2.1, (c.2.2.1, (c.2.2.2.1, (c.2.2.2.2.1, ((popL L c.2.2.2.2.2.1 c.2.2.2.2.2.2.2.2.1).2.1, ((popL L c.2.2.2.2.2.1 c.2.2.2.2.2.2.2.2.1).1, (c.2.2.2.2.2.2.2.1, ((popL L c.2.2.2.2.2.1 c.2.2.2.2.2.2.2.2.1).2.2, ())))))))))
theorem rd_mid {t : Ty} (p : List t.den) (e : t.den) (r : List t.den) : Ty.rd (t := t) (p ++ e :: r) (p.length : Int) = e := by
  rw [rd_at (t := t) _ p.length (by simp)]
  simp
theorem i_early_is (k : Nat) (c : ChanA) (n : Int) (b : ByteArray) (hk : 1048576 < k) (hl : LenC c) (ho : c.2.2.2.2.2.2.2.2.1.length ≤ 1000) (hs : c.2.2.2.2.2.2.1.Pairwise (fun a b => a.1 < b.1)) (h3 : c.2.2.2.2.2.2.1.length ≤ 3) :
    i_Chan_early k (c, (n, (b, ()))) = some ((), (earlyC c n b, ((), ((), ())))) := by
  obtain ⟨me, peer, nx, qu, se, got, ea, ow, out, ⟨⟩⟩ := c
  unfold earlyC putS
  dsimp only at hs h3 ho ⊢
  unfold i_Chan_early
  have hloop : ∀ (p : List EarlyR) (E : (ChanA × Int × ByteArray × Int × Unit) → Option (Unit × ChanA × Unit × Unit × Unit)), (∀ x ∈ p, x.1 < n) → ∀ r, ea = p ++ r → (∀ e r', r = e :: r' → ¬ e.1 < n) →
      whileK (fun (rec0 : ((Int × Int × Int × List (ByteArray) × (List (Int × ByteArray × Int × Int)) × Int × (List (Int × ByteArray)) × List (Int) × List (ByteArray) × Unit) × Int × ByteArray × Int × Unit) → Option (Unit × ChanA × Unit × Unit × Unit)) (y0 : (Int × Int × Int × List (ByteArray) × (List (Int × ByteArray × Int × Int)) × Int × (List (Int × ByteArray)) × List (Int) × List (ByteArray) × Unit) × Int × ByteArray × Int × Unit) =>
        (if (decide (y0.2.2.2.1 < (List.length y0.1.2.2.2.2.2.2.1 : Int))) = true then
        (if 0 ≤ y0.2.2.2.1 ∧ y0.2.2.2.1 < (List.length y0.1.2.2.2.2.2.2.1 : Int) then
        (if (decide ((Ty.rd (t := TEarly) y0.1.2.2.2.2.2.2.1 y0.2.2.2.1).1 < y0.2.1)) = true then
        (rec0 ((y0.1.1, (y0.1.2.1, (y0.1.2.2.1, (y0.1.2.2.2.1, (y0.1.2.2.2.2.1, (y0.1.2.2.2.2.2.1, (y0.1.2.2.2.2.2.2.1, (y0.1.2.2.2.2.2.2.2.1, (y0.1.2.2.2.2.2.2.2.2.1, ()))))))))), (y0.2.1, (y0.2.2.1, ((wi64 (y0.2.2.2.1 + (1 : Int))), ())))))
        else
        (E ((y0.1.1, (y0.1.2.1, (y0.1.2.2.1, (y0.1.2.2.2.1, (y0.1.2.2.2.2.1, (y0.1.2.2.2.2.2.1, (y0.1.2.2.2.2.2.2.1, (y0.1.2.2.2.2.2.2.2.1, (y0.1.2.2.2.2.2.2.2.2.1, ()))))))))), (y0.2.1, (y0.2.2.1, (y0.2.2.2.1, ()))))))
        else none)
        else
        (E ((y0.1.1, (y0.1.2.1, (y0.1.2.2.1, (y0.1.2.2.2.1, (y0.1.2.2.2.2.1, (y0.1.2.2.2.2.2.1, (y0.1.2.2.2.2.2.2.1, (y0.1.2.2.2.2.2.2.2.1, (y0.1.2.2.2.2.2.2.2.2.1, ()))))))))), (y0.2.1, (y0.2.2.1, (y0.2.2.2.1, ()))))))) k ((me, (peer, (nx, (qu, (se, (got, (ea, (ow, (out, ()))))))))), (n, (b, ((0 : Int), ())))) =
        E ((me, (peer, (nx, (qu, (se, (got, (ea, (ow, (out, ()))))))))), (n, (b, ((p.length : Int), ())))) := by
    intro p E hp r hr hn
    have key : ∀ m i kk, i + m = p.length → m < kk → whileK (fun (rec0 : ((Int × Int × Int × List (ByteArray) × (List (Int × ByteArray × Int × Int)) × Int × (List (Int × ByteArray)) × List (Int) × List (ByteArray) × Unit) × Int × ByteArray × Int × Unit) → Option (Unit × ChanA × Unit × Unit × Unit)) (y0 : (Int × Int × Int × List (ByteArray) × (List (Int × ByteArray × Int × Int)) × Int × (List (Int × ByteArray)) × List (Int) × List (ByteArray) × Unit) × Int × ByteArray × Int × Unit) =>
        (if (decide (y0.2.2.2.1 < (List.length y0.1.2.2.2.2.2.2.1 : Int))) = true then
        (if 0 ≤ y0.2.2.2.1 ∧ y0.2.2.2.1 < (List.length y0.1.2.2.2.2.2.2.1 : Int) then
        (if (decide ((Ty.rd (t := TEarly) y0.1.2.2.2.2.2.2.1 y0.2.2.2.1).1 < y0.2.1)) = true then
        (rec0 ((y0.1.1, (y0.1.2.1, (y0.1.2.2.1, (y0.1.2.2.2.1, (y0.1.2.2.2.2.1, (y0.1.2.2.2.2.2.1, (y0.1.2.2.2.2.2.2.1, (y0.1.2.2.2.2.2.2.2.1, (y0.1.2.2.2.2.2.2.2.2.1, ()))))))))), (y0.2.1, (y0.2.2.1, ((wi64 (y0.2.2.2.1 + (1 : Int))), ())))))
        else
        (E ((y0.1.1, (y0.1.2.1, (y0.1.2.2.1, (y0.1.2.2.2.1, (y0.1.2.2.2.2.1, (y0.1.2.2.2.2.2.1, (y0.1.2.2.2.2.2.2.1, (y0.1.2.2.2.2.2.2.2.1, (y0.1.2.2.2.2.2.2.2.2.1, ()))))))))), (y0.2.1, (y0.2.2.1, (y0.2.2.2.1, ()))))))
        else none)
        else
        (E ((y0.1.1, (y0.1.2.1, (y0.1.2.2.1, (y0.1.2.2.2.1, (y0.1.2.2.2.2.1, (y0.1.2.2.2.2.2.1, (y0.1.2.2.2.2.2.2.1, (y0.1.2.2.2.2.2.2.2.1, (y0.1.2.2.2.2.2.2.2.2.1, ()))))))))), (y0.2.1, (y0.2.2.1, (y0.2.2.2.1, ()))))))) kk ((me, (peer, (nx, (qu, (se, (got, (ea, (ow, (out, ()))))))))), (n, (b, ((i : Int), ())))) =
        E ((me, (peer, (nx, (qu, (se, (got, (ea, (ow, (out, ()))))))))), (n, (b, ((p.length : Int), ())))) := by
      intro m
      induction m with
      | zero =>
        intro i kk h hkk
        obtain ⟨kk, rfl⟩ : ∃ k', kk = k' + 1 := ⟨kk - 1, by omega⟩
        have : i = p.length := by omega
        subst this
        simp only [whileK]
        cases r with
        | nil =>
          have g0 : ¬ (p.length : Int) < (ea.length : Int) := by rw [hr]; simp
          simp only [g0, decide_false, Bool.false_eq_true, if_false]
        | cons e r =>
          have g0 : (p.length : Int) < (ea.length : Int) := by rw [hr]; simp only [List.length_append, List.length_cons]; omega
          have g1 : (0 : Int) ≤ (p.length : Int) := by omega
          have e1 : Ty.rd (t := TEarly) ea (p.length : Int) = e := by rw [hr]; exact rd_mid (t := TEarly) p e r
          have g2 : ¬ e.1 < n := hn e r rfl
          simp only [g0, g1, e1, g2, and_self, decide_true, decide_false, Bool.false_eq_true, if_true, if_false]
      | succ m ih =>
        intro i kk h hkk
        obtain ⟨kk, rfl⟩ : ∃ k', kk = k' + 1 := ⟨kk - 1, by omega⟩
        have hi : i < p.length := by omega
        have hea : i < ea.length := by rw [hr]; simp; omega
        have g0 : (i : Int) < (ea.length : Int) := by omega
        have g1 : (0 : Int) ≤ (i : Int) := by omega
        have e1 : Ty.rd (t := TEarly) ea (i : Int) = p[i] := by
          rw [rd_at (t := TEarly) ea i hea]
          simp only [hr]
          rw [List.getElem_append_left hi]
        have g2 : (p[i]).1 < n := hp _ (List.getElem_mem _)
        have w2 : wi64 ((i : Int) + 1) = ((i + 1 : Nat) : Int) := (w64_id _ (by omega)).trans (by omega)
        have := ih (i + 1) kk (by omega) (by omega)
        rw [whileK]
        simp only [g0, g1, e1, g2, w2, and_self, decide_true, if_true]
        exact this
    exact key p.length 0 k (by omega) (by have : p.length ≤ ea.length := by rw [hr]; simp
                                          omega)
  rcases put_split (n := n) hs with ⟨p, e, r, hr, hp, hx, ha⟩ | ⟨p, r, hr, hp, hr2, ha, f1, f2⟩
  · refine jn_via (a := ((me, (peer, (nx, (qu, (se, (got, (ea, (ow, (out, ()))))))))), (n, (b, ((p.length : Int), ()))))) (fun E => hloop p E hp (e :: r) hr (fun e' r' h => by cases h; omega)) ?_
    have g0 : (p.length : Int) < (ea.length : Int) := by rw [hr]; simp only [List.length_append, List.length_cons]; omega
    have g1 : (0 : Int) ≤ (p.length : Int) := by omega
    have e1 : Ty.rd (t := TEarly) ea (p.length : Int) = e := by rw [hr]; exact rd_mid (t := TEarly) p e r
    unfold jn
    simp only [g0, g1, e1, hx, ha, and_self, decide_true, if_true]
  · refine jn_via (a := ((me, (peer, (nx, (qu, (se, (got, (ea, (ow, (out, ()))))))))), (n, (b, ((p.length : Int), ()))))) (fun E => hloop p E hp r hr (fun e' r' h => by subst h; have := hr2 e' (List.mem_cons_self ..); omega)) ?_
    have hins : x_slices_Insert_impl_Early_impl_Early k (ea, ((p.length : Int), (([(n, b)] : List (Int × ByteArray)), ()))) = some (p ++ (n, b) :: r, ((), ((), ((), ())))) := by
      unfold x_slices_Insert_impl_Early_impl_Early insF
      have g1 : 0 ≤ (p.length : Int) ∧ (p.length : Int) ≤ (ea.length : Int) ∧ 0 < ([(n, b)] : List EarlyR).length ∧ (ea.length + ([(n, b)] : List EarlyR).length) * 24 ≤ 140737488355328 := ⟨by omega, by rw [hr]; simp only [List.length_append]; omega, by simp, by simp; omega⟩
      dsimp only
      rw [if_pos g1]
      simp only [Int.toNat_natCast]
      rw [hr, List.take_left, List.drop_left]
      simp
    have hmain : ((x_slices_Insert_impl_Early_impl_Early k (ea, ((p.length : Int), (([(n, b)] : List (Int × ByteArray)), ())))).bind fun p2 =>
        whileK (fun (rec2 : ((Int × Int × Int × List (ByteArray) × (List (Int × ByteArray × Int × Int)) × Int × (List (Int × ByteArray)) × List (Int) × List (ByteArray) × Unit) × Unit) → Option (Unit × ChanA × Unit × Unit × Unit)) (y2 : (Int × Int × Int × List (ByteArray) × (List (Int × ByteArray × Int × Int)) × Int × (List (Int × ByteArray)) × List (Int) × List (ByteArray) × Unit) × Unit) =>
        (if (decide ((0 : Int) < (List.length y2.1.2.2.2.2.2.2.1 : Int))) = true then
        (if 0 ≤ (0 : Int) ∧ (0 : Int) < (List.length y2.1.2.2.2.2.2.2.1 : Int) then
        (if (decide ((Ty.rd (t := TEarly) y2.1.2.2.2.2.2.2.1 (0 : Int)).1 = (wi64 (y2.1.2.2.2.2.2.1 + (1 : Int))))) = true then
        (if 0 ≤ (0 : Int) ∧ (0 : Int) < (List.length y2.1.2.2.2.2.2.2.1 : Int) then
        (if List.length y2.1.2.2.2.2.2.2.2.2.1 + List.length ([(Ty.rd (t := TEarly) y2.1.2.2.2.2.2.2.1 (0 : Int)).2] : List (ByteArray)) ≤ capMax then
        (if 0 ≤ (1 : Int) ∧ (1 : Int) ≤ (List.length y2.1.2.2.2.2.2.2.1 : Int) then
        (rec2 ((y2.1.1, (y2.1.2.1, (y2.1.2.2.1, (y2.1.2.2.2.1, (y2.1.2.2.2.2.1, ((wi64 (y2.1.2.2.2.2.2.1 + (1 : Int))), ((List.drop (Int.toNat (1 : Int)) (List.take (Int.toNat (List.length y2.1.2.2.2.2.2.2.1 : Int)) y2.1.2.2.2.2.2.2.1)), (y2.1.2.2.2.2.2.2.2.1, ((y2.1.2.2.2.2.2.2.2.2.1 ++ ([(Ty.rd (t := TEarly) y2.1.2.2.2.2.2.2.1 (0 : Int)).2] : List (ByteArray))), ()))))))))), ()))
        else none)
        else none)
        else none)
        else
        ((fun (z3 : (Int × Int × Int × List (ByteArray) × (List (Int × ByteArray × Int × Int)) × Int × (List (Int × ByteArray)) × List (Int) × List (ByteArray) × Unit) × Unit) =>
        some ((), ((z3.1.1, (z3.1.2.1, (z3.1.2.2.1, (z3.1.2.2.2.1, (z3.1.2.2.2.2.1, (z3.1.2.2.2.2.2.1, (z3.1.2.2.2.2.2.2.1, (z3.1.2.2.2.2.2.2.2.1, (z3.1.2.2.2.2.2.2.2.2.1, ()))))))))), ((), ((), ()))))) ((y2.1.1, (y2.1.2.1, (y2.1.2.2.1, (y2.1.2.2.2.1, (y2.1.2.2.2.2.1, (y2.1.2.2.2.2.2.1, (y2.1.2.2.2.2.2.2.1, (y2.1.2.2.2.2.2.2.2.1, (y2.1.2.2.2.2.2.2.2.2.1, ()))))))))), ())))
        else none)
        else
        ((fun (z3 : (Int × Int × Int × List (ByteArray) × (List (Int × ByteArray × Int × Int)) × Int × (List (Int × ByteArray)) × List (Int) × List (ByteArray) × Unit) × Unit) =>
        some ((), ((z3.1.1, (z3.1.2.1, (z3.1.2.2.1, (z3.1.2.2.2.1, (z3.1.2.2.2.2.1, (z3.1.2.2.2.2.2.1, (z3.1.2.2.2.2.2.2.1, (z3.1.2.2.2.2.2.2.2.1, (z3.1.2.2.2.2.2.2.2.2.1, ()))))))))), ((), ((), ()))))) ((y2.1.1, (y2.1.2.1, (y2.1.2.2.1, (y2.1.2.2.2.1, (y2.1.2.2.2.2.1, (y2.1.2.2.2.2.2.1, (y2.1.2.2.2.2.2.2.1, (y2.1.2.2.2.2.2.2.2.1, (y2.1.2.2.2.2.2.2.2.2.1, ()))))))))), ())))) k ((me, (peer, (nx, (qu, (se, (got, (p2.1, (ow, (out, ()))))))))), ())) =
        some ((), ((me, (peer, (nx, (qu, (se, ((popL (p ++ (n, b) :: r) got out).2.1, ((popL (p ++ (n, b) :: r) got out).1, (ow, ((popL (p ++ (n, b) :: r) got out).2.2, ()))))))))), ((), ((), ())))) := by
      rw [hins]
      simp only [Option.bind_some]
      have hlen : (p ++ (n, b) :: r).length = ea.length + 1 := by rw [hr]; simp; omega
      refine pop_loop (fun L g o => ((me, (peer, (nx, (qu, (se, (g, (L, (ow, (o, ()))))))))), ())) (fun L g o => some ((), ((me, (peer, (nx, (qu, (se, (g, (L, (ow, (o, ()))))))))), ((), ((), ()))))) (fun again e es g o h hle => ?_) (fun again e es g o h => ?_) (fun again g o => ?_) (p ++ (n, b) :: r) k got out (by omega) (by omega)
      · have g1 : (0 : Int) < ((e :: es).length : Int) := by simp only [List.length_cons]; omega
        have g3 : (0 : Int) ≤ 0 := by omega
        have g4 : (0 : Int) ≤ 1 ∧ (1 : Int) ≤ ((e :: es).length : Int) := ⟨by omega, by simp only [List.length_cons]; omega⟩
        have d1 : List.drop (Int.toNat (1 : Int)) (List.take (Int.toNat ((e :: es).length : Int)) (e :: es)) = es := by simp
        have d2 : Ty.rd (t := TEarly) (e :: es) (0 : Int) = e := rfl
        have t1 : o.length + ([e.2] : List ByteArray).length ≤ capMax := by
          have : capMax = 274877906944 := rfl
          simp only [List.length_cons, List.length_nil]
          omega
        simp only [g1, g3, g4, d1, d2, h, t1, and_self, decide_true, if_true]
      · have g1 : (0 : Int) < ((e :: es).length : Int) := by simp only [List.length_cons]; omega
        have g3 : (0 : Int) ≤ 0 := by omega
        have d2 : Ty.rd (t := TEarly) (e :: es) (0 : Int) = e := rfl
        simp only [g1, g3, d2, h, and_self, decide_true, decide_false, Bool.false_eq_true, if_true, if_false]
      · simp only [List.length_nil, Int.natCast_zero, Int.lt_irrefl, decide_false, Bool.false_eq_true, if_false]
    rw [ha, f1, f2]
    simp only [Bool.false_eq_true, if_false]
    unfold jn
    cases r with
    | nil =>
      have g0 : ¬ (p.length : Int) < (ea.length : Int) := by rw [hr]; simp
      simp only [g0, decide_false, Bool.false_eq_true, if_false]
      exact hmain
    | cons e r =>
      have g0 : (p.length : Int) < (ea.length : Int) := by rw [hr]; simp only [List.length_append, List.length_cons]; omega
      have g1 : (0 : Int) ≤ (p.length : Int) := by omega
      have e1 : Ty.rd (t := TEarly) ea (p.length : Int) = e := by rw [hr]; exact rd_mid (t := TEarly) p e r
      have g2 : ¬ e.1 = n := by have := hr2 e (List.mem_cons_self ..); omega
      simp only [g0, g1, e1, g2, and_self, decide_true, decide_false, Bool.false_eq_true, if_true, if_false]
      exact hmain
/-- A walk over a list, with an early end. -/
def foldL {A B R : Type} (g : A → B → R ⊕ B) (fin : B → Option R) : List A → B → Option R
  | [], b => fin b
  | x :: xs, b => match g x b with
    | .inl r => some r
    | .inr b' => foldL g fin xs b'
theorem list_loop {X R A B : Type} {step : (X → Option R) → X → Option R} (L : List A) (st : Nat → B → X) (g : A → B → R ⊕ B) (fin : B → Option R) (I : Nat → B → Prop)
    (hs : ∀ again i (h : i < L.length) b, I i b → step again (st i b) = match g L[i] b with | .inl r => some r | .inr b' => again (st (i + 1) b'))
    (hI : ∀ i (h : i < L.length) b b', I i b → g L[i] b = .inr b' → I (i + 1) b') (he : ∀ again b, I L.length b → step again (st L.length b) = fin b) (k : Nat) (hk : L.length < k) (b : B) (hb : I 0 b) :
    whileK step k (st 0 b) = foldL g fin L b := by
  have key : ∀ m i kk b, i + m = L.length → m < kk → I i b → whileK step kk (st i b) = foldL g fin (L.drop i) b := by
    intro m
    induction m with
    | zero =>
      intro i kk b h hkk hb
      obtain ⟨kk, rfl⟩ : ∃ k', kk = k' + 1 := ⟨kk - 1, by omega⟩
      have : i = L.length := by omega
      subst this
      rw [List.drop_length]
      exact he _ b hb
    | succ m ih =>
      intro i kk b h hkk hb
      obtain ⟨kk, rfl⟩ : ∃ k', kk = k' + 1 := ⟨kk - 1, by omega⟩
      have hi : i < L.length := by omega
      show step _ _ = _
      rw [hs _ i hi b hb, List.drop_eq_getElem_cons hi]
      unfold foldL
      cases hq : g L[i] b with
      | inl r => rfl
      | inr b' => exact ih (i + 1) kk b' (by omega) (by omega) (hI i hi b b' hb hq)
  have := key L.length 0 k b (by omega) hk hb
  rwa [List.drop_zero] at this
abbrev TakeD := Int × ByteArray × Int × Int
abbrev TakeT : Ty := .pair (.int .i64) (.pair .str (.pair (.int .i64) (.int .i64)))
theorem idxTake_is (k : Nat) (a : List TakeD) (op key fr tg num : Int) (acks : List Int) (body : ByteArray) (ha : acks.length ≤ 1048576) (hk : 1048576 < k) (hl : a.length ≤ 1048576) : x_slices_IndexFunc_impl_Pending_impl_Pending_of_i_Take_1 k (a, (((op, (key, (fr, (tg, (num, (acks, (body, ()))))))), ()), ())) =
    some (match (List.range a.length).find? (fun i => decide ((fun x : TakeD => x.1 ∈ acks) (a.getD i (Ty.dflt TakeT)))) with | some i => (((i : Nat) : Int), ((), (((op, (key, (fr, (tg, (num, (acks, (body, ()))))))), ()), ()))) | none => (-1, ((), (((op, (key, (fr, (tg, (num, (acks, (body, ()))))))), ()), ())))) := by
  unfold x_slices_IndexFunc_impl_Pending_impl_Pending_of_i_Take_1
  refine loop_find (fun i => (a, (((op, (key, (fr, (tg, (num, (acks, (body, ()))))))), ()), ((a.length : Int), (((i : Nat) : Int), ()))))) a.length (fun i => decide ((fun x : TakeD => x.1 ∈ acks) (a.getD i (Ty.dflt TakeT)))) (fun i => (((i : Nat) : Int), ((), (((op, (key, (fr, (tg, (num, (acks, (body, ()))))))), ()), ())))) (-1, ((), (((op, (key, (fr, (tg, (num, (acks, (body, ()))))))), ()), ()))) ?_ ?_ k (by omega)
  · intro again i hi
    have g1 : (0 : Int) ≤ (i : Int) ∧ (i : Int) < (a.length : Int) := by omega
    have w2 : wi64 ((i : Int) + 1) = ((i + 1 : Nat) : Int) := (w64_id _ (by omega)).trans (by omega)
    simp only [g1, w2, i_Take_1, Contains_is k acks _ hk ha, Ty.rd, Int.toNat_natCast, and_self, decide_true, if_true, Option.bind_some]
  · intro again
    simp
theorem delTake_is (k : Nat) (L : List TakeD) (op key fr tg num : Int) (acks : List Int) (body : ByteArray) (ha : acks.length ≤ 1048576) (hk : 1048576 < k) (hl : L.length ≤ 1048576) : x_slices_DeleteFunc_impl_Pending_impl_Pending_of_i_Take_1 k (L, (((op, (key, (fr, (tg, (num, (acks, (body, ()))))))), ()), ())) =
    some (L.filter (fun x => !decide (x.1 ∈ acks)), ((), (((op, (key, (fr, (tg, (num, (acks, (body, ()))))))), ()), ()))) := by
  have e := idxTake_is k L op key fr tg num acks body ha hk hl
  have hsp := first_split (Ty.dflt TakeT) (fun x : TakeD => decide (x.1 ∈ acks)) L
  unfold x_slices_DeleteFunc_impl_Pending_impl_Pending_of_i_Take_1
  simp only [e, Option.bind_some]
  cases hq : (List.range L.length).find? (fun i => decide ((fun x : TakeD => x.1 ∈ acks) (L.getD i (Ty.dflt TakeT)))) with
  | none =>
    rw [hq] at hsp
    rw [hsp]
    simp
  | some i =>
    rw [hq] at hsp
    obtain ⟨p, g, r, rfl, rfl, hfil⟩ := hsp
    have hne : ¬ ((p.length : Nat) : Int) = -1 := by omega
    have hl' : p.length + r.length + 1 ≤ 1048576 := by simpa [Nat.add_assoc] using hl
    have w2 : wi64 ((p.length : Int) + 1) = ((p.length + ([] : List TakeD).length + 1 : Nat) : Int) := (w64_id _ (by omega)).trans (by simp)
    rw [hfil]
    simp only [hne, w2, decide_false, Bool.false_eq_true, if_false]
    refine (del_run (fun x : TakeD => decide (x.1 ∈ acks)) ((op, (key, (fr, (tg, (num, (acks, (body, ()))))))), ()) (fun q => (q, ((), (((op, (key, (fr, (tg, (num, (acks, (body, ()))))))), ()), ())))) ?_ ?_ r p [] g k (by simp; omega) (by omega))
    · intro again p gs r g v hb
      have hlen : (p ++ g :: (gs ++ v :: r)).length = p.length + gs.length + r.length + 2 := by simp; omega
      have g1 : ((p.length + gs.length + 1 : Nat) : Int) < ((p ++ g :: (gs ++ v :: r)).length : Int) := by rw [hlen]; omega
      have g2 : (0 : Int) ≤ ((p.length + gs.length + 1 : Nat) : Int) ∧ ((p.length + gs.length + 1 : Nat) : Int) < ((p ++ g :: (gs ++ v :: r)).length : Int) := by rw [hlen]; omega
      have g3 : (0 : Int) ≤ (p.length : Int) ∧ (p.length : Int) < ((p ++ g :: (gs ++ v :: r)).length : Int) := by rw [hlen]; omega
      have r1 : (p ++ g :: (gs ++ v :: r)).getD (p.length + gs.length + 1) (Ty.dflt TakeT) = v := by
        rw [show p ++ g :: (gs ++ v :: r) = (p ++ g :: gs) ++ v :: r by simp, show p.length + gs.length + 1 = (p ++ g :: gs).length by simp; omega]
        simp [List.getD]
      have s1 : List.set (p ++ g :: (gs ++ v :: r)) p.length v = p ++ v :: (gs ++ v :: r) := by simp
      have w1 : wi64 ((p.length : Int) + 1) = ((p.length + 1 : Nat) : Int) := (w64_id _ (by omega)).trans (by omega)
      have w2 : wi64 (((p.length + gs.length + 1 : Nat) : Int) + 1) = ((p.length + gs.length + 2 : Nat) : Int) := (w64_id _ (by omega)).trans (by omega)
      obtain ⟨v1, v2, v3, v4⟩ := v
      simp only [jn, Ty.rd, Int.toNat_natCast, r1, g1, g2, g3, s1, w1, w2, i_Take_1, Contains_is k acks _ hk ha, decide_true, and_self, if_true, Option.bind_some]
      by_cases q : v1 ∈ acks <;> simp [q]
    · intro again q t
      have hd : ¬ (((q ++ t).length : Nat) : Int) < ((q ++ t).length : Int) := by omega
      have g1 : (0 : Int) ≤ (q.length : Int) ∧ (q.length : Int) ≤ ((q ++ t).length : Int) := by simp only [List.length_append]; omega
      simp only [hd, g1, decide_false, Bool.false_eq_true, if_false, and_self, if_true]
      simp
      omega
abbrev PkA := Int × Int × Int × Int × Int × List Int × ByteArray × Unit
def takeB (c : ChanA) (p : PkA) : Bool :=
  chanB c && (pkB p && decide (p.1 ≠ 3 ∧ p.2.2.1 = c.2.1 ∧ p.2.2.2.1 = c.1 ∧ (p.1 = 1 → 1 ≤ p.2.2.2.2.1 ∧ p.2.2.2.2.1 ≤ wi64 (c.2.2.2.2.2.1 + 4)) ∧ c.2.2.2.2.2.1 ≤ 990))
def ackC (c : ChanA) (a : List Int) : ChanA := (c.1, (c.2.1, (c.2.2.1, (c.2.2.2.1, (c.2.2.2.2.1.filter (fun x => !decide (x.1 ∈ a)), c.2.2.2.2.2)))))
def oweC (c : ChanA) (n : Int) : ChanA := (c.1, (c.2.1, (c.2.2.1, (c.2.2.2.1, (c.2.2.2.2.1, (c.2.2.2.2.2.1, (c.2.2.2.2.2.2.1, (if n ∉ c.2.2.2.2.2.2.2.1 ∧ c.2.2.2.2.2.2.2.1.length < 4 then c.2.2.2.2.2.2.2.1 ++ [n] else c.2.2.2.2.2.2.2.1, c.2.2.2.2.2.2.2.2))))))))
def takeC (c : ChanA) (p : PkA) : ChanA :=
  if p.1 = 2 then ackC c p.2.2.2.2.2.1 else if c.2.2.2.2.2.1 < p.2.2.2.2.1 then earlyC (oweC (ackC c p.2.2.2.2.2.1) p.2.2.2.2.1) p.2.2.2.2.1 p.2.2.2.2.2.2.1 else oweC (ackC c p.2.2.2.2.2.1) p.2.2.2.2.1
def takeR (c : ChanA) (p : PkA) : ChanA := if takeB c p = true then takeC c p else c
theorem pkB_acks {p : PkA} (h : pkB p = true) : p.2.2.2.2.2.1.length ≤ 4 := by
  unfold pkB at h
  simp only [Bool.and_eq_true, decide_eq_true_eq] at h
  exact h.2.2.2.2.2.1
theorem i_Take_is (k : Nat) (c : ChanA) (p : PkA) (hk : 1048576 < k) (hl : LenC c) (ha : p.2.2.2.2.2.1.length ≤ 1048576) : i_Take k (c, (p, ())) = some ((takeR c p, (takeB c p, ())), ((), ((), ()))) := by
  have e1 := i_copyChan_is k c hl
  have e2 := i_ChanOk_is k c hk hl
  have e3 := i_PacketOk_is k p ha hk
  have hf := @chanB_facts c
  have he := @chanB_early c
  unfold i_Take takeR takeB
  cases hb : chanB c
  · unfold i_Take_z
    simp only [e1, e2, hb, Option.bind_some, Bool.false_and, Bool.not_false, Bool.true_eq_false, Bool.false_eq_true, if_false]
  obtain ⟨_, _, _, f4, fg, fo, f7, f8⟩ := hf hb
  obtain ⟨he1, he2⟩ := he hb
  cases hp : pkB p
  · unfold i_Take_z
    simp only [e1, e2, e3, hb, hp, Option.bind_some, Bool.true_and, Bool.false_and, Bool.not_true, Bool.not_false, Bool.true_eq_false, Bool.false_eq_true, if_true, if_false]
  have ha4 := pkB_acks hp
  obtain ⟨me, peer, nx, qu, se, got, ea, ow, out, ⟨⟩⟩ := c
  obtain ⟨op, key, fr, tg, num, acks, body, ⟨⟩⟩ := p
  obtain ⟨l1, l2, l3, l4, l5⟩ := hl
  dsimp only at ha4 f4 fg fo f7 f8 he1 he2 l1 l2 l3 l4 l5 ha ⊢
  have w4 : wi64 (got + 4) = got + 4 := w64_id _ (by omega)
  unfold i_Take_z
  simp only [e1, e2, e3, hb, hp, within_is, Option.bind_some, Bool.true_and, Bool.not_true, if_true, w4]
  by_cases c1 : op = 3
  · simp [c1]
  by_cases c2 : fr = peer
  rotate_left
  · simp [c1, c2]
  by_cases c3 : tg = me
  rotate_left
  · simp [c1, c2, c3]
  have hdel := delTake_is k se op key fr tg num acks body ha hk l2
  have hcon := Contains_is k ow num hk l4
  have hE1 := i_early_is k (me, (peer, (nx, (qu, (se.filter (fun x => !decide (x.1 ∈ acks)), (got, (ea, (ow ++ [num], (out, ()))))))))) num body hk ⟨l1, Nat.le_trans (List.length_filter_le _ _) l2, l3, by simp; omega, l5⟩ (by show out.length ≤ 1000; omega) he1 he2
  have hE2 := i_early_is k (me, (peer, (nx, (qu, (se.filter (fun x => !decide (x.1 ∈ acks)), (got, (ea, (ow, (out, ()))))))))) num body hk ⟨l1, Nat.le_trans (List.length_filter_le _ _) l2, l3, l4, l5⟩ (by show out.length ≤ 1000; omega) he1 he2
  have t1 : ow.length + ([num] : List Int).length ≤ capMax := cap_le (by simp; omega)
  have hmain : ∀ (hj : (op = 1 → 1 ≤ num ∧ num ≤ got + 4) ∧ got ≤ 990),
      ((x_slices_DeleteFunc_impl_Pending_impl_Pending_of_i_Take_1 k (se, (((op, (key, (fr, (tg, (num, (acks, (body, ()))))))), ()), ()))).bind fun p10 =>
        (if (decide (p10.2.2.1.1.1 = (2 : Int))) = true then
        some (((me, (peer, (nx, (qu, (p10.1, (got, (ea, (ow, (out, ()))))))))), (true, ())), ((), ((), ())))
        else
        (jn (
        (if (decide (got < p10.2.2.1.1.2.2.2.2.1)) = true then
        ((i_Chan_early k ((me, (peer, (nx, (qu, (p10.1, (got, (ea, (ow, (out, ()))))))))), (p10.2.2.1.1.2.2.2.2.1, (p10.2.2.1.1.2.2.2.2.2.2.1, ())))).bind fun p14 =>
        some (((p14.2.1.1, (p14.2.1.2.1, (p14.2.1.2.2.1, (p14.2.1.2.2.2.1, (p14.2.1.2.2.2.2.1, (p14.2.1.2.2.2.2.2.1, (p14.2.1.2.2.2.2.2.2.1, (p14.2.1.2.2.2.2.2.2.2.1, (p14.2.1.2.2.2.2.2.2.2.2.1, ()))))))))), (true, ())), ((), ((), ()))))
        else
        some (((me, (peer, (nx, (qu, (p10.1, (got, (ea, (ow, (out, ()))))))))), (true, ())), ((), ((), ()))))) (fun (j3 : Option ((ChanA × Bool × Unit) × Unit × Unit × Unit)) =>
        ((x_slices_Contains_int_int k (ow, (p10.2.2.1.1.2.2.2.2.1, ()))).bind fun p11 =>
        (if (!p11.1) = true then
        (if (decide ((List.length ow : Int) < (4 : Int))) = true then
        (if List.length ow + List.length ([p10.2.2.1.1.2.2.2.2.1] : List (Int)) ≤ capMax then
        (if (decide (got < p10.2.2.1.1.2.2.2.2.1)) = true then
        ((i_Chan_early k ((me, (peer, (nx, (qu, (p10.1, (got, (ea, ((ow ++ ([p10.2.2.1.1.2.2.2.2.1] : List (Int))), (out, ()))))))))), (p10.2.2.1.1.2.2.2.2.1, (p10.2.2.1.1.2.2.2.2.2.2.1, ())))).bind fun p12 =>
        some (((p12.2.1.1, (p12.2.1.2.1, (p12.2.1.2.2.1, (p12.2.1.2.2.2.1, (p12.2.1.2.2.2.2.1, (p12.2.1.2.2.2.2.2.1, (p12.2.1.2.2.2.2.2.2.1, (p12.2.1.2.2.2.2.2.2.2.1, (p12.2.1.2.2.2.2.2.2.2.2.1, ()))))))))), (true, ())), ((), ((), ()))))
        else
        some (((me, (peer, (nx, (qu, (p10.1, (got, (ea, ((ow ++ ([p10.2.2.1.1.2.2.2.2.1] : List (Int))), (out, ()))))))))), (true, ())), ((), ((), ()))))
        else none)
        else
        j3)
        else
        j3)))))) = some ((takeC (me, (peer, (nx, (qu, (se, (got, (ea, (ow, (out, ()))))))))) (op, (key, (fr, (tg, (num, (acks, (body, ()))))))), (true, ())), ((), ((), ()))) := by
    intro hj
    rw [hdel]
    unfold takeC ackC oweC jn
    simp only [Option.bind_some, hcon]
    by_cases d1 : op = 2
    · simp only [d1, decide_true, if_true]
    by_cases d2 : num ∈ ow
    · by_cases d4 : got < num
      · simp only [d1, d2, d4, hE2, Option.bind_some, decide_true, decide_false, Bool.not_true, Bool.false_eq_true, not_true_eq_false, false_and, if_true, if_false]
      · simp only [d1, d2, d4, decide_true, decide_false, Bool.not_true, Bool.false_eq_true, not_true_eq_false, false_and, if_true, if_false]
    · by_cases d3 : ow.length < 4
      · have d3' : (ow.length : Int) < 4 := by omega
        by_cases d4 : got < num
        · simp only [d1, d2, d3, d3', d4, t1, hE1, Option.bind_some, decide_true, decide_false, Bool.not_false, Bool.false_eq_true, not_false_eq_true, and_self, if_true, if_false]
        · simp only [d1, d2, d3, d3', d4, t1, decide_true, decide_false, Bool.not_false, Bool.false_eq_true, not_false_eq_true, and_self, if_true, if_false]
      · have d3' : ¬ (ow.length : Int) < 4 := by omega
        by_cases d4 : got < num
        · simp only [d1, d2, d3, d3', d4, hE2, Option.bind_some, decide_true, decide_false, Bool.not_false, Bool.false_eq_true, not_false_eq_true, and_false, if_true, if_false]
        · simp only [d1, d2, d3, d3', d4, decide_true, decide_false, Bool.not_false, Bool.false_eq_true, not_false_eq_true, and_false, if_true, if_false]
  rw [show ∀ (A R : Type) (f : A) (g : A → R), jn f g = g f from fun _ _ _ _ => rfl]
  simp only [c1, c2, c3, decide_true, decide_false, Bool.not_true, Bool.false_eq_true, Bool.true_eq_false, if_false, if_true, ne_eq, not_false_eq_true, true_and]
  by_cases d0 : op = 1
  · by_cases d1 : 1 ≤ num ∧ num ≤ got + 4
    rotate_left
    · simp [d0, d1]
    by_cases d2 : got ≤ 990
    · have d2' : ¬ (990 : Int) < got := by omega
      have := hmain ⟨fun _ => d1, d2⟩
      simp only [c2, c3] at this
      simp only [d0, d1, d2, d2', decide_true, decide_false, Bool.not_true, Bool.false_eq_true, Bool.true_eq_false, if_false, if_true, and_self, implies_true] at this ⊢
      exact this
    · have d2' : (990 : Int) < got := by omega
      simp [d0, d1, d2, d2']
  · by_cases d2 : got ≤ 990
    · have d2' : ¬ (990 : Int) < got := by omega
      have := hmain ⟨fun h => absurd h d0, d2⟩
      simp only [c2, c3] at this
      simp only [d0, d2, d2', decide_true, decide_false, Bool.false_eq_true, if_false, if_true, false_implies, and_self] at this ⊢
      exact this
    · have d2' : (990 : Int) < got := by omega
      simp [d0, d2, d2']
def encnP (t : Ty) (xs : List t.den) (n : Nat) : List (t.nmd.den × t.den) := xs.mapIdx fun i x => (t.enc x (n + i * t.w + 1), x)
theorem encnP_fst (t : Ty) (xs : List t.den) (n : Nat) : (encnP t xs n).map Prod.fst = t.encn xs n := by
  apply List.ext_getElem?
  intro i
  simp only [encnP, Ty.encn, List.getElem?_map, List.getElem?_mapIdx]
  cases xs[i]? <;> rfl
theorem encnP_snd (t : Ty) (xs : List t.den) (n : Nat) : (encnP t xs n).map Prod.snd = xs := by
  apply List.ext_getElem?
  intro i
  simp only [encnP, List.getElem?_map, List.getElem?_mapIdx]
  cases xs[i]? <;> rfl
theorem lookn_lt {t : Ty} {xs : List t.den} {m : Nat} {o : OL} (h : t.lookn xs m = some o) : m < xs.length * t.w := by
  unfold Ty.lookn at h
  split at h
  case h_2 => cases h
  rename_i x hx
  have h1 := getO_lt h
  have h2 := (List.getElem?_eq_some_iff.1 hx).1
  exact (Nat.div_lt_iff_lt_mul (by omega)).1 h2
theorem lookn_at {t : Ty} {xs : List t.den} {i off : Nat} {x : t.den} {o : OL} (hx : xs[i]? = some x) (h : t.getO x off = some o) : t.lookn xs (i * t.w + off) = some o := by
  have hlt := getO_lt h
  have e1 : (i * t.w + off) / t.w = i := by rw [Nat.mul_comm, Nat.mul_add_div (by omega), Nat.div_eq_of_lt hlt, Nat.add_zero]
  have e2 : (i * t.w + off) % t.w = off := by rw [Nat.mul_comm, Nat.mul_add_mod, Nat.mod_eq_of_lt hlt]
  simp only [Ty.lookn, e1, e2, hx, h]
theorem encnP_dec {t : Ty} {xs : List t.den} {n : Nat} {lk : Nat → Option OL} (hlk : ∀ m o, t.lookn xs m = some o → lk (n + m + 1) = some o) {y : t.nmd.den × t.den} (h : y ∈ encnP t xs n) : t.dec lk y.1 = some y.2 := by
  obtain ⟨i, hi⟩ := List.getElem?_of_mem h
  unfold encnP at hi
  rw [List.getElem?_mapIdx] at hi
  cases hx : xs[i]? with
  | none => rw [hx] at hi; cases hi
  | some x =>
    rw [hx] at hi
    injection hi with hi
    subst hi
    refine dec_enc (by omega) fun off o ho => ?_
    have := hlk _ o (lookn_at hx ho)
    rw [← this]
    congr 1
    omega
theorem encn_nms (t : Ty) (xs : List t.den) (n : Nat) : ((t.encn xs n).flatMap t.nms).Pairwise (· < ·) ∧ ∀ m ∈ (t.encn xs n).flatMap t.nms, n + 1 ≤ m ∧ m < n + 1 + xs.length * t.w := by
  unfold Ty.encn
  induction xs generalizing n with
  | nil => simp
  | cons x xs ih =>
    rw [List.mapIdx_cons, List.flatMap_cons]
    have e : (xs.mapIdx fun i x => t.enc x (n + (i + 1) * t.w + 1)) = xs.mapIdx fun i x => t.enc x ((n + t.w) + i * t.w + 1) := by
      congr 1
      funext i x
      rw [show n + (i + 1) * t.w + 1 = (n + t.w) + i * t.w + 1 by rw [Nat.add_mul, Nat.one_mul]; omega]
    rw [e]
    obtain ⟨h1, h2⟩ := ih (n + t.w)
    obtain ⟨h3, h4⟩ := nms_enc (t := t) (x := x) (n := n + 0 * t.w + 1) (by omega)
    simp only [Nat.zero_mul, Nat.add_zero] at h3 h4 ⊢
    have hw : (xs.length + 1) * t.w = xs.length * t.w + t.w := by rw [Nat.add_mul, Nat.one_mul]
    refine ⟨List.pairwise_append.2 ⟨h3, h1, fun p hp q hq => ?_⟩, fun m hm => ?_⟩
    · have := h4 p hp
      have := h2 q hq
      omega
    · simp only [List.length_cons]
      rw [hw]
      rcases List.mem_append.1 hm with hm | hm
      · have := h4 m hm; omega
      · have := h2 m hm; omega
theorem encn_at {t : Ty} (xs : List t.den) (n i : Nat) (h : i < xs.length) : (t.encn xs n)[i]? = some (t.enc xs[i] (n + i * t.w + 1)) := by
  unfold Ty.encn
  rw [List.getElem?_mapIdx, List.getElem?_eq_getElem h]
  rfl
theorem encn_decs {t : Ty} {xs : List t.den} {n : Nat} {lk : Nat → Option OL} (hlk : ∀ m o, t.lookn xs m = some o → lk (n + m + 1) = some o) : t.decs lk (t.encn xs n) = some xs := by
  have := decs_map (t := t) (lk := lk) (Y := encnP t xs n) fun y hy => encnP_dec hlk hy
  rwa [encnP_fst, encnP_snd] at this
theorem encn_erase {t : Ty} {xs : List t.den} {n : Nat} {lk : Nat → Option OL} (hlk : ∀ m o, t.lookn xs m = some o → lk (n + m + 1) = some o) (i : Nat) : t.decs lk ((t.encn xs n).eraseIdx i) = some (xs.eraseIdx i) := by
  have := decs_map (t := t) (lk := lk) (Y := (encnP t xs n).eraseIdx i) fun y hy => encnP_dec hlk (List.mem_of_mem_eraseIdx hy)
  rw [List.eraseIdx_eq_take_drop_succ, List.map_append, List.map_append, List.map_take, List.map_drop, List.map_take, List.map_drop, encnP_fst, encnP_snd, ← List.eraseIdx_eq_take_drop_succ, ← List.eraseIdx_eq_take_drop_succ] at this
  exact this
/-- The names of a list, one row taken out. -/
theorem encn_out (t : Ty) (xs : List t.den) (n i : Nat) (h : i < xs.length) : (((t.encn xs n).eraseIdx i).flatMap t.nms ++ t.nms (t.enc xs[i] (n + i * t.w + 1))).Nodup ∧ ∀ m ∈ ((t.encn xs n).eraseIdx i).flatMap t.nms ++ t.nms (t.enc xs[i] (n + i * t.w + 1)), n + 1 ≤ m ∧ m < n + 1 + xs.length * t.w := by
  obtain ⟨h1, h2⟩ := List.getElem?_eq_some_iff.1 (encn_at xs n i h)
  have hsp : t.encn xs n = (t.encn xs n).take i ++ t.enc xs[i] (n + i * t.w + 1) :: (t.encn xs n).drop (i + 1) := by
    conv => lhs; rw [← List.take_append_drop i (t.encn xs n), List.drop_eq_getElem_cons h1, h2]
  have hb : (t.encn xs n).flatMap t.nms = ((t.encn xs n).take i).flatMap t.nms ++ (t.nms (t.enc xs[i] (n + i * t.w + 1)) ++ ((t.encn xs n).drop (i + 1)).flatMap t.nms) := by
    conv => lhs; rw [hsp, List.flatMap_append, List.flatMap_cons]
  have hc : ((t.encn xs n).eraseIdx i).flatMap t.nms = ((t.encn xs n).take i).flatMap t.nms ++ ((t.encn xs n).drop (i + 1)).flatMap t.nms := by
    rw [List.eraseIdx_eq_take_drop_succ, List.flatMap_append]
  obtain ⟨b1, b2⟩ := encn_nms t xs n
  have hp : (((t.encn xs n).eraseIdx i).flatMap t.nms ++ t.nms (t.enc xs[i] (n + i * t.w + 1))).Perm ((t.encn xs n).flatMap t.nms) := by
    rw [hb, hc, List.append_assoc]
    exact List.Perm.append_left _ List.perm_append_comm
  exact ⟨hp.nodup_iff.2 (b1.imp fun h => Nat.ne_of_lt h), fun m hm => b2 m (hp.mem_iff.1 hm)⟩
theorem namesF_some {p q : Pat} {G : p.nmd.den → Option (q.nmd.den × p.nmd.out)} {x : p.den} {y : q.nmd.den} {o : p.nmd.out} {y' : q.den} {o' : p.out} (hG : G (p.enc x 0) = some (y, o)) (h1 : q.dec (lookS (p.lookP x)) y = some y') (h2 : p.decO (lookS (p.lookP x)) o = some o') (hn : (q.nms y ++ p.nmsO o).Nodup) :
    namesF p q G x = some (y', o') := by
  unfold namesF
  simp only [hG, h1, h2, hn, if_true]
abbrev TEndO : Ty := .pair (.int .i64) (.pair (.int .i64) (.pair (.int .i64) (.pair (.ols 9 .str) (.pair (.ols 129 TPend) (.pair (.int .i64) (.pair (.ols 131 TEarly) (.pair (.ols 3 (.int .i64)) (.ols 9 .str))))))))
abbrev TEndL : Ty := .pair (.int .i64) (.pair (.int .i64) (.pair (.int .i64) (.pair (.list .str) (.pair (.list TPend) (.pair (.int .i64) (.pair (.list TEarly) (.pair (.list (.int .i64)) (.list .str))))))))
abbrev TPkO : Ty := .pair (.int .i64) (.pair (.int .i64) (.pair (.int .i64) (.pair (.int .i64) (.pair (.int .i64) (.pair (.ols 3 (.int .i64)) .str)))))
abbrev EndR := Int × Int × Int × List ByteArray × List PendR × Int × List EarlyR × List Int × List ByteArray
abbrev TalkA := List EndR × Int × List PacketR × Unit
def ofR (r : EndR) : ChanA := (r.1, (r.2.1, (r.2.2.1, (r.2.2.2.1, (r.2.2.2.2.1, (r.2.2.2.2.2.1, (r.2.2.2.2.2.2.1, (r.2.2.2.2.2.2.2.1, (r.2.2.2.2.2.2.2.2, ())))))))))
def toR (c : ChanA) : EndR := (c.1, (c.2.1, (c.2.2.1, (c.2.2.2.1, (c.2.2.2.2.1, (c.2.2.2.2.2.1, (c.2.2.2.2.2.2.1, (c.2.2.2.2.2.2.2.1, c.2.2.2.2.2.2.2.2.1))))))))
def pkOf (r : PacketR) : PkA := (r.1, (r.2.1, (r.2.2.1, (r.2.2.2.1, (r.2.2.2.2.1, (r.2.2.2.2.2.1, (r.2.2.2.2.2.2, ())))))))
abbrev PkN := Int × Int × Int × Int × Int × Nat × ByteArray
abbrev EndN := Int × Int × Int × Nat × Nat × Int × Nat × Nat × Nat
def encNet (xs : List PacketR) (n : Nat) : List PkN := TPkO.encn xs n
def encEnds (xs : List EndR) (n : Nat) : List EndN := TEndO.encn xs n
def rowN (r : PacketR) (n : Nat) : PkN := (r.1, (r.2.1, (r.2.2.1, (r.2.2.2.1, (r.2.2.2.2.1, (n, r.2.2.2.2.2.2))))))
theorem encNet_at (xs : List PacketR) (n i : Nat) (h : i < xs.length) : (encNet xs n)[i]? = some (rowN xs[i] (n + i * 7 + 6)) := by
  exact encn_at (t := TPkO) xs n i h
theorem lose_n_at (k : Nat) (E : List EndN) (now : Int) (N : List PkN) (i : Nat) (r : PkN) (hget : N[i]? = some r) (hl : N.length ≤ 2097152) :
    i_Talk_lose_n k ((E, (now, (N, ()))), ((i : Int), ())) = some ((r.1, (r.2.1, (r.2.2.1, (r.2.2.2.1, (r.2.2.2.2.1, (r.2.2.2.2.2.1, (r.2.2.2.2.2.2, ()))))))), ((E, (now, (N.eraseIdx i, ()))), ((), ()))) := by
  have hi : i < N.length := (List.getElem?_eq_some_iff.1 hget).1
  unfold i_Talk_lose_n
  have w2 : wi64 ((i : Int) + 1) = ((i + 1 : Nat) : Int) := (w64_id _ (by omega)).trans (by omega)
  have g1 : (0 : Int) ≤ (i : Int) ∧ (i : Int) < (N.length : Int) := by omega
  have g2 : (0 : Int) ≤ (i : Int) ∧ (i : Int) ≤ (N.length : Int) := by omega
  have g3 : (0 : Int) ≤ ((i + 1 : Nat) : Int) ∧ ((i + 1 : Nat) : Int) ≤ (N.length : Int) := by omega
  have t0 : List.take (Int.toNat (N.length : Int)) N = N := by simp
  have g4 : (i : Int) + (List.drop (Int.toNat ((i + 1 : Nat) : Int)) N).length ≤ (N.length : Int) ∧ (i : Int) - (0 : Int) + (List.drop (Int.toNat ((i + 1 : Nat) : Int)) N).length ≤ (capMax : Int) := by
    have : capMax = 274877906944 := rfl
    rw [this]
    simp only [List.length_drop, Int.toNat_natCast]
    omega
  have hr : Ty.rd (t := .pair (.int .i64) (.pair (.int .i64) (.pair (.int .i64) (.pair (.int .i64) (.pair (.int .i64) (.pair .nm .str)))))) N (i : Int) = r := by
    obtain ⟨h1, h2⟩ := List.getElem?_eq_some_iff.1 hget
    rw [← h2]
    exact rd_at (t := .pair (.int .i64) (.pair (.int .i64) (.pair (.int .i64) (.pair (.int .i64) (.pair (.int .i64) (.pair .nm .str)))))) N i h1
  have hev : List.drop (Int.toNat (0 : Int)) (List.take (Int.toNat ((i : Int) + (List.drop (Int.toNat ((i + 1 : Nat) : Int)) N).length)) (List.take (Int.toNat (i : Int)) N ++ (List.drop (Int.toNat ((i + 1 : Nat) : Int)) N ++ List.drop (Int.toNat (i : Int) + (List.drop (Int.toNat ((i + 1 : Nat) : Int)) N).length) N))) = N.eraseIdx i := by
    have e1 : Int.toNat ((i : Int) + (List.drop (Int.toNat ((i + 1 : Nat) : Int)) N).length) = (List.take i N ++ List.drop (i + 1) N).length := by
      simp only [Int.toNat_natCast, List.length_append, List.length_take, List.length_drop]
      omega
    rw [e1]
    simp only [Int.toNat_natCast]
    rw [← List.append_assoc, List.take_left, List.eraseIdx_eq_take_drop_succ]
    rfl
  dsimp only
  simp only [w2, g1.1, g1.2, g2.2, g3.1, g3.2, t0, and_self, if_true]
  rw [if_pos g4, hev]
  simp only [hr]
theorem i_Talk_lose_is (k : Nat) (ends : List EndR) (now : Int) (net : List PacketR) (i : Nat) (hi : i < net.length) (hl : net.length ≤ 2097152) :
    i_Talk_lose k ((ends, (now, (net, ()))), ((i : Int), ())) = some (pkOf net[i], ((ends, (now, (net.eraseIdx i, ()))), ((), ()))) := by
  unfold i_Talk_lose
  have hlen : (encNet net (ends.length * 9)).length = net.length := encn_len TPkO net _
  have hget := encNet_at net (ends.length * 9) i hi
  have hX := lose_n_at k (encEnds ends 0) now (encNet net (ends.length * 9)) i _ hget (by omega)
  let lk := lookS ((Pat.cons (.ptr 0 (.cons (.own false 68 TEndO) (.cons (.int .i64) (.cons (.own false 122 TPkO) .nil)))) (.cons (.int .i64) .nil)).lookP ((ends, (now, (net, ()))), ((i : Int), ())))
  have hlkE : ∀ m o, TEndO.lookn ends m = some o → lk (0 + m + 1) = some o := fun m o ho => by
    have hm : m < ends.length * TEndO.w := lookn_lt ho
    show (Pat.cons (.ptr 0 (.cons (.own false 68 TEndO) (.cons (.int .i64) (.cons (.own false 122 TPkO) .nil)))) (.cons (.int .i64) .nil)).lookP ((ends, (now, (net, ()))), ((i : Int), ())) (0 + m) = some o
    rw [Nat.zero_add]
    have h1 : m < ends.length * TEndO.w + (0 + (net.length * TPkO.w + 0)) := by omega
    show (if m < ends.length * TEndO.w + (0 + (net.length * TPkO.w + 0)) then (if m < ends.length * TEndO.w then TEndO.lookn ends m else _) else _) = _
    rw [if_pos h1, if_pos hm]
    exact ho
  have hlkN : ∀ m o, TPkO.lookn net m = some o → lk (ends.length * 9 + m + 1) = some o := fun m o ho => by
    have hm : m < net.length * TPkO.w := lookn_lt ho
    show (if ends.length * 9 + m < ends.length * TEndO.w + (0 + (net.length * TPkO.w + 0)) then (if ends.length * 9 + m < ends.length * TEndO.w then TEndO.lookn ends (ends.length * 9 + m) else (if ends.length * 9 + m - ends.length * TEndO.w < 0 then _ else (if ends.length * 9 + m - ends.length * TEndO.w - 0 < net.length * TPkO.w then TPkO.lookn net (ends.length * 9 + m - ends.length * TEndO.w - 0) else _))) else _) = _
    have e9 : TEndO.w = 9 := rfl
    have e7 : TPkO.w = 7 := rfl
    rw [e9] at *
    rw [if_pos (by omega), if_neg (by omega), if_neg (by omega), show ends.length * 9 + m - ends.length * 9 - 0 = m by omega, if_pos (by omega)]
    exact ho
  have hdE : TEndO.decs lk (TEndO.encn ends 0) = some ends := encn_decs hlkE
  have hdN : TPkO.decs lk ((TPkO.encn net (ends.length * 9)).eraseIdx i) = some (net.eraseIdx i) := encn_erase hlkN i
  have hacks : decN lk 3 (.int .i64) (ends.length * 9 + i * 7 + 6) = some net[i].2.2.2.2.2.1 := by
    have ho : TPkO.getO net[i] 5 = some ⟨3, .int .i64, net[i].2.2.2.2.2.1⟩ := rfl
    have := hlkN _ _ (lookn_at (t := TPkO) (List.getElem?_eq_getElem hi) ho)
    have e : ends.length * 9 + (i * TPkO.w + 5) + 1 = (ends.length * 9 + i * 7 + 5) + 1 := rfl
    rw [e] at this
    show decN lk 3 (.int .i64) ((ends.length * 9 + i * 7 + 5) + 1) = _
    simp [decN, this]
  have hnd : (([ends.length * 9 + i * 7 + 6] : List Nat) ++ ((TEndO.encn ends 0).flatMap TEndO.nms ++ ((TPkO.encn net (ends.length * 9)).eraseIdx i).flatMap TPkO.nms)).Nodup := by
    obtain ⟨a1, a2⟩ := encn_nms TEndO ends 0
    obtain ⟨b1, b2⟩ := encn_out TPkO net (ends.length * 9) i hi
    have e9 : TEndO.w = 9 := rfl
    have b1 : (((TPkO.encn net (ends.length * 9)).eraseIdx i).flatMap TPkO.nms ++ [ends.length * 9 + i * 7 + 6]).Nodup := b1
    have b2 : ∀ m ∈ ((TPkO.encn net (ends.length * 9)).eraseIdx i).flatMap TPkO.nms ++ [ends.length * 9 + i * 7 + 6], ends.length * 9 + 1 ≤ m ∧ m < ends.length * 9 + 1 + net.length * TPkO.w := b2
    generalize ((TPkO.encn net (ends.length * 9)).eraseIdx i).flatMap TPkO.nms = A at b1 b2
    generalize (TEndO.encn ends 0).flatMap TEndO.nms = E at a1 a2
    have hall : (E ++ (A ++ [ends.length * 9 + i * 7 + 6])).Nodup := by
      refine List.nodup_append.2 ⟨a1.imp fun h => Nat.ne_of_lt h, b1, fun x hx y hy => ?_⟩
      have := a2 x hx
      have := b2 y hy
      rw [e9] at *
      omega
    rw [← List.append_assoc] at hall
    exact (List.Perm.nodup_iff List.perm_append_comm).1 hall
  have hE : (Pat.cons (.ptr 0 (.cons (.own false 68 TEndO) (.cons (.int .i64) (.cons (.own false 122 TPkO) .nil)))) (.cons (.int .i64) .nil)).enc ((ends, (now, (net, ()))), ((i : Int), ())) 0 = ((TEndO.encn ends 0, (now, (TPkO.encn net (ends.length * 9), ()))), ((i : Int), ())) := by
    show ((TEndO.encn ends 0, (now, (TPkO.encn net (0 + ends.length * TEndO.w + 0), ()))), ((i : Int), ())) = _
    rw [show 0 + ends.length * TEndO.w + 0 = ends.length * 9 by have : TEndO.w = 9 := rfl; rw [this]; omega]
  have hG : i_Talk_lose_n k ((Pat.cons (.ptr 0 (.cons (.own false 68 TEndO) (.cons (.int .i64) (.cons (.own false 122 TPkO) .nil)))) (.cons (.int .i64) .nil)).enc ((ends, (now, (net, ()))), ((i : Int), ())) 0) = _ := (congrArg (i_Talk_lose_n k) hE).trans hX
  have h1 : Pat.dec lk (.agg (.cons (.int .i64) (.cons (.int .i64) (.cons (.int .i64) (.cons (.int .i64) (.cons (.int .i64) (.cons (.own false 3 (.int .i64)) (.cons .str .nil)))))))) (net[i].1, (net[i].2.1, (net[i].2.2.1, (net[i].2.2.2.1, (net[i].2.2.2.2.1, (ends.length * 9 + i * 7 + 6, (net[i].2.2.2.2.2.2, ()))))))) = some (pkOf net[i]) := by
    simp only [Pat.dec, Pat.rDec, hacks]
    rfl
  have h2 : Pat.decO lk (.cons (.ptr 0 (.cons (.own false 68 TEndO) (.cons (.int .i64) (.cons (.own false 122 TPkO) .nil)))) (.cons (.int .i64) .nil)) ((TEndO.encn ends 0, (now, ((TPkO.encn net (ends.length * 9)).eraseIdx i, ()))), ((), ())) = some ((ends, (now, (net.eraseIdx i, ()))), ((), ())) := by
    simp only [Pat.decO, Pat.dec, hdE, hdN]
  refine namesF_some hG h1 h2 ?_
  have e : ([] ++ ([] ++ ([] ++ ([] ++ ([] ++ ([ends.length * 9 + i * 7 + 6] ++ ([] ++ [])))))) : List Nat) ++ (((TEndO.encn ends 0).flatMap TEndO.nms ++ ([] ++ (((TPkO.encn net (ends.length * 9)).eraseIdx i).flatMap TPkO.nms ++ []))) ++ ([] ++ [])) = [ends.length * 9 + i * 7 + 6] ++ ((TEndO.encn ends 0).flatMap TEndO.nms ++ ((TPkO.encn net (ends.length * 9)).eraseIdx i).flatMap TPkO.nms) := by
    simp only [List.nil_append, List.append_nil]
  rw [← e] at hnd
  exact hnd
theorem foldE_step {A R : Type} {g : Nat → A → R ⊕ A} {fin : A → R} (I : Nat → A → Prop) (n : Nat) (hg : ∀ i a, i < n → I i a → ∃ a', g i a = .inr a' ∧ I (i + 1) a') :
    ∀ m i a, i + m = n → I i a → ∃ a', foldE g fin m i a = fin a' ∧ I n a' := by
  intro m
  induction m with
  | zero => intro i a h hi; exact ⟨a, rfl, by rw [← h]; exact hi⟩
  | succ m ih =>
    intro i a h hi
    obtain ⟨a', h1, h2⟩ := hg i a (by omega) hi
    obtain ⟨a'', h3, h4⟩ := ih (i + 1) a' (by omega) h2
    exact ⟨a'', by rw [← h3]; simp [foldE, h1], h4⟩
def AcksOk (ps : List PacketR) : Prop := ∀ p ∈ ps, p.2.2.2.2.2.1.length ≤ 1048576
theorem sendR_ok {c : ChanA} {now : Int} (hl : LenC c) : LenC (sendR c now).1.1 ∧ (sendR c now).1.2.1.length ≤ 5 ∧ AcksOk (sendR c now).1.2.1 := by
  unfold sendR
  split
  rotate_left
  · exact ⟨hl, by simp, fun p hp => by cases hp⟩
  rename_i hb
  unfold sendB at hb
  simp only [Bool.and_eq_true] at hb
  obtain ⟨hb, _⟩ := hb
  have hf := chanB_facts hb
  have ht := chanB_tries hb
  obtain ⟨_, _, _, f4, _, fo, f7, f8⟩ := hf
  have hfl := fillL_ok now c.2.2.2.1 c.2.2.1 c.2.2.2.2.1 (by omega) ht
  obtain ⟨l1, l2, l3, l4, l5⟩ := hl
  have hse : (fillC c now).2.2.2.2.1.length ≤ 4 := hfl.1
  have hst : Tries (fillC c now).2.2.2.2.1 := hfl.2.1
  have hqu : (fillC c now).2.2.2.1.length ≤ c.2.2.2.1.length := hfl.2.2
  have hrest : (fillC c now).2.2.2.2.2 = c.2.2.2.2.2 := rfl
  generalize fillC c now = F at hse hst hqu hrest
  unfold sendX
  obtain ⟨a, h1, ⟨h2, h3, h4⟩, h5⟩ := foldE_step (g := sendG F.1 F.2.1 now) (fin := sendFin F) (fun i a => SendI F.2.2.2.2.1.length i a ∧ ∀ p ∈ a.2, p.2.2.2.2.2.1 = []) F.2.2.2.2.1.length (fun i a hi h => ⟨_, rfl, sendG_I hi h.1 rfl, fun p hp => by
    split at hp
    · exact h.2 p hp
    · rcases List.mem_append.1 hp with hp | hp
      · exact h.2 p hp
      · simp only [List.mem_singleton] at hp
        subst hp
        rfl⟩) F.2.2.2.2.1.length 0 (F.2.2.2.2.1, []) (by omega) ⟨⟨rfl, hst, Nat.zero_le _⟩, fun p hp => by cases hp⟩
  rw [h1]
  have how : F.2.2.2.2.2.2.2.1.length ≤ 1048576 := by rw [hrest]; exact l4
  have hpk : ∀ p ∈ sendPk F.1 F.2.1 F.2.2.2.2.2.2.2.1 a.2, p.2.2.2.2.2.1 = [] := fun p hp => by
    unfold sendPk at hp
    split at hp
    · simp only [List.mem_singleton] at hp
      subst hp
      rfl
    · exact h5 p hp
  have hpl : (sendPk F.1 F.2.1 F.2.2.2.2.2.2.2.1 a.2).length ≤ 5 := by
    unfold sendPk
    split
    · simp
    · omega
  unfold sendFin sendC
  refine ⟨⟨?_, ?_, ?_, ?_, ?_⟩, ?_, ?_⟩
  · exact Nat.le_trans hqu l1
  · show a.1.length ≤ 1048576
    omega
  · show F.2.2.2.2.2.2.1.length ≤ 1048576
    rw [hrest]; exact l3
  · show (if 0 < _ then ([] : List Int) else F.2.2.2.2.2.2.2.1).length ≤ 1048576
    split
    · simp
    · exact how
  · show F.2.2.2.2.2.2.2.2.1.length ≤ 1048576
    rw [hrest]; exact l5
  · show (setAck _ _).length ≤ 5
    rw [setAck_len]
    exact hpl
  · intro p hp
    have hp : p ∈ setAck F.2.2.2.2.2.2.2.1 (sendPk F.1 F.2.1 F.2.2.2.2.2.2.2.1 a.2) := hp
    revert hpk hp
    cases sendPk F.1 F.2.1 F.2.2.2.2.2.2.2.1 a.2 with
    | nil => intro _ hp; cases hp
    | cons q qs =>
      intro hpk hp
      rcases List.mem_cons.1 hp with rfl | hp
      · exact how
      · rw [hpk p (List.mem_cons_of_mem _ hp)]
        simp
theorem takeR_ok {c : ChanA} {p : PkA} (hl : LenC c) : LenC (takeR c p) := by
  unfold takeR
  split
  rotate_left
  · exact hl
  rename_i hb
  unfold takeB at hb
  simp only [Bool.and_eq_true] at hb
  obtain ⟨hb, _⟩ := hb
  obtain ⟨_, _, _, f4, fg, fo, f7, f8⟩ := chanB_facts hb
  obtain ⟨_, he⟩ := chanB_early hb
  obtain ⟨l1, l2, l3, l4, l5⟩ := hl
  have ha : LenC (ackC c p.2.2.2.2.2.1) := ⟨l1, Nat.le_trans (List.length_filter_le _ _) l2, l3, l4, l5⟩
  have ho : LenC (oweC (ackC c p.2.2.2.2.2.1) p.2.2.2.2.1) := by
    refine ⟨ha.1, ha.2.1, ha.2.2.1, ?_, l5⟩
    show (if _ then c.2.2.2.2.2.2.2.1 ++ [p.2.2.2.2.1] else c.2.2.2.2.2.2.2.1).length ≤ 1048576
    split
    · simp; omega
    · exact l4
  unfold takeC
  split
  · exact ha
  split
  · unfold earlyC
    split
    · exact ho
    · rename_i L hL
      have hea : (oweC (ackC c p.2.2.2.2.2.1) p.2.2.2.2.1).2.2.2.2.2.2.1 = c.2.2.2.2.2.2.1 := rfl
      have hL3 : L.length ≤ 8 := by
        rw [hea] at hL
        unfold putS at hL
        split at hL
        · cases hL
        · simp only [Option.some.injEq] at hL
          subst hL
          have a := List.length_filter_le (fun e : EarlyR => decide (e.1 < p.2.2.2.2.1)) c.2.2.2.2.2.2.1
          have b := List.length_filter_le (fun e : EarlyR => decide (p.2.2.2.2.1 < e.1)) c.2.2.2.2.2.2.1
          rw [List.length_append, List.length_cons]
          exact Nat.le_trans (Nat.add_le_add a (Nat.succ_le_succ b)) (by omega)
      obtain ⟨p1, p2⟩ := popL_len L (oweC (ackC c p.2.2.2.2.2.1) p.2.2.2.2.1).2.2.2.2.2.1 (oweC (ackC c p.2.2.2.2.2.1) p.2.2.2.2.1).2.2.2.2.2.2.2.2.1
      have hout : (oweC (ackC c p.2.2.2.2.2.1) p.2.2.2.2.1).2.2.2.2.2.2.2.2.1.length ≤ 1000 := by
        show c.2.2.2.2.2.2.2.2.1.length ≤ 1000
        omega
      refine ⟨ho.1, ho.2.1, ?_, ho.2.2.2.1, ?_⟩
      · show (popL L _ _).1.length ≤ 1048576
        omega
      · show (popL L _ _).2.2.length ≤ 1048576
        omega
  · exact ho
def sendR1 (r : EndR) (now : Int) : EndR := toR (sendR (ofR r) now).1.1
def sendP (r : EndR) (now : Int) : List PacketR := (sendR (ofR r) now).1.2.1
def comeR (p : PkA) (r : EndR) : EndR := if r.1 = p.2.2.2.1 then toR (takeR (ofR r) p) else r
theorem i_Talk_send_is (k : Nat) (ends : List EndR) (now : Int) (net : List PacketR) (i : Nat) (r : EndR) (hr : ends[i]? = some r) (hk : 1048576 < k) (hl : LenC (ofR r)) (hn : net.length ≤ 2000000) :
    i_Talk_send k ((ends, (now, (net, ()))), ((i : Int), ())) = some ((), ((ends.set i (sendR1 r now), (now, (net ++ sendP r now, ()))), ((), ()))) := by
  obtain ⟨h1, h2⟩ := List.getElem?_eq_some_iff.1 hr
  have hrd : Ty.rd (t := TEndO) ends (i : Int) = r := by rw [rd_at (t := TEndO) ends i h1]; exact h2
  have hs := i_Send_is k (ofR r) now hk hl
  obtain ⟨_, h5, _⟩ := sendR_ok (now := now) hl
  unfold i_Talk_send
  have g1 : (0 : Int) ≤ (i : Int) ∧ (i : Int) < (ends.length : Int) := by omega
  have t1 : net.length + (sendR (ofR r) now).1.2.1.length ≤ capMax := cap_le (by omega)
  obtain ⟨r1, r2, r3, r4, r5, r6, r7, r8, r9⟩ := r
  unfold ofR at hs
  simp only [g1, hrd, and_self, if_true]
  dsimp only at hs ⊢
  rw [hs]
  simp only [Option.bind_some]
  unfold sendR1 sendP toR
  unfold ofR at t1 ⊢
  dsimp only at t1 ⊢
  rw [if_pos t1]
  simp only [Int.toNat_natCast]
theorem ofR_toR (c : ChanA) : ofR (toR c) = c := rfl
theorem i_Talk_come_is (k : Nat) (a b : EndR) (now : Int) (net : List PacketR) (p : PkA) (hk : 1048576 < k) (ha : LenC (ofR a)) (hb : LenC (ofR b)) (hp : p.2.2.2.2.2.1.length ≤ 1048576) :
    i_Talk_come k (([a, b], (now, (net, ()))), (p, ())) = some ((), (([comeR p a, comeR p b], (now, (net, ()))), ((), ()))) := by
  have e1 := i_Take_is k (ofR a) p hk ha hp
  have e2 := i_Take_is k (ofR b) p hk hb hp
  obtain ⟨op, key, fr, tg, num, acks, body, ⟨⟩⟩ := p
  obtain ⟨a1, a2, a3, a4, a5, a6, a7, a8, a9⟩ := a
  obtain ⟨b1, b2, b3, b4, b5, b6, b7, b8, b9⟩ := b
  unfold ofR at e1 e2
  unfold comeR ofR toR
  dsimp only at e1 e2 ⊢
  unfold i_Talk_come jn
  have w1 : wi64 ((0 : Int) + (1 : Int)) = 1 := by decide
  have w2 : wi64 ((1 : Int) + (1 : Int)) = 2 := by decide
  have n1 : Int.toNat (1 : Int) = 1 := rfl
  have n0 : Int.toNat (0 : Int) = 0 := rfl
  have r0 : ∀ x y : EndR, Ty.rd (t := TEndO) [x, y] (0 : Int) = x := fun _ _ => rfl
  have r1 : ∀ x y : EndR, Ty.rd (t := TEndO) [x, y] (1 : Int) = y := fun _ _ => rfl
  have l0 : ∀ x y : EndR, ([x, y].length : Int) = 2 := fun _ _ => rfl
  have s0 : ∀ x y z : EndR, List.set [x, y] 0 z = [z, y] := fun _ _ _ => rfl
  have s1 : ∀ x y z : EndR, List.set [x, y] 1 z = [x, z] := fun _ _ _ => rfl
  have d0 : (0 : Int) < 2 := by decide
  have d1 : (1 : Int) < 2 := by decide
  have d2 : ¬ (2 : Int) < 2 := by decide
  have d3 : (0 : Int) ≤ 0 := by decide
  have d4 : (0 : Int) ≤ 1 := by decide
  simp only [w1, w2, n0, n1, l0, r0, d0, d1, d2, d3, d4, and_self, decide_true, decide_false, Bool.false_eq_true, if_true, if_false]
  by_cases c1 : a1 = tg
  · subst c1
    simp only [eq_self, decide_true, if_true]
    rw [e1]
    simp only [Option.bind_some, l0, r1, s0, d0, d1, d3, d4, and_self, if_true]
    by_cases c2 : b1 = a1
    · subst c2
      simp only [eq_self, decide_true, if_true]
      rw [e2]
      simp only [Option.bind_some, l0, s1, d1, d4, d2, and_self, if_true, if_false, decide_false, decide_true, Bool.false_eq_true]
    · simp only [c2, d1, d2, l0, r1, d4, and_self, if_true, if_false, decide_true, decide_false, Bool.false_eq_true]
  · by_cases c2 : b1 = tg
    · subst c2
      simp only [c1, eq_self, decide_true, decide_false, Bool.false_eq_true, if_true, if_false, l0, r1, d1, d4, and_self]
      rw [e2]
      simp only [Option.bind_some, l0, s1, d1, d4, d2, and_self, if_true, if_false, decide_false, decide_true, Bool.false_eq_true]
    · simp only [c1, c2, decide_true, decide_false, Bool.false_eq_true, if_true, if_false, l0, r1, d1, d2, d4, and_self]
theorem foldL_all {A R : Type} (fin : List A → Option R) (L acc : List A) : foldL (fun x lst => .inr (lst ++ [x])) fin L acc = fin (acc ++ L) := by
  induction L generalizing acc with
  | nil => simp [foldL]
  | cons x L ih =>
    unfold foldL
    dsimp only
    rw [ih]
    simp
def EndsOk (ends : List EndR) : Prop := ∀ r ∈ ends, LenC (ofR r)
theorem i_copyTalk_is (k : Nat) (ends : List EndR) (now : Int) (net : List PacketR) (hk : 2097152 < k) (he : ends.length ≤ 1048576) (hn : net.length ≤ 2000000) (hE : EndsOk ends) (hN : AcksOk net) :
    i_copyTalk k ((ends, (now, (net, ()))), ()) = some ((ends, (now, (net, ()))), ((), ())) := by
  unfold i_copyTalk
  refine (list_loop (A := EndR) ends (fun i acc => ((ends, (now, (net, ()))), ((([] : List EndR), ((0 : Int), (([] : List PacketR), ()))), ((acc, (now, (([] : List PacketR), ()))), (ends, ((ends.length : Int), (((i : Nat) : Int), ()))))))) (fun x lst => .inr (lst ++ [x]))
    (fun acc => some ((acc, (now, (net, ()))), ((), ()))) (fun i acc => acc.length ≤ i) (fun again i hi acc hacc => ?_) (fun i hi acc acc' hacc e => ?_) (fun again acc hacc => ?_) k (by omega) [] (Nat.le_refl _)).trans ?_
  · have w2 : wi64 ((i : Int) + 1) = ((i + 1 : Nat) : Int) := (w64_id _ (by omega)).trans (by omega)
    have g0 : (i : Int) < (ends.length : Int) := by omega
    have g1 : (0 : Int) ≤ (i : Int) := by omega
    have hrd := rd_at (t := TEndL) ends i hi
    have hc := i_copyChan_is k (ofR ends[i]) (hE _ (List.getElem_mem hi))
    generalize ends[i] = r at hrd hc
    obtain ⟨r1, r2, r3, r4, r5, r6, r7, r8, r9⟩ := r
    unfold ofR at hc
    dsimp only at hc
    simp only [g0, g1, w2, hrd, hc, Option.bind_some, and_self, decide_true, if_true]
    have t1 : acc.length + ([(r1, (r2, (r3, (r4, (r5, (r6, (r7, (r8, r9))))))))] : List EndR).length ≤ capMax := cap_le (by simp; omega)
    rw [if_pos t1]
  · simp only [Sum.inr.injEq] at e
    subst e
    simp; omega
  · simp only [Int.lt_irrefl, decide_false, Bool.false_eq_true, if_false]
    refine (list_loop (A := PacketR) net (fun i l2 => ((([] : List EndR), ((0 : Int), (([] : List PacketR), ()))), ((acc, (now, (l2, ()))), (net, ((net.length : Int), (((i : Nat) : Int), ())))))) (fun x lst => .inr (lst ++ [x]))
      (fun l2 => some ((acc, (now, (l2, ()))), ((), ()))) (fun i acc => acc.length ≤ i) (fun again i hi l2 hl2 => ?_) (fun i hi l2 l2' hl2 e => ?_) (fun again l2 hl2 => ?_) k (by omega) [] (Nat.le_refl _)).trans ?_
    · have w2 : wi64 ((i : Int) + 1) = ((i + 1 : Nat) : Int) := (w64_id _ (by omega)).trans (by omega)
      have g0 : (i : Int) < (net.length : Int) := by omega
      have g1 : (0 : Int) ≤ (i : Int) := by omega
      have hrd := rd_at (t := TPk) net i hi
      have hac := hN _ (List.getElem_mem hi)
      generalize net[i] = r at hrd hac
      obtain ⟨r1, r2, r3, r4, r5, r6, r7⟩ := r
      dsimp only at hac
      have t0 : List.length ([] : List Int) + r6.length ≤ capMax := by simpa using cap_le (by omega : r6.length ≤ 2097152)
      unfold i_copyPacket i_copyInts
      simp only [g0, g1, w2, hrd, t0, Option.bind_some, List.nil_append, and_self, decide_true, if_true]
      have t1 : l2.length + ([(r1, (r2, (r3, (r4, (r5, (r6, r7))))))] : List PacketR).length ≤ capMax := cap_le (by simp; omega)
      rw [if_pos t1]
    · simp only [Sum.inr.injEq] at e
      subst e
      simp; omega
    · simp only [Int.lt_irrefl, decide_false, Bool.false_eq_true, if_false]
    · rw [foldL_all, List.nil_append]
  · rw [foldL_all, List.nil_append]
theorem whileK_pos {X R : Type} {step : (X → Option R) → X → Option R} {k : Nat} (hk : 0 < k) (x : X) : whileK step k x = step (whileK step (k - 1)) x := by
  obtain ⟨j, rfl⟩ : ∃ j, k = j + 1 := ⟨k - 1, by omega⟩
  rfl
abbrev SetS := EndR × EndR × Int × List PacketR
def recvE (L : List PacketR) (a b : EndR) : EndR × EndR := L.foldl (fun s p => (comeR (pkOf p) s.1, comeR (pkOf p) s.2)) (a, b)
theorem comeR_ok {p : PkA} {r : EndR} (h : LenC (ofR r)) : LenC (ofR (comeR p r)) := by
  unfold comeR
  split
  · exact takeR_ok h
  · exact h
theorem recvE_ok : ∀ (L : List PacketR) (a b : EndR), LenC (ofR a) → LenC (ofR b) → LenC (ofR (recvE L a b).1) ∧ LenC (ofR (recvE L a b).2)
  | [], a, b, ha, hb => ⟨ha, hb⟩
  | p :: L, a, b, ha, hb => recvE_ok L (comeR (pkOf p) a) (comeR (pkOf p) b) (comeR_ok ha) (comeR_ok hb)
def netS (s : SetS) : List PacketR := s.2.2.2 ++ sendP s.1 s.2.2.1 ++ sendP s.2.1 s.2.2.1
def roundS (s : SetS) : SetS := ((recvE (netS s) (sendR1 s.1 s.2.2.1) (sendR1 s.2.1 s.2.2.1)).1, ((recvE (netS s) (sendR1 s.1 s.2.2.1) (sendR1 s.2.1 s.2.2.1)).2, (wi64 (s.2.2.1 + 300), [])))
def SetOk (s : SetS) : Prop := LenC (ofR s.1) ∧ LenC (ofR s.2.1) ∧ AcksOk s.2.2.2 ∧ s.2.2.2.length ≤ 1048576
theorem AcksOk.app {a b : List PacketR} (ha : AcksOk a) (hb : AcksOk b) : AcksOk (a ++ b) := fun p hp => by
  rcases List.mem_append.1 hp with hp | hp
  · exact ha p hp
  · exact hb p hp
theorem roundS_ok {s : SetS} (h : SetOk s) : SetOk (roundS s) := by
  obtain ⟨h1, h2, h3, h4⟩ := h
  obtain ⟨r1, r2⟩ := recvE_ok (netS s) (sendR1 s.1 s.2.2.1) (sendR1 s.2.1 s.2.2.1) (sendR_ok h1).1 (sendR_ok h2).1
  have h0 : AcksOk [] := fun p hp => by simp at hp
  exact ⟨r1, r2, h0, by show ([] : List PacketR).length ≤ 1048576; simp⟩
theorem netS_ok {s : SetS} (h : SetOk s) : AcksOk (netS s) ∧ (netS s).length ≤ 1048586 := by
  obtain ⟨h1, h2, h3, h4⟩ := h
  obtain ⟨_, a1, a2⟩ := sendR_ok (now := s.2.2.1) h1
  obtain ⟨_, b1, b2⟩ := sendR_ok (now := s.2.2.1) h2
  refine ⟨(h3.app a2).app b2, ?_⟩
  unfold netS sendP
  simp only [List.length_append]
  omega
abbrev SetO := TalkA × Unit × Unit × Unit
def finS (s : SetS) : SetO := (([s.1, s.2.1], (s.2.2.1, (s.2.2.2, ()))), ((), ((), ())))
def settleO (n : Nat) (s : SetS) : SetO := foldE (fun _ s => .inr (roundS s)) finS n 0 s
theorem drain_loop {X R : Type} {step : (X → Option R) → X → Option R} (st : List PacketR → EndR → EndR → X) (fin : EndR → EndR → Option R)
    (hs : ∀ again p L a b, LenC (ofR a) → LenC (ofR b) → AcksOk (p :: L) → (p :: L).length ≤ 2000000 → step again (st (p :: L) a b) = again (st L (comeR (pkOf p) a) (comeR (pkOf p) b)))
    (h0 : ∀ again a b, step again (st [] a b) = fin a b) :
    ∀ (L : List PacketR) (k : Nat) (a b : EndR), LenC (ofR a) → LenC (ofR b) → AcksOk L → L.length ≤ 2000000 → L.length < k → whileK step k (st L a b) = fin (recvE L a b).1 (recvE L a b).2 := by
  intro L
  induction L with
  | nil =>
    intro k a b _ _ _ _ hk
    obtain ⟨k, rfl⟩ : ∃ k', k = k' + 1 := ⟨k - 1, by omega⟩
    exact h0 _ _ _
  | cons p L ih =>
    intro k a b ha hb hA hl hk
    simp only [List.length_cons] at hk hl
    obtain ⟨k, rfl⟩ : ∃ k', k = k' + 1 := ⟨k - 1, by omega⟩
    show step _ _ = _
    rw [hs _ p L a b ha hb hA (by simpa using hl)]
    exact ih k _ _ (comeR_ok ha) (comeR_ok hb) (fun q hq => hA q (List.mem_cons_of_mem _ hq)) (by omega) (by omega)
theorem foldL_inr {A B R : Type} (h : A → B → B) (fin : B → Option R) (L : List A) (b : B) : foldL (fun x b => .inr (h x b)) fin L b = fin (L.foldl (fun b x => h x b) b) := by
  induction L generalizing b with
  | nil => rfl
  | cons x L ih => exact ih (h x b)
theorem i_Settle_two (k : Nat) (a b : EndR) (now : Int) (net : List PacketR) (rounds : Int) (hk : 2097152 < k) (h : SetOk (a, (b, (now, net)))) :
    i_Settle k (([a, b], (now, (net, ()))), (rounds, ())) = some (settleO (min rounds 200).toNat (a, (b, (now, net)))) := by
  have hc := i_copyTalk_is k [a, b] now net hk (by simp) (by have := h.2.2.2; dsimp only at this; omega) (fun r hr => by
    rcases List.mem_cons.1 hr with rfl | hr
    · exact h.1
    · simp only [List.mem_singleton] at hr
      subst hr
      exact h.2.1) h.2.2.1
  unfold i_Settle
  have l0 : ∀ x y : EndR, ([x, y].length : Int) = 2 := fun _ _ => rfl
  unfold jn
  simp only [hc, Option.bind_some, l0, decide_true, Bool.not_true, Bool.false_eq_true, if_false]
  unfold settleO
  refine (loop_fold (A := SetS) (fun i s => (rounds, ((([] : List EndR), ((0 : Int), (([] : List PacketR), ()))), (([s.1, s.2.1], (s.2.2.1, (s.2.2.2, ()))), (((i : Nat) : Int), ()))))) (min rounds 200).toNat (fun _ s => .inr (roundS s)) finS (fun _ s => SetOk s) (fun again i s hi hs => ?_) (fun i s s' _ hs e => ?_) (fun again s hs => ?_) k _ h (by omega))
  · obtain ⟨a, b, now, net⟩ := s
    have g1 : (i : Int) < rounds := by omega
    have g2 : (i : Int) < 200 := by omega
    have w2 : wi64 ((i : Int) + 1) = ((i + 1 : Nat) : Int) := (w64_id _ (by omega)).trans (by omega)
    obtain ⟨h1, h2, h3, h4⟩ := hs
    dsimp only at h1 h2 h3 h4
    have u0 : wi64 ((0 : Int) + (1 : Int)) = 1 := by decide
    have u1 : wi64 ((1 : Int) + (1 : Int)) = 2 := by decide
    have s0 := i_Talk_send_is k [a, b] now net 0 a rfl (by omega) h1 (by omega)
    obtain ⟨o1, o2, o3⟩ := sendR_ok (now := now) h1
    have s1 := i_Talk_send_is k [sendR1 a now, b] now (net ++ sendP a now) 1 b rfl (by omega) h2 (by unfold sendP; simp only [List.length_append]; omega)
    have s0 : i_Talk_send k (([a, b], (now, (net, ()))), ((0 : Int), ())) = some ((), (([sendR1 a now, b], (now, (net ++ sendP a now, ()))), ((), ()))) := s0
    have s1 : i_Talk_send k (([sendR1 a now, b], (now, (net ++ sendP a now, ()))), ((1 : Int), ())) = some ((), (([sendR1 a now, sendR1 b now], (now, (net ++ sendP a now ++ sendP b now, ()))), ((), ()))) := s1
    have d0 : (0 : Int) < 2 := by decide
    have d1 : (1 : Int) < 2 := by decide
    have d2 : ¬ (2 : Int) < 2 := by decide
    simp only [g1, g2, decide_true, if_true, l0]
    rw [whileK_pos (by omega)]
    simp only [d0, decide_true, if_true, s0, Option.bind_some, u0]
    rw [whileK_pos (by omega)]
    simp only [d1, decide_true, if_true, s1, Option.bind_some, u1]
    rw [whileK_pos (by omega)]
    simp only [d2, decide_false, Bool.false_eq_true, if_false]
    obtain ⟨n1, n2⟩ := netS_ok (s := (a, (b, (now, net)))) ⟨h1, h2, h3, h4⟩
    refine (drain_loop (fun L a b => (rounds, ((([] : List EndR), ((0 : Int), (([] : List PacketR), ()))), (([a, b], (now, (L, ()))), ((i : Int), ()))))) (fun a b => again (rounds, ((([] : List EndR), ((0 : Int), (([] : List PacketR), ()))), (([a, b], (wi64 (now + 300), (([] : List PacketR), ()))), (((i + 1 : Nat) : Int), ())))))
      (fun rec p L a b ha hb hA hl => ?_) (fun rec a b => ?_) (netS (a, (b, (now, net)))) k (sendR1 a now) (sendR1 b now) (sendR_ok h1).1 (sendR_ok h2).1 n1 (by omega) (by omega))
    · have g1 : (0 : Int) < ((p :: L).length : Int) := by simp only [List.length_cons]; omega
      have hlose := i_Talk_lose_is k [a, b] now (p :: L) 0 (by simp) (by omega)
      have hlose : i_Talk_lose k (([a, b], (now, (p :: L, ()))), ((0 : Int), ())) = some (pkOf p, (([a, b], (now, (L, ()))), ((), ()))) := hlose
      have hcome := i_Talk_come_is k a b now L (pkOf p) (by omega) ha hb (hA p (List.mem_cons_self ..))
      simp only [g1, decide_true, if_true, hlose, Option.bind_some]
      generalize pkOf p = q at hcome ⊢
      obtain ⟨q1, q2, q3, q4, q5, q6, q7, ⟨⟩⟩ := q
      simp only [hcome, Option.bind_some]
    · simp only [List.length_nil, Int.natCast_zero, Int.lt_irrefl, decide_false, Bool.false_eq_true, if_false, w2]
  · simp only [Sum.inr.injEq] at e
    subst e
    exact roundS_ok hs
  · by_cases c1 : (((min rounds 200).toNat : Nat) : Int) < rounds
    · have c2 : ¬ (((min rounds 200).toNat : Nat) : Int) < 200 := by omega
      simp only [c1, c2, decide_true, decide_false, Bool.false_eq_true, if_true, if_false]
      rfl
    · simp only [c1, decide_false, Bool.false_eq_true, if_false]
      rfl
abbrev TurnR := Int × Int × Int
abbrev TTurn : Ty := .pair (.int .i64) (.pair (.int .i64) (.int .i64))
def toT (s : SetS) : TalkA := ([s.1, s.2.1], (s.2.2.1, (s.2.2.2, ())))
def doT (s : SetS) (e : TurnR) : SetS :=
  if e.1 = 1 then (if e.2.1 = 0 then (sendR1 s.1 s.2.2.1, (s.2.1, (s.2.2.1, s.2.2.2 ++ sendP s.1 s.2.2.1))) else (s.1, (sendR1 s.2.1 s.2.2.1, (s.2.2.1, s.2.2.2 ++ sendP s.2.1 s.2.2.1))))
  else match s.2.2.2[(Int.tmod e.2.2 (s.2.2.2.length : Int)).toNat]? with
    | none => s
    | some p => if e.1 = 2 then (comeR (pkOf p) s.1, (comeR (pkOf p) s.2.1, (s.2.2.1, s.2.2.2.eraseIdx (Int.tmod e.2.2 (s.2.2.2.length : Int)).toNat)))
      else if e.1 = 3 then (s.1, (s.2.1, (s.2.2.1, s.2.2.2.eraseIdx (Int.tmod e.2.2 (s.2.2.2.length : Int)).toNat)))
      else (s.1, (s.2.1, (s.2.2.1, s.2.2.2 ++ [p])))
def turnB (e : TurnR) : Bool := decide ((1 ≤ e.1 ∧ e.1 ≤ 4) ∧ (0 ≤ e.2.1 ∧ e.2.1 ≤ 1) ∧ 0 ≤ e.2.2)
theorem i_TurnOk_is (k : Nat) (e : TurnR) : i_TurnOk k ((e.1, (e.2.1, (e.2.2, ()))), ()) = some (turnB e, ((), ())) := by
  unfold i_TurnOk turnB
  simp only [within_is, Option.bind_some]
  by_cases c1 : 1 ≤ e.1 ∧ e.1 ≤ 4
  · by_cases c2 : 0 ≤ e.2.1 ∧ e.2.1 ≤ 1 <;> simp [c1, c2]
  · simp [c1]
def SetIn (n : Nat) (s : SetS) : Prop := LenC (ofR s.1) ∧ LenC (ofR s.2.1) ∧ AcksOk s.2.2.2 ∧ s.2.2.2.length ≤ 5 * n
theorem doT_in {n : Nat} {s : SetS} {e : TurnR} (h : SetIn n s) : SetIn (n + 1) (doT s e) := by
  obtain ⟨h1, h2, h3, h4⟩ := h
  obtain ⟨a0, a1, a2⟩ := sendR_ok (now := s.2.2.1) h1
  obtain ⟨b0, b1, b2⟩ := sendR_ok (now := s.2.2.1) h2
  have a1 : (sendP s.1 s.2.2.1).length ≤ 5 := a1
  have b1 : (sendP s.2.1 s.2.2.1).length ≤ 5 := b1
  unfold doT
  split
  · split
    · exact ⟨a0, h2, h3.app a2, by show (_ ++ _ : List PacketR).length ≤ _; rw [List.length_append]; omega⟩
    · exact ⟨h1, b0, h3.app b2, by show (_ ++ _ : List PacketR).length ≤ _; rw [List.length_append]; omega⟩
  · split
    · exact ⟨h1, h2, h3, by omega⟩
    · rename_i p hp
      have her : AcksOk (s.2.2.2.eraseIdx (Int.tmod e.2.2 (s.2.2.2.length : Int)).toNat) := fun q hq => h3 q (List.mem_of_mem_eraseIdx hq)
      have hel : (s.2.2.2.eraseIdx (Int.tmod e.2.2 (s.2.2.2.length : Int)).toNat).length ≤ 5 * (n + 1) := by
        rw [List.length_eraseIdx]
        split <;> omega
      split
      · exact ⟨comeR_ok h1, comeR_ok h2, her, hel⟩
      · split
        · exact ⟨h1, h2, her, hel⟩
        · refine ⟨h1, h2, h3.app fun q hq => ?_, by show (_ ++ _ : List PacketR).length ≤ _; rw [List.length_append]; simp only [List.length_cons, List.length_nil]; omega⟩
          simp only [List.mem_singleton] at hq
          subst hq
          exact h3 _ (List.mem_of_getElem? hp)
theorem tmod_nat {x : Int} {n : Nat} (hx : 0 ≤ x) (hn : 0 < n) : ∃ i : Nat, i < n ∧ Int.tmod x (n : Int) = (i : Int) := by
  have h1 : 0 ≤ Int.tmod x (n : Int) := Int.tmod_nonneg _ hx
  have h2 : Int.tmod x (n : Int) < (n : Int) := Int.tmod_lt_of_pos _ (by omega)
  exact ⟨(Int.tmod x (n : Int)).toNat, by omega, by omega⟩
theorem i_Talk_turn_is (k n : Nat) (s : SetS) (e : TurnR) (hk : 1048576 < k) (hn : n ≤ 100) (h : SetIn n s) (he : turnB e = true) : i_Talk_turn k (toT s, ((e.1, (e.2.1, (e.2.2, ()))), ())) = some ((), (toT (doT s e), ((), ()))) := by
  obtain ⟨a, b, now, net⟩ := s
  obtain ⟨e1, e2, e3⟩ := e
  obtain ⟨h1, h2, h3, h4⟩ := h
  unfold turnB at he
  simp only [decide_eq_true_eq] at he
  obtain ⟨k1, k2, k3⟩ := he
  dsimp only at h1 h2 h3 h4
  unfold i_Talk_turn doT toT
  dsimp only
  by_cases c1 : e1 = 1
  · subst c1
    rcases (by omega : e2 = 0 ∨ e2 = 1) with rfl | rfl
    · have := i_Talk_send_is k [a, b] now net 0 a rfl hk h1 (by omega)
      have : i_Talk_send k (([a, b], (now, (net, ()))), ((0 : Int), ())) = some ((), (([sendR1 a now, b], (now, (net ++ sendP a now, ()))), ((), ()))) := this
      simp only [this, decide_true, if_true, Option.bind_some]
    · have := i_Talk_send_is k [a, b] now net 1 b rfl hk h2 (by omega)
      have : i_Talk_send k (([a, b], (now, (net, ()))), ((1 : Int), ())) = some ((), (([a, sendR1 b now], (now, (net ++ sendP b now, ()))), ((), ()))) := this
      have d : ¬ (1 : Int) = 0 := by decide
      simp only [this, d, decide_true, if_true, if_false, Option.bind_some]
  · by_cases c0 : net.length = 0
    · have : net = [] := List.eq_nil_of_length_eq_zero c0
      subst this
      simp [c1]
    · obtain ⟨i, hi, hm⟩ := tmod_nat k3 (by omega : 0 < net.length)
      have c0' : ¬ (net.length : Int) = 0 := by omega
      have hg : net[i]? = some net[i] := List.getElem?_eq_getElem hi
      have hlose := i_Talk_lose_is k [a, b] now net i hi (by omega)
      have hcome := i_Talk_come_is k a b now (net.eraseIdx i) (pkOf net[i]) hk h1 h2 (h3 _ (List.getElem_mem hi))
      simp only [c1, c0', hm, Int.toNat_natCast, hg, decide_false, Bool.false_eq_true, if_false]
      by_cases c2 : e1 = 2
      · subst c2
        simp only [decide_true, if_true, hlose, Option.bind_some]
        generalize pkOf net[i] = q at hcome ⊢
        obtain ⟨q1, q2, q3, q4, q5, q6, q7, ⟨⟩⟩ := q
        simp only [hcome, Option.bind_some]
      · by_cases c3 : e1 = 3
        · subst c3
          simp only [c2, decide_true, decide_false, Bool.false_eq_true, if_true, if_false, hlose, Option.bind_some]
        · have g1 : (0 : Int) ≤ (i : Int) ∧ (i : Int) < (net.length : Int) := by omega
          have hrd := rd_at (t := TPkO) net i hi
          have hac := h3 _ (List.getElem_mem hi)
          generalize net[i] = r at hrd hac
          obtain ⟨r1, r2, r3, r4, r5, r6, r7⟩ := r
          dsimp only at hac
          have t0 : List.length ([] : List Int) + r6.length ≤ capMax := by simpa using cap_le (by omega : r6.length ≤ 2097152)
          have t1 : net.length + ([(r1, (r2, (r3, (r4, (r5, (r6, r7))))))] : List PacketR).length ≤ capMax := cap_le (by simp; omega)
          unfold i_copyPacket i_copyInts
          simp only [c2, c3, g1, hrd, t0, decide_false, Bool.false_eq_true, if_true, if_false, and_self, List.nil_append, Option.bind_some]
          rw [if_pos t1]
theorem foldL_test {A R : Type} (p : A → Bool) (r : R) (fin : Unit → Option R) : ∀ L : List A, foldL (fun x _ => if p x = true then .inr () else .inl r) fin L () = if L.all p = true then fin () else some r
  | [] => by simp [foldL]
  | x :: L => by
    unfold foldL
    cases hp : p x with
    | true =>
      simp only [if_true]
      rw [foldL_test p r fin L]
      simp [hp]
    | false => simp [hp]
def newC (me peer : Int) : ChanA := (me, (peer, (0, ([], ([], (0, ([], ([], ([], ())))))))))
def stepT (s : SetS) (e : TurnR) : SetS := ((doT s e).1, ((doT s e).2.1, (wi64 ((doT s e).2.2.1 + 3), (doT s e).2.2.2)))
def beginS (a b : List ByteArray) : SetS := (toR (a.foldl pushR (newC 1 2)), (toR (b.foldl pushR (newC 2 1)), (0, [])))
def runB (a b : List ByteArray) (ev : List TurnR) : Bool := decide (a.length ≤ 20 ∧ b.length ≤ 20 ∧ ev.length ≤ 100) && ev.all turnB
def runT (a b : List ByteArray) (ev : List TurnR) : TalkA := if runB a b ev = true then toT (ev.foldl stepT (beginS a b)) else ([], (0, ([], ())))
theorem newC_len (me peer : Int) : LenC (newC me peer) := ⟨by simp [newC], by simp [newC], by simp [newC], by simp [newC], by simp [newC]⟩
theorem push_len : ∀ (a : List ByteArray) (c : ChanA), LenC c → LenC (a.foldl pushR c)
  | [], c, h => h
  | s :: a, c, h => push_len a (pushR c s) (pushR_len h)
theorem stepT_in {n : Nat} {s : SetS} {e : TurnR} (h : SetIn n s) : SetIn (n + 1) (stepT s e) := doT_in h
theorem begin_in (a b : List ByteArray) : SetIn 0 (beginS a b) := ⟨push_len a _ (newC_len 1 2), push_len b _ (newC_len 2 1), fun p hp => by simp [beginS] at hp, by simp [beginS]⟩
abbrev RunO := (TalkA × Bool × Unit) × Unit × Unit × Unit × Unit
def runO (a b : List ByteArray) (ev : List TurnR) : RunO := ((runT a b ev, (runB a b ev, ())), ((), ((), ((), ()))))
theorem noRun {a b : List ByteArray} {ev : List TurnR} (h : runB a b ev = false) : runO a b ev = ((([], ((0 : Int), ([], ()))), (false, ())), ((), ((), ((), ())))) := by
  unfold runO runT
  rw [h]
  rfl
theorem i_RunTalk_is (k : Nat) (a b : List ByteArray) (ev : List TurnR) (hk : 2097152 < k) : i_RunTalk k (a, (b, (ev, ()))) = some (runO a b ev) := by
  unfold i_RunTalk i_RunTalk_z
  by_cases c1 : a.length ≤ 20
  rotate_left
  · have : (20 : Int) < (a.length : Int) := by omega
    rw [noRun (by unfold runB; simp [c1])]
    simp only [this, decide_true, Bool.true_eq_false, if_false]
  by_cases c2 : b.length ≤ 20
  rotate_left
  · have : (20 : Int) < (b.length : Int) := by omega
    have c1' : ¬ (20 : Int) < (a.length : Int) := by omega
    rw [noRun (by unfold runB; simp [c2])]
    simp only [this, c1', decide_true, decide_false, Bool.true_eq_false, if_true, if_false]
  by_cases c3 : ev.length ≤ 100
  rotate_left
  · have : (100 : Int) < (ev.length : Int) := by omega
    have c1' : ¬ (20 : Int) < (a.length : Int) := by omega
    have c2' : ¬ (20 : Int) < (b.length : Int) := by omega
    rw [noRun (by unfold runB; simp [c3])]
    simp only [this, c1', c2', decide_true, decide_false, if_true]
  have c1' : ¬ (20 : Int) < (a.length : Int) := by omega
  have c2' : ¬ (20 : Int) < (b.length : Int) := by omega
  have c3' : ¬ (100 : Int) < (ev.length : Int) := by omega
  simp only [c1', c2', c3', decide_false, if_true, Bool.false_eq_true, if_false]
  refine (list_loop (A := TurnR) ev (fun i (_ : Unit) => (a, (b, (ev, ((([] : List EndR), ((0 : Int), (([] : List PacketR), ()))), (ev, ((ev.length : Int), (((i : Nat) : Int), ())))))))) (fun e _ => if turnB e = true then .inr () else .inl ((([], ((0 : Int), ([], ()))), (false, ())), ((), ((), ((), ())))))
    (fun _ => some ((toT (ev.foldl stepT (beginS a b)), (true, ())), ((), ((), ((), ()))))) (fun i _ => ∀ j (h : j < ev.length), j < i → turnB ev[j] = true)
    (fun again i hi _ _ => ?_) (fun i hi _ _ hI e j hj hji => ?_) (fun again _ hI => ?_) k (by omega) () (fun j _ hj => absurd hj (by omega))).trans ?_
  · have w2 : wi64 ((i : Int) + 1) = ((i + 1 : Nat) : Int) := (w64_id _ (by omega)).trans (by omega)
    have g0 : (i : Int) < (ev.length : Int) := by omega
    have g1 : (0 : Int) ≤ (i : Int) := by omega
    have hrd := rd_at (t := TTurn) ev i hi
    have ht := i_TurnOk_is k ev[i]
    simp only [g0, g1, w2, hrd, ht, Option.bind_some, and_self, decide_true, if_true]
    cases turnB ev[i] <;> simp
  · rcases (by omega : j < i ∨ j = i) with hlt | rfl
    · exact hI j hj hlt
    · by_cases ht : turnB ev[j] = true
      · exact ht
      · rw [if_neg ht] at e
        cases e
  · have hall : ev.all turnB = true := List.all_eq_true.2 fun e he => by
      obtain ⟨j, hj, rfl⟩ := List.mem_iff_getElem.1 he
      exact hI j hj hj
    simp only [Int.lt_irrefl, decide_false, Bool.false_eq_true, if_false]
    have u0 : wi64 ((0 : Int) + (1 : Int)) = 1 := by decide
    have u1 : wi64 ((1 : Int) + (1 : Int)) = 2 := by decide
    have v0 : wi64 ((2 : Int) - (0 : Int)) = 2 := by decide
    have v1 : wi64 ((2 : Int) - (1 : Int)) = 1 := by decide
    have l0 : ([a, b].length : Int) = 2 := rfl
    have r0 : Ty.rd (t := .list .str) [a, b] (0 : Int) = a := rfl
    have r1 : Ty.rd (t := .list .str) [a, b] (1 : Int) = b := rfl
    have d0 : (0 : Int) < 2 := by decide
    have d1 : (1 : Int) < 2 := by decide
    have d2 : ¬ (2 : Int) < 2 := by decide
    have d3 : (0 : Int) ≤ 0 := by decide
    have d4 : (0 : Int) ≤ 1 := by decide
    have n12 : i_ChanNew k (1, (2, ())) = some ((newC 1 2, (true, ())), ((), ((), ()))) := by
      unfold i_ChanNew newC
      simp [isId_is]
    have n21 : i_ChanNew k (2, (1, ())) = some ((newC 2 1, (true, ())), ((), ((), ()))) := by
      unfold i_ChanNew newC
      simp [isId_is]
    have hnew : ∀ i : Nat, i < 2 → i_ChanNew k (wi64 ((i : Int) + 1), (wi64 (2 - (i : Int)), ())) = some ((newC ((i : Int) + 1) (2 - (i : Int)), (true, ())), ((), ((), ()))) := fun i hi => by
      rcases (by omega : i = 0 ∨ i = 1) with rfl | rfl
      · exact n12
      · exact n21
    have hcl := newC_len
    refine (list_loop (A := List ByteArray) [a, b] (fun i (acc : List EndR) => (ev, ((([] : List EndR), ((0 : Int), (([] : List PacketR), ()))), ((acc, ((0 : Int), (([] : List PacketR), ()))), ([a, b], ((2 : Int), (((i : Nat) : Int), ()))))))) (fun x acc => .inr (acc ++ [toR (x.foldl pushR (newC ((acc.length : Int) + 1) (2 - (acc.length : Int))))]))
      (fun acc => some ((toT (ev.foldl stepT (beginS a b)), (true, ())), ((), ((), ((), ()))))) (fun i acc => acc.length = i ∧ (i = 2 → acc = [toR (a.foldl pushR (newC 1 2)), toR (b.foldl pushR (newC 2 1))]) ∧ (i = 1 → acc = [toR (a.foldl pushR (newC 1 2))])) (fun again i hi acc hacc => ?_) (fun i hi acc acc' hacc e => ?_) (fun again acc hacc => ?_) k (by simp; omega) [] ⟨rfl, by simp, by simp⟩).trans ?_
    · have hi2 : i < 2 := hi
      obtain ⟨ha1, _, _⟩ := hacc
      have w2 : wi64 ((i : Int) + 1) = ((i + 1 : Nat) : Int) := (w64_id _ (by omega)).trans (by omega)
      have g0 : (i : Int) < 2 := by omega
      have g1 : (0 : Int) ≤ (i : Int) := by omega
      have hrd := rd_at (t := .list .str) [a, b] i hi
      have hlen : ([a, b][i]).length ≤ 20 := by
        rcases (by omega : i = 0 ∨ i = 1) with rfl | rfl
        · exact c1
        · exact c2
      have hn := hnew i hi2
      rw [w2] at hn
      simp only [l0, g0, g1, hrd, w2, hn, Option.bind_some, and_self, decide_true, if_true]
      rw [ha1]
      generalize [a, b][i] = x at hlen
      have hcc := hcl ((i : Int) + 1) (2 - (i : Int))
      generalize newC ((i : Int) + 1) (2 - (i : Int)) = c0 at hcc
      refine (list_loop (A := ByteArray) x (fun j (c : ChanA) => (ev, ((([] : List EndR), ((0 : Int), (([] : List PacketR), ()))), ((acc, ((0 : Int), (([] : List PacketR), ()))), (c, ([a, b], ((2 : Int), ((i : Int), (x, ((x.length : Int), (((j : Nat) : Int), ()))))))))))) (fun s c => .inr (pushR c s)) (fun c => again (ev, ((([] : List EndR), ((0 : Int), (([] : List PacketR), ()))), ((acc ++ [toR c], ((0 : Int), (([] : List PacketR), ()))), ([a, b], ((2 : Int), (((i + 1 : Nat) : Int), ()))))))) (fun _ c => LenC c)
        (fun again i hi c hc => ?_) (fun i hi c c' hc e => ?_) (fun again c hc => ?_) k (by omega) c0 hcc).trans ?_
      · have w3 : wi64 ((i : Int) + 1) = ((i + 1 : Nat) : Int) := (w64_id _ (by omega)).trans (by omega)
        have g3 : (i : Int) < (x.length : Int) := by omega
        have g4 : (0 : Int) ≤ (i : Int) := by omega
        have hrd := rd_at (t := .str) x i hi
        have hp := i_Push_is k c x[i] (by omega) hc
        simp only [g3, g4, w3, hrd, hp, Option.bind_some, and_self, decide_true, if_true]
      · simp only [Sum.inr.injEq] at e
        subst e
        exact pushR_len hc
      · have t1 : acc.length + ([toR c] : List EndR).length ≤ capMax := cap_le (by simp; omega)
        unfold toR at t1 ⊢
        simp only [Int.lt_irrefl, decide_false, Bool.false_eq_true, if_false, t1, if_true, w2]
      · rw [foldL_inr (fun (s : ByteArray) (c : ChanA) => pushR c s)]
    · simp only [Sum.inr.injEq] at e
      subst e
      have hi2 : i < 2 := hi
      obtain ⟨ha1, ha2, ha3⟩ := hacc
      refine ⟨by simp [ha1], fun h => ?_, fun h => ?_⟩
      · have : i = 1 := by omega
        subst this
        rw [ha3 rfl]
        rfl
      · have : i = 0 := by omega
        subst this
        have : acc = [] := List.eq_nil_of_length_eq_zero ha1
        subst this
        rfl
    · obtain ⟨_, ha2, _⟩ := hacc
      have ha2 := ha2 rfl
      subst ha2
      have l2 : (([a, b].length : Nat) : Int) = 2 := rfl
      simp only [l2, d2, decide_false, Bool.false_eq_true, if_false]
      refine (list_loop (A := TurnR) ev (fun i s => ((([] : List EndR), ((0 : Int), (([] : List PacketR), ()))), (toT s, (ev, ((ev.length : Int), (((i : Nat) : Int), ())))))) (fun e s => .inr (stepT s e)) (fun s => some ((toT s, (true, ())), ((), ((), ((), ()))))) (fun i s => SetIn i s ∧ i ≤ 100)
        (fun again i hi s hs => ?_) (fun i hi s s' hs e => ?_) (fun again s hs => ?_) k (by omega) (beginS a b) ⟨begin_in a b, by omega⟩).trans ?_
      · have w3 : wi64 ((i : Int) + 1) = ((i + 1 : Nat) : Int) := (w64_id _ (by omega)).trans (by omega)
        have g3 : (i : Int) < (ev.length : Int) := by omega
        have g4 : (0 : Int) ≤ (i : Int) := by omega
        have hrd := rd_at (t := TTurn) ev i hi
        have htn := i_Talk_turn_is k i s ev[i] (by omega) hs.2 hs.1 (List.all_eq_true.1 hall _ (List.getElem_mem hi))
        simp only [g3, g4, w3, hrd, and_self, decide_true, if_true]
        unfold toT at htn ⊢
        simp only [htn, Option.bind_some]
        try rfl
      · simp only [Sum.inr.injEq] at e
        subst e
        exact ⟨stepT_in hs.1, by omega⟩
      · simp only [Int.lt_irrefl, decide_false, Bool.false_eq_true, if_false]
        try rfl
      · rw [foldL_inr (fun (e : TurnR) (s : SetS) => stepT s e)]
    · rfl
  · rw [foldL_test]
    unfold runO runT runB
    cases ev.all turnB <;> simp [c1, c2, c3]
abbrev Cur : Type := List Int × Int × Int × Unit
def CurOk (c : Cur) : Prop := 0 ≤ c.2.1 ∧ c.2.1 ≤ (c.1.length : Int) ∧ c.1.length ≤ 1048576
theorem and255 (y : Int) : 0 ≤ bitsI .and .i64 y 255 ∧ bitsI .and .i64 y 255 ≤ 255 := by
  have h : (BitVec.ofInt 64 y &&& BitVec.ofInt 64 255).toNat ≤ 255 := by
    rw [BitVec.toNat_and]
    exact Nat.le_trans Nat.and_le_right (by decide)
  show 0 ≤ IntKind.i64.wrap ((BitVec.ofInt 64 y &&& BitVec.ofInt 64 255).toNat : Int) ∧ IntKind.i64.wrap ((BitVec.ofInt 64 y &&& BitVec.ofInt 64 255).toNat : Int) ≤ 255
  rw [w64_id _ (by omega)]
  omega
theorem Byte_is (k : Nat) (c : Cur) (hc : CurOk c) : ∃ (v : Int) (c' : Cur), s_l01Byte k (c, ()) = some (v, (c', ())) ∧ 0 ≤ v ∧ v ≤ 255 ∧ CurOk c' := by
  obtain ⟨h0, h1, h2⟩ := hc
  unfold s_l01Byte
  by_cases h : c.2.1 < (c.1.length : Int)
  · have w : wi64 (c.2.1 + 1) = c.2.1 + 1 := w64_id _ (by omega)
    simp only [h, h0, and_self, decide_true, if_true]
    refine ⟨_, _, rfl, (and255 _).1, (and255 _).2, ?_⟩
    exact ⟨by simp only [w]; omega, by simp only [w]; omega, h2⟩
  · simp only [h, decide_false, Bool.false_eq_true, if_false]
    exact ⟨_, _, rfl, (and255 _).1, (and255 _).2, h0, h1, h2⟩
theorem tmod_in (v n : Int) (h : 0 ≤ v) (hn : 0 < n) : 0 ≤ Int.tmod v n ∧ Int.tmod v n < n := by
  rw [Int.tmod_eq_emod_of_nonneg h]
  exact ⟨Int.emod_nonneg _ (by omega), Int.emod_lt_of_pos _ hn⟩
theorem Below_is (k : Nat) (c : Cur) (n : Int) (hc : CurOk c) : ∃ (v : Int) (c' : Cur), s_l01Below k (c, (n, ())) = some (v, (c', ((), ()))) ∧ 0 ≤ v ∧ (0 < n → v < n) ∧ CurOk c' := by
  unfold s_l01Below
  by_cases hn : n ≤ 0
  · simp only [hn, decide_true, if_true]
    exact ⟨0, c, rfl, by omega, fun h => by omega, hc⟩
  · have hz : ¬ n = 0 := by omega
    obtain ⟨v1, c1, e1, a1, b1, hc1⟩ := Byte_is k c hc
    by_cases hs : n ≤ 256
    · simp only [hn, hs, hz, e1, decide_true, decide_false, Bool.false_eq_true, if_true, if_false, Option.bind_some]
      exact ⟨_, _, rfl, (tmod_in v1 n a1 (by omega)).1, fun _ => (tmod_in v1 n a1 (by omega)).2, hc1⟩
    · obtain ⟨v2, c2, e2, a2, b2, hc2⟩ := Byte_is k c1 hc1
      obtain ⟨v3, c3, e3, a3, b3, hc3⟩ := Byte_is k c2 hc2
      obtain ⟨v4, c4, e4, a4, b4, hc4⟩ := Byte_is k c3 hc3
      have e : 0 ≤ wi64 (wi64 (wi64 (wi64 (v1 * 16777216) + wi64 (v2 * 65536)) + wi64 (v3 * 256)) + v4) := by
        simp only [wi64, IntKind.wrap_i64]
        omega
      simp only [hn, hs, hz, e1, e2, e3, e4, decide_false, Bool.false_eq_true, if_false, Option.bind_some]
      exact ⟨_, _, rfl, (tmod_in _ n e (by omega)).1, fun _ => (tmod_in _ n e (by omega)).2, hc4⟩
theorem PickInt_is (k : Nat) (c : Cur) (l : List Int) (hc : CurOk c) (hl : 0 < l.length) : ∃ (v : Int) (c' : Cur), s_l01PickInt k (c, (l, ())) = some (v, (c', ((), ()))) ∧ v ∈ l ∧ CurOk c' := by
  obtain ⟨v, c', e, h0, h1, h⟩ := Below_is k c (l.length : Int) hc
  have h1 := h1 (by omega)
  unfold s_l01PickInt
  simp only [e, h0, h1, and_self, if_true, Option.bind_some]
  refine ⟨_, _, rfl, ?_, h⟩
  rw [rd_get (t := .int .i64) l v (by omega)]
  exact List.getElem_mem _
theorem strOf_size (l : List Int) : (strOf l).size = l.length := by simp [strOf, ByteArray.size]
theorem New_is (k : Nat) (a : List Int) (hl : a.length ≤ 1048576) (hk : 1048576 < k) : ∃ c : Cur, s_l01New k (a, ()) = some (c, ((), ())) ∧ CurOk c := by
  unfold s_l01New
  refine whileK_some (g := fun c : Cur => (c, ((), ()))) (fun y : List Int × Int × Int × Unit => (a.length - y.2.2.1).toNat) (fun y => y.1 = a ∧ 0 ≤ y.2.2.1) (fun _ c => CurOk c) ?_ k _ ⟨rfl, by simp⟩ (by simp only; omega)
  rintro ⟨b, h, i, u⟩ ⟨g1, g2⟩ again hg
  simp only at g1 g2
  subst g1
  by_cases hi : i < (b.length : Int)
  · by_cases h4 : i < 4000
    · have w : wi64 (i + 1) = i + 1 := w64_id _ (by omega)
      simp only [hi, h4, g2, and_self, decide_true, if_true, w]
      exact hg _ ⟨rfl, by simp only; omega⟩ (by simp only; omega)
    · simp only [hi, h4, decide_true, decide_false, if_true, Bool.false_eq_true, if_false]
      exact ⟨_, rfl, by simp, by simp, hl⟩
  · simp only [hi, decide_false, Bool.false_eq_true, if_false]
    exact ⟨_, rfl, by simp, by simp, hl⟩
/-- Texts that a talk bears. -/
def Txt (T : List ByteArray) : Prop := T.length ≤ 20 ∧ ∀ t ∈ T, t.size ≤ 120
def PendOk (T : List ByteArray) (n : Nat) (x : PendR) : Prop := (1 ≤ x.1 ∧ x.1 ≤ (n : Int)) ∧ (0 ≤ x.2.2.1 ∧ x.2.2.1 ≤ 1000000000) ∧ (1 ≤ x.2.2.2 ∧ x.2.2.2 ≤ 8) ∧ T[x.1.toNat - 1]? = some x.2.1
def SentOk (T : List ByteArray) (n : Nat) (se : List PendR) : Prop := se.length ≤ 4 ∧ se.Pairwise (fun a b => a.1 < b.1) ∧ ∀ x ∈ se, PendOk T n x
def EarlOk (U : List ByteArray) (g : Nat) (ea : List EarlyR) : Prop := ea.Pairwise (fun a b => a.1 < b.1) ∧ ∀ e ∈ ea, ((g : Int) + 2 ≤ e.1 ∧ e.1 ≤ (g : Int) + 4) ∧ U[e.1.toNat - 1]? = some e.2
def OwedOk (g : Nat) (ow : List Int) : Prop := ow.length ≤ 4 ∧ ∀ o ∈ ow, 1 ≤ o ∧ o ≤ (g : Int) + 4
def mkC (me peer : Int) (T U : List ByteArray) (n g : Nat) (se : List PendR) (ea : List EarlyR) (ow : List Int) : ChanA := (me, (peer, ((n : Int), (T.drop n, (se, ((g : Int), (ea, (ow, (U.take g, ())))))))))
theorem asc_at {A : Type} {f : A → Int} {L : List A} (h : L.Pairwise (fun a b => f a < f b)) (i : Nat) (hi : i < L.length) (h0 : 0 < i) : f (L[i - 1]'(by omega)) < f L[i] := List.pairwise_iff_getElem.1 h (i - 1) i (by omega) hi (by omega)
theorem mk_chanB {T U : List ByteArray} {me peer : Int} {n g : Nat} {se : List PendR} {ea : List EarlyR} {ow : List Int} (hT : Txt T) (hU : Txt U) (h1 : 1 ≤ me ∧ me ≤ 99) (h2 : 1 ≤ peer ∧ peer ≤ 99)
    (hs : SentOk T n se) (he : EarlOk U g ea) (ho : OwedOk g ow) (hn : n ≤ T.length) (hg : g ≤ U.length) : chanB (mkC me peer T U n g se ea ow) = true := by
  obtain ⟨t1, t2⟩ := hT
  obtain ⟨u1, u2⟩ := hU
  have gw2 : wi64 ((g : Int) + 2) = g + 2 := w64_id _ (by omega)
  have gw4 : wi64 ((g : Int) + 4) = g + 4 := w64_id _ (by omega)
  have txt : ∀ L : List ByteArray, (∀ t ∈ L, t.size ≤ 120) → textsB L = true := fun L h => by
    unfold textsB
    rw [List.all_eq_true]
    intro i hi
    have hi := List.mem_range.1 hi
    unfold textP
    rw [rd_at (t := .str) L i hi]
    exact decide_eq_true (h _ (List.getElem_mem hi))
  unfold chanB mkC
  simp only [Bool.and_eq_true, decide_eq_true_eq]
  refine ⟨⟨h1, h2, ⟨by omega, by omega⟩, by rw [List.length_drop]; omega, ⟨by omega, by omega⟩, by rw [List.length_take]; omega, by have := hs.1; omega, by have := ho.1; omega⟩, txt _ fun t ht => t2 _ (List.mem_of_mem_drop ht), txt _ fun t ht => u2 _ (List.mem_of_mem_take ht), ?_, ?_, ?_⟩
  · rw [List.all_eq_true]
    intro i hi
    have hi := List.mem_range.1 hi
    unfold sentP
    rw [rd_at (t := TPend) se i hi]
    obtain ⟨p1, p2, p3, p4⟩ := hs.2.2 _ (List.getElem_mem hi)
    refine decide_eq_true ⟨fun h0 => ?_, p1, p2, p3, t2 _ (List.mem_of_getElem? p4)⟩
    rw [rd_at (t := TPend) se (i - 1) (by omega)]
    exact asc_at hs.2.1 i hi h0
  · rw [List.all_eq_true]
    intro i hi
    have hi := List.mem_range.1 hi
    unfold earlyP
    rw [rd_at (t := TEarly) ea i hi, gw2, gw4]
    obtain ⟨p1, p2⟩ := he.2 _ (List.getElem_mem hi)
    refine decide_eq_true ⟨fun h0 => ?_, p1, u2 _ (List.mem_of_getElem? p2)⟩
    rw [rd_at (t := TEarly) ea (i - 1) (by omega)]
    exact asc_at he.1 i hi h0
  · rw [List.all_eq_true]
    intro i hi
    have hi := List.mem_range.1 hi
    unfold owedP
    rw [rd_at (t := .int .i64) ow i hi, gw4]
    exact decide_eq_true (ho.2 _ (List.getElem_mem hi))
/-- The news of Queue. -/
def numL (now : Int) : Nat → List ByteArray → List PendR
  | _, [] => []
  | n, q :: qs => (((n + 1 : Nat) : Int), (q, (now, 0))) :: numL now (n + 1) qs
theorem numL_len (now : Int) : ∀ (qs : List ByteArray) (n : Nat), (numL now n qs).length = qs.length
  | [], _ => rfl
  | q :: qs, n => by simp [numL, numL_len now qs (n + 1)]
theorem fillL_is (now : Int) : ∀ (qu : List ByteArray) (n : Nat) (se : List PendR), n + qu.length ≤ 1000 → se.length ≤ 4 → ∃ m : Nat, m ≤ qu.length ∧ fillL now qu (n : Int) se = (((n + m : Nat) : Int), (qu.drop m, se ++ numL now n (qu.take m))) ∧ se.length + m ≤ 4 ∧ (se = [] → qu ≠ [] → 0 < m)
  | [], n, se, _, h4 => ⟨0, by simp, by simp [fillL, numL], by omega, fun _ h => absurd rfl h⟩
  | q :: qu, n, se, hn, h4 => by
    simp only [List.length_cons] at hn
    have w1 : wi64 ((n : Int) + 1) = ((n + 1 : Nat) : Int) := (w64_id _ (by omega)).trans (by omega)
    unfold fillL
    split
    · rename_i hc
      obtain ⟨m, m1, m2, m3, _⟩ := fillL_is now qu (n + 1) (se ++ [(wi64 ((n : Int) + 1), (q, (now, 0)))]) (by omega) (by simp; omega)
      refine ⟨m + 1, by simp; omega, ?_, ?_, fun _ _ => by omega⟩
      · rw [w1] at m2 ⊢
        rw [m2]
        simp only [List.drop_succ_cons, List.take_succ_cons, numL, List.append_assoc, List.singleton_append]
        rw [show n + 1 + m = n + (m + 1) by omega]
      · simp at m3
        omega
    · rename_i hc
      refine ⟨0, by simp, by simp [numL], by omega, fun h0 _ => ?_⟩
      subst h0
      exact absurd ⟨by simp, .inl rfl⟩ hc
theorem numL_asc (now : Int) : ∀ (qs : List ByteArray) (n : Nat), (numL now n qs).Pairwise (fun a b => a.1 < b.1) ∧ ∀ x ∈ numL now n qs, (n : Int) < x.1 ∧ x.1 ≤ ((n + qs.length : Nat) : Int) ∧ x.2.2 = (now, 0) ∧ qs[x.1.toNat - 1 - n]? = some x.2.1
  | [], n => ⟨by simp [numL], by simp [numL]⟩
  | q :: qs, n => by
    obtain ⟨h1, h2⟩ := numL_asc now qs (n + 1)
    unfold numL
    refine ⟨List.pairwise_cons.2 ⟨fun x hx => (h2 x hx).1, h1⟩, fun x hx => ?_⟩
    rcases List.mem_cons.1 hx with rfl | hx
    · refine ⟨by show (n : Int) < ((n + 1 : Nat) : Int); omega, by show ((n + 1 : Nat) : Int) ≤ _; simp only [List.length_cons]; omega, rfl, ?_⟩
      show (q :: qs)[((n + 1 : Nat) : Int).toNat - 1 - n]? = some q
      rw [show ((n + 1 : Nat) : Int).toNat - 1 - n = 0 by omega]
      rfl
    · obtain ⟨a1, a2, a3, a4⟩ := h2 x hx
      refine ⟨by omega, by simp only [List.length_cons] at a2 ⊢; omega, a3, ?_⟩
      rw [show x.1.toNat - 1 - n = (x.1.toNat - 1 - (n + 1)) + 1 by omega]
      exact a4
/-- What Send does to one that is waited for, and the packet of it. -/
def updP (now : Int) (x : PendR) : PendR := if now < x.2.2.1 ∨ 8 ≤ x.2.2.2 then x else (x.1, (x.2.1, (wi64 (now + 2 ^ (x.2.2.2 + 1).toNat), x.2.2.2 + 1)))
def outP (me peer now : Int) (x : PendR) : Option PacketR := if now < x.2.2.1 ∨ 8 ≤ x.2.2.2 then none else some ((1 : Int), ((0 : Int), (me, (peer, (x.1, (([] : List Int), x.2.1))))))
theorem sendX_list (me peer now : Int) (fin : SendS → SendO) : ∀ (b a : List PendR) (ps : List PacketR), foldE (sendG me peer now) fin b.length a.length (a ++ b, ps) = fin (a ++ b.map (updP now), ps ++ b.filterMap (outP me peer now))
  | [], a, ps => by simp [foldE]
  | x :: b, a, ps => by
    have hrd := rd_mid (t := TPend) a x b
    have ih := sendX_list me peer now fin b (a ++ [updP now x])
    simp only [List.length_cons]
    unfold foldE sendG
    simp only [hrd]
    by_cases hc : now < x.2.2.1 ∨ 8 ≤ x.2.2.2
    · have hu : updP now x = x := by unfold updP; rw [if_pos hc]
      have ho : outP me peer now x = none := by unfold outP; rw [if_pos hc]
      simp only [hc, if_true]
      have := ih ps
      rw [hu] at this
      simp only [List.length_append, List.length_singleton, List.append_assoc, List.singleton_append] at this
      simp only [List.map_cons, List.filterMap_cons, hu, ho]
      exact this
    · have hu : updP now x = (x.1, (x.2.1, (wi64 (now + 2 ^ (x.2.2.2 + 1).toNat), x.2.2.2 + 1))) := by unfold updP; rw [if_neg hc]
      have ho : outP me peer now x = some ((1 : Int), ((0 : Int), (me, (peer, (x.1, (([] : List Int), x.2.1)))))) := by unfold outP; rw [if_neg hc]
      simp only [hc, if_false]
      have := ih (ps ++ [((1 : Int), ((0 : Int), (me, (peer, (x.1, (([] : List Int), x.2.1))))))])
      rw [hu] at this
      simp only [List.length_append, List.length_singleton, List.append_assoc, List.singleton_append] at this
      have hset : (a ++ x :: b).set a.length (x.1, (x.2.1, (wi64 (now + 2 ^ (x.2.2.2 + 1).toNat), x.2.2.2 + 1))) = a ++ (x.1, (x.2.1, (wi64 (now + 2 ^ (x.2.2.2 + 1).toNat), x.2.2.2 + 1))) :: b := by
        rw [List.set_append_right _ _ (Nat.le_refl _)]
        simp
      simp only [List.map_cons, List.filterMap_cons, hu, ho, hset]
      exact this
theorem pow_upto8 {x : Int} (h0 : 0 ≤ x) (h : x ≤ 8) : (1 : Int) ≤ 2 ^ x.toNat ∧ (2 : Int) ^ x.toNat ≤ 256 := pow_small ⟨h0, h⟩
theorem updP_fst (now : Int) (x : PendR) : (updP now x).1 = x.1 := by
  unfold updP
  split <;> rfl
theorem upd_ok {T : List ByteArray} {n n' : Nat} {now : Int} {x : PendR} (h0 : 0 ≤ now ∧ now ≤ 999999000) (hn : n ≤ n') (h : PendOk T n x) : PendOk T n' (updP now x) := by
  obtain ⟨a1, a2, a3, a4⟩ := h
  unfold updP
  split
  · exact ⟨by omega, a2, a3, a4⟩
  · rename_i hc
    have := pow_upto8 (x := x.2.2.2 + 1) (by omega) (by omega)
    have w : wi64 (now + 2 ^ (x.2.2.2 + 1).toNat) = now + 2 ^ (x.2.2.2 + 1).toNat := w64_id _ (by omega)
    exact ⟨by dsimp only; omega, by dsimp only; rw [w]; omega, by dsimp only; omega, a4⟩
theorem upd_new {T : List ByteArray} {n : Nat} {now : Int} {x : PendR} (h0 : 0 ≤ now ∧ now ≤ 999999000) (h1 : 1 ≤ x.1 ∧ x.1 ≤ (n : Int)) (h2 : x.2.2 = (now, 0)) (h3 : T[x.1.toNat - 1]? = some x.2.1) : PendOk T n (updP now x) := by
  obtain ⟨a, b, c, d⟩ := x
  simp only [Prod.mk.injEq] at h2
  obtain ⟨rfl, rfl⟩ := h2
  unfold updP
  rw [if_neg (by dsimp only; omega)]
  have w : wi64 (c + 2 ^ ((0 : Int) + 1).toNat) = c + 2 := w64_id (c + 2) (by omega)
  exact ⟨h1, by dsimp only; rw [w]; omega, by dsimp only; omega, h3⟩
def fullL (now : Int) (T : List ByteArray) (n m : Nat) (se : List PendR) : List PendR := se ++ numL now n ((T.drop n).take m)
theorem full_asc {T : List ByteArray} {n m : Nat} {now : Int} {se : List PendR} (hs : SentOk T n se) (hm : n + m ≤ T.length) : (fullL now T n m se).Pairwise (fun a b => a.1 < b.1) ∧
    ∀ x ∈ fullL now T n m se, (1 ≤ x.1 ∧ x.1 ≤ ((n + m : Nat) : Int)) ∧ T[x.1.toNat - 1]? = some x.2.1 ∧ (PendOk T n x ∨ ((n : Int) < x.1 ∧ x.2.2 = (now, 0))) := by
  obtain ⟨s1, s2, s3⟩ := hs
  obtain ⟨n1, n2⟩ := numL_asc now ((T.drop n).take m) n
  have hl : ((T.drop n).take m).length = m := by rw [List.length_take, List.length_drop]; omega
  unfold fullL
  refine ⟨List.pairwise_append.2 ⟨s2, n1, fun x hx y hy => ?_⟩, fun x hx => ?_⟩
  · have a := (s3 x hx).1
    have b := (n2 y hy).1
    omega
  · rcases List.mem_append.1 hx with hx | hx
    · have := s3 x hx
      exact ⟨by have := this.1; omega, this.2.2.2, .inl this⟩
    · obtain ⟨b1, b2, b3, b4⟩ := n2 x hx
      rw [hl] at b2
      refine ⟨by omega, ?_, .inr ⟨b1, b3⟩⟩
      rw [List.getElem?_take_of_lt (by omega), List.getElem?_drop] at b4
      rw [← b4]
      congr 1
      omega
theorem full_ok {T : List ByteArray} {n m : Nat} {now : Int} {se : List PendR} (h0 : 0 ≤ now ∧ now ≤ 999999000) (hs : SentOk T n se) (hm : n + m ≤ T.length) (h4 : se.length + m ≤ 4) : SentOk T (n + m) ((fullL now T n m se).map (updP now)) := by
  obtain ⟨f1, f2⟩ := full_asc (now := now) hs hm
  refine ⟨?_, ?_, fun y hy => ?_⟩
  · unfold fullL
    rw [List.length_map, List.length_append, numL_len, List.length_take, List.length_drop]
    omega
  · rw [List.pairwise_map]
    simpa only [updP_fst] using f1
  · obtain ⟨x, hx, rfl⟩ := List.mem_map.1 hy
    obtain ⟨a1, a2, a3⟩ := f2 x hx
    rcases a3 with a3 | ⟨_, a3⟩
    · exact upd_ok h0 (by omega) a3
    · exact upd_new h0 a1 a3 a2
def sendL (me peer now : Int) (T : List ByteArray) (n m : Nat) (se : List PendR) (ow : List Int) : List PacketR := sendPk me peer ow ((fullL now T n m se).filterMap (outP me peer now))
/-- What Send does to an end of a talk. -/
theorem send_is {T U : List ByteArray} {me peer : Int} {n g : Nat} {se : List PendR} {ea : List EarlyR} {ow : List Int} {now : Int} (hT : Txt T) (hU : Txt U) (h1 : 1 ≤ me ∧ me ≤ 99) (h2 : 1 ≤ peer ∧ peer ≤ 99) (h0 : 0 ≤ now ∧ now ≤ 999999000)
    (hs : SentOk T n se) (he : EarlOk U g ea) (ho : OwedOk g ow) (hn : n ≤ T.length) (hg : g ≤ U.length) :
    ∃ m : Nat, n + m ≤ T.length ∧ se.length + m ≤ 4 ∧ (se = [] → n < T.length → 0 < m) ∧ SentOk T (n + m) ((fullL now T n m se).map (updP now)) ∧
      sendR (mkC me peer T U n g se ea ow) now = ((mkC me peer T U (n + m) g ((fullL now T n m se).map (updP now)) ea (if 0 < (sendL me peer now T n m se ow).length then [] else ow), (setAck ow (sendL me peer now T n m se ow), ())), ((), ((), ()))) := by
  have hl : (T.drop n).length = T.length - n := List.length_drop
  have := hT.1
  obtain ⟨m, m1, m2, m3, m4⟩ := fillL_is now (T.drop n) n se (by omega) hs.1
  have hm : n + m ≤ T.length := by omega
  have hok := full_ok (now := now) h0 hs hm m3
  refine ⟨m, hm, m3, fun e1 e2 => m4 e1 (fun e => by rw [e] at hl; simp at hl; omega), hok, ?_⟩
  have hb : sendB (mkC me peer T U n g se ea ow) now = true := by
    unfold sendB
    rw [mk_chanB hT hU h1 h2 hs he ho hn hg]
    simpa using h0
  have hf : fillC (mkC me peer T U n g se ea ow) now = mkC me peer T U (n + m) g (fullL now T n m se) ea ow := by
    unfold fillC mkC
    simp only [m2, List.drop_drop]
    rfl
  unfold sendR
  rw [if_pos hb, hf]
  have := sendX_list me peer now (sendFin (mkC me peer T U (n + m) g (fullL now T n m se) ea ow)) (fullL now T n m se) [] []
  exact this
theorem owed_nil {g : Nat} : OwedOk g [] := ⟨by simp, fun o ho => by simp at ho⟩
theorem filter_asc {A : Type} {f : A → Int} {L : List A} (p : A → Bool) (h : L.Pairwise (fun a b => f a < f b)) : (L.filter p).Pairwise (fun a b => f a < f b) := List.Pairwise.sublist List.filter_sublist h
theorem ack_mk {T U : List ByteArray} {me peer : Int} {n g : Nat} {se : List PendR} {ea : List EarlyR} {ow acks : List Int} : ackC (mkC me peer T U n g se ea ow) acks = mkC me peer T U n g (se.filter (fun x => !decide (x.1 ∈ acks))) ea ow := rfl
theorem ack_ok {T : List ByteArray} {n : Nat} {se : List PendR} (acks : List Int) (h : SentOk T n se) : SentOk T n (se.filter (fun x => !decide (x.1 ∈ acks))) :=
  ⟨Nat.le_trans (List.length_filter_le ..) h.1, filter_asc (f := fun x : PendR => x.1) _ h.2.1, fun x hx => h.2.2 x (List.mem_filter.1 hx).1⟩
def oweL (ow : List Int) (num : Int) : List Int := if num ∉ ow ∧ ow.length < 4 then ow ++ [num] else ow
theorem owe_mk {T U : List ByteArray} {me peer : Int} {n g : Nat} {se : List PendR} {ea : List EarlyR} {ow : List Int} {num : Int} : oweC (mkC me peer T U n g se ea ow) num = mkC me peer T U n g se ea (oweL ow num) := rfl
theorem owe_ok {g : Nat} {ow : List Int} {num : Int} (h : OwedOk g ow) (hn : 1 ≤ num ∧ num ≤ (g : Int) + 4) : OwedOk g (oweL ow num) := by
  unfold oweL
  split
  · rename_i hc
    refine ⟨by simp; omega, fun o ho => ?_⟩
    rcases List.mem_append.1 ho with ho | ho
    · exact h.2 o ho
    · simp only [List.mem_singleton] at ho
      subst ho
      exact hn
  · exact h
theorem owed_more {g g' : Nat} {ow : List Int} (h : OwedOk g ow) (hg : g ≤ g') : OwedOk g' ow := ⟨h.1, fun o ho => by have := h.2 o ho; omega⟩
theorem push_all {me peer : Int} (h1 : 1 ≤ me ∧ me ≤ 99) (h2 : 1 ≤ peer ∧ peer ≤ 99) : ∀ (a q : List ByteArray), Txt (q ++ a) → a.foldl pushR (mkC me peer q [] 0 0 [] [] []) = mkC me peer (q ++ a) [] 0 0 [] [] []
  | [], q, _ => by rw [List.append_nil]; rfl
  | s :: a, q, h => by
    have hl : q.length + (a.length + 1) ≤ 20 := by
      have := h.1
      rw [List.length_append, List.length_cons] at this
      exact this
    have hb : pushB (mkC me peer q [] 0 0 [] [] []) s = true := by
      have hc := mk_chanB (n := 0) (g := 0) (se := []) (ea := []) (ow := []) (T := q) (U := []) ⟨by omega, fun t ht => h.2 t (List.mem_append_left _ ht)⟩ ⟨by simp, fun t ht => by simp at ht⟩ h1 h2 ⟨by simp, by simp, fun x hx => by simp at hx⟩ ⟨by simp, fun x hx => by simp at hx⟩ owed_nil (by omega) (by simp)
      unfold pushB
      rw [hc]
      have hs := h.2 s (by simp)
      have hw : wi64 ((0 : Int) + (q.length : Int)) < 1000 := by
        have hw0 : wi64 ((0 : Int) + (q.length : Int)) = 0 + q.length := w64_id _ (by omega)
        omega
      have hq : ((mkC me peer q [] 0 0 [] [] []).2.2.2.1.length : Int) < 30 := by
        show (q.length : Int) < 30
        omega
      have hw' : wi64 ((mkC me peer q [] 0 0 [] [] []).2.2.1 + ((mkC me peer q [] 0 0 [] [] []).2.2.2.1.length : Int)) < 1000 := hw
      simp only [Bool.true_and, decide_eq_true_eq]
      exact ⟨hs, hq, hw'⟩
    have hp : pushR (mkC me peer q [] 0 0 [] [] []) s = mkC me peer (q ++ [s]) [] 0 0 [] [] [] := by
      unfold pushR
      rw [if_pos hb]
      rfl
    rw [List.foldl_cons, hp, push_all h1 h2 a (q ++ [s]) (by rw [List.append_assoc]; exact h), List.append_assoc]
    rfl
theorem begin_is {a b : List ByteArray} (ha : Txt a) (hb : Txt b) : beginS a b = (toR (mkC 1 2 a b 0 0 [] [] []), (toR (mkC 2 1 b a 0 0 [] [] []), (0, []))) := by
  have h1 := push_all (me := 1) (peer := 2) (by omega) (by omega) a [] ha
  have h2 := push_all (me := 2) (peer := 1) (by omega) (by omega) b [] hb
  unfold beginS
  have e1 : newC 1 2 = mkC 1 2 [] [] 0 0 [] [] [] := rfl
  have e2 : newC 2 1 = mkC 2 1 [] [] 0 0 [] [] [] := rfl
  rw [e1, e2, h1, h2]
  rfl
theorem Text_le (k : Nat) (c : Cur) (n : Int) (hc : CurOk c) (hk : 1048576 < k) (hn : 0 ≤ n ∧ n ≤ 5000) : ∃ (t : ByteArray) (c' : Cur), s_l01Text k (c, (n, ())) = some (t, (c', ((), ()))) ∧ (t.size : Int) ≤ n ∧ CurOk c' := by
  have hcap : capMax = 274877906944 := rfl
  unfold s_l01Text
  have hm : ¬ (5000 : Int) < n := by omega
  simp only [decide_eq_true_eq, hm, if_false]
  obtain ⟨r, h1, h2, h3⟩ := (whileK_some (T := ByteArray × Cur) (g := fun r => (r.1, (r.2, ((), ())))) (fun y : Cur × Int × List Int × Int × Unit => (n - y.2.2.2.1).toNat) (fun y => CurOk y.1 ∧ y.2.1 = n ∧ 0 ≤ y.2.2.2.1 ∧ (y.2.2.1.length : Int) = y.2.2.2.1 ∧ (y.2.2.1.length : Int) ≤ n) (fun _ r => (r.1.size : Int) ≤ n ∧ CurOk r.2) (step := fun (rec0 : (Cur × Int × List (Int) × Int × Unit) → Option (ByteArray × Cur × Unit × Unit)) (y0 : Cur × Int × List (Int) × Int × Unit) =>
    (if y0.2.2.2.1 < y0.2.1 then
    ((s_l01Byte k ((y0.1.1, (y0.1.2.1, (y0.1.2.2.1, ()))), ())).bind fun p2 =>
    (if List.length y0.2.2.1 + List.length ([(wu8 (p2.1))] : List (Int)) ≤ capMax then
    (rec0 ((p2.2.1.1, (p2.2.1.2.1, (p2.2.1.2.2.1, ()))), (y0.2.1, ((y0.2.2.1 ++ ([(wu8 (p2.1))] : List (Int))), ((wi64 (y0.2.2.2.1 + (1 : Int))), ())))))
    else none))
    else
    some ((strOf y0.2.2.1), ((y0.1.1, (y0.1.2.1, (y0.1.2.2.1, ()))), ((), ()))))) (by
      rintro ⟨c, m', l, i, u⟩ ⟨g0, g1, g2, g3, g4⟩ again hg
      simp only at g0 g1 g2 g3 g4
      subst g1
      by_cases hi : i < m'
      · obtain ⟨v, c', e, _, _, hc'⟩ := Byte_is k c g0
        have w : wi64 (i + 1) = i + 1 := w64_id _ (by omega)
        simp only [hi, if_true, e, Option.bind_some, w]
        rw [if_pos (by simp only [List.length_singleton]; omega)]
        exact hg (c', (m', ((l ++ [wu8 v]), (i + 1, ())))) ⟨hc', rfl, by simp only; omega, by simp only [List.length_append, List.length_singleton]; omega, by simp only [List.length_append, List.length_singleton]; omega⟩ (by simp only; omega)
      · simp only [hi, if_false]
        exact ⟨(strOf l, c), rfl, by rw [strOf_size]; exact g4, g0⟩) k (c, (n, (([] : List Int), ((0 : Int), ())))) ⟨hc, rfl, by simp, by simp, by simp; omega⟩ (by simp only; omega))
  exact ⟨r.1, r.2, h1, h2, h3⟩
theorem pair_of {A B E : Type} {e : Option (A × B × E)} {u : E} {Q : A → B → Prop} (h : ∃ t : A × B, e = some (t.1, (t.2, u)) ∧ Q t.1 t.2) : ∃ a b, e = some (a, (b, u)) ∧ Q a b := by
  obtain ⟨t, h1, h2⟩ := h
  exact ⟨t.1, t.2, h1, h2⟩
theorem Texts_are (k : Nat) (c : Cur) (hc : CurOk c) (hk : 1048576 < k) : ∃ (T : List ByteArray) (c' : Cur), s_l14Texts k (c, ()) = some (T, (c', ())) ∧ (T.length ≤ 8 ∧ (∀ t ∈ T, t.size ≤ 120)) ∧ CurOk c' := by
  have hcap : capMax = 274877906944 := rfl
  unfold s_l14Texts
  refine pair_of (A := List ByteArray) (B := Cur) (E := Unit) (Q := fun (T : List ByteArray) (c' : Cur) => (T.length ≤ 8 ∧ (∀ t ∈ T, t.size ≤ 120)) ∧ CurOk c') (whileK_some (T := List ByteArray × Cur) (g := fun t => (t.1, (t.2, ()))) (fun y : Cur × List ByteArray × Int × Unit => (9 - y.2.2.1).toNat) (fun y => CurOk y.1 ∧ (0 ≤ y.2.2.1 ∧ y.2.2.1 ≤ 8) ∧ (y.2.1.length : Int) = y.2.2.1 ∧ ∀ t ∈ y.2.1, t.size ≤ 120) (fun _ (t : List ByteArray × Cur) => (t.1.length ≤ 8 ∧ (∀ s ∈ t.1, s.size ≤ 120)) ∧ CurOk t.2) (fun y hy again hg => ?_) k _ ⟨hc, by simp, by simp, fun t ht => by simp at ht⟩ (by simp only; omega))
  obtain ⟨c, T, i, u⟩ := y
  obtain ⟨g0, g1, g2, g3⟩ := hy
  dsimp only at g0 g1 g2 g3 hg ⊢
  obtain ⟨v, c1, e1, v0, v1, hc1⟩ := Below_is k c 9 g0
  have v1 := v1 (by omega)
  have e1 : s_l01Below k ((c.1, (c.2.1, (c.2.2.1, ()))), ((9 : Int), ())) = some (v, (c1, ((), ()))) := e1
  simp only [e1, Option.bind_some]
  by_cases hi : i < v
  · obtain ⟨n, c2, e2, n0, n1, hc2⟩ := Below_is k c1 3 hc1
    have n1 := n1 (by omega)
    obtain ⟨t, c3, e3, t1, hc3⟩ := Text_le k c2 n hc2 hk (by omega)
    have e2 : s_l01Below k ((c1.1, (c1.2.1, (c1.2.2.1, ()))), ((3 : Int), ())) = some (n, (c2, ((), ()))) := e2
    have e3 : s_l01Text k ((c2.1, (c2.2.1, (c2.2.2.1, ()))), (n, ())) = some (t, (c3, ((), ()))) := e3
    have w : wi64 (i + 1) = i + 1 := w64_id _ (by omega)
    have hl : T.length + ([t] : List ByteArray).length ≤ capMax := by rw [List.length_singleton]; omega
    simp only [hi, e2, e3, hl, w, Option.bind_some, decide_true, if_true]
    refine hg (c3, (T ++ [t], (i + 1, ()))) ⟨hc3, by dsimp only; omega, by simp only [List.length_append, List.length_singleton]; omega, fun s hs => ?_⟩ (by dsimp only; omega)
    rcases List.mem_append.1 hs with hs | hs
    · exact g3 s hs
    · simp only [List.mem_singleton] at hs
      subst hs
      omega
  · simp only [hi, decide_false, Bool.false_eq_true, if_false]
    exact ⟨(T, c1), rfl, ⟨by dsimp only; omega, g3⟩, hc1⟩
theorem Turns_are (k : Nat) (c : Cur) (code : List Int) (hc : CurOk c) (hcode : code.length ≤ 1048576) (hk : 1048576 < k) : ∃ (ev : List TurnR) (c' : Cur), s_l14Turns_v1 k (c, (code, ())) = some (ev, (c', ((), ()))) ∧ (ev.length ≤ 99 ∧ (∀ e ∈ ev, turnB e = true)) ∧ CurOk c' := by
  have hcap : capMax = 274877906944 := rfl
  have w1 : wi64 (Int.tdiv (code.length : Int) 4) = ((code.length / 4 : Nat) : Int) := by
    rw [show Int.tdiv (code.length : Int) 4 = ((code.length / 4 : Nat) : Int) from rfl]
    exact w64_id _ (by omega)
  have w2 : wi64 (12 + ((code.length / 4 : Nat) : Int)) = 12 + ((code.length / 4 : Nat) : Int) := w64_id _ (by omega)
  unfold s_l14Turns_v1
  simp only [w1, w2]
  rw [jn_one]
  have hm : (if decide ((99 : Int) < 12 + ((code.length / 4 : Nat) : Int)) = true then (99 : Int) else 12 + ((code.length / 4 : Nat) : Int)) ≤ 99 ∧ 0 ≤ (if decide ((99 : Int) < 12 + ((code.length / 4 : Nat) : Int)) = true then (99 : Int) else 12 + ((code.length / 4 : Nat) : Int)) := by
    simp only [decide_eq_true_eq]
    split <;> omega
  generalize (if decide ((99 : Int) < 12 + ((code.length / 4 : Nat) : Int)) = true then (99 : Int) else 12 + ((code.length / 4 : Nat) : Int)) = m at hm
  refine pair_of (A := List TurnR) (B := Cur) (E := Unit × Unit) (Q := fun (T : List TurnR) (c' : Cur) => (T.length ≤ 99 ∧ (∀ e ∈ T, turnB e = true)) ∧ CurOk c') (whileK_some (T := List TurnR × Cur) (g := fun t => (t.1, (t.2, ((), ())))) (fun y : Cur × List TurnR × Int × Int × Unit => (m - y.2.2.2.1).toNat) (fun y => CurOk y.1 ∧ y.2.2.1 = m ∧ (0 ≤ y.2.2.2.1 ∧ y.2.2.2.1 ≤ m) ∧ (y.2.1.length : Int) = y.2.2.2.1 ∧ ∀ e ∈ y.2.1, turnB e = true) (fun _ (t : List TurnR × Cur) => (t.1.length ≤ 99 ∧ (∀ e ∈ t.1, turnB e = true)) ∧ CurOk t.2) (fun y hy again hg => ?_) k _ ⟨hc, rfl, by simp; omega, by simp, fun t ht => by simp at ht⟩ (by simp only; omega))
  obtain ⟨c, T, m', i, u⟩ := y
  obtain ⟨g0, g1, g2, g3, g4⟩ := hy
  dsimp only at g0 g1 g2 g3 g4 hg ⊢
  subst g1
  by_cases hi : i < m'
  · obtain ⟨a1, c1, e1, v1, hc1⟩ := PickInt_is k c [1, 1, 1, 2, 2, 2, 2, 2, 3, 4] g0 (by decide)
    obtain ⟨a2, c2, e2, v2, v3, hc2⟩ := Below_is k c1 2 hc1
    have v3 := v3 (by omega)
    obtain ⟨a3, c3, e3, v4, hc3⟩ := PickInt_is k c2 [0, 0, 1, 5, 9] hc2 (by decide)
    have e1 : s_l01PickInt k ((c.1, (c.2.1, (c.2.2.1, ()))), (([1, 1, 1, 2, 2, 2, 2, 2, 3, 4] : List Int), ())) = some (a1, (c1, ((), ()))) := e1
    have e2 : s_l01Below k ((c1.1, (c1.2.1, (c1.2.2.1, ()))), ((2 : Int), ())) = some (a2, (c2, ((), ()))) := e2
    have e3 : s_l01PickInt k ((c2.1, (c2.2.1, (c2.2.2.1, ()))), (([0, 0, 1, 5, 9] : List Int), ())) = some (a3, (c3, ((), ()))) := e3
    have w : wi64 (i + 1) = i + 1 := w64_id _ (by omega)
    have hl : T.length + ([(a1, (a2, a3))] : List TurnR).length ≤ capMax := by rw [List.length_singleton]; omega
    simp only [hi, e1, e2, e3, hl, w, Option.bind_some, decide_true, if_true]
    refine hg (c3, (T ++ [(a1, (a2, a3))], (m', (i + 1, ())))) ⟨hc3, rfl, by dsimp only; omega, by simp only [List.length_append, List.length_singleton]; omega, fun s hs => ?_⟩ (by dsimp only; omega)
    rcases List.mem_append.1 hs with hs | hs
    · exact g4 s hs
    · simp only [List.mem_singleton] at hs
      subst hs
      simp only [List.mem_cons, List.not_mem_nil, or_false] at v1 v4
      unfold turnB
      exact decide_eq_true ⟨by dsimp only; omega, by dsimp only; omega, by dsimp only; omega⟩
  · simp only [hi, decide_false, Bool.false_eq_true, if_false]
    exact ⟨(T, c), rfl, ⟨by dsimp only; omega, g4⟩, g0⟩
theorem DrawTalks_are (k : Nat) (code : List Int) (hcode : code.length ≤ 1048576) (hk : 1048576 < k) : ∃ (a b : List ByteArray) (ev : List TurnR), s_DrawTalks k (code, ()) = some ((a, (b, (ev, ()))), ((), ())) ∧ (a.length ≤ 8 ∧ Txt a) ∧ (b.length ≤ 8 ∧ Txt b) ∧ ev.length ≤ 99 ∧ ∀ e ∈ ev, turnB e = true := by
  obtain ⟨c, e0, hc⟩ := New_is k code hcode hk
  obtain ⟨a, c1, e1, ⟨a1, a2⟩, hc1⟩ := Texts_are k c hc hk
  obtain ⟨b, c2, e2, ⟨b1, b2⟩, hc2⟩ := Texts_are k c1 hc1 hk
  obtain ⟨ev, c3, e3, ⟨t1, t2⟩, _⟩ := Turns_are k c2 code hc2 hcode hk
  refine ⟨a, b, ev, ?_, ⟨a1, by omega, a2⟩, ⟨b1, by omega, b2⟩, t1, t2⟩
  unfold s_DrawTalks
  have e1 : s_l14Texts k ((c.1, (c.2.1, (c.2.2.1, ()))), ()) = some (a, (c1, ())) := e1
  have e2 : s_l14Texts k ((c1.1, (c1.2.1, (c1.2.2.1, ()))), ()) = some (b, (c2, ())) := e2
  have e3 : s_l14Turns_v1 k ((c2.1, (c2.2.1, (c2.2.2.1, ()))), (code, ())) = some (ev, (c3, ((), ()))) := e3
  simp only [e0, e1, e2, e3, Option.bind_some]
/-- The packet of a text, without acknowledgements. -/
def pk1 (fr tg : Int) (x : PendR) : PacketR := ((1 : Int), ((0 : Int), (fr, (tg, (x.1, (([] : List Int), x.2.1))))))
theorem takeB_yes {T U : List ByteArray} {me peer : Int} {n g : Nat} {se : List PendR} {ow : List Int} {p : PkA} (hT : Txt T) (hU : Txt U) (h1 : 1 ≤ me ∧ me ≤ 99) (h2 : 1 ≤ peer ∧ peer ≤ 99) (hs : SentOk T n se) (ho : OwedOk g ow) (hn : n ≤ T.length) (hg : g ≤ U.length)
    (hp : pkB p = true) (hx : p.1 ≠ 3 ∧ p.2.2.1 = peer ∧ p.2.2.2.1 = me ∧ (p.1 = 1 → 1 ≤ p.2.2.2.2.1 ∧ p.2.2.2.2.1 ≤ (g : Int) + 1)) : takeB (mkC me peer T U n g se [] ow) p = true := by
  have := hU.1
  have gw4 : wi64 ((g : Int) + 4) = g + 4 := w64_id _ (by omega)
  unfold takeB
  rw [mk_chanB hT hU h1 h2 hs ⟨by simp, fun x hx => by simp at hx⟩ ho hn hg, hp]
  simp only [Bool.true_and, decide_eq_true_eq]
  refine ⟨hx.1, hx.2.1, hx.2.2.1, fun e => ?_, by show (g : Int) ≤ 990; omega⟩
  have := hx.2.2.2 e
  show 1 ≤ p.2.2.2.2.1 ∧ p.2.2.2.2.1 ≤ wi64 ((g : Int) + 4)
  omega
def AckOk (acks : List Int) : Prop := acks.length ≤ 4 ∧ ∀ x ∈ acks, 1 ≤ x ∧ x ≤ 1000000000
theorem pkB_data {fr tg num : Int} {acks : List Int} {b : ByteArray} (h1 : 1 ≤ fr ∧ fr ≤ 99) (h2 : 1 ≤ tg ∧ tg ≤ 99) (h3 : 0 ≤ num ∧ num ≤ 1000000000) (h4 : AckOk acks) (h5 : b.size ≤ 120) : pkB ((1 : Int), ((0 : Int), (fr, (tg, (num, (acks, (b, ()))))))) = true := by
  unfold pkB
  have := h4.1
  simp only [Bool.and_eq_true, decide_eq_true_eq, Bool.or_eq_true, List.all_eq_true]
  exact ⟨by omega, by omega, h1, h2, h3, this, h5, h4.2, .inr (by decide), .inl (by decide)⟩
theorem pkB_ack {fr tg : Int} {acks : List Int} (h1 : 1 ≤ fr ∧ fr ≤ 99) (h2 : 1 ≤ tg ∧ tg ≤ 99) (h4 : AckOk acks) : pkB ((2 : Int), ((0 : Int), (fr, (tg, ((0 : Int), (acks, ((⟨#[]⟩ : ByteArray), ()))))))) = true := by
  unfold pkB
  have := h4.1
  have h0 : (⟨#[]⟩ : ByteArray).size ≤ 120 := by decide
  simp only [Bool.and_eq_true, decide_eq_true_eq, Bool.or_eq_true, List.all_eq_true]
  exact ⟨by omega, by omega, h1, h2, by omega, this, h0, h4.2, .inr (by decide), .inr ⟨by first | trivial | rfl, by first | trivial | rfl⟩⟩
theorem take_data {T U : List ByteArray} {me peer : Int} {n g : Nat} {se : List PendR} {ow acks : List Int} {num : Int} {b : ByteArray} (hT : Txt T) (hU : Txt U) (h1 : 1 ≤ me ∧ me ≤ 99) (h2 : 1 ≤ peer ∧ peer ≤ 99) (hs : SentOk T n se) (ho : OwedOk g ow) (hn : n ≤ T.length) (hg : g ≤ U.length)
    (ha : AckOk acks) (hx : 1 ≤ num ∧ num ≤ (g : Int) + 1) (hb : U[num.toNat - 1]? = some b) :
    comeR (pkOf ((1 : Int), ((0 : Int), (peer, (me, (num, (acks, b))))))) (toR (mkC me peer T U n g se [] ow)) = toR (mkC me peer T U n (if num = (g : Int) + 1 then g + 1 else g) (se.filter (fun x => !decide (x.1 ∈ acks))) [] (oweL ow num)) := by
  have := hU.1
  have hl : num.toNat - 1 < U.length := (List.getElem?_eq_some_iff.1 hb).1
  have hp : pkB ((1 : Int), ((0 : Int), (peer, (me, (num, (acks, (b, ()))))))) = true := pkB_data h2 h1 (by omega) ha (hU.2 _ (List.mem_of_getElem? hb))
  have ht : takeB (mkC me peer T U n g se [] ow) ((1 : Int), ((0 : Int), (peer, (me, (num, (acks, (b, ()))))))) = true := takeB_yes hT hU h1 h2 hs ho hn hg hp ⟨by show (1 : Int) ≠ 3; decide, rfl, rfl, fun _ => hx⟩
  have hm : ((toR (mkC me peer T U n g se [] ow)).1 : Int) = (pkOf ((1 : Int), ((0 : Int), (peer, (me, (num, (acks, b))))))).2.2.2.1 := rfl
  unfold comeR
  rw [if_pos hm, ofR_toR]
  unfold takeR
  have ht' : takeB (mkC me peer T U n g se [] ow) (pkOf ((1 : Int), ((0 : Int), (peer, (me, (num, (acks, b))))))) = true := ht
  rw [if_pos ht']
  unfold takeC
  have c2 : ¬ (pkOf ((1 : Int), ((0 : Int), (peer, (me, (num, (acks, b))))))).1 = 2 := by show ¬ (1 : Int) = 2; decide
  rw [if_neg c2, ack_mk, owe_mk]
  by_cases hc : num = (g : Int) + 1
  · rw [if_pos hc]
    have hlt : (mkC me peer T U n g se [] ow).2.2.2.2.2.1 < (pkOf ((1 : Int), ((0 : Int), (peer, (me, (num, (acks, b))))))).2.2.2.2.1 := by show (g : Int) < num; omega
    rw [if_pos hlt]
    have w1 : wi64 ((g : Int) + 1) = ((g + 1 : Nat) : Int) := (w64_id _ (by omega)).trans (by omega)
    have hb' : U[g]? = some b := by
      rw [← hb]
      congr 1
      omega
    have ht : U.take g ++ [b] = U.take (g + 1) := by
      rw [List.take_add_one, hb']
      rfl
    have hput : putS num b ([] : List EarlyR) = some [(num, b)] := by simp [putS]
    have hpop : popL [(num, b)] (g : Int) (U.take g) = ([], (((g + 1 : Nat) : Int), U.take (g + 1))) := by
      unfold popL
      rw [if_pos (by rw [w1]; dsimp only; omega), w1]
      dsimp only
      rw [ht]
      rfl
    congr 1
    unfold earlyC mkC pkOf
    dsimp only
    rw [hput]
    dsimp only
    rw [hpop]
  · rw [if_neg hc]
    have hlt : ¬ (mkC me peer T U n g se [] ow).2.2.2.2.2.1 < (pkOf ((1 : Int), ((0 : Int), (peer, (me, (num, (acks, b))))))).2.2.2.2.1 := by show ¬ (g : Int) < num; omega
    rw [if_neg hlt]
    rfl
theorem take_ack {T U : List ByteArray} {me peer : Int} {n g : Nat} {se : List PendR} {ow acks : List Int} (hT : Txt T) (hU : Txt U) (h1 : 1 ≤ me ∧ me ≤ 99) (h2 : 1 ≤ peer ∧ peer ≤ 99) (hs : SentOk T n se) (ho : OwedOk g ow) (hn : n ≤ T.length) (hg : g ≤ U.length) (ha : AckOk acks) :
    comeR (pkOf ((2 : Int), ((0 : Int), (peer, (me, ((0 : Int), (acks, (⟨#[]⟩ : ByteArray)))))))) (toR (mkC me peer T U n g se [] ow)) = toR (mkC me peer T U n g (se.filter (fun x => !decide (x.1 ∈ acks))) [] ow) := by
  have ht : takeB (mkC me peer T U n g se [] ow) (pkOf ((2 : Int), ((0 : Int), (peer, (me, ((0 : Int), (acks, (⟨#[]⟩ : ByteArray)))))))) = true := takeB_yes hT hU h1 h2 hs ho hn hg (pkB_ack h2 h1 ha) ⟨by show (2 : Int) ≠ 3; decide, rfl, rfl, fun e => by have : (2 : Int) = 1 := e; omega⟩
  have hm : ((toR (mkC me peer T U n g se [] ow)).1 : Int) = (pkOf ((2 : Int), ((0 : Int), (peer, (me, ((0 : Int), (acks, (⟨#[]⟩ : ByteArray)))))))).2.2.2.1 := rfl
  unfold comeR
  rw [if_pos hm, ofR_toR]
  unfold takeR
  rw [if_pos ht]
  unfold takeC
  have c2 : (pkOf ((2 : Int), ((0 : Int), (peer, (me, ((0 : Int), (acks, (⟨#[]⟩ : ByteArray)))))))).1 = 2 := rfl
  rw [if_pos c2, ack_mk]
  rfl
theorem filter_no {se : List PendR} : se.filter (fun x => !decide (x.1 ∈ ([] : List Int))) = se := by
  rw [List.filter_eq_self]
  intro x _
  simp
/-- How far texts in turn bring an end. -/
def chainG : Nat → List PendR → Nat
  | g, [] => g
  | g, x :: xs => chainG (if x.1 = (g : Int) + 1 then g + 1 else g) xs
def ChainOk (U : List ByteArray) : Nat → List PendR → Prop
  | _, [] => True
  | g, x :: xs => ((1 ≤ x.1 ∧ x.1 ≤ (g : Int) + 1) ∧ U[x.1.toNat - 1]? = some x.2.1) ∧ ChainOk U (if x.1 = (g : Int) + 1 then g + 1 else g) xs
theorem owe_new {d : List PendR} {x : PendR} {xs : List PendR} (hp : (d ++ x :: xs).Pairwise (fun a b => a.1 < b.1)) (hl : (d ++ x :: xs).length ≤ 4) : oweL (d.map (fun y => y.1)) x.1 = (d ++ [x]).map (fun y => y.1) := by
  unfold oweL
  rw [List.length_append, List.length_cons] at hl
  have hn : x.1 ∉ d.map (fun y => y.1) := fun h => by
    obtain ⟨y, hy, e⟩ := List.mem_map.1 h
    have := (List.pairwise_append.1 hp).2.2 y hy x (List.mem_cons_self ..)
    omega
  rw [if_pos ⟨hn, by rw [List.length_map]; omega⟩, List.map_append]
  rfl
theorem step_g {U : List ByteArray} {g : Nat} {x : PendR} (hg : g ≤ U.length) (hx : 1 ≤ x.1 ∧ x.1 ≤ (g : Int) + 1) (hb : U[x.1.toNat - 1]? = some x.2.1) : g ≤ (if x.1 = (g : Int) + 1 then g + 1 else g) ∧ (if x.1 = (g : Int) + 1 then g + 1 else g) ≤ U.length := by
  have hl : x.1.toNat - 1 < U.length := (List.getElem?_eq_some_iff.1 hb).1
  split <;> omega
theorem recv_chain {T U : List ByteArray} {me peer : Int} {n : Nat} {se : List PendR} (hT : Txt T) (hU : Txt U) (h1 : 1 ≤ me ∧ me ≤ 99) (h2 : 1 ≤ peer ∧ peer ≤ 99) (hs : SentOk T n se) (hn : n ≤ T.length) :
    ∀ (xs d : List PendR) (g : Nat), (d ++ xs).Pairwise (fun a b => a.1 < b.1) → (d ++ xs).length ≤ 4 → OwedOk g (d.map (fun y => y.1)) → g ≤ U.length → ChainOk U g xs →
      (xs.map (pk1 peer me)).foldl (fun r p => comeR (pkOf p) r) (toR (mkC me peer T U n g se [] (d.map (fun y => y.1)))) = toR (mkC me peer T U n (chainG g xs) se [] ((d ++ xs).map (fun y => y.1)))
  | [], d, g, _, _, _, _, _ => by rw [List.append_nil]; rfl
  | x :: xs, d, g, hp, hl, ho, hg, hc => by
    obtain ⟨⟨c1, c2⟩, c3⟩ := hc
    have ht := take_data (num := x.1) (b := x.2.1) (acks := []) hT hU h1 h2 hs ho hn hg ⟨by simp, fun x hx => by simp at hx⟩ c1 c2
    rw [filter_no, owe_new hp hl] at ht
    obtain ⟨s1, s2⟩ := step_g hg c1 c2
    have ho' := owed_more (owe_ok ho (num := x.1) (by omega)) s1
    rw [owe_new hp hl] at ho'
    have e1 : d ++ x :: xs = d ++ [x] ++ xs := by simp
    rw [e1] at hp hl ⊢
    have ih := recv_chain hT hU h1 h2 hs hn xs (d ++ [x]) _ hp hl ho' s2 c3
    rw [List.map_cons, List.foldl_cons]
    have e2 : pk1 peer me x = ((1 : Int), ((0 : Int), (peer, (me, (x.1, (([] : List Int), x.2.1)))))) := rfl
    rw [e2, ht, ih]
    rfl
theorem recv_all {T U : List ByteArray} {me peer : Int} {n g : Nat} {se full : List PendR} {o : List Int} (hT : Txt T) (hU : Txt U) (h1 : 1 ≤ me ∧ me ≤ 99) (h2 : 1 ≤ peer ∧ peer ≤ 99) (hs : SentOk T n se) (hn : n ≤ T.length) (hg : g ≤ U.length) (ha : AckOk o)
    (hp : full.Pairwise (fun a b => a.1 < b.1)) (hl : full.length ≤ 4) (hc : ChainOk U g full) :
    (setAck o (sendPk peer me o (full.map (pk1 peer me)))).foldl (fun r p => comeR (pkOf p) r) (toR (mkC me peer T U n g se [] [])) = toR (mkC me peer T U n (chainG g full) (se.filter (fun x => !decide (x.1 ∈ o))) [] (full.map (fun y => y.1))) := by
  cases full with
  | nil =>
    cases o with
    | nil =>
      rw [filter_no]
      rfl
    | cons z zs =>
      have e : setAck (z :: zs) (sendPk peer me (z :: zs) (([] : List PendR).map (pk1 peer me))) = [((2 : Int), ((0 : Int), (peer, (me, ((0 : Int), (z :: zs, (⟨#[]⟩ : ByteArray)))))))] := by
        unfold sendPk
        rw [if_pos ⟨rfl, by simp⟩]
        rfl
      rw [e]
      exact take_ack hT hU h1 h2 hs owed_nil hn hg ha
  | cons x xs =>
    obtain ⟨⟨c1, c2⟩, c3⟩ := hc
    have e : setAck o (sendPk peer me o ((x :: xs).map (pk1 peer me))) = ((1 : Int), ((0 : Int), (peer, (me, (x.1, (o, x.2.1)))))) :: xs.map (pk1 peer me) := by
      unfold sendPk
      rw [if_neg (by simp)]
      rfl
    obtain ⟨s1, s2⟩ := step_g hg c1 c2
    have ht := take_data (num := x.1) (b := x.2.1) (acks := o) (ow := []) hT hU h1 h2 hs owed_nil hn hg ha c1 c2
    have hnew := owe_new (d := []) (x := x) (xs := xs) hp hl
    rw [List.map_nil] at hnew
    have ho' := owed_more (owe_ok owed_nil (num := x.1) (by omega)) s1
    rw [hnew] at ht ho'
    rw [e, List.foldl_cons, ht]
    exact recv_chain hT hU h1 h2 (ack_ok o hs) hn xs [x] _ hp hl ho' s2 c3
theorem chain_old {T : List ByteArray} {n : Nat} : ∀ (se r : List PendR), (∀ x ∈ se, (1 ≤ x.1 ∧ x.1 ≤ (n : Int)) ∧ T[x.1.toNat - 1]? = some x.2.1) → chainG n (se ++ r) = chainG n r ∧ (ChainOk T n r → ChainOk T n (se ++ r))
  | [], r, _ => ⟨rfl, fun h => h⟩
  | x :: se, r, h => by
    obtain ⟨h1, h2⟩ := h x (List.mem_cons_self ..)
    obtain ⟨i1, i2⟩ := chain_old se r fun y hy => h y (List.mem_cons_of_mem _ hy)
    have hne : ¬ x.1 = (n : Int) + 1 := by omega
    refine ⟨?_, fun hr => ⟨⟨by omega, h2⟩, ?_⟩⟩
    · show chainG (if x.1 = (n : Int) + 1 then n + 1 else n) (se ++ r) = _
      rw [if_neg hne]
      exact i1
    · show ChainOk T (if x.1 = (n : Int) + 1 then n + 1 else n) (se ++ r)
      rw [if_neg hne]
      exact i2 hr
theorem chain_new {T : List ByteArray} (now : Int) : ∀ (qs : List ByteArray) (n : Nat), (∀ i b, qs[i]? = some b → T[n + i]? = some b) → chainG n (numL now n qs) = n + qs.length ∧ ChainOk T n (numL now n qs)
  | [], n, _ => ⟨rfl, trivial⟩
  | q :: qs, n, h => by
    have he : (((n + 1 : Nat) : Int)) = (n : Int) + 1 := by omega
    obtain ⟨i1, i2⟩ := chain_new now qs (n + 1) fun i b hb => by
      have := h (i + 1) b hb
      rw [show n + (i + 1) = n + 1 + i by omega] at this
      exact this
    have h0 := h 0 q rfl
    refine ⟨?_, ⟨by show (1 : Int) ≤ ((n + 1 : Nat) : Int) ∧ ((n + 1 : Nat) : Int) ≤ (n : Int) + 1; omega, ?_⟩, ?_⟩
    · show chainG (if ((n + 1 : Nat) : Int) = (n : Int) + 1 then n + 1 else n) (numL now (n + 1) qs) = _
      rw [if_pos he, i1, List.length_cons]
      omega
    · show T[((n + 1 : Nat) : Int).toNat - 1]? = some q
      rw [show ((n + 1 : Nat) : Int).toNat - 1 = n + 0 by omega]
      exact h0
    · show ChainOk T (if ((n + 1 : Nat) : Int) = (n : Int) + 1 then n + 1 else n) (numL now (n + 1) qs)
      rw [if_pos he]
      exact i2
theorem full_chain {T : List ByteArray} {n m : Nat} {now : Int} {se : List PendR} (hs : SentOk T n se) (hm : n + m ≤ T.length) : chainG n (fullL now T n m se) = n + m ∧ ChainOk T n (fullL now T n m se) := by
  have hl : ((T.drop n).take m).length = m := by rw [List.length_take, List.length_drop]; omega
  obtain ⟨a1, a2⟩ := chain_old (T := T) se (numL now n ((T.drop n).take m)) fun x hx => ⟨(hs.2.2 x hx).1, (hs.2.2 x hx).2.2.2⟩
  obtain ⟨b1, b2⟩ := chain_new (T := T) now ((T.drop n).take m) n fun i b hb => by
    have hi := (List.getElem?_eq_some_iff.1 hb).1
    rw [hl] at hi
    rw [List.getElem?_take_of_lt hi, List.getElem?_drop] at hb
    exact hb
  unfold fullL
  exact ⟨a1.trans (b1.trans (by rw [hl])), a2 b2⟩
/-- One way of a talk that loses nothing, between two rounds: what is waited for is owed. -/
def HalfJ (T : List ByteArray) (n : Nat) (se : List PendR) (ow : List Int) (now : Int) : Prop := SentOk T n se ∧ ∀ x ∈ se, x.1 ∈ ow ∧ x.2.2.1 ≤ now ∧ x.2.2.2 < 8
def muOf (T : List ByteArray) (n : Nat) (se : List PendR) : Nat := 2 * (T.length - n) + (if se = [] then 0 else 1)
theorem full_due {T : List ByteArray} {n m : Nat} {now : Int} {se : List PendR} {ow : List Int} (hJ : HalfJ T n se ow now) (hm : n + m ≤ T.length) : ∀ x ∈ fullL now T n m se, x.2.2.1 ≤ now ∧ x.2.2.2 < 8 ∧ (x.1 ∈ ow ∨ x.2.2 = (now, 0)) := fun x hx => by
  unfold fullL at hx
  rcases List.mem_append.1 hx with hx | hx
  · obtain ⟨h1, h2, h3⟩ := hJ.2 x hx
    exact ⟨h2, h3, .inl h1⟩
  · obtain ⟨_, _, h3, _⟩ := (numL_asc now ((T.drop n).take m) n).2 x hx
    rw [h3]
    exact ⟨Int.le_refl _, by show (0 : Int) < 8; decide, .inr rfl⟩
theorem map_of_filter {A B : Type} {f : A → Option B} {g : A → B} : ∀ {L : List A}, (∀ x ∈ L, f x = some (g x)) → L.filterMap f = L.map g
  | [], _ => rfl
  | x :: L, h => by
    rw [List.filterMap_cons, h x (List.mem_cons_self ..), List.map_cons, map_of_filter fun y hy => h y (List.mem_cons_of_mem _ hy)]
theorem full_out {T : List ByteArray} {n m : Nat} {now me peer : Int} {se : List PendR} {ow : List Int} (hJ : HalfJ T n se ow now) (hm : n + m ≤ T.length) : (fullL now T n m se).filterMap (outP me peer now) = (fullL now T n m se).map (pk1 me peer) := by
  refine map_of_filter fun x hx => ?_
  obtain ⟨h1, h2, _⟩ := full_due hJ hm x hx
  unfold outP
  rw [if_neg (by omega)]
  rfl
theorem half_next {T : List ByteArray} {n m : Nat} {now : Int} {se : List PendR} {ow : List Int} (h0 : 0 ≤ now ∧ now ≤ 999999000) (hJ : HalfJ T n se ow now) (hm : n + m ≤ T.length) (h4 : se.length + m ≤ 4) (hpos : se = [] → n < T.length → 0 < m) :
    HalfJ T (n + m) (((fullL now T n m se).map (updP now)).filter (fun x => !decide (x.1 ∈ ow))) ((fullL now T n m se).map (fun y => y.1)) (now + 300) ∧
      muOf T (n + m) (((fullL now T n m se).map (updP now)).filter (fun x => !decide (x.1 ∈ ow))) ≤ muOf T n se - 1 := by
  have hnew : ∀ y ∈ ((fullL now T n m se).map (updP now)).filter (fun x => !decide (x.1 ∈ ow)), ∃ x ∈ fullL now T n m se, y = updP now x ∧ x.1 ∉ ow := fun y hy => by
    obtain ⟨hy1, hy2⟩ := List.mem_filter.1 hy
    obtain ⟨x, hx, rfl⟩ := List.mem_map.1 hy1
    rw [updP_fst] at hy2
    exact ⟨x, hx, rfl, by simpa using hy2⟩
  refine ⟨⟨ack_ok ow (full_ok h0 hJ.1 hm h4), fun y hy => ?_⟩, ?_⟩
  · obtain ⟨x, hx, rfl, hno⟩ := hnew y hy
    obtain ⟨d1, d2, d3⟩ := full_due hJ hm x hx
    have d3 := d3.resolve_left hno
    refine ⟨by rw [updP_fst]; exact List.mem_map.2 ⟨x, hx, rfl⟩, ?_⟩
    obtain ⟨xa, xb, xc, xd⟩ := x
    simp only [Prod.mk.injEq] at d3
    obtain ⟨rfl, rfl⟩ := d3
    unfold updP
    rw [if_neg (by dsimp only; omega)]
    have w : wi64 (xc + 2 ^ ((0 : Int) + 1).toNat) = xc + 2 := w64_id (xc + 2) (by omega)
    exact ⟨by dsimp only; rw [w]; omega, by dsimp only; omega⟩
  · unfold muOf
    by_cases hz : m = 0
    · subst hz
      have hfull : fullL now T n 0 se = se := by simp [fullL, numL]
      have hnil : ((fullL now T n 0 se).map (updP now)).filter (fun x => !decide (x.1 ∈ ow)) = [] := by
        rw [List.filter_eq_nil_iff]
        intro y hy
        obtain ⟨x, hx, rfl⟩ := List.mem_map.1 hy
        rw [hfull] at hx
        rw [updP_fst]
        simpa using (hJ.2 x hx).1
      rw [hnil]
      by_cases hse : se = []
      · have : ¬ n < T.length := fun h => by have := hpos hse h; omega
        simp only [hse, if_true]
        omega
      · simp only [hse, if_true, if_false]
        omega
    · have : (if ((fullL now T n m se).map (updP now)).filter (fun x => !decide (x.1 ∈ ow)) = [] then 0 else 1) ≤ 1 := by split <;> omega
      omega
theorem owed_gone (me peer : Int) (ow : List Int) (ps : List PacketR) : (if 0 < (sendPk me peer ow ps).length then [] else ow) = [] := by
  unfold sendPk
  cases ow with
  | nil => simp
  | cons z zs =>
    cases ps with
    | nil => simp
    | cons p ps => simp
theorem recvE_app (L1 L2 : List PacketR) (a b : EndR) : recvE (L1 ++ L2) a b = recvE L2 (recvE L1 a b).1 (recvE L1 a b).2 := by
  unfold recvE
  rw [List.foldl_append]
theorem recv_second : ∀ (L : List PacketR) (a b : EndR), a.1 = 1 → (∀ p ∈ L, p.2.2.2.1 = 2) → recvE L a b = (a, L.foldl (fun r p => comeR (pkOf p) r) b)
  | [], a, b, _, _ => rfl
  | p :: L, a, b, h, hL => by
    have hp := hL p (List.mem_cons_self ..)
    have hc : comeR (pkOf p) a = a := by
      unfold comeR
      rw [if_neg]
      intro e
      have e : a.1 = p.2.2.2.1 := e
      omega
    have ih := recv_second L a (comeR (pkOf p) b) h fun q hq => hL q (List.mem_cons_of_mem _ hq)
    unfold recvE at ih ⊢
    rw [List.foldl_cons, List.foldl_cons, hc]
    exact ih
theorem recv_first : ∀ (L : List PacketR) (a b : EndR), b.1 = 2 → (∀ p ∈ L, p.2.2.2.1 = 1) → recvE L a b = (L.foldl (fun r p => comeR (pkOf p) r) a, b)
  | [], a, b, _, _ => rfl
  | p :: L, a, b, h, hL => by
    have hp := hL p (List.mem_cons_self ..)
    have hc : comeR (pkOf p) b = b := by
      unfold comeR
      rw [if_neg]
      intro e
      have e : b.1 = p.2.2.2.1 := e
      omega
    have ih := recv_first L (comeR (pkOf p) a) b h fun q hq => hL q (List.mem_cons_of_mem _ hq)
    unfold recvE at ih ⊢
    rw [List.foldl_cons, List.foldl_cons, hc]
    exact ih
theorem sent_to {me peer : Int} {o : List Int} {full : List PendR} : ∀ p ∈ setAck o (sendPk me peer o (full.map (pk1 me peer))), p.2.2.2.1 = peer := by
  have h : ∀ p ∈ sendPk me peer o (full.map (pk1 me peer)), p.2.2.2.1 = peer := by
    unfold sendPk
    split
    · intro p hp
      simp only [List.mem_singleton] at hp
      subst hp
      rfl
    · intro p hp
      obtain ⟨x, _, rfl⟩ := List.mem_map.1 hp
      rfl
  generalize sendPk me peer o (full.map (pk1 me peer)) = ps at h
  cases ps with
  | nil => exact h
  | cons q ps =>
    intro p hp
    rcases List.mem_cons.1 hp with rfl | hp
    · exact h q (List.mem_cons_self ..)
    · exact h p (List.mem_cons_of_mem _ hp)
def JOk (a b : List ByteArray) (M N : Nat) (i : Nat) (s : SetS) : Prop := ∃ (n m : Nat) (se te : List PendR) (ow pw : List Int) (now : Int), s = (toR (mkC 1 2 a b n m se [] ow), (toR (mkC 2 1 b a m n te [] pw), (now, []))) ∧
  HalfJ a n se pw now ∧ HalfJ b m te ow now ∧ OwedOk m ow ∧ OwedOk n pw ∧ (n ≤ a.length ∧ m ≤ b.length) ∧ (0 ≤ now ∧ now ≤ 300 * (i : Int)) ∧ muOf a n se ≤ M ∧ muOf b m te ≤ N
theorem owed_ack {g : Nat} {ow : List Int} (hg : g ≤ 20) (h : OwedOk g ow) : AckOk ow := ⟨h.1, fun x hx => by have := h.2 x hx; omega⟩
theorem full_owed {T : List ByteArray} {n m : Nat} {now : Int} {se : List PendR} (hs : SentOk T n se) (hm : n + m ≤ T.length) (h4 : se.length + m ≤ 4) : (fullL now T n m se).length ≤ 4 ∧ OwedOk (n + m) ((fullL now T n m se).map (fun y => y.1)) := by
  have hl : (fullL now T n m se).length ≤ 4 := by
    unfold fullL
    rw [List.length_append, numL_len, List.length_take, List.length_drop]
    omega
  refine ⟨hl, by rw [List.length_map]; exact hl, fun o ho => ?_⟩
  obtain ⟨x, hx, rfl⟩ := List.mem_map.1 ho
  have := ((full_asc (now := now) hs hm).2 x hx).1
  omega
theorem round_ok {a b : List ByteArray} {M N i : Nat} {s : SetS} (ha : Txt a) (hb : Txt b) (hi : i ≤ 1000) (h : JOk a b M N i s) : JOk a b (M - 1) (N - 1) (i + 1) (roundS s) := by
  obtain ⟨n, m, se, te, ow, pw, now, rfl, j1, j2, o1, o2, ⟨l1, l2⟩, h0, u1, u2⟩ := h
  have h0' : 0 ≤ now ∧ now ≤ 999999000 := by omega
  have a20 := ha.1
  have b20 := hb.1
  have noE : ∀ {U : List ByteArray} {g : Nat}, EarlOk U g [] := ⟨by simp, fun x hx => by simp at hx⟩
  obtain ⟨x, x1, x2, x3, x4, x5⟩ := send_is (me := 1) (peer := 2) ha hb (by omega) (by omega) h0' j1.1 (noE (U := b) (g := m)) o1 l1 l2
  obtain ⟨y, y1, y2, y3, y4, y5⟩ := send_is (me := 2) (peer := 1) hb ha (by omega) (by omega) h0' j2.1 (noE (U := a) (g := n)) o2 l2 l1
  unfold sendL at x5 y5
  rw [full_out j1 x1, owed_gone] at x5
  rw [full_out j2 y1, owed_gone] at y5
  obtain ⟨v1, v2⟩ := half_next h0' j1 x1 x2 x3
  obtain ⟨w1, w2⟩ := half_next h0' j2 y1 y2 y3
  obtain ⟨f1, f2⟩ := full_chain (now := now) j1.1 x1
  obtain ⟨g1, g2⟩ := full_chain (now := now) j2.1 y1
  obtain ⟨p1, p2⟩ := full_owed (now := now) j1.1 x1 x2
  obtain ⟨q1, q2⟩ := full_owed (now := now) j2.1 y1 y2
  have hA := recv_all (me := 1) (peer := 2) (o := pw) ha hb (by omega) (by omega) x4 x1 l2 (owed_ack (by omega) o2) (full_asc (now := now) j2.1 y1).1 q1 g2
  have hB := recv_all (me := 2) (peer := 1) (o := ow) hb ha (by omega) (by omega) y4 y1 l1 (owed_ack (by omega) o1) (full_asc (now := now) j1.1 x1).1 p1 f2
  rw [g1] at hA
  rw [f1] at hB
  have sA : sendR1 (toR (mkC 1 2 a b n m se [] ow)) now = toR (mkC 1 2 a b (n + x) m ((fullL now a n x se).map (updP now)) [] []) := by
    unfold sendR1
    rw [ofR_toR, x5]
  have sB : sendR1 (toR (mkC 2 1 b a m n te [] pw)) now = toR (mkC 2 1 b a (m + y) n ((fullL now b m y te).map (updP now)) [] []) := by
    unfold sendR1
    rw [ofR_toR, y5]
  have pA : sendP (toR (mkC 1 2 a b n m se [] ow)) now = setAck ow (sendPk 1 2 ow ((fullL now a n x se).map (pk1 1 2))) := by
    unfold sendP
    rw [ofR_toR, x5]
  have pB : sendP (toR (mkC 2 1 b a m n te [] pw)) now = setAck pw (sendPk 2 1 pw ((fullL now b m y te).map (pk1 2 1))) := by
    unfold sendP
    rw [ofR_toR, y5]
  have w3 : wi64 (now + 300) = now + 300 := w64_id _ (by omega)
  have hR : roundS (toR (mkC 1 2 a b n m se [] ow), (toR (mkC 2 1 b a m n te [] pw), (now, []))) =
      (toR (mkC 1 2 a b (n + x) (m + y) (((fullL now a n x se).map (updP now)).filter (fun z => !decide (z.1 ∈ pw))) [] ((fullL now b m y te).map (fun z => z.1))),
        (toR (mkC 2 1 b a (m + y) (n + x) (((fullL now b m y te).map (updP now)).filter (fun z => !decide (z.1 ∈ ow))) [] ((fullL now a n x se).map (fun z => z.1))), (now + 300, []))) := by
    unfold roundS netS
    dsimp only
    rw [sA, sB, pA, pB, w3, List.nil_append, recvE_app, recv_second _ _ _ rfl sent_to]
    dsimp only
    rw [hB, recv_first _ _ _ rfl sent_to]
    dsimp only
    rw [hA]
  rw [hR]
  refine ⟨n + x, m + y, _, _, _, _, now + 300, rfl, v1, w1, q2, p2, ⟨x1, y1⟩, ⟨by omega, by omega⟩, by omega, by omega⟩
def rounds : Nat → SetS → SetS
  | 0, s => s
  | n + 1, s => rounds n (roundS s)
theorem settle_rounds : ∀ (n i : Nat) (s : SetS), foldE (fun _ s => .inr (roundS s)) finS n i s = finS (rounds n s)
  | 0, _, _ => rfl
  | n + 1, i, s => settle_rounds n (i + 1) (roundS s)
theorem rounds_ok {a b : List ByteArray} (ha : Txt a) (hb : Txt b) : ∀ (n M N i : Nat) (s : SetS), i + n ≤ 1000 → JOk a b M N i s → JOk a b (M - n) (N - n) (i + n) (rounds n s)
  | 0, M, N, i, s, _, h => h
  | n + 1, M, N, i, s, hi, h => by
    have := rounds_ok ha hb n (M - 1) (N - 1) (i + 1) (roundS s) (by omega) (round_ok ha hb (by omega) h)
    rw [show M - (n + 1) = M - 1 - n by omega, show N - (n + 1) = N - 1 - n by omega, show i + (n + 1) = i + 1 + n by omega]
    exact this
theorem settled {a b : List ByteArray} (ha : Txt a) (hb : Txt b) (a8 : a.length ≤ 8) (b8 : b.length ≤ 8) : ∃ (x y : EndR) (now : Int), settleO 30 (beginS a b) = (([x, y], (now, (([] : List PacketR), ()))), ((), ((), ()))) ∧ x.2.2.2.2.2.2.2.2 = b ∧ y.2.2.2.2.2.2.2.2 = a ∧ x.2.2.2.2.1 = [] ∧ y.2.2.2.2.1 = [] := by
  have h0 : JOk a b 16 16 0 (beginS a b) := by
    rw [begin_is ha hb]
    have hs : ∀ T : List ByteArray, HalfJ T 0 [] [] 0 := fun T => ⟨⟨by simp, by simp, fun x hx => by simp at hx⟩, fun x hx => by simp at hx⟩
    refine ⟨0, 0, [], [], [], [], 0, rfl, hs a, hs b, owed_nil, owed_nil, ⟨by omega, by omega⟩, ⟨by omega, by omega⟩, ?_, ?_⟩
    · unfold muOf
      rw [if_pos rfl]
      omega
    · unfold muOf
      rw [if_pos rfl]
      omega
  have h := rounds_ok ha hb 30 16 16 0 _ (by omega) h0
  unfold settleO
  rw [settle_rounds]
  generalize rounds 30 (beginS a b) = s at h
  obtain ⟨n, m, se, te, ow, pw, now, rfl, _, _, _, _, ⟨l1, l2⟩, _, u1, u2⟩ := h
  unfold muOf at u1 u2
  have e1 : se = [] := by
    by_cases he : se = []
    · exact he
    · rw [if_neg he] at u1
      omega
  have e2 : te = [] := by
    by_cases he : te = []
    · exact he
    · rw [if_neg he] at u2
      omega
  have e3 : n = a.length := by omega
  have e4 : m = b.length := by omega
  subst e1 e2 e3 e4
  exact ⟨_, _, now, rfl, List.take_length, List.take_length, rfl, rfl⟩
theorem same_texts (k : Nat) (L : List ByteArray) (hl : L.length ≤ 1048576) (hk : 1048576 < k) : w_sameTexts k (L, (L, ())) = some (true, ((), ((), ()))) := by
  unfold w_sameTexts
  simp only [decide_true, Bool.not_true, Bool.false_eq_true, if_false]
  refine (all_loop (fun i => (L, (L, (((i : Nat) : Int), ())))) L.length (fun _ => true) (some (false, ((), ((), ())))) (some (true, ((), ((), ())))) (fun again i hi => ?_) (fun again => ?_) k (by omega)).trans ?_
  · have w2 : wi64 ((i : Int) + 1) = ((i + 1 : Nat) : Int) := (w64_id _ (by omega)).trans (by omega)
    have g1 : (0 : Int) ≤ (i : Int) ∧ (i : Int) < (L.length : Int) := by omega
    simp only [g1, w2, and_self, decide_true, Bool.not_true, Bool.false_eq_true, if_true, if_false]
  · simp
  · simp
theorem settles_law (k : Nat) (hk : 2097152 < k) (code : List Int) : w_FnSettles k (code, ()) = some (true, ((), ())) := by
  unfold w_FnSettles w_big
  simp only [Option.bind_some]
  by_cases hbig : (1048576 : Int) < (code.length : Int)
  · simp only [hbig, decide_true, if_true]
  simp only [hbig, decide_false, Bool.false_eq_true, if_false]
  obtain ⟨a, b, ev, e0, ⟨a8, ha⟩, ⟨b8, hb⟩, _⟩ := DrawTalks_are k code (by omega) (by omega)
  have e1 := i_RunTalk_is k a b [] hk
  have hB : runB a b [] = true := by
    unfold runB
    simp only [List.all_nil, Bool.and_true, decide_eq_true_eq, List.length_nil]
    exact ⟨by omega, by omega, by omega⟩
  have hin := begin_in a b
  obtain ⟨x, y, now, hset, hx, hy, hx0, hy0⟩ := settled ha hb a8 b8
  unfold runO runT at e1
  rw [hB, if_pos rfl, List.foldl_nil] at e1
  generalize beginS a b = s at e1 hin hset
  obtain ⟨A, B, now0, net⟩ := s
  obtain ⟨i1, i2, i3, i4⟩ := hin
  dsimp only at i1 i2 i3 i4
  unfold toT at e1
  dsimp only at e1
  have e2 := i_Settle_two k A B now0 net 30 hk ⟨i1, i2, i3, by dsimp only; omega⟩
  rw [show (min (30 : Int) 200).toNat = 30 from rfl, hset] at e2
  have l0 : ∀ p q : EndR, ([p, q].length : Int) = 2 := fun _ _ => rfl
  have r0 : Ty.rd (t := TEndO) [x, y] 0 = x := rfl
  have r1 : Ty.rd (t := TEndO) [x, y] 1 = y := rfl
  have s1 := same_texts k b (by omega) (by omega)
  have s2 := same_texts k a (by omega) (by omega)
  have z0 : (0 : Int) ≤ 0 ∧ (0 : Int) < 2 := by decide
  have z1 : (0 : Int) ≤ 1 ∧ (1 : Int) < 2 := by decide
  have z2 : ((([] : List PendR).length : Nat) : Int) = 0 := rfl
  simp only [e0, e1, e2, Option.bind_some, Bool.not_true, if_true, l0, z0, z1, z2, and_self, decide_true, r0, r1, hx, hy, hx0, hy0, s1, s2, Bool.false_eq_true, if_false]
theorem pure_FnSettles (x : argsDen pars_FnSettles) (_hx : argsWf pars_FnSettles x) : ∃ k o, w_FnSettles k (argsX pars_FnSettles x) = some (true, o) := by
  obtain ⟨code, u⟩ := x
  exact ⟨2097153, ((), ()), settles_law 2097153 (by decide) code⟩
open Go.ChangeShapes Go.WideShapes Go.ChangeAt Go.RowKit
theorem own_FnSettles : ownKnob Try.prog.godebug = none := by kernel_rfl
theorem lifted_FnSettles (os : Os) (started : os.Started) (H : Type) (enc : TypeId × Value → H) :
    ReturnsInHanded {} Try.checked os 7 .any (Rows.fnSettlesSpec.pre6 enc Try.prog Try.f7 Rows.fnSettlesRow.domain false) (Rows.fnSettlesSpec.post enc Try.prog Try.f7 false true false false) :=
  law_lifted (C := Try.checked) (l := pars_FnSettles) (rb := 4) own_FnSettles started (by kernel_rfl) Try.func7
    (ChangeSpec.witness6 (enc := enc) (C := Try.checked) false ⟨#[], #[.slice none 0 0], []⟩ 8 (by kernel_rfl) (by kernel_rfl) (by kernel_rfl) (by kernel_rfl))
    e_w_FnSettles rfl (by decide) pure_FnSettles (by kernel_rfl) rfl Try.underlying4 (by kernel_rfl) (by kernel_rfl) rfl (fun _ => ⟨fun _ h => h.elim, trivial⟩)
    (fun ds h => match ds, h with | [_], _ => rfl)
theorem inPlace_FnSettles : Try.prog.inPlace 7 = Rows.fnSettlesRow.inPlace := by kernel_rfl
theorem unfollowed_FnSettles : Try.prog.unfollowed 7 = Rows.fnSettlesRow.unfollowed := by kernel_rfl
theorem recurses_FnSettles : Try.prog.recurses 7 = Rows.fnSettlesRow.recurses := by kernel_rfl
theorem named_FnSettles : Try.prog.varsNamed 7 = Rows.fnSettlesRow.named := by kernel_rfl
theorem facts_FnSettles : joinedFacts Try.prog 7 Try.f7 Rows.fnSettlesSpec Rows.fnSettlesRow = true := by
  unfold joinedFacts
  rw [seat_laid, seat_maps, seat_heard, seat_enter, inPlace_FnSettles, unfollowed_FnSettles, recurses_FnSettles, named_FnSettles]
  kernel_rfl
theorem fnSettles_holds : Rows.FnSettlesSaid :=
  OpenClaim.holds_of_wide 7 Try.f7 rfl rfl rfl rfl rfl rfl rfl ⟨rfl, rfl, rfl, rfl, rfl⟩ rfl rfl rfl rfl rfl (by kernel_rfl) Try.func7 facts_FnSettles (of_decide_eq_true (by kernel_rfl))
    (by unfold Func.isWrapper; first | (rw [if_pos (by decide +kernel)]; kernel_rfl) | (rw [if_neg (by decide +kernel)]; exact ⟨rfl, rfl⟩)) (fun os started H enc _ => lifted_FnSettles os started H enc)
#print axioms fnSettles_holds
end Go.Proofs.Ytaamcelinnnncaa
