import Derived.Test.YtfgdejabocealaaGreatEngA
import Derived.Deep.Upon
/- An interpreter of the program's code over plain values is sound: what it answers is what the call answers (part B). Conditions: none beyond each theorem's own. -/
set_option linter.unusedVariables false
section
/-! Engine, soundness 15: append. -/
namespace Go.Eng
section
variable {P : Program} {T : TT} {base : Nat} {S : List Nat} {B F : Nat → Prop} {w0 : World} {objs : Upd} {loc : Loc} {w : World} {ρ : Type}

/-- The cells of rows in a block. -/
theorem rows_cells {t : Ty} (hpos : 0 < t.w) {b o : Nat} {xs : List t.den} (hr : RowsAt (IRep F w t) w t.w b o xs) : ∃ news : List Value, news.length = xs.length * t.w ∧ (∀ j u, news[j]? = some u → w.cell? ⟨b, o + j, none⟩ = some u) ∧ (∀ u ∈ news, u.oneCell' = true) ∧
    RowsIn (IRep F w t) t.w news xs := by
  have key : ∀ j, j < xs.length * t.w → ∃ u, w.cell? ⟨b, o + j, none⟩ = some u ∧ u.oneCell' = true := by
    intro j hj
    have hd : j / t.w < xs.length := Nat.div_lt_of_lt_mul (by rw [Nat.mul_comm]; exact hj)
    obtain ⟨rs, h1, h2, h3⟩ := hr (j / t.w) hd
    have hm : j % t.w < rs.length := by rw [h1]; exact Nat.mod_lt _ hpos
    refine ⟨rs[j % t.w], ?_, h3.one _ (List.getElem_mem hm)⟩
    have := h2 (j % t.w) _ (List.getElem?_eq_getElem hm)
    rw [Nat.add_assoc, Nat.mul_comm, Nat.div_add_mod] at this
    exact this
  have hget : ∀ j, ((List.range (xs.length * t.w)).map fun j => (w.cell? ⟨b, o + j, none⟩).getD undef)[j]? = if j < xs.length * t.w then w.cell? ⟨b, o + j, none⟩ else none := by
    intro j
    rw [List.getElem?_map]
    by_cases hj : j < xs.length * t.w
    · rw [if_pos hj, List.getElem?_range hj]
      obtain ⟨u, hu, _⟩ := key j hj
      simp [hu]
    · rw [if_neg hj, List.getElem?_eq_none (by simp; omega)]
      rfl
  refine ⟨(List.range (xs.length * t.w)).map fun j => (w.cell? ⟨b, o + j, none⟩).getD undef, by simp, fun j u hj => ?_, fun u hu => ?_, fun i hi => ?_⟩
  · rw [hget] at hj
    split at hj
    · exact hj
    · cases hj
  · obtain ⟨j, hj, rfl⟩ := List.mem_map.1 hu
    obtain ⟨u, hu, h1⟩ := key j (by simpa using hj)
    simpa [hu] using h1
  · obtain ⟨rs, h1, h2, h3⟩ := hr i hi
    refine ⟨rs, h1, fun j hj => ?_, h3⟩
    have hij : i * t.w + j < xs.length * t.w := by
      calc i * t.w + j < i * t.w + t.w := by omega
        _ = (i + 1) * t.w := by rw [Nat.add_mul, Nat.one_mul]
        _ ≤ xs.length * t.w := Nat.mul_le_mul_right _ hi
    rw [hget, if_pos hij, List.getElem?_eq_getElem (by omega), ← Nat.add_assoc]
    exact h2 j _ (List.getElem?_eq_getElem (by omega))

theorem RowsIn.app {α : Type} {R : α → List Value → Prop} {width : Nat} {vs us : List Value} {xs ys : List α} (h : RowsIn R width vs xs) (k : RowsIn R width us ys) (hl : vs.length = xs.length * width) : RowsIn R width (vs ++ us) (xs ++ ys) := by
  intro i hi
  rw [List.length_append] at hi
  by_cases hx : i < xs.length
  · obtain ⟨rs, h1, h2, h3⟩ := h i hx
    refine ⟨rs, h1, fun j hj => ?_, by rw [List.getElem_append_left hx]; exact h3⟩
    have hij : i * width + j < xs.length * width := by
      calc i * width + j < i * width + width := by omega
        _ = (i + 1) * width := by rw [Nat.add_mul, Nat.one_mul]
        _ ≤ xs.length * width := Nat.mul_le_mul_right _ hx
    rw [List.getElem?_append_left (by omega)]
    exact h2 j hj
  · obtain ⟨rs, h1, h2, h3⟩ := k (i - xs.length) (by omega)
    refine ⟨rs, h1, fun j hj => ?_, by rw [List.getElem_append_right (by omega)]; exact h3⟩
    have : i * width = xs.length * width + (i - xs.length) * width := by rw [← Nat.add_mul]; congr 1; omega
    rw [List.getElem?_append_right (by omega), ← h2 j hj, hl]
    congr 1
    omega

theorem RowsIn.take {α : Type} {R : α → List Value → Prop} {width n : Nat} {vs : List Value} {xs : List α} (h : RowsIn R width vs xs) (hn : xs.length = n) : RowsIn R width (vs.take (n * width)) xs := by
  intro i hi
  obtain ⟨rs, h1, h2, h3⟩ := h i hi
  refine ⟨rs, h1, fun j hj => ?_, h3⟩
  have hij : i * width + j < n * width := by
    calc i * width + j < i * width + width := by omega
      _ = (i + 1) * width := by rw [Nat.add_mul, Nat.one_mul]
      _ ≤ n * width := Nat.mul_le_mul_right _ (by omega)
  rw [List.getElem?_take_of_lt hij]
  exact h2 j hj
theorem RowsIn.untake {α : Type} {R : α → List Value → Prop} {width n : Nat} {vs : List Value} {xs : List α} (h : RowsIn R width (vs.take (n * width)) xs) (hn : xs.length = n) : RowsIn R width vs xs := by
  intro i hi
  obtain ⟨rs, h1, h2, h3⟩ := h i hi
  refine ⟨rs, h1, fun j hj => ?_, h3⟩
  have hij : i * width + j < n * width := by
    calc i * width + j < i * width + width := by omega
      _ = (i + 1) * width := by rw [Nat.add_mul, Nat.one_mul]
      _ ≤ n * width := Nat.mul_le_mul_right _ (by omega)
  rw [← h2 j hj, List.getElem?_take_of_lt hij]

theorem RowsIn.mono {α : Type} {R R' : α → List Value → Prop} {width : Nat} {vs : List Value} {xs : List α} (h : RowsIn R width vs xs) (hR : ∀ x rs, R x rs → R' x rs) : RowsIn R' width vs xs := fun i hi => by
  obtain ⟨rs, h1, h2, h3⟩ := h i hi
  exact ⟨rs, h1, h2, hR _ _ h3⟩


theorem run_first {size n : Nat} {a : Addr} {c : Nat} {xs : List Value} (hl : xs.length = n * size) (hc : ∀ j u, xs[j]? = some u → w.cell? (a.add j) = some u) : (Builtin.firstCells size n (.slice (some a) n c)).run P w = .ok xs.toArray w :=
  run_firstCells_some (P := P) w size n a n c xs hl hc

/-- Rows ahead, and new ones over the next. -/
theorem rowsIn_over {α : Type} {R : α → List Value → Prop} {width hi : Nat} {vs us : List Value} {xs ys : List α} (h : RowsIn R width vs xs) (k : RowsIn R width us ys) (hhi : hi ≤ xs.length) (hlen : hi * width + us.length ≤ vs.length) (hul : us.length = ys.length * width) :
    RowsIn R width (splice vs (hi * width) us) (List.take hi xs ++ (ys ++ List.drop (hi + ys.length) xs)) := by
  intro i hi'
  simp only [List.length_append, List.length_take, List.length_drop] at hi'
  by_cases h1 : i < hi
  · obtain ⟨rs, a1, a2, a3⟩ := h i (by omega)
    refine ⟨rs, a1, fun j hj => ?_, ?_⟩
    · have : (i + 1) * width ≤ hi * width := Nat.mul_le_mul_right _ h1
      rw [Nat.add_mul] at this
      rw [splice_get _ hlen, if_pos (by omega), a2 j hj]
    · rw [List.getElem_append_left (by simp; omega), List.getElem_take]
      exact a3
  · by_cases h2 : i < hi + ys.length
    · obtain ⟨rs, a1, a2, a3⟩ := k (i - hi) (by omega)
      refine ⟨rs, a1, fun j hj => ?_, ?_⟩
      · have e1 : i * width = hi * width + (i - hi) * width := by rw [← Nat.add_mul]; congr 1; omega
        have e2 : (i - hi + 1) * width ≤ ys.length * width := Nat.mul_le_mul_right _ (by omega)
        rw [Nat.add_mul] at e2
        rw [splice_get _ hlen, if_neg (by omega), if_pos (by omega), ← a2 j hj]
        congr 1
        omega
      · rw [List.getElem_append_right (by simp; omega), List.getElem_append_left (by simp; omega)]
        have : ∀ m (hm : m < ys.length), m = i - hi → R ys[m] rs := fun m hm e => by subst e; exact a3
        exact this _ _ (by simp only [List.length_take]; omega)
    · obtain ⟨rs, a1, a2, a3⟩ := h i (by omega)
      refine ⟨rs, a1, fun j hj => ?_, ?_⟩
      · have e1 : (hi + ys.length) * width ≤ i * width := Nat.mul_le_mul_right _ (by omega)
        rw [Nat.add_mul] at e1
        rw [splice_get _ hlen, if_neg (by omega), if_neg (by omega), a2 j hj]
      · rw [List.getElem_append_right (by simp; omega), List.getElem_append_right (by simp; omega), List.getElem_drop]
        have : ∀ m (hm : m < xs.length), m = i → R xs[m] rs := fun m hm e => by subst e; exact a3
        refine this _ _ ?_
        simp only [List.length_take]
        omega

theorem run_sw (b o : Nat) {news : List Value} {cur : Array Value} {e : TypeId} {fr : Nat × Nat} (hb : w.heap[b]? = some (.cells cur e fr)) (hth : Thaw fr cur.size) (hle : o + news.length ≤ cur.size) (h1 : ∀ u ∈ news, u.oneCell' = true) :
    (storeCells ⟨b, o, none⟩ news).run P w = .ok () (w.setCells b o news) := by
  have hst := run_storeCells_cells (P := P) b o news 0 w (fun j hj => by
    rw [cell_heap hb, Array.getElem?_eq_getElem (by omega)]; rfl) (fun j hj => by
    simp only [World.frozen?, hb]
    rcases hth with rfl | hth
    · simp
    · simp
      omega) h1
  simpa only [Nat.add_zero] using hst

/-- What is handed to append behind a slice: its cells. -/
def AppSrc (P : Program) (F : Nat → Prop) (w : World) (et : Ty) (tx : Nat) (sv : Value) (ys : List et.den) : Prop := ∃ news, Go.Src P et.w tx sv ys.length news w ∧ RowsIn (IRep F w et) et.w news ys

theorem appSrc_slice {et : Ty} {tx e' : Nat} {ys : List et.den} {a : Option Addr} {m c : Nat} (hk : P.underlying tx = some (.slice e')) (hpos : 0 < et.w) (hm : ys.length = m) (hr : 0 < m → ∃ b o, a = some ⟨b, o, none⟩ ∧ b < w.heap.size ∧ RowsAt (IRep F w et) w et.w b o ys) : AppSrc P F w et tx (.slice a m c) ys := by
  subst hm
  by_cases h0 : 0 < ys.length
  · obtain ⟨b, o, rfl, hlt, hr⟩ := hr h0
    obtain ⟨news, g1, g2, g3, g4⟩ := rows_cells hpos hr
    exact ⟨news, Go.Src.ofSlice w hk _ _ _ news g1 (fun j u hj => by rw [Addr.add_mid]; exact g2 j u hj) g3, g4⟩
  · have hy : ys = [] := List.eq_nil_of_length_eq_zero (by omega)
    subst hy
    refine ⟨[], ?_, fun i hi => by simp at hi⟩
    cases a with
    | none => exact Go.Src.ofNil w hk c
    | some a => exact Go.Src.ofSlice w hk a 0 c [] (by simp) (fun j u hj => by simp at hj) (by simp)

theorem appSrc_str {tx : Nat} {s : ByteArray} (hk : P.underlying tx = some .string) : AppSrc P F w (.int .u8) tx (.string s) (bytesOf s) := by
  have hl : (bytesOf s).length = s.size := by simp only [bytesOf, List.length_map, Array.length_toList]; rfl
  refine ⟨byteCells s, by rw [hl]; exact Go.Src.ofString w hk s, fun i hi => ⟨[.int .u8 (bytesOf s)[i]], rfl, fun j hj => ?_, rfl⟩⟩
  have hj : j = 0 := by simp only [Ty.w] at hj; omega
  subst hj
  simp only [Ty.w, Nat.mul_one, Nat.add_zero, byteCells, bytesOf, List.getElem?_map, List.getElem_map, List.getElem?_cons_zero]
  have hi' : i < s.data.toList.length := by rw [hl] at hi; exact hi
  rw [List.getElem?_eq_getElem hi']
  rfl

/-- What append comes to, in the model. -/
theorem run_app {t tx ty e n : Nat} {et : Ty} {inf : TypeInfo} {z v sv : Value} {zf : Bool} {l : LV} {xs ys : List et.den} (hu : P.underlying t = some (.slice e)) (hi : P.info? e = some inf) (hsz : inf.size = et.w) (hpos : 0 < et.w) (hby : inf.bytes ≤ 512) (hz : inf.zero = some z) (hzs : z.cells.size = et.w)
    (hv : v = hdr l n) (hn : xs.length = n) (hok : LstOk F w l zf e et xs) (hcap : n + ys.length ≤ capMax) (hsv : AppSrc P F w et tx sv ys) (hF : ∀ b, F b → b < w.heap.size ∧ l.blk ≠ some b) :
    ∃ l' w', (Builtin.append_ #[t, tx] ty #[v, sv]).run P w = .ok (hdr l' (n + ys.length)) w' ∧ LstOk F w' l' zf e et (xs ++ ys) ∧ w.grownBy w' l.blk ∧ (l'.blk = l.blk ∨ l'.blk = some w.heap.size) ∧ ∀ b, l'.blk = some b → b < w'.heap.size := by
  obtain ⟨news, hs, g4⟩ := hsv
  obtain ⟨m, hm⟩ : ∃ m, ys.length = m := ⟨_, rfl⟩
  rw [hm, ← hsz] at hs
  have hself : w.grownBy w l.blk := ⟨rfl, rfl, rfl, Nat.le_refl _, fun _ _ _ => rfl⟩
  have hb : (n + m) * inf.bytes ≤ 140737488355328 := by
    calc (n + m) * inf.bytes ≤ 274877906944 * 512 := Nat.mul_le_mul (by simp only [capMax] at hcap; omega) hby
      _ ≤ 140737488355328 := by decide
  have h63 : n + m ≤ maxLen := by simp only [capMax] at hcap; simp only [maxLen]; omega
  obtain ⟨hsub, hok⟩ := hok
  have hlt0 : ∀ b, l.blk = some b → b < w.heap.size := fun b hbl => by
    rw [hbl] at hok
    obtain ⟨vs, fr, hh, _⟩ := hok
    exact (Array.getElem?_eq_some_iff.1 hh).1
  by_cases h0 : 0 < m
  case neg =>
    have hm0 : m = 0 := by omega
    subst hm0
    have hy : ys = [] := List.eq_nil_of_length_eq_zero hm
    subst hy
    have hnc : n ≤ l.cap := by rw [← hn]; exact LstOk.cap_le ⟨hsub, hok⟩
    refine ⟨l, w, ?_, by simpa using (show LstOk F w l zf e et xs from ⟨hsub, hok⟩), hself, .inl rfl, hlt0⟩
    have hn0 : news = [] := List.eq_nil_of_length_eq_zero (by rw [hs.newsLen, Nat.zero_mul])
    subst hn0
    rw [hv]
    exact run_append_nothing w t tx ty e inf hu hi _ n l.cap hnc sv hs
  have g1 : news.length = ys.length * et.w := by rw [hs.newsLen, hm, hsz]
  have g3 := hs.one
  have hnl := hs.newsLen
  -- what the growing arm leaves
  have grown : ∀ (old : Nat) (olds : List Value), olds.length = n * et.w → RowsIn (IRep F w et) et.w olds xs → n + m ≤ grownCap w (n + m) old e →
      LstOk F (w.drew.alloc (.cells ((olds ++ news).toArray ++ Builtin.zeroCells z.cells (grownCap w (n + m) old e - (n + m))) e)) ⟨some w.heap.size, 0, grownCap w (n + m) old e, []⟩ zf e et (xs ++ ys) ∧
      w.grownBy (w.drew.alloc (.cells ((olds ++ news).toArray ++ Builtin.zeroCells z.cells (grownCap w (n + m) old e - (n + m))) e)) l.blk := by
    intro old olds hol hro hge
    have hsame : Same F w (w.drew.alloc (.cells ((olds ++ news).toArray ++ Builtin.zeroCells z.cells (grownCap w (n + m) old e - (n + m))) e)) := fun b hb => alloc_old w.drew _ b (hF b hb).1
    have hcm : grownCap w (n + m) old e ≤ maxLen := grownCap_le_maxLen w (n + m) old e h63
    refine ⟨⟨rfl, _, (0, 0), alloc_new w.drew _, fun _ => rfl, .inl rfl, by rw [List.length_append, hn, hm]; exact hge, hcm, .inr ?_, ?_⟩, ⟨rfl, rfl, rfl, by simp, fun k hk _ => alloc_old w.drew _ k hk⟩⟩
    · simp only [Array.size_append, List.size_toArray, List.length_append, size_zeroCells, hzs, hol, hnl, hsz, ← Nat.add_mul, Nat.zero_add]
      congr 1
      omega
    · rw [List.drop_zero]
      have hap := hro.app g4 (by rw [hol, hn])
      have hap : RowsIn (IRep F w et) et.w (olds ++ news ++ (Builtin.zeroCells z.cells (grownCap w (n + m) old e - (n + m))).toList) (xs ++ ys) := fun i hi => by
        obtain ⟨rs, p1, p2, p3⟩ := hap i hi
        refine ⟨rs, p1, fun j hj => ?_, p3⟩
        rw [List.getElem?_append_left, p2 j hj]
        have : (i + 1) * et.w ≤ (xs ++ ys).length * et.w := Nat.mul_le_mul_right _ hi
        rw [Nat.add_mul, List.length_append, hn, hm] at this
        rw [List.length_append, hol, hnl, hsz, ← Nat.add_mul]
        omega
      have := hap.mono fun x rs hh => hh.mono (fun _ hb => hb) hsame
      simpa only [Array.toList_append] using this
  subst hv
  cases hbl : l.blk with
  | none =>
    rw [hbl] at hok
    obtain ⟨rfl, hc⟩ := hok
    have hn0 : n = 0 := by simpa using hn.symm
    subst hn0
    have hr := run_append_grow_src (P := P) w t tx ty e inf z hu hi hz none 0 0 [] (run_firstCells_none w.drew inf.size 0 0 0) sv m news hs (by omega) (by simp only [maxLen] at h63; omega) (growslice_fits (by omega) hb)
    obtain ⟨k1, k2⟩ := grown 0 [] (by simp) (fun i hi => by simp at hi) (grownCap_ge w _ 0 e)
    simp only [Nat.zero_add, List.nil_append] at k1 k2 hr ⊢
    rw [hbl] at k2
    refine ⟨_, _, ?_, k1, k2, .inr rfl, fun q hq => by cases hq; simp⟩
    rw [show hdr l 0 = .slice none 0 0 by simp [hdr, hbl, hc], hm]
    exact hr
  | some g =>
    rw [hbl] at hok
    obtain ⟨vs, fr, hh, hzf, hth, hxc, hcm, hvs, hrows⟩ := hok
    by_cases hroom : n + m ≤ l.cap
    · have hvs' : vs.size = l.off + l.cap * et.w := by rcases hvs with h | h <;> omega
      have hfit : n * et.w + news.length ≤ l.cap * et.w := by rw [hnl, hsz, ← Nat.add_mul]; exact Nat.mul_le_mul_right _ hroom
      have hst := run_sw (P := P) (w := w) g (l.off + n * et.w) (news := news) hh hth (by omega) g3
      have hrun : (Builtin.append_ #[t, tx] ty #[hdr l n, sv]).run P w = .ok (hdr l (n + m)) (w.setCells g (l.off + n * et.w) news) := by
        have hst' : (storeCells ((⟨g, l.off, none⟩ : Addr).add (n * inf.size)) news).run P w = .ok () (w.setCells g (l.off + n * et.w) news) := by rw [hsz, add_plain]; exact hst
        rcases hs.kind with ⟨e', hk⟩ | hk <;> simp [Builtin.append_, run_underlying hu, run_underlying hk, sizeOf, typeInfo, hi, hs.len, hroom, hs.cells, hdr, hbl, hst']
      obtain ⟨c1, c2, c3, c4, c5⟩ := setCells_rest g news (l.off + n * et.w) w
      have hnew := setCells_heap g news (l.off + n * et.w) w vs hh
      have hsame : Same F w (w.setCells g (l.off + n * et.w) news) := fun b hb => c5 b (fun e => (hF b hb).2 (by rw [e, hbl]))
      refine ⟨l, _, by rw [hm]; exact hrun, ⟨hsub, ?_⟩, ⟨c1, c2, c3, by omega, fun k _ hk => c5 k (fun e => hk (by rw [e]))⟩, .inl hbl, fun q hq => by rw [c4]; exact hlt0 q hq⟩
      rw [hbl]
      refine ⟨_, fr, hnew, hzf, ?_, by rw [List.length_append, hn, hm]; exact hroom, hcm, ?_, ?_⟩
      · rw [List.size_toArray, setVals_len]; simpa using hth
      · rw [List.size_toArray, setVals_len]; simpa using hvs
      · have hlen : l.off + n * et.w + news.length ≤ vs.toList.length := by rw [Array.length_toList (xs := vs), hvs', Nat.add_assoc]; exact Nat.add_le_add_left hfit _
        rw [List.toList_toArray, setVals_splice hlen, splice_drop hlen]
        have hrows' : RowsIn (IRep F (w.setCells g (l.off + n * et.w) news) et) et.w (vs.toList.drop l.off) xs := hrows.mono fun x rs hx => hx.mono (fun _ hb => hb) hsame
        have g4' : RowsIn (IRep F (w.setCells g (l.off + n * et.w) news) et) et.w news ys := g4.mono fun x rs hx => hx.mono (fun _ hb => hb) hsame
        have := rowsIn_over (hi := n) hrows' g4' (Nat.le_of_eq hn.symm) (by rw [List.length_drop, Array.length_toList (xs := vs), hvs', Nat.add_sub_cancel_left]; exact hfit) g1
        rw [List.take_of_length_le (l := xs) (Nat.le_of_eq hn), List.drop_eq_nil_of_le (as := xs) (by rw [hn]; exact Nat.le_add_right _ _), List.append_nil] at this
        exact this
    · obtain ⟨olds, o1, o2, o3⟩ : ∃ olds : List Value, olds.length = n * et.w ∧ (∀ j u, olds[j]? = some u → w.cell? ((⟨g, l.off, none⟩ : Addr).add j) = some u) ∧ RowsIn (IRep F w et) et.w olds xs := by
        by_cases hc0 : l.cap = 0
        · have hn0 : n = 0 := by omega
          subst hn0
          have : xs = [] := List.eq_nil_of_length_eq_zero hn
          subst this
          exact ⟨[], by simp, fun j u hj => by simp at hj, fun i hi => by simp at hi⟩
        · have hvs' : vs.size = l.off + l.cap * et.w := hvs.resolve_left hc0
          have hle : n * et.w ≤ l.cap * et.w := Nat.mul_le_mul_right _ (by omega)
          refine ⟨(vs.toList.drop l.off).take (n * et.w), by rw [List.length_take, List.length_drop, Array.length_toList]; omega, fun j u hj => ?_, hrows.take hn⟩
          rw [List.getElem?_take] at hj
          split at hj
          · rw [List.getElem?_drop, Array.getElem?_toList] at hj
            rw [Addr.add_mid, cell_heap hh]
            exact hj
          · cases hj
      have hr := run_append_grow_src (P := P) w t tx ty e inf z hu hi hz (some ⟨g, l.off, none⟩) n l.cap olds (run_firstCells_some w.drew inf.size n _ n l.cap olds (by rw [o1, hsz]) (by simpa using o2)) sv m news hs (by omega) (by simp only [maxLen] at h63; omega) (growslice_fits (by omega) hb)
      obtain ⟨k1, k2⟩ := grown l.cap olds o1 o3 (grownCap_ge w _ l.cap e)
      rw [hbl] at k2
      refine ⟨_, _, ?_, k1, k2, .inr rfl, fun q hq => by cases hq; simp⟩
      rw [show hdr l n = .slice (some ⟨g, l.off, none⟩) n l.cap by simp [hdr, hbl], hm]
      exact hr


theorem loc_same (loc : Loc) (s j : Nat) : loc.set s j (loc s j) = loc := by
  funext s' j'
  by_cases e : s' = s ∧ j' = j
  · rw [e.1, e.2, Loc.set_same]
  · rw [Loc.set_ne _ _ _ _ e]

theorem good_append {o : Oper} {as : Array Operand} {ts : Array TypeId} {t tx d e : Nat} {ty : Ty} {s x : AV} {eA : Operand → AV} {ev : Operand → Value} {K : AV → Upd → Option ρ} {res : ρ} {get : Get} (hT : TOk P T) (ho : o.op = .call ⟨.builtin .append, as, ts⟩) (h : SR base S B w0 objs loc F w)
    (hx : ∀ y ∈ as, Val objs loc F B w (eA y) (ev y)) (has : as.toList.map eA = [s, x]) (hts : ts.toList = [t, tx]) (hkind : (T.at t).kind = .slice e ty) (hgs : ∀ q ∈ AV.slots s, get q = look objs q) (hgx : ∀ q ∈ AV.slots x, get q = look objs q) (hd : get d = look objs d)
    (hns : appOk x t tx (T.at tx).kind = true) (hk : rowsOf get ty x (fun ys => appendK get d e ty capMax s ys K) = some res) : Good P base S B w0 objs loc F w o ev K res := by
  have hts' : ts = #[t, tx] := by apply Array.ext'; simpa using hts
  subst hts'
  obtain ⟨so, xo, rfl, rfl, rfl⟩ : ∃ a b, as = #[a, b] ∧ eA a = s ∧ eA b = x := by
    cases hl : as.toList with
    | nil => rw [hl] at has; simp at has
    | cons a l =>
      cases l with
      | nil => rw [hl] at has; simp at has
      | cons b l =>
        cases l with
        | nil => rw [hl] at has; simp at has; exact ⟨a, b, by apply Array.ext'; simpa using hl, has.1, has.2⟩
        | cons _ _ => rw [hl] at has; simp at has
  have hs := hx so (by simp)
  have hxv := hx xo (by simp)
  obtain ⟨hu, inf, z, hie, hsz, hpos, hbytes, hz, hzs, _⟩ := (hT t).slice e ty hkind
  obtain ⟨ys, hk, hr⟩ := rowsOf_ok h hk hxv hgx
  have hsv : AppSrc P F w ty tx (ev xo) ys := by
    unfold appOk at hns
    rcases hr with ⟨a, n, c, hcv, hne, hl, hnc, hrow⟩ | ⟨s, he, hcv, e1, e2⟩
    · have ht : t = tx := by
        split at hns
        · rename_i z he _; exact absurd he (hne z)
        · cases hns
        · exact beq_true.1 hns
      rw [hcv]
      exact appSrc_slice (by rw [← ht]; exact hu) hpos hl hrow
    · rw [he] at hns
      cases hkk : (T.at tx).kind with
      | str =>
        subst e1
        subst e2
        rw [hcv]
        exact appSrc_str ((hT tx).str hkk)
      | _ => simp [hkk] at hns
  have run : ∀ {v' w'}, (Builtin.append_ #[t, tx] o.type #[ev so, ev xo]).run P w = .ok v' w' → (execOp ev o).run P w = .ok (.value v') w' := by
    intro v' w' hr
    rw [run_builtin ho]
    simp [builtin, hr]
  unfold appendK at hk
  split at hk
  · rename_i hsn
    rw [hsn] at hs
    have hs : ev so = .slice none 0 0 := hs
    split at hk
    case isFalse => cases hk
    rename_i hcap
    obtain ⟨l', w', k1, k2, k4, k5, k6⟩ := run_app (P := P) (F := F) (w := w) (ty := o.type) (v := ev so) (n := 0) (zf := false) (l := LV.nil) (xs := ([] : List ty.den)) (ys := ys) hu hie hsz hpos hbytes hz hzs (by rw [hs]; rfl) rfl ⟨rfl, rfl, rfl⟩ (by simpa using hcap) hsv (fun b hb => ⟨h.fro b hb, by simp [LV.nil]⟩)
    simp only [newOb] at hk
    rw [List.nil_append] at k2
    rw [Nat.zero_add] at k1
    have olds : ∀ b, b < w.heap.size → w'.heap[b]? = w.heap[b]? := fun b hb => k4.block b hb (by simp [LV.nil])
    have st := Step.of_olds h olds k4.os k4.tape k4.output k4.size
    have key := h.fresh (d := d) (g := (look objs d).g + 1) (os := [(0, .lst false e ty ys)]) (ls := fun _ => l') st (by omega) olds (fun _ j v o' hj => by
      cases j with
      | zero => simp only [List.getElem?_cons_zero, Option.some.injEq, Prod.mk.injEq] at hj; obtain ⟨rfl, rfl⟩ := hj; exact k2
      | succ j => simp at hj) (fun j v o' b hj _ hb => by
        have hb := LV.blk_of k2.1 hb
        have := k6 b hb
        rcases k5 with k5 | k5
        · rw [k5] at hb; cases hb
        · rw [k5] at hb; cases hb; omega) (fun j v o' j' v' o'' b hj hj' _ _ _ _ => by
        cases j with
        | zero => cases j' with
          | zero => rfl
          | succ j' => simp at hj'
        | succ j => simp at hj)
    rw [hd] at hk
    refine ⟨_, _, _, _, w', _, F, hk, run k1, .inl rfl, key.1, key.2, More.refl _ _ _, ⟨rfl, ?_⟩⟩
    refine .inr ⟨?_, 0, .lst false e ty ys, ?_, .inr ⟨rfl, ?_⟩⟩
    · simp [applyUpd, look_put]
    · simp [applyUpd, look_put]
    · simp only [viewOk, Loc.slot, if_true]
  · rename_i _ r hsr
    rw [hsr] at hs hgs
    have hgr : get r.s = look objs r.s := hgs r.s (by simp [AV.slots])
    rw [ob_get hgr] at hk
    split at hk
    case h_2 => cases hk
    rename_i zf e' t' xs hob
    split at hk
    case isFalse => cases hk
    rename_i ht
    subst ht
    split at hk
    case h_2 => cases hk
    rename_i he
    have he := beq_true.1 he
    subst he
    split at hk
    case isFalse => cases hk
    rename_i hcap
    obtain ⟨hg, hj⟩ := ob_some hob (by simp)
    have hv : ev so = hdr (loc r.s r.j) xs.length := RS.found (hs : Leaf objs loc F B w (.ol r .whole) (ev so)).2 hob (by simp)
    have hok : LstOk F w (loc r.s r.j) zf e' t' xs := h.obs _ _ _ _ hj
    have hFn : ∀ b, F b → (loc r.s r.j).blk ≠ some b := fun b hb e => (h.own _ _ _ _ b hj rfl (LV.mem_blk e)).1 hb
    have hBn : ∀ b, B b → (loc r.s r.j).blk ≠ some b := fun b hb e => (h.own _ _ _ _ b hj rfl (LV.mem_blk e)).2.1 hb
    obtain ⟨l', w', k1, k2, k4, k5, k6⟩ := run_app (P := P) (ty := o.type) (v := ev so) (xs := xs) hu hie hsz hpos hbytes hz hzs hv rfl hok hcap hsv (fun b hb => ⟨h.fro b hb, hFn b hb⟩)
    have hsame : Same F w w' := fun b hb => k4.block b (h.fro b hb) (fun e => hFn b hb e.symm)
    have st : Step base S w0 B F w w' := ⟨hsame, fun b hb => k4.block b (Nat.lt_of_lt_of_le (h.bor b hb).1 h.size.2) (fun e => hBn b hb e.symm), k4.os, k4.tape, k4.output, k4.size, fun b hb hS => k4.block b (Nat.lt_of_lt_of_le hb h.size.2) (fun e => by
      rcases (h.own _ _ _ _ b hj rfl (LV.mem_blk e.symm)).2.2.2 with h1 | h1
      · omega
      · exact hS h1)⟩
    have key := h.turn (F' := F) (l' := l') (v' := r.v + 1) (o' := .lst zf e' t' (xs ++ ys)) st hj (.inl (by omega)) (fun b hb hlt => k4.block b hlt (fun e => hb rfl (LV.mem_blk e.symm))) (fun _ h => h) (fun _ h => .inl h) (fun _ => k2) (fun _ b hb => by
      have hb := LV.blk_of k2.1 hb
      have hlt := k6 b hb
      rcases k5 with k5 | k5
      · rw [hb] at k5
        obtain ⟨a1, a2, a3, a4⟩ := h.own _ _ _ _ b hj rfl (LV.mem_blk k5.symm)
        exact ⟨a1, a2, hlt, a4, .inl ⟨rfl, LV.mem_blk k5.symm⟩⟩
      · rw [hb] at k5
        cases k5
        refine ⟨fun hF => absurd (h.fro _ hF) (by omega), fun hB => absurd (h.bor _ hB).1 (by have := h.size.2; omega), hlt, .inl h.size.2, .inr (Nat.le_refl _)⟩)
    refine ⟨_, _, _, _, w', loc.set r.s r.j l', F, hk, run k1, .inl rfl, ?_, ?_, More.refl _ _ _, ⟨rfl, ?_⟩⟩
    · simp only [Upd.next, applyUpd, Upd.at, hgr, hg, setNth_eq]; exact key.1
    · simp only [Upd.next, applyUpd, Upd.at, hgr, hg, setNth_eq]; exact key.2
    · refine .inr ⟨?_, r.v + 1, .lst zf e' t' (xs ++ ys), ?_, .inr ⟨rfl, ?_⟩⟩
      · simp [Upd.next, applyUpd, look_put]
      · have hjl : r.j < (look objs r.s).os.length := (List.getElem?_eq_some_iff.1 hj).1
        simp [Upd.next, applyUpd, look_put, Upd.at, hgr, setNth_eq, hjl]
      · simp only [viewOk, Loc.set_same, List.length_append]
  · rename_i _ r lo hi hsr
    rw [hsr] at hs hgs
    have hgr : get r.s = look objs r.s := hgs r.s (by simp [AV.slots])
    rw [ob_get hgr] at hk
    split at hk
    case h_2 => cases hk
    rename_i zf e' t' xs hob
    split at hk
    case isFalse => cases hk
    rename_i ht
    subst ht
    split at hk
    case h_2 => cases hk
    rename_i he
    have he := beq_true.1 he
    subst he
    split at hk
    case isFalse => cases hk
    rename_i hcap
    obtain ⟨hcx, hcap⟩ := hcap
    obtain ⟨hg, hj⟩ := ob_some hob (by simp)
    obtain ⟨v0, v1, v2, v3, oo, hv, hv4⟩ := RS.found (hs : Leaf objs loc F B w (.ol r (.sub lo hi)) (ev so)).2 hob (by simp)
    have hlh : lo.toNat + (hi - lo).toNat = hi.toNat := by omega
    have hok : LstOk F w (loc r.s r.j) zf e' t' xs := h.obs _ _ _ _ hj
    have hxc := hok.cap_le
    have hFn : ∀ b, F b → (loc r.s r.j).blk ≠ some b := fun b hb e => (h.own _ _ _ _ b hj rfl (LV.mem_blk e)).1 hb
    obtain ⟨hsub, hok⟩ := hok
    -- the part that is appended to, as an object of its own
    obtain ⟨l1, xs1, hl1, hx1, hok1, hb1⟩ : ∃ (l1 : LV) (xs1 : List t'.den), ev so = hdr l1 (hi - lo).toNat ∧ xs1.length = (hi - lo).toNat ∧ LstOk F w l1 zf e' t' xs1 ∧ l1.blk = (loc r.s r.j).blk ∧ l1.cap = (loc r.s r.j).cap - lo.toNat := by
      refine ⟨⟨(loc r.s r.j).blk, oo, (loc r.s r.j).cap - lo.toNat, []⟩, (xs.drop lo.toNat).take (hi - lo).toNat, hv, by rw [List.length_take, List.length_drop]; omega, ⟨rfl, ?_⟩, rfl, rfl⟩
      cases hb : (loc r.s r.j).blk with
      | none =>
        rw [hb] at hok
        obtain ⟨rfl, hc⟩ := hok
        exact ⟨by simp, by show (loc r.s r.j).cap - _ = 0; omega⟩
      | some b =>
        rw [hb] at hok
        obtain ⟨vs, fr, hh, hzf, hth, hnc, hcm, hvs, hrows⟩ := hok
        refine ⟨vs, fr, hh, hzf, hth, by rw [List.length_take, List.length_drop]; show _ ≤ (loc r.s r.j).cap - _; omega, Nat.le_trans (Nat.sub_le _ _) hcm, ?_, ?_⟩
        · by_cases hc : (loc r.s r.j).cap - lo.toNat = 0
          · exact .inl hc
          · refine .inr ?_
            show vs.size = oo + ((loc r.s r.j).cap - lo.toNat) * t'.w
            rw [hv4 hc, Nat.add_assoc, ← Nat.add_mul, Nat.add_sub_cancel' v3]
            rcases hvs with h | h
            · omega
            · exact h
        · intro i hi'
          rw [List.length_take, List.length_drop] at hi'
          have hc : (loc r.s r.j).cap - lo.toNat ≠ 0 := by omega
          obtain ⟨rs, p1, p2, p3⟩ := hrows (lo.toNat + i) (by omega)
          refine ⟨rs, p1, fun j hj => ?_, ?_⟩
          · rw [← p2 j hj, List.getElem?_drop, List.getElem?_drop]
            show vs.toList[oo + _]? = _
            rw [hv4 hc, Nat.add_mul]
            congr 1
            omega
          · rw [List.getElem_take, List.getElem_drop]; exact p3
    obtain ⟨hb1, hc1⟩ := hb1
    have hfit : (hi - lo).toNat + ys.length ≤ (loc r.s r.j).cap - lo.toNat := by omega
    -- it goes in place: the cells are written over
    obtain ⟨w', k1, k2⟩ : ∃ w', (Builtin.append_ #[t, tx] o.type #[ev so, ev xo]).run P w = .ok (hdr l1 ((hi - lo).toNat + ys.length)) w' ∧
        (w' = w ∧ ys = [] ∨ ∃ b news, (loc r.s r.j).blk = some b ∧ w' = w.setCells b ((loc r.s r.j).off + hi.toNat * t'.w) news ∧ news.length = ys.length * t'.w ∧ RowsIn (IRep F w t') t'.w news ys) := by
      obtain ⟨news, hsrc, g4⟩ := hsv
      rw [← hsz] at hsrc
      have hnl := hsrc.newsLen
      have g1 : news.length = ys.length * t'.w := by rw [hnl, hsz]
      have g3 := hsrc.one
      by_cases h0 : 0 < ys.length
      · cases hb : (loc r.s r.j).blk with
        | none =>
          rw [hb] at hok
          obtain ⟨rfl, hc⟩ := hok
          omega
        | some b =>
          rw [hb] at hok
          obtain ⟨vs, fr, hh, hzf, hth, hnc, hcm, hvs, hrows⟩ := hok
          have hvs' : vs.size = (loc r.s r.j).off + (loc r.s r.j).cap * t'.w := by rcases hvs with h | h <;> omega
          have hoo := hv4 (by omega)
          have hle : hi.toNat * t'.w + news.length ≤ (loc r.s r.j).cap * t'.w := by rw [hnl, hsz, ← Nat.add_mul]; exact Nat.mul_le_mul_right _ (by omega)
          have hst := run_sw (P := P) (w := w) b ((loc r.s r.j).off + hi.toNat * t'.w) (news := news) hh hth (by omega) g3
          have hpos2 : oo + (hi - lo).toNat * t'.w = (loc r.s r.j).off + hi.toNat * t'.w := by
            rw [hoo, Nat.add_assoc, ← Nat.add_mul]
            rw [hlh]
          rw [← hpos2, ← hsz, ← add_plain] at hst
          refine ⟨_, ?_, .inr ⟨b, news, rfl, rfl, g1, g4⟩⟩
          have hl1b : l1.blk = some b := by rw [hb1, hb]
          have hroom : (hi - lo).toNat + ys.length ≤ (loc r.s r.j).cap - lo.toNat := by omega
          have hl1v : hdr l1 ((hi - lo).toNat + ys.length) = .slice (some ⟨b, oo, none⟩) ((hi - lo).toNat + ys.length) ((loc r.s r.j).cap - lo.toNat) := by
            have := hl1.symm.trans hv
            simp only [hdr, hl1b, hb, Option.map_some, Value.slice.injEq, Option.some.injEq, Addr.mk.injEq, true_and, and_true] at this
            simp only [hdr, hl1b, Option.map_some, this.1, hc1]
          rw [hl1v, hv, hb]
          rw [hpos2.symm, ← hsz]
          simp only [Option.map_some]
          rcases hsrc.kind with ⟨e', hk'⟩ | hk' <;> simp [Builtin.append_, run_underlying hu, run_underlying hk', sizeOf, typeInfo, hie, hsrc.len, hroom, hsrc.cells, hst]
      · have hy : ys = [] := List.eq_nil_of_length_eq_zero (by omega)
        subst hy
        refine ⟨w, ?_, .inl ⟨rfl, rfl⟩⟩
        rw [hl1]
        have hle1 : (hi - lo).toNat ≤ l1.cap := by rw [hc1]; omega
        have hn0 : news = [] := List.eq_nil_of_length_eq_zero (by rw [hnl]; simp)
        subst hn0
        exact run_append_nothing w t tx o.type _ inf hu hie _ _ l1.cap hle1 _ hsrc
    have hlen2 : (List.take hi.toNat xs ++ (ys ++ List.drop (hi.toNat + ys.length) xs)).length = xs.length := by
      simp only [List.length_append, List.length_take, List.length_drop]
      omega
    -- the whole object behind it
    have hall : (∀ b, b < w.heap.size → (loc r.s r.j).blk ≠ some b → w'.heap[b]? = w.heap[b]?) ∧ w'.os = w.os ∧ w'.tape = w.tape ∧ w'.output = w.output ∧ w.heap.size = w'.heap.size ∧
        LstOk F w' (loc r.s r.j) zf e' t' (List.take hi.toNat xs ++ (ys ++ List.drop (hi.toNat + ys.length) xs)) := by
      rcases k2 with ⟨rfl, rfl⟩ | ⟨b, news, hb, rfl, hnl, hnr⟩
      · refine ⟨fun _ _ _ => rfl, rfl, rfl, rfl, rfl, ?_⟩
        rw [List.length_nil, Nat.add_zero, List.nil_append, List.take_append_drop]
        exact ⟨hsub, hok⟩
      · rw [hb] at hok
        obtain ⟨vs, fr, hh, hzf, hth, hnc, hcm, hvs, hrows⟩ := hok
        obtain ⟨c1, c2, c3, c4, c5⟩ := setCells_rest b news ((loc r.s r.j).off + hi.toNat * t'.w) w
        have hnew := setCells_heap b news ((loc r.s r.j).off + hi.toNat * t'.w) w vs hh
        have hsame : Same F w (w.setCells b ((loc r.s r.j).off + hi.toNat * t'.w) news) := fun q hq => c5 q (fun e => hFn q hq (by rw [e]; exact hb))
        refine ⟨fun q _ hq => c5 q (fun e => hq (by rw [e]; exact hb)), c1, c2, c3, c4.symm, ⟨hsub, ?_⟩⟩
        rw [hb]
        refine ⟨_, fr, hnew, hzf, ?_, by rw [hlen2]; exact hnc, hcm, ?_, ?_⟩
        · rw [List.size_toArray, setVals_len]; simpa using hth
        · rw [List.size_toArray, setVals_len]; simpa using hvs
        · have hrows' : RowsIn (IRep F (w.setCells b ((loc r.s r.j).off + hi.toNat * t'.w) news) t') t'.w (vs.toList.drop (loc r.s r.j).off) xs := hrows.mono fun x rs hx => hx.mono (fun _ hb => hb) hsame
          have hnr' : RowsIn (IRep F (w.setCells b ((loc r.s r.j).off + hi.toNat * t'.w) news) t') t'.w news ys := hnr.mono fun x rs hx => hx.mono (fun _ hb => hb) hsame
          by_cases hc0 : (loc r.s r.j).cap = 0
          · have hx0 : xs = [] := List.eq_nil_of_length_eq_zero (by omega)
            have hy0 : ys = [] := List.eq_nil_of_length_eq_zero (by omega)
            subst hx0 hy0
            intro i hi'
            simp at hi'
          · have hvs' : vs.size = (loc r.s r.j).off + (loc r.s r.j).cap * t'.w := hvs.resolve_left hc0
            have hle : hi.toNat * t'.w + news.length ≤ (loc r.s r.j).cap * t'.w := by rw [hnl, ← Nat.add_mul]; exact Nat.mul_le_mul_right _ (by omega)
            have hlen : (loc r.s r.j).off + hi.toNat * t'.w + news.length ≤ vs.toList.length := by rw [Array.length_toList (xs := vs), hvs', Nat.add_assoc]; exact Nat.add_le_add_left hle _
            rw [List.toList_toArray, setVals_splice hlen, splice_drop hlen]
            exact rowsIn_over (hi := hi.toNat) hrows' hnr' (by omega) (by rw [List.length_drop, Array.length_toList (xs := vs), hvs', Nat.add_sub_cancel_left]; exact hle) hnl
    obtain ⟨q1, q2, q3, q4, q5, q6⟩ := hall
    have hBn : ∀ b, B b → (loc r.s r.j).blk ≠ some b := fun b hb e => (h.own _ _ _ _ b hj rfl (LV.mem_blk e)).2.1 hb
    have st : Step base S w0 B F w w' := ⟨fun b hb => q1 b (h.fro b hb) (hFn b hb), fun b hb => q1 b (Nat.lt_of_lt_of_le (h.bor b hb).1 h.size.2) (hBn b hb), q2, q3, q4, by omega, fun b hb hS => q1 b (Nat.lt_of_lt_of_le hb h.size.2) (fun e => by
      rcases (h.own _ _ _ _ b hj rfl (LV.mem_blk e)).2.2.2 with h1 | h1
      · omega
      · exact hS h1)⟩
    have key := h.turn (F' := F) (l' := loc r.s r.j) (v' := r.v) (o' := .lst zf e' t' (List.take hi.toNat xs ++ (ys ++ List.drop (hi.toNat + ys.length) xs))) st hj (.inr ⟨rfl, ⟨rfl, hlen2.symm, rfl⟩⟩) (fun b hb hlt => q1 b hlt (fun e => hb rfl (LV.mem_blk e))) (fun _ h => h) (fun _ h => .inl h) (fun _ => q6) (fun _ b hb => by
      obtain ⟨a1, a2, a3, a4⟩ := h.own _ _ _ _ b hj rfl hb
      exact ⟨a1, a2, by omega, a4, .inl ⟨rfl, hb⟩⟩)
    rw [loc_same] at key
    refine ⟨_, _, _, _, w', loc, F, hk, run k1, .inl rfl, ?_, ?_, More.refl _ _ _, ⟨rfl, ?_⟩⟩
    · simp only [Upd.same, applyUpd, Upd.at, hgr, hg, setNth_eq]; exact key.1
    · simp only [Upd.same, applyUpd, Upd.at, hgr, hg, setNth_eq]; exact key.2
    · refine .inr ⟨?_, r.v, .lst zf e' t' (List.take hi.toNat xs ++ (ys ++ List.drop (hi.toNat + ys.length) xs)), ?_, .inr ⟨rfl, ?_⟩⟩
      · simp [Upd.same, applyUpd, look_put, hg]
      · have hjl : r.j < (look objs r.s).os.length := (List.getElem?_eq_some_iff.1 hj).1
        simp [Upd.same, applyUpd, look_put, Upd.at, hgr, setNth_eq, hjl]
      · show viewOk (loc r.s r.j) t'.w (List.take hi.toNat xs ++ (ys ++ List.drop (hi.toNat + ys.length) xs)).length _ _
        rw [hlen2]
        have hl1v := hl1.symm.trans hv
        refine ⟨v0, by omega, by omega, v3, oo, ?_, hv4⟩
        simp only [hdr, Value.slice.injEq] at hl1v ⊢
        refine ⟨hl1v.1, by omega, hl1v.2.2⟩
  · cases hk

theorem rowsIn_fill {α : Type} {R : α → List Value → Prop} {width lo n : Nat} {vs zs rs0 : List Value} {xs : List α} {y : α} (h : RowsIn R width vs xs) (hlo : lo + n ≤ xs.length) (hlen : lo * width + zs.length ≤ vs.length) (hzl : zs.length = n * width) (hrl : rs0.length = width)
    (hz : ∀ i j, i < n → j < width → zs[i * width + j]? = rs0[j]?) (hy : R y rs0) : RowsIn R width (splice vs (lo * width) zs) (List.take lo xs ++ (List.replicate n y ++ List.drop (lo + n) xs)) := by
  intro i hi
  simp only [List.length_append, List.length_take, List.length_replicate, List.length_drop] at hi
  have hix : i < xs.length := by omega
  by_cases h1 : i < lo
  · obtain ⟨rs, a1, a2, a3⟩ := h i hix
    refine ⟨rs, a1, fun j hj => ?_, ?_⟩
    · have : (i + 1) * width ≤ lo * width := Nat.mul_le_mul_right _ h1
      rw [Nat.add_mul] at this
      rw [splice_get _ hlen, if_pos (by omega), a2 j hj]
    · rw [List.getElem_append_left (by simp; omega), List.getElem_take]
      exact a3
  · by_cases h2 : i < lo + n
    · refine ⟨rs0, hrl, fun j hj => ?_, ?_⟩
      · have e1 : i * width = lo * width + (i - lo) * width := by rw [← Nat.add_mul]; congr 1; omega
        have e2 : (i - lo + 1) * width ≤ n * width := Nat.mul_le_mul_right _ (by omega)
        rw [Nat.add_mul] at e2
        rw [splice_get _ hlen, if_neg (by omega), if_pos (by omega), ← hz (i - lo) j (by omega) hj]
        congr 1
        omega
      · rw [List.getElem_append_right (by simp; omega), List.getElem_append_left (by simp; omega), List.getElem_replicate]
        exact hy
    · obtain ⟨rs, a1, a2, a3⟩ := h i hix
      refine ⟨rs, a1, fun j hj => ?_, ?_⟩
      · have e1 : (lo + n) * width ≤ i * width := Nat.mul_le_mul_right _ (by omega)
        rw [Nat.add_mul] at e1
        rw [splice_get _ hlen, if_neg (by omega), if_neg (by omega), a2 j hj]
      · rw [List.getElem_append_right (by simp; omega), List.getElem_append_right (by simp; omega), List.getElem_drop]
        have : ∀ k (hk : k < xs.length), k = i → R xs[k] rs := fun k hk e => by subst e; exact a3
        refine this _ _ ?_
        simp only [List.length_take, List.length_replicate]
        omega

theorem good_clear {o : Oper} {as : Array Operand} {ts : Array TypeId} {t e : Nat} {ty : Ty} {x : AV} {eA : Operand → AV} {ev : Operand → Value} {K : AV → Upd → Option ρ} {res : ρ} {get : Get} (hT : TOk P T) (ho : o.op = .call ⟨.builtin .clear, as, ts⟩) (h : SR base S B w0 objs loc F w)
    (hx : ∀ y ∈ as, Val objs loc F B w (eA y) (ev y)) (has : as.toList.map eA = [x]) (hts : ts.toList = [t]) (hkind : (T.at t).kind = .slice e ty) (hgx : ∀ q ∈ AV.slots x, get q = look objs q)
    (hk : clearK T get e ty x K = some res) : Good P base S B w0 objs loc F w o ev K res := by
  have hts' : ts = #[t] := by apply Array.ext'; simpa using hts
  subst hts'
  obtain ⟨xo, rfl, rfl⟩ : ∃ a, as = #[a] ∧ eA a = x := by
    cases hl : as.toList with
    | nil => rw [hl] at has; simp at has
    | cons a l =>
      cases l with
      | nil => rw [hl] at has; exact ⟨a, by apply Array.ext'; simpa using hl, by simpa using has⟩
      | cons _ _ => rw [hl] at has; simp at has
  have hxo := hx xo (by simp)
  unfold clearK at hk
  split at hk
  case h_2 => cases hk
  rename_i r lo hi hex
  rw [hex] at hxo hgx
  have hgr : get r.s = look objs r.s := hgx r.s (by simp [AV.slots])
  rw [ob_get hgr] at hk
  split at hk
  case h_2 => cases hk
  rename_i z e' t' xs hob
  split at hk
  case isFalse => cases hk
  rename_i ht
  subst ht
  obtain ⟨hu, inf, zv, hie, hsz, hpos, hbytes, hz, hzs, _⟩ := (hT t).slice e t' hkind
  unfold zeroRow at hk
  split at hk
  case h_1 => cases hk
  rename_i _ z0 zs0 hz0
  obtain ⟨inf', z', hi', hz', hzz⟩ := (hT e).zero (by rw [hz0]; simp)
  rw [hie] at hi'
  cases hi'
  rw [hz] at hz'
  cases hz'
  rw [hz0] at hzz
  obtain ⟨y, ks, hk, h1, h2⟩ := toRow_ok h hk (zeros_leafs hzz) (fun s hs => by rw [zeros_slots hzz] at hs; cases hs)
  split at hk
  case h_2 => cases hk
  obtain ⟨hg, hj⟩ := ob_some hob (by simp)
  obtain ⟨v0, v1, v2, v3, oo, hev, hae⟩ := RS.found (show Leaf objs loc F B w (.ol r (.sub lo hi)) (ev xo) from hxo).2 hob (by simp)
  have hok := h.obs _ _ _ _ hj
  obtain ⟨hsub, hok⟩ := (show LstOk F w (loc r.s r.j) z e' t' xs from hok)
  have hloc : loc.set r.s r.j (loc r.s r.j) = loc := by
    funext s j
    by_cases e : s = r.s ∧ j = r.j
    · rw [e.1, e.2, Loc.set_same]
    · rw [Loc.set_ne _ _ _ _ e]
  have hzero : ∀ w : World, (zeroValue e).run P w = .ok zv w := fun w => by simp [zeroValue, typeInfo, hie, hz]
  have fin : ∀ w', (Builtin.clear_ #[t] o.type #[ev xo]).run P w = .ok (.tuple #[]) w' → (execOp ev o).run P w = .ok (.value (.tuple #[])) w' := by
    intro w' hr
    rw [run_builtin ho]
    simp [builtin, hr]
  cases hb : (loc r.s r.j).blk with
  | none =>
    rw [hb] at hok hev
    obtain ⟨rfl, hc⟩ := hok
    have hlo : lo = 0 := by simp at v2; omega
    have hhi : hi = 0 := by simp at v2; omega
    subst hlo hhi
    have hrun : (Builtin.clear_ #[t] o.type #[ev xo]).run P w = .ok (.tuple #[]) w := by
      rw [hev]
      simp [Builtin.clear_, run_underlying hu]
    have st := Step.of_olds (w' := w) h (fun _ _ => rfl) rfl rfl rfl (Nat.le_refl _)
    have key := h.turn (F' := F) (l' := loc r.s r.j) (v' := r.v) (o' := .lst z e' t' []) st hj (.inr ⟨rfl, ⟨rfl, rfl, rfl⟩⟩) (fun _ _ _ => rfl) (fun _ h => h) (fun _ h => .inl h) (fun _ => by
      refine ⟨hsub, ?_⟩; rw [hb]; exact ⟨rfl, hc⟩) (fun _ k hk => by have hk := LV.blk_of hsub hk; rw [hb] at hk; cases hk)
    rw [hloc] at key
    refine ⟨.tup [], _, _, .tuple #[], w, loc, F, hk, fin _ hrun, .inl rfl, ?_, ?_, More.refl _ _ _, ⟨#[], rfl, trivial⟩⟩
    · simp only [Upd.same, applyUpd, Upd.at, hgr, hg, setNth_eq, Int.sub_self, Int.toNat_zero, List.take_nil, List.drop_nil, List.replicate_zero, List.append_nil]; exact key.1
    · simp only [Upd.same, applyUpd, Upd.at, hgr, hg, setNth_eq, Int.sub_self, Int.toNat_zero, List.take_nil, List.drop_nil, List.replicate_zero, List.append_nil]; exact key.2
  | some b =>
    rw [hb] at hok hev
    by_cases hn : (hi - lo).toNat = 0
    · have hrun : (Builtin.clear_ #[t] o.type #[ev xo]).run P w = .ok (.tuple #[]) w := by
        rw [hev, hn]
        simp [Builtin.clear_, run_underlying hu]
      have hxs : List.take lo.toNat xs ++ (List.replicate (hi - lo).toNat y ++ List.drop hi.toNat xs) = xs := by
        rw [hn, show hi.toNat = lo.toNat by omega, List.replicate_zero, List.nil_append, List.take_append_drop]
      have st := Step.of_olds (w' := w) h (fun _ _ => rfl) rfl rfl rfl (Nat.le_refl _)
      have key := h.turn (F' := F) (l' := loc r.s r.j) (v' := r.v) (o' := .lst z e' t' xs) st hj (.inr ⟨rfl, ⟨rfl, rfl, rfl⟩⟩) (fun _ _ _ => rfl) (fun _ h => h) (fun _ h => .inl h) (fun _ => by
        refine ⟨hsub, ?_⟩; rw [hb]; exact hok) (fun _ k hk => by
        obtain ⟨a1, a2, a3, a4⟩ := h.own _ _ _ _ k hj rfl hk
        exact ⟨a1, a2, a3, a4, .inl ⟨rfl, hk⟩⟩)
      rw [hloc] at key
      refine ⟨.tup [], _, _, .tuple #[], w, loc, F, hk, fin _ hrun, .inl rfl, ?_, ?_, More.refl _ _ _, ⟨#[], rfl, trivial⟩⟩
      · simp only [Upd.same, applyUpd, Upd.at, hgr, hg, setNth_eq, hxs]; exact key.1
      · simp only [Upd.same, applyUpd, Upd.at, hgr, hg, setNth_eq, hxs]; exact key.2
    obtain ⟨vs, fr, hheap, hzf, hth, hnc, hcm, hvs, hrows⟩ := hok
    have hvs' : vs.size = (loc r.s r.j).off + (loc r.s r.j).cap * t'.w := by rcases hvs with h | h <;> omega
    have hoo := hae (by omega)
    subst hoo
    have hzcl : (Builtin.zeroCells zv.cells (hi - lo).toNat).toList.length = (hi - lo).toNat * t'.w := by simp [Builtin.zeroCells, hzs]
    have hln : lo.toNat + (hi - lo).toNat ≤ xs.length := by omega
    have hle : lo.toNat * t'.w + (Builtin.zeroCells zv.cells (hi - lo).toNat).toList.length ≤ (loc r.s r.j).cap * t'.w := by
      rw [hzcl, ← Nat.add_mul]
      exact Nat.mul_le_mul_right _ (by omega)
    have hlen : (loc r.s r.j).off + lo.toNat * t'.w + (Builtin.zeroCells zv.cells (hi - lo).toNat).toList.length ≤ vs.toList.length := by
      rw [Array.length_toList (xs := vs), hvs', Nat.add_assoc]
      exact Nat.add_le_add_left hle _
    have hsz1 : ∀ v ∈ (Builtin.zeroCells zv.cells (hi - lo).toNat).toList, v.oneCell' = true := by
      intro v hv
      have hone := h1.one
      simp only [Builtin.zeroCells, Array.toList_map, Array.toList_range, List.mem_map, List.mem_range] at hv
      obtain ⟨i, hi', rfl⟩ := hv
      have hp : 0 < zv.cells.size := by rw [hzs]; exact hpos
      have hm := Nat.mod_lt i hp
      rw [getElem!_pos zv.cells (i % zv.cells.size) hm]
      exact hone _ (by simp)
    have hrun : (Builtin.clear_ #[t] o.type #[ev xo]).run P w = .ok (.tuple #[]) (w.setCells b ((loc r.s r.j).off + lo.toNat * t'.w) (Builtin.zeroCells zv.cells (hi - lo).toNat).toList) := by
      rw [hev]
      obtain ⟨m, hm⟩ : ∃ m, (hi - lo).toNat = m + 1 := ⟨(hi - lo).toNat - 1, by omega⟩
      have hst := run_sw (P := P) (w := w) b ((loc r.s r.j).off + lo.toNat * t'.w) (news := (Builtin.zeroCells zv.cells (hi - lo).toNat).toList) hheap hth (by rw [← Array.length_toList (xs := vs)]; exact hlen) hsz1
      rw [hm] at hst ⊢
      simp [Builtin.clear_, run_underlying hu, hzero, hst]
    obtain ⟨c1, c2, c3, c4, c5⟩ := setCells_rest b (Builtin.zeroCells zv.cells (hi - lo).toNat).toList ((loc r.s r.j).off + lo.toNat * t'.w) w
    have hnew := setCells_heap b (Builtin.zeroCells zv.cells (hi - lo).toNat).toList ((loc r.s r.j).off + lo.toNat * t'.w) w vs hheap
    have st := Step.of_one h hj rfl (LV.mem_blk hb) (fun k _ => c5 k) c1 c2 c3 (by omega)
    obtain ⟨a1, a2, a3, a4⟩ := h.own _ _ _ _ b hj rfl (LV.mem_blk hb)
    have hxl : (List.take lo.toNat xs ++ (List.replicate (hi - lo).toNat y ++ List.drop hi.toNat xs)).length = xs.length := by
      simp only [List.length_append, List.length_take, List.length_replicate, List.length_drop]
      omega
    have hhi : hi.toNat = lo.toNat + (hi - lo).toNat := by omega
    have key := h.turn (F' := F) (l' := loc r.s r.j) (v' := r.v) (o' := .lst z e' t' (List.take lo.toNat xs ++ (List.replicate (hi - lo).toNat y ++ List.drop hi.toNat xs))) st hj (.inr ⟨rfl, ⟨rfl, hxl.symm, rfl⟩⟩) (fun k hk _ => c5 k (fun e => by subst e; exact hk rfl (LV.mem_blk hb))) (fun _ h => h) (fun _ h => .inl h) (fun ext => by
      have hsame : Same F w (w.setCells b ((loc r.s r.j).off + lo.toNat * t'.w) (Builtin.zeroCells zv.cells (hi - lo).toNat).toList) := ext.sameF
      simp only [ObOk, LstOk, hb]
      refine ⟨hsub, _, fr, hnew, hzf, ?_, by rw [hxl]; exact hnc, hcm, ?_, ?_⟩
      · rw [List.size_toArray, setVals_len]; simpa using hth
      · rw [List.size_toArray, setVals_len]; simpa using hvs
      · rw [List.toList_toArray, setVals_splice hlen, splice_drop hlen, hhi]
        have hrows' : RowsIn (IRep F (w.setCells b ((loc r.s r.j).off + lo.toNat * t'.w) (Builtin.zeroCells zv.cells (hi - lo).toNat).toList) t') t'.w (vs.toList.drop (loc r.s r.j).off) xs := hrows.mono fun x rs hx => hx.mono (fun _ hb => hb) hsame
        have h1' : IRep F w t' y zv.cells.toList := h1.mono (fun b hb => hb.elim id (fun ⟨r, hr, _⟩ => by simp at hr)) (fun _ _ => rfl)
        refine rowsIn_fill hrows' hln (by rw [List.length_drop, Array.length_toList (xs := vs), hvs', Nat.add_sub_cancel_left]; exact hle) hzcl (by simpa using hzs) (fun i j hi' hj' => ?_) (h1'.mono (fun _ hb => hb) hsame)
        have hij : i * t'.w + j < (hi - lo).toNat * t'.w := by
          calc i * t'.w + j < i * t'.w + t'.w := by omega
            _ = (i + 1) * t'.w := by rw [Nat.add_mul, Nat.one_mul]
            _ ≤ (hi - lo).toNat * t'.w := Nat.mul_le_mul_right _ hi'
        have hmod : (i * t'.w + j) % zv.cells.size = j := by rw [hzs, Nat.mul_comm, Nat.mul_add_mod, Nat.mod_eq_of_lt hj']
        have hjz : j < zv.cells.size := by rw [hzs]; exact hj'
        simp only [Builtin.zeroCells, Array.toList_map, Array.toList_range, List.getElem?_map]
        rw [List.getElem?_range (by rw [hzs]; exact hij)]
        simp only [Option.map_some]
        rw [hmod, getElem!_pos zv.cells j hjz]
        simp [hjz]) (fun _ k hk => by
      have hk := LV.blk_of hsub hk
      rw [hb] at hk
      cases hk
      exact ⟨a1, a2, by omega, a4, .inl ⟨rfl, LV.mem_blk hb⟩⟩)
    rw [hloc] at key
    refine ⟨.tup [], _, _, .tuple #[], _, loc, F, hk, fin _ hrun, .inl rfl, ?_, ?_, More.refl _ _ _, ⟨#[], rfl, trivial⟩⟩
    · simp only [Upd.same, applyUpd, Upd.at, hgr, hg, setNth_eq]; exact key.1
    · simp only [Upd.same, applyUpd, Upd.at, hgr, hg, setNth_eq]; exact key.2
end
end Go.Eng
end

section
/-! Engine, soundness 16: every operation but the calls. -/
namespace Go.Eng
section
variable {P : Program} {T : TT} {base : Nat} {S : List Nat} {B F : Nat → Prop} {w0 : World} {objs : Upd} {loc : Loc} {w : World} {ρ : Type}

theorem leaf_of_leafy {a : AV} {v : Value} (h : Val objs loc F B w a v) (hl : a.leafy = true) : v.oneCell' = true ∧ Leaf objs loc F B w a v := by
  have one : ∀ {a : AV} {v : Value}, Leaf objs loc F B w a v → a ≠ .dead → v.oneCell' = true ∧ Leaf objs loc F B w a v := fun h hd => ⟨h.one hd, h⟩
  cases a with
  | dead => simp [AV.leafy] at hl
  | tup _ => simp [AV.leafy] at hl
  | agg _ => simp [AV.leafy] at hl
  | fn f cs =>
    cases cs with
    | cons _ _ => simp [AV.leafy] at hl
    | nil =>
      obtain ⟨vs, rfl, hl⟩ := h
      have : vs.toList = [] := by cases hvs : vs.toList with | nil => rfl | cons _ _ => rw [hvs] at hl; exact hl.elim
      have : vs = #[] := by simpa using this
      subst this
      exact ⟨rfl, rfl, rfl⟩
  | int k n => exact one (a := .int k n) h (by simp)
  | bool b => exact one (a := .bool b) h (by simp)
  | str s => exact one (a := .str s) h (by simp)
  | nils => exact one (a := .nils) h (by simp)
  | nilp => exact one (a := .nilp) h (by simp)
  | il b t xs => exact one (a := .il b t xs) h (by simp)
  | ol r vw => exact one (a := .ol r vw) h (by simp)
  | ptr r off => exact one (a := .ptr r off) h (by simp)
  | ep r i off => exact one (a := .ep r i off) h (by simp)
  | ip b t xs i off => exact one (a := .ip b t xs i off) h (by simp)

theorem leafs_of_leafy {eA : Operand → AV} {ev : Operand → Value} : ∀ {xs : List Operand}, (∀ x ∈ xs, Val objs loc F B w (eA x) (ev x)) → (xs.map eA).all AV.leafy = true → Leafs objs loc F B w (xs.map eA) (xs.map ev)
  | [], _, _ => trivial
  | x :: xs, h, hl => by
    simp only [List.map_cons, List.all_cons, Bool.and_eq_true] at hl
    obtain ⟨h1, h2⟩ := leaf_of_leafy (h x (by simp)) hl.1
    exact ⟨h1, h2, leafs_of_leafy (fun y hy => h y (List.mem_cons_of_mem _ hy)) hl.2⟩

theorem good_func {o : Oper} {f : Nat} {fs cs : Array Operand} {eA : Operand → AV} {ev : Operand → Value} {K : AV → Upd → Option ρ} {res : ρ} (ho : o.op = .makeFunc (.func f) fs cs) (h : SR base S B w0 objs loc F w)
    (hx : ∀ x ∈ cs, Val objs loc F B w (eA x) (ev x)) (hk : funcK f fs.toList (cs.toList.map eA) K = some res) : Good P base S B w0 objs loc F w o ev K res := by
  unfold funcK at hk
  split at hk
  · rename_i hfs hall
    have hfs : fs = #[] := by apply Array.ext'; simpa using hfs
    subst hfs
    refine Good.pure (cv := .func (.func f) #[] (cs.map ev)) h hk (by simp [execOp, ho, Instr.makeFunc]) ⟨_, rfl, ?_⟩
    rw [Array.toList_map]
    exact leafs_of_leafy (fun x hm => hx x (by simpa using hm)) hall
  · cases hk

theorem good_bin {o : Oper} {op : BinOp} {t u : TypeId} {x y : Operand} {ax ay : AV} {ev : Operand → Value} {K : AV → Upd → Option ρ} {res : ρ} (hT : TOk P T) (ho : o.op = .binOp op t x y u) (h : SR base S B w0 objs loc F w)
    (hx : Val objs loc F B w ax (ev x)) (hy : Val objs loc F B w ay (ev y)) (hk : binK T op t ax ay K = some res) : Good P base S B w0 objs loc F w o ev K res := by
  unfold binK at hk
  split at hk
  · split at hk
    · exact good_shift ho h hx hy hk
    · exact good_shift ho h hx hy hk
    · rename_i n1 n2
      split at hk
      · rename_i e
        subst e
        exact good_bin_int ho h hx hy ⟨n1, n2⟩ hk
      · cases hk
  · exact good_bin_str ho h hx hy hk
  · exact good_bin_bool hT ho h hx hy hk
  · exact good_bin_agg hT ho h hx hy hk
  · cases hk

theorem good_builtin {o : Oper} {b : Builtin} {as : Array Operand} {ts : Array TypeId} {d : Nat} {eA : Operand → AV} {ev : Operand → Value} {K : AV → Upd → Option ρ} {res : ρ} {get : Get} (hT : TOk P T) (ho : o.op = .call ⟨.builtin b, as, ts⟩) (h : SR base S B w0 objs loc F w)
    (hx : ∀ y ∈ as, Val objs loc F B w (eA y) (ev y)) (hg : ∀ y ∈ as, ∀ s ∈ AV.slots (eA y), get s = look objs s) (hd : get d = look objs d) (hk : builtinK T get d b (as.toList.map eA) ts.toList K = some res) : Good P base S B w0 objs loc F w o ev K res := by
  have hgm : ∀ v ∈ as.toList.map eA, ∀ s ∈ AV.slots v, get s = look objs s := fun v hv s hs => by
    obtain ⟨y, hy, rfl⟩ := List.mem_map.1 hv
    exact hg y (by simpa using hy) s hs
  unfold builtinK at hk
  split at hk
  · split at hk
    · rename_i has hts
      split at hk
      · rename_i n hl
        exact good_len hT ho h hx has hts (hgm _ (by rw [has]; simp)) hl hk
      · cases hk
    · cases hk
  · split at hk
    · rename_i s x t t' has hts
      split at hk
      · rename_i e ty hkind
        split at hk
        · rename_i happ
          exact good_append hT ho h hx has hts hkind (hgm _ (by rw [has]; simp)) (hgm _ (by rw [has]; simp)) hd happ hk
        · cases hk
      · cases hk
    · cases hk
  · split at hk
    · rename_i k a k' b has
      split at hk
      · rename_i e
        subst e
        exact good_minmax (mx := false) ho h hx has hk
      · cases hk
    · cases hk
  · split at hk
    · rename_i k a k' b has
      split at hk
      · rename_i e
        subst e
        exact good_minmax (mx := true) ho h hx has hk
      · cases hk
    · cases hk
  · split at hk
    · rename_i x t has hts
      split at hk
      · rename_i e ty hkind
        exact good_clear hT ho h hx has hts hkind (hgm _ (by rw [has]; simp)) hk
      · cases hk
    · cases hk
  · cases hk

theorem op_good {call : CallF ρ} {o : Oper} {d : Nat} {eA : Operand → AV} {ev : Operand → Value} {K : AV → Upd → Option ρ} {res : ρ} {get : Get} (hT : TOk P T) (h : SR base S B w0 objs loc F w) (hcall : isCall o.op = false)
    (hx : ∀ x ∈ o.op.operands, Val objs loc F B w (eA x) (ev x)) (hg : ∀ x ∈ o.op.operands, ∀ s ∈ AV.slots (eA x), get s = look objs s) (hd : get d = look objs d) (hk : opK T call eA get d o.op K = some res) : Good P base S B w0 objs loc F w o ev K res := by
  unfold opK at hk
  split at hk
  case h_1 => rename_i ho; rw [ho] at hx; exact good_move (.inl ho) h hk (hx _ (by simp [Op.operands]))
  case h_2 => rename_i ho; rw [ho] at hx; exact good_move (.inr ho) h hk (hx _ (by simp [Op.operands]))
  case h_3 => rename_i ho; rw [ho] at hx; exact good_pickK ho h (hx _ (by simp [Op.operands])) (hx _ (by simp [Op.operands])) (hx _ (by simp [Op.operands])) hk
  case h_4 => rename_i ho; exact good_alloc hT ho h hd hk
  case h_5 => rename_i ho; rw [ho] at hx; exact good_box ho h hd (hx _ (by simp [Op.operands])) hk
  case h_6 =>
    rename_i ho; rw [ho] at hx
    exact good_struct hT ho h (fun p hp => hx _ (by simp only [Op.operands]; simp; exact ⟨_, hp⟩)) hk
  case h_7 =>
    rename_i ho; rw [ho] at hx hg
    exact good_lit hT ho h hd (fun p hp => hx _ (by simp only [Op.operands]; simp; exact ⟨_, hp⟩)) (fun p hp => hg _ (by simp only [Op.operands]; simp; exact ⟨_, hp⟩)) hk
  case h_8 => rename_i ho; rw [ho] at hx hg; exact good_load hT ho h (hx _ (by simp [Op.operands])) (hg _ (by simp [Op.operands])) hk
  case h_9 =>
    rename_i ho; rw [ho] at hx hg
    split at hk
    · rename_i hs
      simp only [Bool.and_eq_true, Nat.ble_eq] at hs
      exact good_store hT ho h (hx _ (by simp [Op.operands])) (hx _ (by simp [Op.operands])) (hg _ (by simp [Op.operands])) (hg _ (by simp [Op.operands])) hs.1 (beq_true.1 hs.2.1) hs.2.2 hk
    · cases hk
  case h_10 => rename_i ho; rw [ho] at hx hg; exact good_nil ho h (hx _ (by simp [Op.operands])) (hg _ (by simp [Op.operands])) hk
  case h_11 => rename_i ho; rw [ho] at hx; exact good_bin hT ho h (hx _ (by simp [Op.operands])) (hx _ (by simp [Op.operands])) hk
  case h_12 => rename_i ho; rw [ho] at hx; exact good_un ho h (hx _ (by simp [Op.operands])) hk
  case h_13 => rename_i ho; rw [ho] at hx hg; exact good_conv hT ho h hd (hx _ (by simp [Op.operands])) (hg _ (by simp [Op.operands])) hk
  case h_14 => rename_i ho; rw [ho] at hx; exact good_func ho h (fun x hm => hx _ (by simp [Op.operands]; exact .inr hm)) hk
  case h_15 => rename_i ho; rw [ho] at hx; exact good_make hT ho h hd (hx _ (by simp [Op.operands])) (hx _ (by simp [Op.operands])) hk
  case h_16 =>
    rename_i ho; rw [ho] at hx hg
    exact good_cut hT ho h (hx _ (by simp [Op.operands])) (fun y e => by subst e; exact hx _ (by simp [Op.operands])) (fun y e => by subst e; exact hx _ (by simp [Op.operands])) (hg _ (by simp [Op.operands])) hk
  case h_17 => rename_i ho; rw [ho] at hx hg; exact good_fieldAddr hT ho h (hx _ (by simp [Op.operands])) (hg _ (by simp [Op.operands])) hk
  case h_18 => rename_i ho; rw [ho] at hx; exact good_field hT ho h (hx _ (by simp [Op.operands])) hk
  case h_19 => rename_i ho; rw [ho] at hx hg; exact good_idxAddr hT ho h (hx _ (by simp [Op.operands])) (hx _ (by simp [Op.operands])) (hg _ (by simp [Op.operands])) hk
  case h_20 => rename_i ho; rw [ho] at hx; exact good_idx hT ho h (hx _ (by simp [Op.operands])) (hx _ (by simp [Op.operands])) hk
  case h_21 => rename_i ho; rw [ho] at hx; exact good_extract ho h (hx _ (by simp [Op.operands])) hk
  case h_22 =>
    rename_i ho; rw [ho] at hx hg
    exact good_builtin hT ho h (fun y hy => hx _ (by simp [Op.operands, Call.operands]; exact hy)) (fun y hy => hg _ (by simp [Op.operands, Call.operands]; exact hy)) hd hk
  case h_23 => rename_i ho; rw [ho] at hcall; simp [isCall] at hcall
  case h_24 => cases hk
end
end Go.Eng
end

section
/-! Engine, soundness 17: an operation hands one thing on. -/
namespace Go.Eng
section
variable {ρ : Type}

def pr {α β : Type} (a : α) (b : β) : Option (α × β) := some (a, b)
/-- It hands K one pair. -/
def Nat2 {α β ρ : Type} (r : Option (α × β)) (K : α → β → Option ρ) : Option ρ := r.bind fun p => K p.1 p.2
def Nat1 {α ρ : Type} (r : Option α) (K : α → Option ρ) : Option ρ := r.bind K

theorem imm_nat (get : Get) (t : Ty) (v : AV) (K : t.den → List Ref → Option ρ) : imm get t v K = Nat2 (imm get t v pr) K := by
  have ii : ∀ {k : IntKind} {k' : IntKind} {n : Int} (K : Int → List Ref → Option ρ), imm get (.int k) (.int k' n) K = Nat2 (imm get (.int k) (.int k' n) pr) K := by
    intro k k' n K
    simp only [imm]
    by_cases h : k' = k
    · rw [if_pos h, if_pos h]; rfl
    · rw [if_neg h, if_neg h]; rfl
  have il : ∀ {t t' : Ty} {xs : List t'.den} (K : List t.den → List Ref → Option ρ), imm get (.list t) (.il false t' xs) K = Nat2 (imm get (.list t) (.il false t' xs) pr) K := by
    intro t t' xs K
    simp only [imm]
    by_cases h : t' = t
    · rw [dif_pos h, dif_pos h]; rfl
    · rw [dif_neg h, dif_neg h]; rfl
  have ol : ∀ {t : Ty} {r : Ref} {v : View} (K : List t.den → List Ref → Option ρ), imm get (.list t) (.ol r v) K = Nat2 (imm get (.list t) (.ol r v) pr) K := by
    intro t r v K
    simp only [imm]
    cases get.ob r with
    | gone => rfl
    | box => rfl
    | lst z e t' xs =>
      dsimp only
      by_cases h : t' = t
      · rw [dif_pos h, dif_pos h]; rfl
      · rw [dif_neg h, dif_neg h]; rfl
  cases t <;> cases v <;> first | rfl | exact ii K | exact ol K | (rename_i b _ _; cases b; exact il K; rfl)

theorem toRow_nat (get : Get) : ∀ (t : Ty) {ρ : Type} (cs : List AV) (K : t.den → List Ref → Option ρ), toRow get t cs K = Nat2 (toRow get t cs pr) K
  | .unit, _, cs, K => by cases cs <;> rfl
  | .pair a b, ρ, cs, K => by
    simp only [toRow]
    have e1 := toRow_nat get a (cs.take a.w) (fun x ks => toRow get b (cs.drop a.w) fun y ks' => K (x, y) (ks ++ ks'))
    have e2 := toRow_nat get a (cs.take a.w) (fun x ks => toRow get b (cs.drop a.w) fun y ks' => pr ((x, y) : a.den × b.den) (ks ++ ks'))
    rw [e1, e2]
    cases toRow get a (cs.take a.w) pr with
    | none => rfl
    | some p =>
      simp only [Nat2, Option.bind_some]
      have e1 := toRow_nat get b (cs.drop a.w) (fun y ks' => K (p.1, y) (p.2 ++ ks'))
      have e2 := toRow_nat get b (cs.drop a.w) (fun y ks' => pr ((p.1, y) : a.den × b.den) (p.2 ++ ks'))
      rw [e1, e2]
      cases toRow get b (cs.drop a.w) pr with
      | none => rfl
      | some q => rfl
  | .int k, _, cs, K => by
    cases cs with
    | nil => rfl
    | cons v cs => cases cs with
      | nil => exact imm_nat get _ v K
      | cons _ _ => rfl
  | .bool, _, cs, K => by
    cases cs with
    | nil => rfl
    | cons v cs => cases cs with
      | nil => exact imm_nat get _ v K
      | cons _ _ => rfl
  | .str, _, cs, K => by
    cases cs with
    | nil => rfl
    | cons v cs => cases cs with
      | nil => exact imm_nat get _ v K
      | cons _ _ => rfl
  | .list t, _, cs, K => by
    cases cs with
    | nil => rfl
    | cons v cs => cases cs with
      | nil => exact imm_nat get _ v K
      | cons _ _ => rfl

theorem putRow_nat (get : Get) : ∀ (t : Ty) {ρ : Type} (x : t.den) (off : Nat) (cs : List AV) (K : t.den → List Ref → Option ρ), putRow get t x off cs K = Nat2 (putRow get t x off cs pr) K
  | .pair a b, _, x, off, cs, K => by
    simp only [putRow]
    split
    · exact toRow_nat get (.pair a b) cs K
    · split
      · have e1 := putRow_nat get a x.1 off cs (fun y ks => K (y, x.2) ks)
        have e2 := putRow_nat get a x.1 off cs (fun y ks => pr ((y, x.2) : a.den × b.den) ks)
        rw [e1, e2]
        cases putRow get a x.1 off cs pr <;> rfl
      · have e1 := putRow_nat get b x.2 (off - a.w) cs (fun y ks => K (x.1, y) ks)
        have e2 := putRow_nat get b x.2 (off - a.w) cs (fun y ks => pr ((x.1, y) : a.den × b.den) ks)
        rw [e1, e2]
        cases putRow get b x.2 (off - a.w) cs pr <;> rfl
  | .int k, _, x, off, cs, K => by cases off with | zero => exact toRow_nat get (.int k) cs K | succ n => rfl
  | .bool, _, x, off, cs, K => by cases off with | zero => exact toRow_nat get .bool cs K | succ n => rfl
  | .str, _, x, off, cs, K => by cases off with | zero => exact toRow_nat get .str cs K | succ n => rfl
  | .list t, _, x, off, cs, K => by cases off with | zero => exact toRow_nat get (.list t) cs K | succ n => rfl
  | .unit, _, x, off, cs, K => by cases off with | zero => exact toRow_nat get .unit cs K | succ n => rfl

theorem toRows_nat (get : Get) (t : Ty) : ∀ (vs : List AV) {ρ : Type} (K : List t.den → List Ref → Option ρ), toRows get t vs K = Nat2 (toRows get t vs pr) K
  | [], _, _ => rfl
  | v :: vs, _, K => by
    simp only [toRows]
    split
    · have e1 := toRow_nat get t v.cells (fun x ks => toRows get t vs fun xs ks' => K (x :: xs) (ks ++ ks'))
      have e2 := toRow_nat get t v.cells (fun x ks => toRows get t vs fun xs ks' => pr (x :: xs) (ks ++ ks'))
      rw [e1, e2]
      cases toRow get t v.cells pr with
      | none => rfl
      | some p =>
        simp only [Nat2, Option.bind_some]
        have e1 := toRows_nat get t vs (fun xs ks' => K (p.1 :: xs) (p.2 ++ ks'))
        have e2 := toRows_nat get t vs (fun xs ks' => pr (p.1 :: xs) (p.2 ++ ks'))
        rw [e1, e2]
        cases toRows get t vs pr <;> rfl
    · rfl

theorem dif_nat {α : Type} {t t' : Ty} (xs : List t'.den) (f : List t.den → List t.den) (K : List t.den → Option ρ) : (if h : t' = t then K (f (h ▸ xs)) else none) = Nat1 (if h : t' = t then some (f (h ▸ xs)) else none) K := by
  by_cases h : t' = t
  · rw [dif_pos h, dif_pos h]; rfl
  · rw [dif_neg h, dif_neg h]; rfl

theorem rowsOf_nat (get : Get) (t : Ty) (v : AV) (K : List t.den → Option ρ) : rowsOf get t v K = Nat1 (rowsOf get t v some) K := by
  cases v with
  | il b t' xs =>
    simp only [rowsOf]
    cases (!b || t.flat) with
    | false => rfl
    | true => exact dif_nat (α := Unit) xs (fun x => x) K
  | ol r vw =>
    simp only [rowsOf]
    cases get.ob r with
    | gone => rfl
    | box => rfl
    | lst z e t' xs => exact dif_nat (α := Unit) xs (fun x => view x vw) K
  | str s =>
    simp only [rowsOf]
    by_cases h : t = .int .u8
    · rw [dif_pos h, dif_pos h]; rfl
    · rw [dif_neg h, dif_neg h]; rfl
  | _ => rfl

theorem appendK_nat (get : Get) (d e : Nat) (t : Ty) (cap : Nat) (s : AV) (ys : List t.den) (K : AV → Upd → Option ρ) : appendK get d e t cap s ys K = Nat2 (appendK get d e t cap s ys pr) K := by
  cases s with
  | nils =>
    simp only [appendK]
    split <;> rfl
  | ol r vw =>
    cases vw with
    | sub lo hi =>
      simp only [appendK]
      cases get.ob r with
      | gone => rfl
      | box => rfl
      | lst z e' t' xs =>
        dsimp only
        by_cases h : t' = t
        · rw [dif_pos h, dif_pos h]
          split
          · split <;> rfl
          · rfl
        · rw [dif_neg h, dif_neg h]; rfl
    | whole =>
      simp only [appendK]
      cases get.ob r with
      | gone => rfl
      | box => rfl
      | lst z e' t' xs =>
        dsimp only
        by_cases h : t' = t
        · rw [dif_pos h, dif_pos h]
          split
          · split <;> rfl
          · rfl
        · rw [dif_neg h, dif_neg h]; rfl
  | _ => rfl

theorem boxInts_nat (k : IntKind) : ∀ {ρ : Type} (cs : List AV) (K : List Int → Option ρ), boxInts k cs K = Nat1 (boxInts k cs some) K
  | _, [], _ => rfl
  | _, c :: cs, K => by
    cases c <;> try rfl
    simp only [boxInts]
    split
    · refine (boxInts_nat k cs _).trans (Eq.trans ?_ (congrArg (fun r => Nat1 r K) (boxInts_nat k cs _)).symm)
      cases boxInts k cs some <;> rfl
    · rfl

theorem loadK_nat (T : TT) (get : Get) (t : Nat) (a : AV) (K : AV → Option ρ) : loadK T get t a K = Nat1 (loadK T get t a some) K := by
  unfold loadK
  dsimp only
  split
  case h_2 =>
    split
    case h_2 =>
      split
      · refine (boxInts_nat _ _ _).trans (Eq.trans ?_ (congrArg (fun r => Nat1 r K) (boxInts_nat _ _ _)).symm)
        cases boxInts _ _ some with
        | none => rfl
        | some xs => simp only [Nat1, Option.bind_some]; split <;> rfl
      · rfl
    all_goals (repeat' split) <;> rfl
  all_goals (repeat' split) <;> rfl

theorem storeK_nat (get : Get) (a v : AV) (K : Upd → Option ρ) : storeK get a v K = Nat1 (storeK get a v some) K := by
  unfold storeK
  split
  · (repeat' split) <;> rfl
  · split
    · rename_i r ix off _ z e t0 xs _
      refine (putRow_nat get t0 (Ty.rd xs ix) off v.cells _).trans (Eq.trans ?_ (congrArg (fun r => Nat1 r K) (putRow_nat get t0 (Ty.rd xs ix) off v.cells _)).symm)
      cases putRow get t0 (Ty.rd xs ix) off v.cells pr with
      | none => rfl
      | some p =>
        simp only [Nat2, Option.bind_some]
        split <;> rfl
    · rfl
  · rfl

theorem buildK_nat (T : TT) (offs : List (Nat × Nat)) : ∀ (ps : List (Nat × AV)) (cs : List AV) (K : List AV → Option ρ), buildK T offs cs ps K = Nat1 (buildK T offs cs ps some) K
  | [], _, _ => rfl
  | (i, v) :: r, cs, K => by
    simp only [buildK]
    split
    · split
      · split
        · exact buildK_nat T offs r _ K
        · rfl
      · rfl
    · rfl

theorem sliceIdx_nat (len bound : Int) (lo hi : Option AV) (K : Int → Int → Option ρ) : sliceIdx len bound lo hi K = Nat2 (sliceIdx len bound lo hi pr) K := by
  unfold sliceIdx
  split <;> (repeat' split) <;> rfl

theorem dif_nat2 {t t' : Ty} (xs : List t'.den) (f : List t.den → List t.den) (tk : Took) (K : List t.den → Took → Option ρ) : (if h : t' = t then K (f (h ▸ xs)) tk else none) = Nat2 (if h : t' = t then pr (f (h ▸ xs)) tk else none) K := by
  by_cases h : t' = t
  · rw [dif_pos h, dif_pos h]; rfl
  · rw [dif_neg h, dif_neg h]; rfl

theorem pack_nat (get : Get) (p : Pat) : ∀ {ρ : Type} (vs : List AV) (K : p.den → Took → Option ρ), pack get p vs K = Nat2 (pack get p vs pr) K := by
  induction p with
  | any =>
    intro ρ vs K
    match vs with
    | [] => rfl
    | [v] => rfl
    | _ :: _ :: _ => rfl
  | int k =>
    intro ρ vs K
    match vs with
    | [] => rfl
    | [v] =>
      cases v <;> try rfl
      rename_i k' n
      simp only [pack]
      by_cases h : k' = k
      · rw [if_pos h, if_pos h]; rfl
      · rw [if_neg h, if_neg h]; rfl
    | v :: _ :: _ => cases v <;> rfl
  | bool =>
    intro ρ vs K
    match vs with
    | [] => rfl
    | [v] => cases v <;> rfl
    | v :: _ :: _ => cases v <;> rfl
  | nils =>
    intro ρ vs K
    match vs with
    | [] => rfl
    | [v] => cases v <;> rfl
    | v :: _ :: _ => cases v <;> rfl
  | str =>
    intro ρ vs K
    match vs with
    | [] => rfl
    | [v] => cases v <;> rfl
    | v :: _ :: _ => cases v <;> rfl
  | il b t =>
    intro ρ vs K
    match vs with
    | [] => rfl
    | [v] =>
      cases v <;> try rfl
      · rename_i b' t' xs
        simp only [pack]
        cases (b' && !b) with
        | true => rfl
        | false => exact dif_nat2 xs (fun x => x) _ K
      · rename_i r vw
        simp only [pack]
        cases get.ob r with
        | gone => rfl
        | box => rfl
        | lst z e t' xs => exact dif_nat2 xs (fun x => view x vw) _ K
    | v :: _ :: _ => cases v <;> rfl
  | own z e t =>
    intro ρ vs K
    match vs with
    | [] => cases z <;> rfl
    | [v] =>
      cases v <;> try (cases z <;> rfl)
      rename_i r vw
      cases vw with
      | sub lo hi =>
        cases z <;>
        · simp only [pack]
          cases get.ob r with
          | gone => rfl
          | box => rfl
          | lst z' e' t' xs =>
            dsimp only
            by_cases h : t' = t
            · rw [dif_pos h, dif_pos h]
              split <;> rfl
            · rw [dif_neg h, dif_neg h]; rfl
      | whole =>
        cases z <;>
        · simp only [pack]
          cases get.ob r with
          | gone => rfl
          | box => rfl
          | lst z' e' t' xs =>
            dsimp only
            by_cases h : t' = t
            · rw [dif_pos h, dif_pos h]; split <;> rfl
            · rw [dif_neg h, dif_neg h]; rfl
    | v :: _ :: _ => cases v <;> cases z <;> first | rfl | (rename_i vw; cases vw <;> rfl)
  | «mut» z e t =>
    intro ρ vs K
    match vs with
    | [] => cases z <;> rfl
    | [v] =>
      cases v <;> try (cases z <;> rfl)
      rename_i r vw
      cases vw with
      | sub lo hi => cases z <;> rfl
      | whole =>
        cases z <;>
        · simp only [pack]
          cases get.ob r with
          | gone => rfl
          | box => rfl
          | lst z' e' t' xs =>
            dsimp only
            by_cases h : t' = t
            · rw [dif_pos h, dif_pos h]; split <;> rfl
            · rw [dif_neg h, dif_neg h]; rfl
    | v :: _ :: _ => cases v <;> cases z <;> first | rfl | (rename_i vw; cases vw <;> rfl)
  | nil =>
    intro ρ vs K
    match vs with
    | [] => rfl
    | _ :: _ => rfl
  | ptr po p ih =>
    intro ρ vs K
    match vs with
    | [] => rfl
    | [v] =>
      cases v <;> try rfl
      rename_i r off
      simp only [pack]
      cases Nat.beq off po with
      | false => rfl
      | true =>
        dsimp only
        cases get.ob r with
        | gone => rfl
        | lst => rfl
        | box cs =>
          refine (ih cs _).trans (Eq.trans ?_ (congrArg (fun r => Nat2 r K) (ih cs _)).symm)
          cases pack get p cs pr <;> rfl
    | v :: _ :: _ => cases v <;> rfl
  | agg p ih =>
    intro ρ vs K
    match vs with
    | [] => rfl
    | [v] => cases v <;> first | rfl | exact ih _ K
    | v :: _ :: _ => cases v <;> rfl
  | mag p ih =>
    intro ρ vs K
    match vs with
    | [] => rfl
    | [v] => cases v <;> first | rfl | exact ih _ K
    | v :: _ :: _ => cases v <;> rfl
  | tup p ih =>
    intro ρ vs K
    match vs with
    | [] => rfl
    | [v] => cases v <;> first | rfl | exact ih _ K
    | v :: _ :: _ => cases v <;> rfl
  | fn f p ih =>
    intro ρ vs K
    match vs with
    | [] => rfl
    | [v] =>
      cases v <;> try rfl
      simp only [pack]
      split
      · exact ih _ K
      · rfl
    | v :: _ :: _ => cases v <;> rfl
  | cons a b iha ihb =>
    intro ρ vs K
    match vs with
    | [] => rfl
    | v :: vs =>
      simp only [pack]
      refine (iha [v] _).trans (Eq.trans ?_ (congrArg (fun r => Nat2 r K) (iha [v] _)).symm)
      cases pack get a [v] pr with
      | none => rfl
      | some p =>
        simp only [Nat2, Option.bind_some]
        refine (ihb vs _).trans (Eq.trans ?_ (congrArg (fun r => Nat2 r K) (ihb vs _)).symm)
        cases pack get b vs pr <;> rfl

theorem callK_nat (es : List Entry) (f : Nat) (args : List AV) (get : Get) (d : Nat) (K : AV → Upd → Option ρ) : callK es f args get d K = Nat2 (callK es f args get d pr) K := by
  unfold callK
  cases findE f (keyOf args) es with
  | none => rfl
  | some e =>
    dsimp only
    refine (pack_nat get e.ps args _).trans (Eq.trans ?_ (congrArg (fun r => Nat2 r K) (pack_nat get e.ps args _)).symm)
    cases pack get e.ps args pr with
    | none => rfl
    | some p =>
      simp only [Nat2, Option.bind_some]
      split
      · rfl
      · cases e.F p.1 <;> rfl

theorem litK_nat (get : Get) (d : Nat) (k : TK) (n : Nat) (vs : Option (List AV)) (K : AV → Upd → Option ρ) : litK get d k n vs K = Nat2 (litK get d k n vs pr) K := by
  unfold litK
  split
  · split
    · refine (toRows_nat get _ _ _).trans (Eq.trans ?_ (congrArg (fun r => Nat2 r K) (toRows_nat get _ _ _)).symm)
      cases toRows get _ _ pr with
      | none => rfl
      | some p =>
        simp only [Nat2, Option.bind_some]
        split <;> rfl
    · rfl
  · rfl

theorem convK_nat (get : Get) (d sw : Nat) (src dst : TK) (x : AV) (K : AV → Upd → Option ρ) : convK get d sw src dst x K = Nat2 (convK get d sw src dst x pr) K := by
  unfold convK
  split
  · (repeat' split) <;> rfl
  · (repeat' split) <;> rfl
  · split
    · (repeat' split) <;> rfl
    · split
      · split
        · rfl
        · refine (rowsOf_nat get (.int .u8) _ _).trans (Eq.trans ?_ (congrArg (fun r => Nat2 r K) (rowsOf_nat get (.int .u8) _ _)).symm)
          cases rowsOf get (.int .u8) _ some <;> rfl
      · rfl
    · rfl
  · rfl

theorem makeK_nat (T : TT) (get : Get) (d : Nat) (k : TK) (n m : AV) (K : AV → Upd → Option ρ) : makeK T get d k n m K = Nat2 (makeK T get d k n m pr) K := by
  unfold makeK
  split
  · split
    · split
      · unfold zeroRow
        split
        · rfl
        · refine (toRow_nat get _ _ _).trans (Eq.trans ?_ (congrArg (fun r => Nat2 r K) (toRow_nat get _ _ _)).symm)
          cases toRow get _ _ pr with
          | none => rfl
          | some p =>
            simp only [Nat2, Option.bind_some]
            split <;> rfl
      · rfl
    · rfl
  · rfl

theorem cutK_nat (get : Get) (k : TK) (x : AV) (lo hi : Option AV) (K : AV → Upd → Option ρ) : cutK get k x lo hi K = Nat2 (cutK get k x lo hi pr) K := by
  have go : ∀ (len bound : Int) (f : Int → Int → AV), sliceIdx len bound lo hi (fun l h => K (f l h) []) = Nat2 (sliceIdx len bound lo hi (fun l h => pr (f l h) ([] : Upd))) K := by
    intro len bound f
    refine (sliceIdx_nat len bound lo hi _).trans (Eq.trans ?_ (congrArg (fun r => Nat2 r K) (sliceIdx_nat len bound lo hi _)).symm)
    cases sliceIdx len bound lo hi pr <;> rfl
  unfold cutK
  split
  · exact go _ _ _
  · exact go _ _ _
  · split
    · exact go _ _ _
    · rfl
  · split
    · split
      · exact go _ _ _
      · rfl
    · rfl
  · split
    · split
      · exact go _ _ _
      · rfl
    · rfl
  · rfl

theorem binK_nat (T : TT) (op : BinOp) (t : Nat) (x y : AV) (K : AV → Upd → Option ρ) : binK T op t x y K = Nat2 (binK T op t x y pr) K := by
  unfold binK
  split
  · split
    · unfold shiftBin; (repeat' split) <;> rfl
    · unfold shiftBin; (repeat' split) <;> rfl
    · split
      · unfold intBin; (repeat' split) <;> rfl
      · rfl
  · unfold strBin; (repeat' split) <;> rfl
  · unfold boolK; (repeat' split) <;> rfl
  · unfold aggK; (repeat' split) <;> rfl
  · rfl

theorem clearK_nat (T : TT) (get : Get) (e : Nat) (ty : Ty) (x : AV) (K : AV → Upd → Option ρ) : clearK T get e ty x K = Nat2 (clearK T get e ty x pr) K := by
  unfold clearK
  split
  · split
    · rename_i z e' t' xs _
      by_cases h : t' = ty
      · rw [dif_pos h, dif_pos h]
        unfold zeroRow
        split
        · rfl
        · refine (toRow_nat get _ _ _).trans (Eq.trans ?_ (congrArg (fun r => Nat2 r K) (toRow_nat get _ _ _)).symm)
          cases toRow get _ _ pr with
          | none => rfl
          | some p =>
            simp only [Nat2, Option.bind_some]
            split <;> rfl
      · rw [dif_neg h, dif_neg h]; rfl
    · rfl
  · rfl

theorem builtinK_nat (T : TT) (get : Get) (d : Nat) (b : Builtin) (xs : List AV) (ts : List Nat) (K : AV → Upd → Option ρ) : builtinK T get d b xs ts K = Nat2 (builtinK T get d b xs ts pr) K := by
  unfold builtinK
  split
  · (repeat' split) <;> rfl
  · split
    · split
      · split
        · refine (rowsOf_nat get _ _ _).trans (Eq.trans ?_ (congrArg (fun r => Nat2 r K) (rowsOf_nat get _ _ _)).symm)
          cases rowsOf get _ _ some with
          | none => rfl
          | some p => exact appendK_nat _ _ _ _ _ _ _ K
        · rfl
      · rfl
    · rfl
  · (repeat' split) <;> rfl
  · (repeat' split) <;> rfl
  · split
    · split
      · exact clearK_nat _ _ _ _ _ K
      · rfl
    · rfl
  · rfl

theorem opK_nat (T : TT) (es : List Entry) (ev : Operand → AV) (get : Get) (d : Nat) (o : Op) (K : AV → Upd → Option ρ) : opK T (callK es) ev get d o K = Nat2 (opK T (callK es) ev get d o pr) K := by
  unfold opK
  split
  case h_3 => unfold pickK; (repeat' split) <;> rfl
  case h_4 => unfold allocK; (repeat' split) <;> rfl
  case h_5 => unfold boxK; (repeat' split) <;> rfl
  case h_6 =>
    unfold structK
    split
    · split
      · refine (buildK_nat T _ _ _ _).trans (Eq.trans ?_ (congrArg (fun r => Nat2 r K) (buildK_nat T _ _ _ _)).symm)
        cases buildK T _ _ _ some <;> rfl
      · rfl
    · split
      · rfl
      · refine (buildK_nat T _ _ _ _).trans (Eq.trans ?_ (congrArg (fun r => Nat2 r K) (buildK_nat T _ _ _ _)).symm)
        cases buildK T _ _ _ some <;> rfl
  case h_7 => exact litK_nat _ _ _ _ _ K
  case h_8 =>
    refine (loadK_nat T get _ _ _).trans (Eq.trans ?_ (congrArg (fun r => Nat2 r K) (loadK_nat T get _ _ _)).symm)
    cases loadK T get _ _ some <;> rfl
  case h_9 =>
    split
    · refine (storeK_nat get _ _ _).trans (Eq.trans ?_ (congrArg (fun r => Nat2 r K) (storeK_nat get _ _ _)).symm)
      cases storeK get _ _ some <;> rfl
    · rfl
  case h_10 => unfold nilK; (repeat' split) <;> rfl
  case h_11 => exact binK_nat _ _ _ _ _ K
  case h_12 => unfold unK; (repeat' split) <;> rfl
  case h_13 => exact convK_nat _ _ _ _ _ _ K
  case h_14 => unfold funcK; (repeat' split) <;> rfl
  case h_15 => exact makeK_nat _ _ _ _ _ _ K
  case h_16 => exact cutK_nat _ _ _ _ _ K
  case h_17 => unfold fieldAddrK; (repeat' split) <;> rfl
  case h_18 => unfold fieldK; (repeat' split) <;> rfl
  case h_19 => unfold idxAddrK; (repeat' split) <;> rfl
  case h_20 => unfold idxK; (repeat' split) <;> rfl
  case h_21 => unfold extractK; (repeat' split) <;> rfl
  case h_22 => exact builtinK_nat _ _ _ _ _ _ K
  case h_23 =>
    unfold callVK
    split
    · exact callK_nat _ _ _ _ _ K
    · rfl
  all_goals rfl
end
end Go.Eng
end

section
/-! Engine, soundness 18: patterns, said of the world; packing. -/
namespace Go.Eng

def Pat.one : Pat → Bool
  | .any | .int _ | .bool | .str | .nils | .il _ _ | .own _ _ _ | .mut _ _ _ | .ptr _ _ => true
  | _ => false
def Pat.cells : Pat → Bool
  | .nil => true
  | .cons a b => a.one && b.cells
  | _ => false
def Pat.single : Pat → Bool
  | .nil | .cons _ _ | .tup _ => false
  | _ => true
def Pat.vals : Pat → Bool
  | .nil => true
  | .cons a b => a.single && b.vals
  | _ => false
def Pat.ok : Pat → Bool
  | .ptr _ p => p.cells && (p.ok && true)
  | .agg p | .mag p | .fn _ p => p.cells && p.ok
  | .tup p => p.vals && p.ok
  | .cons a b => a.ok && b.ok
  | _ => true

def Rep (F B : Nat → Prop) (w : World) : (p : Pat) → p.den → List Value → List Nat → Prop
  | .any, _, vs, S => (∃ v, vs = [v]) ∧ S = []
  | .int k, n, vs, S => vs = [.int k n] ∧ S = []
  | .bool, b, vs, S => vs = [.bool b] ∧ S = []
  | .str, s, vs, S => vs = [.string s] ∧ S = []
  | .nils, _, vs, S => vs = [.slice none 0 0] ∧ S = []
  | .il b t, xs, vs, S => IRep (fun x => F x ∨ (b = true ∧ B x)) w (.list t) xs vs ∧ S = []
  | .own z e t, xs, vs, S => ∃ l : LV, vs = [hdr l xs.length] ∧ S = l.all ∧ LstOk F w l z e t xs
  | .mut z e t, xs, vs, S => ∃ l : LV, vs = [hdr l xs.length] ∧ S = l.all ∧ LstOk F w l z e t xs
  | .ptr o p, x, vs, S => ∃ b cs e fr S', vs = [.pointer (some ⟨b, o, none⟩)] ∧ S = b :: S' ∧ w.heap[b]? = some (.cells cs e fr) ∧ Thaw fr cs.size ∧ (∀ v ∈ cs.toList, v.oneCell' = true) ∧ Rep F B w p x cs.toList S'
  | .agg p, x, vs, S => ∃ cs : Array Value, vs = [.agg cs] ∧ (∀ v ∈ cs.toList, v.oneCell' = true) ∧ Rep F B w p x cs.toList S
  | .mag p, x, vs, S => ∃ cs : Array Value, vs = [.agg cs] ∧ (∀ v ∈ cs.toList, v.oneCell' = true) ∧ Rep F B w p x cs.toList S
  | .tup p, x, vs, S => ∃ cs : Array Value, vs = [.tuple cs] ∧ Rep F B w p x cs.toList S
  | .fn f p, x, vs, S => ∃ cs : Array Value, vs = [.func (.func f) #[] cs] ∧ (∀ v ∈ cs.toList, v.oneCell' = true) ∧ Rep F B w p x cs.toList S
  | .nil, _, vs, S => vs = [] ∧ S = []
  | .cons a b, x, vs, S => ∃ v vs' S1 S2, vs = v :: vs' ∧ S = S1 ++ S2 ∧ Rep F B w a x.1 [v] S1 ∧ Rep F B w b x.2 vs' S2

section
variable {base : Nat} {S : List Nat} {B F B' F' : Nat → Prop} {w0 : World} {objs : Upd} {loc : Loc} {w w' : World} {ρ : Type}

theorem LstOk.mono {l : LV} {z : Bool} {e : Nat} {t : Ty} {xs : List t.den} (h : LstOk F w l z e t xs) (hF : ∀ b, F b → F' b) (hs : Same F w w') (hb : ∀ b ∈ l.all, w'.heap[b]? = w.heap[b]?) : LstOk F' w' l z e t xs := by
  obtain ⟨hsub, h⟩ := h
  refine ⟨hsub, ?_⟩
  cases hl : l.blk with
  | none => rw [hl] at h; exact h
  | some b =>
    rw [hl] at h
    obtain ⟨vs, fr, h1, h2, h3, h4, h5, h6, h7⟩ := h
    exact ⟨vs, fr, (hb b (LV.mem_blk hl)).trans h1, h2, h3, h4, h5, h6, h7.mono fun x rs hx => hx.mono hF hs⟩

theorem Rep.mono (hF : ∀ b, F b → F' b) (hB : ∀ b, B b → B' b) (hsF : Same F w w') (hsB : Same B w w') : ∀ {p : Pat} {x : p.den} {vs : List Value} {Sx : List Nat}, (∀ b ∈ Sx, w'.heap[b]? = w.heap[b]?) → Rep F B w p x vs Sx → Rep F' B' w' p x vs Sx
  | .any, _, _, _, _, h => h
  | .int _, _, _, _, _, h => h
  | .bool, _, _, _, _, h => h
  | .str, _, _, _, _, h => h
  | .nils, _, _, _, _, h => h
  | .il b t, xs, _, _, _, h => ⟨h.1.mono (fun c hc => hc.imp (hF c) fun ⟨e, hc⟩ => ⟨e, hB c hc⟩) (fun c hc => hc.elim (hsF c) fun hc => hsB c hc.2), h.2⟩
  | .own z e t, xs, _, _, hS, h => by
    obtain ⟨l, rfl, rfl, h⟩ := h
    exact ⟨l, rfl, rfl, h.mono hF hsF fun b hb => hS b hb⟩
  | .mut z e t, xs, _, _, hS, h => by
    obtain ⟨l, rfl, rfl, h⟩ := h
    exact ⟨l, rfl, rfl, h.mono hF hsF fun b hb => hS b hb⟩
  | .ptr _ p, x, _, _, hS, h => by
    obtain ⟨b, cs, e, fr, S', rfl, rfl, h1, h2, h3, h4⟩ := h
    exact ⟨b, cs, e, fr, S', rfl, rfl, (hS b (by simp)).trans h1, h2, h3, Rep.mono hF hB hsF hsB (fun c hc => hS c (by simp [hc])) h4⟩
  | .agg p, x, _, _, hS, h => by
    obtain ⟨cs, rfl, h3, h4⟩ := h
    exact ⟨cs, rfl, h3, Rep.mono hF hB hsF hsB hS h4⟩
  | .mag p, x, _, _, hS, h => by
    obtain ⟨cs, rfl, h3, h4⟩ := h
    exact ⟨cs, rfl, h3, Rep.mono hF hB hsF hsB hS h4⟩
  | .tup p, x, _, _, hS, h => by
    obtain ⟨cs, rfl, h4⟩ := h
    exact ⟨cs, rfl, Rep.mono hF hB hsF hsB hS h4⟩
  | .fn f p, x, _, _, hS, h => by
    obtain ⟨cs, rfl, h3, h4⟩ := h
    exact ⟨cs, rfl, h3, Rep.mono hF hB hsF hsB hS h4⟩
  | .nil, _, _, _, _, h => h
  | .cons a b, x, _, _, hS, h => by
    obtain ⟨v, vs', S1, S2, rfl, rfl, h1, h2⟩ := h
    exact ⟨v, vs', S1, S2, rfl, rfl, Rep.mono hF hB hsF hsB (fun c hc => hS c (by simp [hc])) h1, Rep.mono hF hB hsF hsB (fun c hc => hS c (by simp [hc])) h2⟩

def Vals (objs : Upd) (loc : Loc) (F B : Nat → Prop) (w : World) : List AV → List Value → Prop
  | [], [] => True
  | a :: as, v :: vs => Val objs loc F B w a v ∧ Vals objs loc F B w as vs
  | _, _ => False

theorem Leafs.vals : ∀ {as : List AV} {vs : List Value}, Leafs objs loc F B w as vs → Vals objs loc F B w as vs
  | [], [], _ => trivial
  | _ :: _, _ :: _, h => ⟨leaf_val h.2.1, Leafs.vals h.2.2⟩
  | [], _ :: _, h => h.elim
  | _ :: _, [], h => h.elim
theorem Val1s.vals : ∀ {as : List AV} {vs : List Value}, Val1s objs loc F B w as vs → Vals objs loc F B w as vs
  | [], [], _ => trivial
  | _ :: _, _ :: _, h => ⟨val1_val h.1, Val1s.vals h.2⟩
  | [], _ :: _, h => h.elim
  | _ :: _, [], h => h.elim

def blks (loc : Loc) (rs : List Ref) : List Nat := rs.flatMap fun r => (loc r.s r.j).all
def BK (B : Nat → Prop) (loc : Loc) (ks : List Ref) : Nat → Prop := FK B loc ks

structure TookOk (objs : Upd) (get : Get) (t : Took) : Prop where
  owns : ∀ r ∈ t.owns, live (Get.ob (look objs) r) = true ∧ get r.s = look objs r.s
  imms : ∀ r ∈ t.imms, isLst (Get.ob (look objs) r) = true ∧ get r.s = look objs r.s
  bors : ∀ r ∈ t.bors, isLst (Get.ob (look objs) r) = true

theorem TookOk.none (objs : Upd) (get : Get) : TookOk objs get Took.none := ⟨by simp [Took.none], by simp [Took.none], by simp [Took.none]⟩
theorem TookOk.and {get : Get} {a b : Took} (h : TookOk objs get a) (k : TookOk objs get b) : TookOk objs get (a.and b) :=
  ⟨fun r hr => (List.mem_append.1 hr).elim (h.owns r) (k.owns r), fun r hr => (List.mem_append.1 hr).elim (h.imms r) (k.imms r), fun r hr => (List.mem_append.1 hr).elim (h.bors r) (k.bors r)⟩

theorem none_ob {get : Get} {r : Ref} (h : get r.s = Slot.none) : Get.ob get r = .gone := by
  unfold Get.ob
  rw [h]
  simp only [Slot.none, nth]
  split
  · split <;> rfl
  · rfl
theorem seen {get : Get} {r : Ref} (hR : ∀ s, get s = look objs s ∨ get s = Slot.none) (h : Get.ob get r ≠ .gone) : get r.s = look objs r.s :=
  (hR r.s).resolve_right fun e => h (none_ob e)

theorem blks_append (loc : Loc) (a b : List Ref) : blks loc (a ++ b) = blks loc a ++ blks loc b := by simp [blks]

theorem pack_list {get : Get} (h : SR base S B w0 objs loc F w) (hR : ∀ s, get s = look objs s ∨ get s = Slot.none) {z : Bool} {e : Nat} {t : Ty} {v : AV} {cv : Value} {K : List t.den → Took → Option ρ} {res : ρ}
    (hv : Val objs loc F B w v cv) (hk : ((z = false ∧ v = .nils ∧ K [] .none = some res) ∨ ∃ r, v = .ol r .whole ∧ (match get.ob r with
      | .lst z' e' t' xs => if h : t' = t then (match Nat.beq e' e && (z || !z') with
        | true => K (h ▸ xs) ⟨[r], [], []⟩
        | false => none) else none
      | _ => none) = some res)) :
    ∃ x tk Sx, K x tk = some res ∧ (∃ l : LV, [cv] = [hdr l x.length] ∧ Sx = l.all ∧ LstOk (FK F loc tk.imms) w l z e t x) ∧ Sx = blks loc tk.owns ∧ TookOk objs get tk := by
  rcases hk with ⟨rfl, rfl, hk⟩ | ⟨r, rfl, hk⟩
  · have hv : cv = .slice none 0 0 := hv
    exact ⟨[], .none, [], hk, ⟨LV.nil, by rw [hv]; rfl, rfl, rfl, rfl, rfl⟩, rfl, TookOk.none _ _⟩
  · split at hk
    case h_2 => cases hk
    rename_i z' e' t' xs hob
    have hseen := seen (r := r) hR (by rw [hob]; simp)
    rw [ob_get hseen] at hob
    split at hk
    case isFalse => cases hk
    rename_i et
    subst et
    split at hk
    case h_2 => cases hk
    rename_i hb
    simp only [Bool.and_eq_true, Bool.or_eq_true, Bool.not_eq_true'] at hb
    have he := beq_true.1 hb.1
    subst he
    obtain ⟨hg, hj⟩ := ob_some hob (by simp)
    have hcv : cv = hdr (loc r.s r.j) xs.length := RS.found (show Leaf objs loc F B w (.ol r .whole) cv from hv).2 hob (by simp)
    refine ⟨xs, _, (loc r.s r.j).all, hk, ⟨loc r.s r.j, by rw [hcv], rfl, ?_⟩, by simp [blks], ⟨fun r' hr' => ?_, by simp, by simp⟩⟩
    · have hl : LstOk F w (loc r.s r.j) z' e' t' xs := h.obs _ _ _ _ hj
      rw [FK.nil]
      obtain ⟨hsub, hl⟩ := hl
      refine ⟨hsub, ?_⟩
      cases hlb : (loc r.s r.j).blk with
      | none => rw [hlb] at hl; exact hl
      | some b =>
        rw [hlb] at hl
        obtain ⟨vs, fr, h1, h2, h3⟩ := hl
        exact ⟨vs, fr, h1, fun hz => h2 (by rcases hb.2 with hb | hb; rw [hz] at hb; cases hb; exact hb), h3⟩
    · simp at hr'
      subst hr'
      exact ⟨by rw [hob]; rfl, hseen⟩

/-- A part of an own list, as a list of its own. -/
theorem lst_sub {l : LV} {z : Bool} {e : Nat} {t : Ty} {xs : List t.den} {lo hi : Int} {v : Value} (hok : LstOk F w l z e t xs) (hv : viewOk l t.w xs.length (.sub lo hi) v) :
    ∃ l' : LV, v = hdr l' (hi - lo).toNat ∧ (List.drop lo.toNat (List.take hi.toNat xs)).length = (hi - lo).toNat ∧ LstOk F w l' z e t (List.drop lo.toNat (List.take hi.toNat xs)) ∧ l'.blk = l.blk := by
  have hxc := hok.cap_le
  obtain ⟨v0, v1, v2, v3, oo, hv, hv4⟩ := hv
  obtain ⟨hsub, hok⟩ := hok
  have hlen : (List.drop lo.toNat (List.take hi.toNat xs)).length = (hi - lo).toNat := by rw [List.length_drop, List.length_take]; omega
  refine ⟨⟨l.blk, oo, l.cap - lo.toNat, []⟩, hv, hlen, ⟨rfl, ?_⟩, rfl⟩
  cases hb : l.blk with
  | none =>
    rw [hb] at hok
    obtain ⟨rfl, hc⟩ := hok
    exact ⟨by simp, by show l.cap - _ = 0; omega⟩
  | some b =>
    rw [hb] at hok
    obtain ⟨vs, fr, hh, hzf, hth, hnc, hcm, hvs, hrows⟩ := hok
    refine ⟨vs, fr, hh, hzf, hth, by rw [hlen]; show _ ≤ l.cap - _; omega, Nat.le_trans (Nat.sub_le _ _) hcm, ?_, ?_⟩
    · by_cases hc : l.cap - lo.toNat = 0
      · exact .inl hc
      · refine .inr ?_
        show vs.size = oo + (l.cap - lo.toNat) * t.w
        rw [hv4 hc, Nat.add_assoc, ← Nat.add_mul, Nat.add_sub_cancel' v3]
        rcases hvs with h | h
        · omega
        · exact h
    · intro i hi'
      rw [hlen] at hi'
      have hc : l.cap - lo.toNat ≠ 0 := by omega
      obtain ⟨rs, p1, p2, p3⟩ := hrows (lo.toNat + i) (by omega)
      refine ⟨rs, p1, fun j hj => ?_, ?_⟩
      · rw [← p2 j hj, List.getElem?_drop, List.getElem?_drop]
        show vs.toList[oo + _]? = _
        rw [hv4 hc, Nat.add_mul]
        congr 1
        omega
      · rw [List.getElem_drop, List.getElem_take]; exact p3

theorem pack_pre {get : Get} (h : SR base S B w0 objs loc F w) (hR : ∀ s, get s = look objs s ∨ get s = Slot.none) {z : Bool} {e : Nat} {t : Ty} {r : Ref} {lo hi : Int} {cv : Value} {K : List t.den → Took → Option ρ} {res : ρ}
    (hv : Val objs loc F B w (.ol r (.sub lo hi)) cv) (hk : (match get.ob r with
      | .lst z' e' t' xs => if h : t' = t then (match Nat.beq e' e && (z || !z') with
        | true => K (List.drop lo.toNat (List.take hi.toNat (h ▸ xs))) ⟨[r], [], []⟩
        | false => none) else none
      | _ => none) = some res) :
    ∃ x tk Sx, K x tk = some res ∧ (∃ l : LV, [cv] = [hdr l x.length] ∧ Sx = l.all ∧ LstOk (FK F loc tk.imms) w l z e t x) ∧ Sx = blks loc tk.owns ∧ TookOk objs get tk := by
  split at hk
  case h_2 => cases hk
  rename_i z' e' t' xs hob
  have hseen := seen (r := r) hR (by rw [hob]; simp)
  rw [ob_get hseen] at hob
  split at hk
  case isFalse => cases hk
  rename_i et
  subst et
  split at hk
  case h_2 => cases hk
  rename_i hb
  simp only [Bool.and_eq_true, Bool.or_eq_true, Bool.not_eq_true'] at hb
  have he := beq_true.1 hb.1
  subst he
  obtain ⟨hg, hj⟩ := ob_some hob (by simp)
  have hvo : viewOk (loc r.s r.j) t'.w xs.length (.sub lo hi) cv := RS.found (show Leaf objs loc F B w (.ol r (.sub lo hi)) cv from hv).2 hob (by simp)
  have hl : LstOk F w (loc r.s r.j) z' e' t' xs := h.obs _ _ _ _ hj
  obtain ⟨l', k1, k2, k3, k4⟩ := lst_sub hl hvo
  have hall : l'.all = (loc r.s r.j).all := by rw [LV.all_of k3.1, LV.all_of hl.1, k4]
  refine ⟨_, _, (loc r.s r.j).all, hk, ⟨l', by rw [k1, k2], hall.symm, ?_⟩, by simp [blks], ⟨fun r' hr' => ?_, by simp, by simp⟩⟩
  · rw [FK.nil]
    obtain ⟨hsub, k3⟩ := k3
    refine ⟨hsub, ?_⟩
    cases hlb : l'.blk with
    | none => rw [hlb] at k3; exact k3
    | some b =>
      rw [hlb] at k3
      obtain ⟨vs, fr, h1, h2, h3⟩ := k3
      exact ⟨vs, fr, h1, fun hz => h2 (by rcases hb.2 with hb | hb; rw [hz] at hb; cases hb; exact hb), h3⟩
  · simp at hr'
    subst hr'
    exact ⟨by rw [hob]; rfl, hseen⟩

theorem pack_ok {get : Get} (h : SR base S B w0 objs loc F w) (hR : ∀ s, get s = look objs s ∨ get s = Slot.none) (p : Pat) : ∀ {ρ : Type} {avs : List AV} {vs : List Value} {K : p.den → Took → Option ρ} {res : ρ}, pack get p avs K = some res → Vals objs loc F B w avs vs →
    ∃ x tk Sx, K x tk = some res ∧ Rep (FK F loc tk.imms) (BK B loc tk.bors) w p x vs Sx ∧ Sx = blks loc tk.owns ∧ TookOk objs get tk := by
  have one : ∀ {avs : List AV} {vs : List Value} {a : AV}, avs = [a] → Vals objs loc F B w avs vs → ∃ v, vs = [v] ∧ Val objs loc F B w a v := by
    intro avs vs a e hv
    subst e
    match vs, hv with
    | [v], hv => exact ⟨v, rfl, hv.1⟩
    | [], hv => exact hv.elim
    | _ :: _ :: _, hv => exact hv.2.elim
  have single : ∀ {avs : List AV} {p : Pat} {ρ : Type} {K : p.den → Took → Option ρ} {res : ρ}, pack get p avs K = some res → p.one = true ∨ (∃ q, p = .agg q ∨ p = .mag q) ∨ (∃ q, p = .tup q) ∨ (∃ f q, p = .fn f q) → ∃ a, avs = [a] := by
    intro avs p ρ K res hk hp
    match avs with
    | [a] => exact ⟨a, rfl⟩
    | [] =>
      rcases hp with hp | ⟨q, rfl | rfl⟩ | ⟨q, rfl⟩ | ⟨f, q, rfl⟩
      · cases p <;> first | (simp [Pat.one] at hp; done) | (simp [pack] at hk; done) | (rename_i z _ _; cases z <;> simp [pack] at hk)
      · simp [pack] at hk
      · simp [pack] at hk
      · simp [pack] at hk
      · simp [pack] at hk
    | a :: _ :: _ =>
      rcases hp with hp | ⟨q, rfl | rfl⟩ | ⟨q, rfl⟩ | ⟨f, q, rfl⟩
      · cases p <;> first | (simp [Pat.one] at hp; done) | (simp [pack] at hk; done) | (rename_i z _ _; cases z <;> simp [pack] at hk)
      · simp [pack] at hk
      · simp [pack] at hk
      · simp [pack] at hk
      · simp [pack] at hk
  induction p with
  | any =>
    intro ρ avs vs K res hk hv
    obtain ⟨a, rfl⟩ := single hk (.inl rfl)
    obtain ⟨v, rfl, hv1⟩ := one rfl hv
    clear hv
    have hv := hv1
    clear hv1
    exact ⟨(), .none, [], hk, ⟨⟨v, rfl⟩, rfl⟩, rfl, TookOk.none _ _⟩
  | int k =>
    intro ρ avs vs K res hk hv
    obtain ⟨a, rfl⟩ := single hk (.inl rfl)
    obtain ⟨v, rfl, hv1⟩ := one rfl hv
    clear hv
    have hv := hv1
    clear hv1
    cases a <;> try (simp [pack] at hk; done)
    rename_i k' n
    simp only [pack] at hk
    split at hk
    · rename_i e
      subst e
      have hv : v = .int k' n := hv
      subst hv
      exact ⟨n, .none, [], hk, ⟨rfl, rfl⟩, rfl, TookOk.none _ _⟩
    · cases hk
  | bool =>
    intro ρ avs vs K res hk hv
    obtain ⟨a, rfl⟩ := single hk (.inl rfl)
    obtain ⟨v, rfl, hv1⟩ := one rfl hv
    clear hv
    have hv := hv1
    clear hv1
    cases a <;> try (simp [pack] at hk; done)
    rename_i b
    have hv : v = .bool b := hv
    subst hv
    exact ⟨b, .none, [], hk, ⟨rfl, rfl⟩, rfl, TookOk.none _ _⟩
  | nils =>
    intro ρ avs vs K res hk hv
    obtain ⟨a, rfl⟩ := single hk (.inl rfl)
    obtain ⟨v, rfl, hv1⟩ := one rfl hv
    clear hv
    have hv := hv1
    clear hv1
    cases a <;> try (simp [pack] at hk; done)
    have hv : v = .slice none 0 0 := hv
    subst hv
    exact ⟨(), .none, [], hk, ⟨rfl, rfl⟩, rfl, TookOk.none _ _⟩
  | str =>
    intro ρ avs vs K res hk hv
    obtain ⟨a, rfl⟩ := single hk (.inl rfl)
    obtain ⟨v, rfl, hv1⟩ := one rfl hv
    clear hv
    have hv := hv1
    clear hv1
    cases a <;> try (simp [pack] at hk; done)
    rename_i b
    have hv : v = .string b := hv
    subst hv
    exact ⟨b, .none, [], hk, ⟨rfl, rfl⟩, rfl, TookOk.none _ _⟩
  | il b t =>
    intro ρ avs vs K res hk hv
    obtain ⟨a, rfl⟩ := single hk (.inl rfl)
    obtain ⟨v, rfl, hv1⟩ := one rfl hv
    clear hv
    have hv := hv1
    clear hv1
    cases a <;> try (simp [pack] at hk; done)
    · have hv : v = .slice none 0 0 := hv
      subst hv
      exact ⟨[], .none, [], hk, ⟨⟨none, 0, 0, rfl, rfl, Nat.le_refl _, fun h => absurd h (by omega)⟩, rfl⟩, rfl, TookOk.none _ _⟩
    · rename_i b' t' xs
      simp only [pack] at hk
      split at hk
      · cases hk
      · rename_i hb
        split at hk
        · rename_i e
          subst e
          have hv : IRep (fun x => F x ∨ (b' = true ∧ B x)) w (.list t') xs [v] := hv
          refine ⟨xs, .none, [], hk, ⟨hv.mono (fun c hc => hc.imp (fun hc => .inl hc) fun ⟨e, hc⟩ => ⟨?_, .inl hc⟩) (fun _ _ => rfl), rfl⟩, rfl, TookOk.none _ _⟩
          rw [e] at hb
          simpa using hb
        · cases hk
    · rename_i r vw
      simp only [pack] at hk
      split at hk
      case h_2 => cases hk
      rename_i z e t' xs hob
      have hseen := seen (r := r) hR (by rw [hob]; simp)
      rw [ob_get hseen] at hob
      split at hk
      case isFalse => cases hk
      rename_i et
      subst et
      have hvv := RS.found (show Leaf objs loc F B w (.ol r vw) v from hv).2 hob (by simp)
      obtain ⟨a, n, c, rfl, h1, h2, h3⟩ := lst_view h hob hvv
      have hl : isLst (Get.ob (look objs) r) = true := by rw [hob]; rfl
      refine ⟨_, _, [], hk, ⟨⟨a, n, c, rfl, h1, h2, fun hn => ?_⟩, rfl⟩, ?_, ?_⟩
      · obtain ⟨bl, o, rfl, hb, hlt, hr⟩ := h3 hn
        refine ⟨bl, o, rfl, ?_, hlt, fun i hi => ?_⟩
        · cases b with
          | true => exact .inr ⟨rfl, .inr ⟨r, by simp [Took.view], LV.mem_blk hb⟩⟩
          | false => exact .inl (.inr ⟨r, by simp [Took.view], LV.mem_blk hb⟩)
        · obtain ⟨rs, k1, k2, k3⟩ := hr i hi
          exact ⟨rs, k1, k2, k3.mono (fun b hb => .inl (.inl hb)) (fun _ _ => rfl)⟩
      · cases b <;> rfl
      · cases b with
        | true => exact ⟨by simp [Took.view], by simp [Took.view], fun r' hr' => by simp [Took.view] at hr'; subst hr'; exact hl⟩
        | false => exact ⟨by simp [Took.view], fun r' hr' => by simp [Took.view] at hr'; subst hr'; exact ⟨hl, hseen⟩, by simp [Took.view]⟩
  | own z e t =>
    intro ρ avs vs K res hk hv
    obtain ⟨a, rfl⟩ := single hk (.inl rfl)
    obtain ⟨v, rfl, hv1⟩ := one rfl hv
    clear hv
    have hv := hv1
    clear hv1
    by_cases hp : ∃ r lo hi, a = .ol r (.sub lo hi)
    · obtain ⟨r, lo, hi, rfl⟩ := hp
      exact pack_pre (K := K) h hR hv (by cases z <;> exact hk)
    refine (pack_list (K := K) h hR hv ?_)
    cases a with
    | nils => cases z with | true => simp [pack] at hk | false => exact .inl ⟨rfl, rfl, hk⟩
    | ol r vw =>
      cases vw with
      | sub lo hi => exact absurd ⟨_, _, _, rfl⟩ hp
      | whole => exact .inr ⟨r, rfl, by cases z <;> exact hk⟩
    | _ => cases z <;> simp [pack] at hk
  | «mut» z e t =>
    intro ρ avs vs K res hk hv
    obtain ⟨a, rfl⟩ := single hk (.inl rfl)
    obtain ⟨v, rfl, hv1⟩ := one rfl hv
    clear hv
    have hv := hv1
    clear hv1
    refine (pack_list (K := K) h hR hv ?_)
    cases a with
    | nils => cases z with | true => simp [pack] at hk | false => exact .inl ⟨rfl, rfl, hk⟩
    | ol r vw =>
      cases vw with
      | sub lo hi => cases z <;> simp [pack] at hk
      | whole => exact .inr ⟨r, rfl, by cases z <;> exact hk⟩
    | _ => cases z <;> simp [pack] at hk
  | nil =>
    intro ρ avs vs K res hk hv
    cases avs with
    | cons _ _ => simp [pack] at hk
    | nil =>
      cases vs with
      | cons _ _ => exact hv.elim
      | nil => exact ⟨(), .none, [], hk, ⟨rfl, rfl⟩, rfl, TookOk.none _ _⟩
  | ptr po p ih =>
    intro ρ avs vs K res hk hv
    obtain ⟨a, rfl⟩ := single hk (.inl rfl)
    obtain ⟨v, rfl, hv1⟩ := one rfl hv
    clear hv
    have hv := hv1
    clear hv1
    cases a <;> try (simp [pack] at hk; done)
    rename_i r off
    · simp only [pack] at hk
      split at hk
      case h_2 => cases hk
      rename_i hbo
      have hbo := beq_true.1 hbo
      subst hbo
      split at hk
      case h_2 => cases hk
      rename_i cs hob
      have hseen := seen (r := r) hR (by rw [hob]; simp)
      rw [ob_get hseen] at hob
      obtain ⟨b, hb, rfl⟩ := RS.found (show Leaf objs loc F B w (.ptr r off) v from hv).2 hob (by simp)
      obtain ⟨hg, hj⟩ := ob_some hob (by simp)
      obtain ⟨b', cv, e, fr, hb', hsub, hheap, hth, hlf⟩ := h.obs _ _ _ _ hj
      rw [hb] at hb'
      cases hb'
      obtain ⟨x, tk, Sx, hk, hrep, hS, htk⟩ := ih hk hlf.vals
      refine ⟨x, _, b :: Sx, hk, ⟨b, cv, e, fr, Sx, rfl, rfl, hheap, hth, hlf.one, hrep⟩, ?_, TookOk.and ⟨fun r' hr' => ?_, by simp, by simp⟩ htk⟩
      · rw [hS]
        simp [Took.and, blks, LV.all_of hsub, hb]
      · simp at hr'
        subst hr'
        exact ⟨by rw [hob]; rfl, hseen⟩
  | agg p ih =>
    intro ρ avs vs K res hk hv
    obtain ⟨a, rfl⟩ := single hk (.inr (.inl ⟨_, .inl rfl⟩))
    obtain ⟨v, rfl, hv1⟩ := one rfl hv
    clear hv
    have hv := hv1
    clear hv1
    cases a <;> try (simp [pack] at hk; done)
    obtain ⟨cv, rfl, hlf⟩ := val_agg hv
    obtain ⟨x, tk, Sx, hk, hrep, hS, htk⟩ := ih hk hlf.vals
    exact ⟨x, tk, Sx, hk, ⟨cv, rfl, hlf.one, hrep⟩, hS, htk⟩
  | mag p ih =>
    intro ρ avs vs K res hk hv
    obtain ⟨a, rfl⟩ := single hk (.inr (.inl ⟨_, .inr rfl⟩))
    obtain ⟨v, rfl, hv1⟩ := one rfl hv
    clear hv
    have hv := hv1
    clear hv1
    cases a <;> try (simp [pack] at hk; done)
    obtain ⟨cv, rfl, hlf⟩ := val_agg hv
    obtain ⟨x, tk, Sx, hk, hrep, hS, htk⟩ := ih hk hlf.vals
    exact ⟨x, tk, Sx, hk, ⟨cv, rfl, hlf.one, hrep⟩, hS, htk⟩
  | tup p ih =>
    intro ρ avs vs K res hk hv
    obtain ⟨a, rfl⟩ := single hk (.inr (.inr (.inl ⟨_, rfl⟩)))
    obtain ⟨v, rfl, hv1⟩ := one rfl hv
    clear hv
    have hv := hv1
    clear hv1
    cases a <;> try (simp [pack] at hk; done)
    obtain ⟨cv, rfl, hlf⟩ := hv
    obtain ⟨x, tk, Sx, hk, hrep, hS, htk⟩ := ih hk hlf.vals
    exact ⟨x, tk, Sx, hk, ⟨cv, rfl, hrep⟩, hS, htk⟩
  | fn f p ih =>
    intro ρ avs vs K res hk hv
    obtain ⟨a, rfl⟩ := single hk (.inr (.inr (.inr ⟨_, _, rfl⟩)))
    obtain ⟨v, rfl, hv1⟩ := one rfl hv
    clear hv
    have hv := hv1
    clear hv1
    cases a <;> try (simp [pack] at hk; done)
    rename_i f' cs
    simp only [pack] at hk
    split at hk
    case h_2 => cases hk
    rename_i hf
    have hf := beq_true.1 hf
    subst hf
    obtain ⟨cv, rfl, hlf⟩ := hv
    obtain ⟨x, tk, Sx, hk, hrep, hS, htk⟩ := ih hk hlf.vals
    exact ⟨x, tk, Sx, hk, ⟨cv, rfl, hlf.one, hrep⟩, hS, htk⟩
  | cons a b iha ihb =>
    intro ρ avs vs K res hk hv
    cases avs with
    | nil => simp [pack] at hk
    | cons av avs =>
      cases vs with
      | nil => exact hv.elim
      | cons v vs =>
        simp only [pack] at hk
        obtain ⟨x, tk, Sx, hk, hrep, hS, htk⟩ := iha hk (vs := [v]) ⟨hv.1, trivial⟩
        obtain ⟨y, tk', Sy, hk, hrep', hS', htk'⟩ := ihb hk hv.2
        refine ⟨(x, y), tk.and tk', Sx ++ Sy, hk, ⟨v, vs, Sx, Sy, rfl, rfl, ?_, ?_⟩, by rw [hS, hS']; exact (blks_append _ _ _).symm, htk.and htk'⟩
        · exact hrep.mono FK.left FK.left (fun _ _ => rfl) (fun _ _ => rfl) (fun _ _ => rfl)
        · exact hrep'.mono FK.right FK.right (fun _ _ => rfl) (fun _ _ => rfl) (fun _ _ => rfl)
end
end Go.Eng
end

section
/-! Engine, soundness 19: unpacking. -/
namespace Go.Eng
section
variable {base : Nat} {S : List Nat} {B F B' F' : Nat → Prop} {w0 : World} {objs : Upd} {loc : Loc} {w w' : World} {ρ : Type}

structure Sits (objs : Upd) (loc : Loc) (s g j : Nat) (os : List (Nat × Ob)) (ls : List LV) : Prop where
  gen : (look objs s).g = g
  place : ∀ (k : Nat) (e : Nat × Ob), os[k]? = some e → (look objs s).os[j + k]? = some e ∧ ls[k]? = some (loc s (j + k))

structure UOk (objs : Upd) (loc : Loc) (F B : Nat → Prop) (w : World) (p : Pat) (avs : List AV) (os : List (Nat × Ob)) (ls : List LV) (vs : List Value) : Prop where
  obs : ∀ (k : Nat) (v : Nat) (o : Ob) (l : LV), os[k]? = some (v, o) → ls[k]? = some l → ObOk objs loc F B w l o
  vals : Vals objs loc F B w avs vs
  leafs : (p.cells = true ∨ p.one = true) → (∀ v ∈ vs, v.oneCell' = true) → Leafs objs loc F B w avs vs
  val1s : (p.vals = true ∨ p.single = true) → Val1s objs loc F B w avs vs

theorem UOk.plain {p : Pat} {a : AV} {v : Value} (hl : Leaf objs loc F B w a v) : UOk objs loc F B w p [a] [] [] [v] :=
  ⟨fun k v o l h => by simp at h, ⟨leaf_val hl, trivial⟩, fun _ h1 => ⟨h1 v (by simp), hl, trivial⟩, fun _ => ⟨by
    have := leaf_val hl
    cases a <;> first | exact hl | exact this, trivial⟩⟩

theorem sits_ref {s g j : Nat} {os : List (Nat × Ob)} {ls : List LV} {e : Nat × Ob} {l : LV} (h : Sits objs loc s g j (e :: os) (l :: ls)) : (look objs s).g = g ∧ (look objs s).os[j]? = some e ∧ loc s j = l := by
  have := h.place 0 e rfl
  simp only [Nat.add_zero, List.getElem?_cons_zero, Option.some.injEq] at this
  exact ⟨h.gen, this.1, this.2.symm⟩

theorem Sits.tail {s g j : Nat} {ls : List LV} {e : Nat × Ob} {os : List (Nat × Ob)} {l : LV} (h : Sits objs loc s g j (e :: os) (l :: ls)) : Sits objs loc s g (j + 1) os ls :=
  ⟨h.gen, fun k e hk => by
    have := h.place (k + 1) e (by simpa using hk)
    rw [show j + (k + 1) = j + 1 + k by omega] at this
    simpa using this⟩
theorem Sits.left {s g j : Nat} {os os' : List (Nat × Ob)} {ls ls' : List LV} (h : Sits objs loc s g j (os ++ os') (ls ++ ls')) (hl : ls.length = os.length) : Sits objs loc s g j os ls :=
  ⟨h.gen, fun k e hk => by
    have hlt : k < os.length := (List.getElem?_eq_some_iff.1 hk).1
    have := h.place k e (by rw [List.getElem?_append_left hlt]; exact hk)
    rw [List.getElem?_append_left (by omega)] at this
    exact this⟩
theorem Sits.right {s g j : Nat} {os os' : List (Nat × Ob)} {ls ls' : List LV} (h : Sits objs loc s g j (os ++ os') (ls ++ ls')) (hl : ls.length = os.length) : Sits objs loc s g (j + os.length) os' ls' :=
  ⟨h.gen, fun k e hk => by
    have := h.place (os.length + k) e (by rw [List.getElem?_append_right (by omega)]; simpa using hk)
    rw [List.getElem?_append_right (by omega), hl] at this
    rw [Nat.add_assoc]
    simpa using this⟩

theorem unpack_ok (s g : Nat) (p : Pat) : ∀ {x : p.den} {vs : List Value} {Sx : List Nat} (j : Nat), p.ok = true → Rep F B w p x vs Sx → ∃ ls : List LV, ls.length = (unpack s g p x j).2.length ∧ ls.flatMap (·.all) = Sx ∧
    (∀ (k : Nat) (v : Nat) (o : Ob), (unpack s g p x j).2[k]? = some (v, o) → v = 0 ∧ live o = true) ∧ ∀ objs loc, Sits objs loc s g j (unpack s g p x j).2 ls → UOk objs loc F B w p (unpack s g p x j).1 (unpack s g p x j).2 ls vs := by
  induction p with
  | any =>
    intro x vs Sx j _ hr
    obtain ⟨⟨v, rfl⟩, rfl⟩ := hr
    exact ⟨[], rfl, rfl, fun k v o h => by simp [unpack] at h, fun objs loc _ => UOk.plain (a := .dead) trivial⟩
  | int k =>
    intro x vs Sx j _ hr
    obtain ⟨rfl, rfl⟩ := hr
    exact ⟨[], rfl, rfl, fun k v o h => by simp [unpack] at h, fun objs loc _ => UOk.plain (a := .int _ x) rfl⟩
  | bool =>
    intro x vs Sx j _ hr
    obtain ⟨rfl, rfl⟩ := hr
    exact ⟨[], rfl, rfl, fun k v o h => by simp [unpack] at h, fun objs loc _ => UOk.plain (a := .bool x) rfl⟩
  | nils =>
    intro x vs Sx j _ hr
    obtain ⟨rfl, rfl⟩ := hr
    exact ⟨[], rfl, rfl, fun k v o h => by simp [unpack] at h, fun objs loc _ => UOk.plain (a := .nils) rfl⟩
  | str =>
    intro x vs Sx j _ hr
    obtain ⟨rfl, rfl⟩ := hr
    exact ⟨[], rfl, rfl, fun k v o h => by simp [unpack] at h, fun objs loc _ => UOk.plain (a := .str x) rfl⟩
  | il b t =>
    intro x vs Sx j _ hr
    obtain ⟨hr, rfl⟩ := hr
    obtain ⟨v, rfl⟩ : ∃ v, vs = [v] := by obtain ⟨a, n, c, rfl, _⟩ := hr; exact ⟨_, rfl⟩
    exact ⟨[], rfl, rfl, fun k v o h => by simp [unpack] at h, fun objs loc _ => UOk.plain (a := .il b t x) hr⟩
  | own z e t =>
    intro x vs Sx j _ hr
    obtain ⟨l, rfl, rfl, hr⟩ := hr
    refine ⟨[l], rfl, by simp, fun k v o h => ?_, fun objs loc hs => ?_⟩
    · cases k with
      | zero => simp [unpack] at h; obtain ⟨rfl, rfl⟩ := h; exact ⟨rfl, rfl⟩
      | succ k => simp [unpack] at h
    · obtain ⟨h1, h2, h3⟩ := sits_ref hs
      have hl : Leaf objs loc F B w (.ol ⟨s, j, g, 0⟩ .whole) (hdr l x.length) := ⟨rfl, .inr ⟨h1.symm, 0, _, h2, .inr ⟨rfl, by simp only [viewOk, h3]⟩⟩⟩
      have := UOk.plain (p := .own z e t) hl
      refine ⟨fun k v o l' hk hl' => ?_, this.vals, this.leafs, this.val1s⟩
      cases k with
      | zero => simp [unpack] at hk; obtain ⟨rfl, rfl⟩ := hk; simp at hl'; subst hl'; exact hr
      | succ k => simp [unpack] at hk
  | «mut» z e t =>
    intro x vs Sx j _ hr
    obtain ⟨l, rfl, rfl, hr⟩ := hr
    refine ⟨[l], rfl, by simp, fun k v o h => ?_, fun objs loc hs => ?_⟩
    · cases k with
      | zero => simp [unpack] at h; obtain ⟨rfl, rfl⟩ := h; exact ⟨rfl, rfl⟩
      | succ k => simp [unpack] at h
    · obtain ⟨h1, h2, h3⟩ := sits_ref hs
      have hl : Leaf objs loc F B w (.ol ⟨s, j, g, 0⟩ .whole) (hdr l x.length) := ⟨rfl, .inr ⟨h1.symm, 0, _, h2, .inr ⟨rfl, by simp only [viewOk, h3]⟩⟩⟩
      have := UOk.plain (p := .mut z e t) hl
      refine ⟨fun k v o l' hk hl' => ?_, this.vals, this.leafs, this.val1s⟩
      cases k with
      | zero => simp [unpack] at hk; obtain ⟨rfl, rfl⟩ := hk; simp at hl'; subst hl'; exact hr
      | succ k => simp [unpack] at hk
  | ptr po p ih =>
    intro x vs Sx j hok hr
    simp only [Pat.ok, Bool.and_eq_true] at hok
    obtain ⟨b, cs, e, fr, S', rfl, rfl, h1, h2, h3, h4⟩ := hr
    obtain ⟨ls, k1, k2, k3, k4⟩ := ih (j + 1) hok.2.1 h4
    refine ⟨⟨some b, 0, 0, []⟩ :: ls, by simp [unpack, k1], by rw [List.flatMap_cons, k2]; rfl, fun k v o h => ?_, fun objs loc hs => ?_⟩
    · cases k with
      | zero => simp [unpack] at h; obtain ⟨rfl, rfl⟩ := h; exact ⟨rfl, rfl⟩
      | succ k => exact k3 k v o (by simpa [unpack] using h)
    · have hs : Sits objs loc s g j ((0, .box (unpack s g p x (j + 1)).1) :: (unpack s g p x (j + 1)).2) (⟨some b, 0, 0, []⟩ :: ls) := hs
      obtain ⟨g1, g2, g3⟩ := sits_ref hs
      have u := k4 objs loc hs.tail
      have hl : Leaf objs loc F B w (.ptr ⟨s, j, g, 0⟩ po) (.pointer (some ⟨b, po, none⟩)) := ⟨rfl, .inr ⟨g1.symm, 0, _, g2, .inr ⟨rfl, b, by rw [g3], rfl⟩⟩⟩
      have := UOk.plain (p := .ptr po p) hl
      refine ⟨fun k v o l' hk hl' => ?_, this.vals, this.leafs, this.val1s⟩
      cases k with
      | zero =>
        simp [unpack] at hk; obtain ⟨rfl, rfl⟩ := hk; simp at hl'; subst hl'
        exact ⟨b, cs, e, fr, rfl, rfl, h1, h2, u.leafs (.inl hok.1) h3⟩
      | succ k => exact u.obs k v o l' (by simpa [unpack] using hk) (by simpa using hl')
  | agg p ih =>
    intro x vs Sx j hok hr
    simp only [Pat.ok, Bool.and_eq_true] at hok
    obtain ⟨cs, rfl, h3, h4⟩ := hr
    obtain ⟨ls, k1, k2, k3, k4⟩ := ih j hok.2 h4
    refine ⟨ls, k1, k2, k3, fun objs loc hs => ?_⟩
    have u := k4 objs loc hs
    have hv : Val1 objs loc F B w (.agg (unpack s g p x j).1) (.agg cs) := ⟨cs, rfl, u.leafs (.inl hok.1) h3⟩
    exact ⟨u.obs, ⟨hv, trivial⟩, fun h _ => by simp [Pat.cells, Pat.one] at h, fun _ => ⟨hv, trivial⟩⟩
  | mag p ih =>
    intro x vs Sx j hok hr
    simp only [Pat.ok, Bool.and_eq_true] at hok
    obtain ⟨cs, rfl, h3, h4⟩ := hr
    obtain ⟨ls, k1, k2, k3, k4⟩ := ih j hok.2 h4
    refine ⟨ls, k1, k2, k3, fun objs loc hs => ?_⟩
    have u := k4 objs loc hs
    have hv : Val1 objs loc F B w (.agg (unpack s g p x j).1) (.agg cs) := ⟨cs, rfl, u.leafs (.inl hok.1) h3⟩
    exact ⟨u.obs, ⟨hv, trivial⟩, fun h _ => by simp [Pat.cells, Pat.one] at h, fun _ => ⟨hv, trivial⟩⟩
  | tup p ih =>
    intro x vs Sx j hok hr
    simp only [Pat.ok, Bool.and_eq_true] at hok
    obtain ⟨cs, rfl, h4⟩ := hr
    obtain ⟨ls, k1, k2, k3, k4⟩ := ih j hok.2 h4
    refine ⟨ls, k1, k2, k3, fun objs loc hs => ?_⟩
    have u := k4 objs loc hs
    exact ⟨u.obs, ⟨⟨cs, rfl, u.val1s (.inl hok.1)⟩, trivial⟩, fun h _ => by simp [Pat.cells, Pat.one] at h, fun h => by simp [Pat.vals, Pat.single] at h⟩
  | fn f p ih =>
    intro x vs Sx j hok hr
    simp only [Pat.ok, Bool.and_eq_true] at hok
    obtain ⟨cs, rfl, h3, h4⟩ := hr
    obtain ⟨ls, k1, k2, k3, k4⟩ := ih j hok.2 h4
    refine ⟨ls, k1, k2, k3, fun objs loc hs => ?_⟩
    have u := k4 objs loc hs
    have hv : Val1 objs loc F B w (.fn f (unpack s g p x j).1) (.func (.func f) #[] cs) := ⟨cs, rfl, u.leafs (.inl hok.1) h3⟩
    exact ⟨u.obs, ⟨hv, trivial⟩, fun h _ => by simp [Pat.cells, Pat.one] at h, fun _ => ⟨hv, trivial⟩⟩
  | nil =>
    intro x vs Sx j _ hr
    obtain ⟨rfl, rfl⟩ := hr
    exact ⟨[], rfl, rfl, fun k v o h => by simp [unpack] at h, fun objs loc _ => ⟨fun k v o l h => by simp [unpack] at h, trivial, fun _ _ => trivial, fun _ => trivial⟩⟩
  | cons a b iha ihb =>
    intro x vs Sx j hok hr
    simp only [Pat.ok, Bool.and_eq_true] at hok
    obtain ⟨v, vs', S1, S2, rfl, rfl, h1, h2⟩ := hr
    obtain ⟨ls, k1, k2, k3, k4⟩ := iha j hok.1 h1
    obtain ⟨ls', l1, l2, l3, l4⟩ := ihb (j + (unpack s g a x.1 j).2.length) hok.2 h2
    have e2 : (unpack s g (.cons a b) x j).2 = (unpack s g a x.1 j).2 ++ (unpack s g b x.2 (j + (unpack s g a x.1 j).2.length)).2 := rfl
    have e1 : (unpack s g (.cons a b) x j).1 = (unpack s g a x.1 j).1 ++ (unpack s g b x.2 (j + (unpack s g a x.1 j).2.length)).1 := rfl
    refine ⟨ls ++ ls', by rw [e2]; simp [k1, l1], by rw [List.flatMap_append, k2, l2], fun k v o h => ?_, fun objs loc hs => ?_⟩
    · rw [e2] at h
      by_cases hk : k < (unpack s g a x.1 j).2.length
      · rw [List.getElem?_append_left hk] at h; exact k3 k v o h
      · rw [List.getElem?_append_right (by omega)] at h; exact l3 _ v o h
    · rw [e2] at hs
      have u := k4 objs loc (hs.left k1)
      have u' := l4 objs loc (hs.right k1)
      rw [e1, e2]
      have one : ∀ {as : List AV}, Vals objs loc F B w as [v] → ∃ a, as = [a] := fun {as} h => by
        match as, h with
        | [a], _ => exact ⟨a, rfl⟩
        | [], h => exact h.elim
        | _ :: _ :: _, h => exact h.2.elim
      obtain ⟨av, hav⟩ := one u.vals
      have uv := u.vals
      have ul := u.leafs
      have u1 := u.val1s
      rw [hav] at uv ul u1 ⊢
      refine ⟨fun k v' o l hk hl => ?_, ⟨uv.1, u'.vals⟩, fun h h1 => ?_, fun h => ?_⟩
      · by_cases hk' : k < (unpack s g a x.1 j).2.length
        · rw [List.getElem?_append_left hk'] at hk
          rw [List.getElem?_append_left (by omega)] at hl
          exact u.obs k v' o l hk hl
        · rw [List.getElem?_append_right (by omega)] at hk
          rw [List.getElem?_append_right (by omega), k1] at hl
          exact u'.obs _ v' o l hk hl
      · simp only [Pat.cells, Pat.one, Bool.and_eq_true, Bool.false_eq_true, or_false] at h
        have := ul (.inr h.1) (fun v hv => h1 v (by simp at hv; subst hv; simp))
        exact ⟨this.1, this.2.1, u'.leafs (.inl h.2) fun v hv => h1 v (List.mem_cons_of_mem _ hv)⟩
      · simp only [Pat.vals, Pat.single, Bool.and_eq_true, Bool.false_eq_true, or_false] at h
        exact ⟨(u1 (.inr h.1)).1, u'.val1s (.inl h.2)⟩
end
end Go.Eng
end

section
/-! Engine, soundness 20: states at cuts. -/
namespace Go.Eng
section
variable {base : Nat} {S : List Nat} {B F B' F' : Nat → Prop} {w0 : World} {objs : Upd} {loc : Loc} {w w' : World} {ρ : Type}

theorem live_ob {r : Ref} (h : live (Get.ob (look objs) r) = true) : ∃ o, Get.ob (look objs) r = o ∧ live o = true ∧ r.g = (look objs r.s).g ∧ (look objs r.s).os[r.j]? = some (r.v, o) := by
  cases ho : Get.ob (look objs) r with
  | gone => rw [ho] at h; simp [live] at h
  | box cs => exact ⟨_, rfl, rfl, ob_some ho (by simp)⟩
  | lst z e t xs => exact ⟨_, rfl, rfl, ob_some ho (by simp)⟩
theorem live_of_lst {o : Ob} (h : isLst o = true) : live o = true := by cases o <;> simp_all [isLst, live]

theorem off_iff : ∀ {rs os : List Ref}, Ref.off rs os = true ↔ ∀ r ∈ rs, Ref.among r os = false
  | [], _ => by simp [Ref.off]
  | r :: rs, os => by simp [Ref.off, off_iff (rs := rs)]

theorem same_block (h : SR base S B w0 objs loc F w) {r r' : Ref} {b : Nat} (h1 : live (Get.ob (look objs) r) = true) (h2 : live (Get.ob (look objs) r') = true) (hb : b ∈ (loc r.s r.j).all) (hb' : b ∈ (loc r'.s r'.j).all) : r.s = r'.s ∧ r.j = r'.j := by
  obtain ⟨o, _, l1, _, e1⟩ := live_ob h1
  obtain ⟨o', _, l2, _, e2⟩ := live_ob h2
  exact h.apart _ _ _ _ _ _ _ _ b e1 e2 l1 l2 hb hb'

theorem blks_mem {rs : List Ref} {b : Nat} : b ∈ blks loc rs ↔ ∃ r ∈ rs, b ∈ (loc r.s r.j).all := by simp [blks]

theorem LV.nodup_of {l : LV} (h : l.sub = []) : l.all.Nodup := by
  unfold LV.all
  rw [h, List.append_nil]
  cases l.blk <;> simp
theorem ObOk.nodup {l : LV} {o : Ob} (h : ObOk objs loc F B w l o) (hl : live o = true) : l.all.Nodup := by
  cases o with
  | gone => simp [live] at hl
  | box cs => obtain ⟨_, _, _, _, _, h, _⟩ := h; exact LV.nodup_of h
  | lst z e t xs => exact LV.nodup_of h.1

theorem blks_nodup (h : SR base S B w0 objs loc F w) : ∀ {rs : List Ref}, (∀ r ∈ rs, live (Get.ob (look objs) r) = true) → Ref.apart rs = true → (blks loc rs).Nodup
  | [], _, _ => List.nodup_nil
  | r :: rs, hl, ha => by
    simp only [Ref.apart, Bool.and_eq_true, Bool.not_eq_true'] at ha
    have ih := blks_nodup h (fun r' hr' => hl r' (List.mem_cons_of_mem _ hr')) ha.2
    have e : blks loc (r :: rs) = (loc r.s r.j).all ++ blks loc rs := List.flatMap_cons ..
    rw [e]
    obtain ⟨o, _, l1, _, e1⟩ := live_ob (hl r (by simp))
    refine List.nodup_append.2 ⟨(h.obs _ _ _ _ e1).nodup l1, ih, fun b hb b' hm e => ?_⟩
    subst e
    obtain ⟨r', hr', hb'⟩ := blks_mem.1 hm
    have := same_block h (hl r (by simp)) (hl r' (List.mem_cons_of_mem _ hr')) hb hb'
    have : Ref.among r rs = true := among_iff.2 ⟨r', hr', this⟩
    rw [this] at ha
    exact absurd ha.1 (by simp)

theorem took_ok {get : Get} {t : Took} (h : SR base S B w0 objs loc F w) (ht : TookOk objs get t) (hok : t.ok = true) : (blks loc t.owns).Nodup ∧ ∀ b ∈ blks loc t.owns, ¬ FK F loc t.imms b ∧ ¬ BK B loc t.bors b ∧ b < w.heap.size ∧ (base ≤ b ∨ b ∈ S) := by
  simp only [Took.ok, Bool.and_eq_true] at hok
  refine ⟨blks_nodup h (fun r hr => (ht.owns r hr).1) hok.1, fun b hb => ?_⟩
  obtain ⟨r, hr, hb⟩ := blks_mem.1 hb
  obtain ⟨o, _, l1, _, e1⟩ := live_ob (ht.owns r hr).1
  obtain ⟨a1, a2, a3, a4⟩ := h.own _ _ _ _ b e1 l1 hb
  refine ⟨fun hF => ?_, fun hB => ?_, a3, a4⟩
  · rcases hF with hF | ⟨r', hr', hb'⟩
    · exact a1 hF
    · have := same_block h (live_of_lst (ht.imms r' hr').1) (ht.owns r hr).1 hb' hb
      have : Ref.among r' t.owns = true := among_iff.2 ⟨r, hr, this⟩
      rw [off_iff.1 hok.2.1 r' hr'] at this
      cases this
  · rcases hB with hB | ⟨r', hr', hb'⟩
    · exact a2 hB
    · have := same_block h (live_of_lst (ht.bors r' hr')) (ht.owns r hr).1 hb' hb
      have : Ref.among r' t.owns = true := among_iff.2 ⟨r, hr, this⟩
      rw [off_iff.1 hok.2.2 r' hr'] at this
      cases this

/-- All but the objects. -/
structure Frm (base : Nat) (S : List Nat) (B : Nat → Prop) (w0 : World) (F : Nat → Prop) (w : World) : Prop where
  fro : ∀ b, F b → b < w.heap.size
  bor : ∀ b, B b → b < base ∧ b ∉ S
  os : w.os = w0.os
  tape : w.tape = w0.tape
  output : w.output = w0.output
  size : base = w0.heap.size ∧ base ≤ w.heap.size
  block : ∀ b, b < base → b ∉ S → w.heap[b]? = w0.heap[b]?

theorem SR.frm (h : SR base S B w0 objs loc F w) : Frm base S B w0 F w := ⟨h.fro, h.bor, h.os, h.tape, h.output, h.size, h.block⟩

def Mine (base : Nat) (S : List Nat) (B F : Nat → Prop) (w : World) (Sx : List Nat) : Prop := Sx.Nodup ∧ ∀ b ∈ Sx, ¬ F b ∧ ¬ B b ∧ b < w.heap.size ∧ (base ≤ b ∨ b ∈ S)

structure Holds (base : Nat) (S : List Nat) (B : Nat → Prop) (w0 : World) (F : Nat → Prop) (w : World) (p : Pat) (x : p.den) (vs : List Value) : Prop where
  frm : Frm base S B w0 F w
  rep : ∃ Sx, Rep F B w p x vs Sx ∧ Mine base S B F w Sx

theorem flatMap_pos {α : Type} (f : α → List Nat) : ∀ {l : List α}, (l.flatMap f).Nodup → ∀ {i k : Nat} {a c : α} {b : Nat}, l[i]? = some a → l[k]? = some c → b ∈ f a → b ∈ f c → i = k
  | [], _, i, k, a, c, b, hi, _, _, _ => by simp at hi
  | x :: l, hn, i, k, a, c, b, hi, hk, ha, hc => by
    rw [List.flatMap_cons] at hn
    obtain ⟨_, tail, hd⟩ := List.nodup_append.1 hn
    have head : ∀ {m : Nat} {y : α}, l[m]? = some y → b ∈ f x → b ∈ f y → False := fun {m y} hm hx hy => hd b hx b (List.mem_flatMap.2 ⟨y, List.mem_of_getElem? hm, hy⟩) rfl
    cases i with
    | zero =>
      cases k with
      | zero => rfl
      | succ k =>
        simp only [List.getElem?_cons_zero, Option.some.injEq] at hi
        subst hi
        exact (head (by simpa using hk) ha hc).elim
    | succ i =>
      cases k with
      | zero =>
        simp only [List.getElem?_cons_zero, Option.some.injEq] at hk
        subst hk
        exact (head (by simpa using hi) hc ha).elim
      | succ k => exact congrArg (· + 1) (flatMap_pos f tail (i := i) (k := k) (by simpa using hi) (by simpa using hk) ha hc)

theorem look_one (n s : Nat) (x : Slot) : look [(n, x)] s = if n = s then x else .none := by rw [look_cons]; rfl

/-- One value and its objects, in the slot n. -/
theorem unpack1_ok {p : Pat} {x : p.den} {vs : List Value} {Sx : List Nat} (n : Nat) (hok : p.ok = true) (h : Rep F B w p x vs Sx) (hnd : Sx.Nodup) : ∃ l : Nat → LV,
    (∀ j v o b, (unpack n 0 p x 0).2[j]? = some (v, o) → b ∈ (l j).all → b ∈ Sx) ∧
    (∀ j v o j' v' o' b, (unpack n 0 p x 0).2[j]? = some (v, o) → (unpack n 0 p x 0).2[j']? = some (v', o') → b ∈ (l j).all → b ∈ (l j').all → j = j') ∧
    ∀ (objs : Upd) (loc' : Loc), look objs n = ⟨0, (unpack n 0 p x 0).2⟩ → (∀ j, loc' n j = l j) → Vals objs loc' F B w (unpack n 0 p x 0).1 vs ∧ ∀ j v o, (unpack n 0 p x 0).2[j]? = some (v, o) → ObOk objs loc' F B w (l j) o := by
  obtain ⟨ls, h1, h2, h3, h4⟩ := unpack_ok n 0 p 0 hok h
  have hat : ∀ {j : Nat} {v : Nat} {o : Ob}, (unpack n 0 p x 0).2[j]? = some (v, o) → ls[j]? = some ((ls[j]?).getD LV.nil) := fun {j v o} hj => by
    have hlt : j < (unpack n 0 p x 0).2.length := (List.getElem?_eq_some_iff.1 hj).1
    rw [List.getElem?_eq_getElem (show j < ls.length by omega)]
    rfl
  refine ⟨fun j => (ls[j]?).getD LV.nil, fun j v o b hj hb => ?_, fun j v o j' v' o' b hj hj' hb hb' => ?_, fun objs loc' hl hloc => ?_⟩
  · rw [← h2]
    exact List.mem_flatMap.2 ⟨_, List.mem_of_getElem? (hat hj), hb⟩
  · exact flatMap_pos (·.all) (l := ls) (by rw [h2]; exact hnd) (hat hj) (hat hj') hb hb'
  · have hs : Sits objs loc' n 0 0 (unpack n 0 p x 0).2 ls := by
      refine ⟨by rw [hl], fun k e hk => ?_⟩
      rw [hl, Nat.zero_add]
      refine ⟨hk, ?_⟩
      rw [hloc]
      exact hat (v := e.1) (o := e.2) hk
    have u := h4 _ _ hs
    exact ⟨u.vals, fun j v o hj => u.obs j v o _ hj (hat hj)⟩

/-- What is told of the objects that a list's values lead to. -/
structure CutOk (F B : Nat → Prop) (w : World) (n : Nat) (avs : List AV) (u : Upd) (vs : List Value) (Sx : List Nat) (loc : Loc) : Prop where
  low : ∀ s, s < n → look u s = Slot.none
  mem : ∀ s j v o b, (look u s).os[j]? = some (v, o) → b ∈ (loc s j).all → b ∈ Sx
  apart : ∀ s j v o s' j' v' o' b, (look u s).os[j]? = some (v, o) → (look u s').os[j']? = some (v', o') → b ∈ (loc s j).all → b ∈ (loc s' j').all → s = s' ∧ j = j'
  ok : ∀ (objs : Upd) (loc' : Loc), (∀ s, n ≤ s → look objs s = look u s ∧ ∀ j, loc' s j = loc s j) → Vals objs loc' F B w avs vs ∧ ∀ s j v o, (look u s).os[j]? = some (v, o) → ObOk objs loc' F B w (loc s j) o

theorem CutOk.one {p : Pat} {x : p.den} {vs : List Value} {Sx : List Nat} (n : Nat) (hok : p.ok = true) (h : Rep F B w p x vs Sx) (hnd : Sx.Nodup) : ∃ loc, CutOk F B w n (unpack n 0 p x 0).1 [(n, ⟨0, (unpack n 0 p x 0).2⟩)] vs Sx loc := by
  obtain ⟨l, h1, h2, h3⟩ := unpack1_ok n hok h hnd
  have hat : ∀ {s j : Nat} {v : Nat} {o : Ob}, (look [(n, (⟨0, (unpack n 0 p x 0).2⟩ : Slot))] s).os[j]? = some (v, o) → s = n ∧ (unpack n 0 p x 0).2[j]? = some (v, o) := fun {s j v o} hj => by
    rw [look_one] at hj
    split at hj
    · rename_i e
      exact ⟨e.symm, hj⟩
    · simp [Slot.none] at hj
  refine ⟨fun _ j => l j, fun s hs => by rw [look_one, if_neg (by omega)], fun s j v o b hj hb => h1 j v o b (hat hj).2 hb, fun s j v o s' j' v' o' b hj hj' hb hb' => ?_, fun objs loc' hag => ?_⟩
  · obtain ⟨rfl, e1⟩ := hat hj
    obtain ⟨rfl, e2⟩ := hat hj'
    exact ⟨rfl, h2 _ _ _ _ _ _ _ e1 e2 hb hb'⟩
  · have hn := hag n (Nat.le_refl _)
    rw [look_one, if_pos rfl] at hn
    obtain ⟨k1, k2⟩ := h3 objs loc' hn.1 hn.2
    exact ⟨k1, fun s j v o hj => k2 j v o (hat hj).2⟩

theorem vals_app {objs : Upd} {loc : Loc} : ∀ {as bs : List AV} {vs us : List Value}, Vals objs loc F B w as vs → Vals objs loc F B w bs us → Vals objs loc F B w (as ++ bs) (vs ++ us)
  | [], _, [], _, _, h => h
  | _ :: _, _, _ :: _, _, h, k => ⟨h.1, vals_app h.2 k⟩
  | [], _, _ :: _, _, h, _ => h.elim
  | _ :: _, _, [], _, h, _ => h.elim

theorem unpackC_ok : ∀ (p : Pat) {x : p.den} {vs : List Value} {Sx : List Nat} (n : Nat), p.ok = true → Rep F B w p x vs Sx → Sx.Nodup → ∃ loc, CutOk F B w n (unpackC p x n).1 (unpackC p x n).2 vs Sx loc := by
  intro p
  induction p with
  | cons a b _ ihb =>
    intro x vs Sx n hok hr hnd
    simp only [Pat.ok, Bool.and_eq_true] at hok
    obtain ⟨v, vs', S1, S2, rfl, rfl, h1, h2⟩ := hr
    obtain ⟨d1, d2, d3⟩ := List.nodup_append.1 hnd
    obtain ⟨l, k1, k2, k3⟩ := unpack1_ok n hok.1 h1 d1
    obtain ⟨loc, g⟩ := ihb (n + 1) hok.2 h2 d2
    have e1 : (unpackC (.cons a b) x n).1 = (unpack n 0 a x.1 0).1 ++ (unpackC b x.2 (n + 1)).1 := rfl
    have e2 : (unpackC (.cons a b) x n).2 = (n, ⟨0, (unpack n 0 a x.1 0).2⟩) :: (unpackC b x.2 (n + 1)).2 := rfl
    rw [e1, e2]
    have hlk : ∀ s, look ((n, (⟨0, (unpack n 0 a x.1 0).2⟩ : Slot)) :: (unpackC b x.2 (n + 1)).2) s = if n = s then ⟨0, (unpack n 0 a x.1 0).2⟩ else look (unpackC b x.2 (n + 1)).2 s := fun s => look_cons _ _ _ _
    have hnone : look (unpackC b x.2 (n + 1)).2 n = Slot.none := g.low n (by omega)
    refine ⟨fun s j => if s = n then l j else loc s j, fun s hs => ?_, fun s j v o b' hj hb => ?_, fun s j v o s' j' v' o' b' hj hj' hb hb' => ?_, fun objs loc' hag => ?_⟩
    · rw [hlk, if_neg (by omega)]
      exact g.low s (by omega)
    · rw [hlk] at hj
      by_cases e : n = s
      · subst e
        rw [if_pos rfl] at hj hb
        exact List.mem_append_left _ (k1 _ _ _ _ hj hb)
      · rw [if_neg e] at hj
        rw [if_neg (fun q => e q.symm)] at hb
        exact List.mem_append_right _ (g.mem _ _ _ _ _ hj hb)
    · rw [hlk] at hj hj'
      by_cases e : n = s
      · subst e
        rw [if_pos rfl] at hj hb
        by_cases e' : n = s'
        · subst e'
          rw [if_pos rfl] at hj' hb'
          exact ⟨rfl, k2 _ _ _ _ _ _ _ hj hj' hb hb'⟩
        · rw [if_neg e'] at hj'
          rw [if_neg (fun q => e' q.symm)] at hb'
          exact absurd rfl (d3 _ (k1 _ _ _ _ hj hb) _ (g.mem _ _ _ _ _ hj' hb'))
      · rw [if_neg e] at hj
        rw [if_neg (fun q => e q.symm)] at hb
        by_cases e' : n = s'
        · subst e'
          rw [if_pos rfl] at hj' hb'
          exact absurd rfl (d3 _ (k1 _ _ _ _ hj' hb') _ (g.mem _ _ _ _ _ hj hb))
        · rw [if_neg e'] at hj'
          rw [if_neg (fun q => e' q.symm)] at hb'
          exact g.apart _ _ _ _ _ _ _ _ _ hj hj' hb hb'
    · have hn := hag n (Nat.le_refl _)
      rw [hlk, if_pos rfl] at hn
      obtain ⟨q1, q2⟩ := k3 objs loc' hn.1 (fun j => by rw [hn.2 j, if_pos rfl])
      obtain ⟨r1, r2⟩ := g.ok objs loc' (fun s hs => by
        have := hag s (by omega)
        rw [hlk, if_neg (by omega)] at this
        exact ⟨this.1, fun j => by rw [this.2 j, if_neg (by omega)]⟩)
      refine ⟨vals_app q1 r1, fun s j v o hj => ?_⟩
      rw [hlk] at hj
      by_cases e : n = s
      · subst e
        rw [if_pos rfl] at hj ⊢
        exact q2 j v o hj
      · rw [if_neg e] at hj
        rw [if_neg (fun q => e q.symm)]
        exact r2 s j v o hj
  | _ => intro x vs Sx n hok hr hnd; exact CutOk.one n hok hr hnd

theorem unpack_sr {p : Pat} {x : p.den} {vs : List Value} (n : Nat) (hok : p.ok = true) (h : Holds base S B w0 F w p x vs) :
    ∃ loc, SR base S B w0 (unpackC p x n).2 loc F w ∧ Vals (unpackC p x n).2 loc F B w (unpackC p x n).1 vs := by
  obtain ⟨hf, Sx, hrep, hnd, hmine⟩ := h
  obtain ⟨loc, g⟩ := unpackC_ok p n hok hrep hnd
  obtain ⟨h1, h2⟩ := g.ok _ loc (fun s _ => ⟨rfl, fun _ => rfl⟩)
  exact ⟨loc, ⟨fun s j v o hj => h2 s j v o hj, fun s j v o s' j' v' o' b hj hj' _ _ hb hb' => g.apart _ _ _ _ _ _ _ _ _ hj hj' hb hb', fun s j v o b hj _ hb => hmine b (g.mem _ _ _ _ _ hj hb), hf.fro, hf.bor, hf.os, hf.tape, hf.output, hf.size, hf.block⟩, h1⟩

theorem FK_more (h : SR base S B w0 objs loc F w) {ks : List Ref} (hk : ∀ r ∈ ks, live (Get.ob (look objs) r) = true) : More base S F (FK F loc ks) ∧ ∀ b, FK F loc ks b → b < w.heap.size := by
  have key : ∀ r ∈ ks, ∀ b, b ∈ (loc r.s r.j).all → b < w.heap.size ∧ (base ≤ b ∨ b ∈ S) := fun r hr b hb => by
    obtain ⟨o, _, l1, _, e1⟩ := live_ob (hk r hr)
    exact (h.own _ _ _ _ b e1 l1 hb).2.2
  refine ⟨fun b hb => ?_, fun b hb => ?_⟩
  · rcases hb with hb | ⟨r, hr, hb⟩
    · exact .inl hb
    · exact .inr (key r hr b hb).2
  · rcases hb with hb | ⟨r, hr, hb⟩
    · exact h.fro b hb
    · exact (key r hr b hb).1

theorem pack_holds {p : Pat} {avs : List AV} {vs : List Value} {K : p.den → Option ρ} {res : ρ} (h : SR base S B w0 objs loc F w) (hk : pack (look objs) p avs (fun x t => match t.sole with | true => K x | false => none) = some res) (hv : Vals objs loc F B w avs vs) :
    ∃ x F', K x = some res ∧ Holds base S B w0 F' w p x vs ∧ (∀ b, F b → F' b) ∧ More base S F F' := by
  obtain ⟨x, t, Sx, hk, hrep, hS, ht⟩ := pack_ok h (fun s => .inl rfl) p hk hv
  split at hk
  case h_2 => cases hk
  rename_i hsole
  simp only [Took.sole, Bool.and_eq_true, List.isEmpty_iff] at hsole
  obtain ⟨q1, q2⟩ := took_ok h ht hsole.1
  have hBK : BK B loc t.bors = B := by rw [hsole.2]; exact FK.nil
  rw [hBK] at hrep q2
  obtain ⟨m1, m2⟩ := FK_more h (fun r hr => live_of_lst (ht.imms r hr).1)
  refine ⟨x, FK F loc t.imms, hk, ⟨⟨m2, h.bor, h.os, h.tape, h.output, h.size, h.block⟩, Sx, hrep, ?_⟩, fun b hb => .inl hb, m1⟩
  rw [hS]
  exact ⟨q1, q2⟩
end
end Go.Eng
end

section
/-! Engine, soundness 21: what a callee hands back. -/
namespace Go.Eng

def RepOut (F B : Nat → Prop) (w : World) : (p : Pat) → p.out → List Value → List Nat → Prop
  | .mut z e t, xs, vs, S => ∃ l : LV, vs = [hdr l xs.length] ∧ S = l.all ∧ LstOk F w l z e t xs
  | .ptr o p, x, vs, S => Rep F B w (.ptr o p) x vs S
  | .fn f p, x, vs, S => ∃ cs : Array Value, vs = [.func (.func f) #[] cs] ∧ RepOut F B w p x cs.toList S
  | .mag p, x, vs, S => ∃ cs : Array Value, vs = [.agg cs] ∧ RepOut F B w p x cs.toList S
  | .cons a b, x, vs, S => ∃ v vs' S1 S2, vs = v :: vs' ∧ S = S1 ++ S2 ∧ RepOut F B w a x.1 [v] S1 ∧ RepOut F B w b x.2 vs' S2
  | .any, _, _, S | .int _, _, _, S | .bool, _, _, S | .str, _, _, S | .nils, _, _, S | .il _ _, _, _, S | .own _ _ _, _, _, S | .agg _, _, _, S | .tup _, _, _, S | .nil, _, _, S => S = []

section
variable {base : Nat} {S : List Nat} {B F B' F' : Nat → Prop} {w0 : World} {objs : Upd} {loc : Loc} {w w' : World} {ρ : Type}

theorem hdr_inj {l l' : LV} {n n' : Nat} (h : hdr l n = hdr l' n') : (l.blk = l'.blk ∧ l.cap = l'.cap ∧ (l.blk ≠ none → l.off = l'.off)) ∧ n = n' := by
  obtain ⟨b, o, c, u⟩ := l
  obtain ⟨b', o', c', u'⟩ := l'
  simp only [hdr, Value.slice.injEq] at h
  obtain ⟨h1, h2, h3⟩ := h
  refine ⟨⟨?_, h3, ?_⟩, h2⟩
  · cases b <;> cases b' <;> simp_all
  · cases b <;> cases b' <;> simp_all

theorem LstOk.of_hdr {F : Nat → Prop} {w : World} {l l' : LV} {z : Bool} {e : Nat} {t : Ty} {xs : List t.den} (h : LstOk F w l z e t xs) (hb : l.blk = l'.blk) (hc : l.cap = l'.cap) (ho : l.blk ≠ none → l.off = l'.off) (hs : l'.sub = []) : LstOk F w l' z e t xs := by
  obtain ⟨b, o, c, u⟩ := l
  obtain ⟨b', o', c', u'⟩ := l'
  dsimp only at hb hc hs ho
  subst hb hc hs
  refine ⟨rfl, ?_⟩
  have h2 := h.2
  cases b with
  | none => exact h2
  | some b =>
    have := ho (by simp)
    subst this
    exact h2

def lvs (loc : Loc) (ns : List (Ref × Ob)) : List LV := ns.map fun n => loc n.1.s n.1.j

structure BOk (objs : Upd) (loc : Loc) (F' B' : Nat → Prop) (w' : World) (d g j : Nat) (owns : List Ref) (ns : List (Ref × Ob)) (os : List (Nat × Ob)) (ls : List LV) (S2 : List Nat) : Prop where
  len : ls.length = os.length
  perm : ((lvs loc ns ++ ls).flatMap (·.all)).Perm S2
  sub : (ns.map (·.1)).Sublist owns
  fresh : ∀ (k : Nat) (v : Nat) (o : Ob), os[k]? = some (v, o) → v = 0 ∧ live o = true
  comp : ∀ n ∈ ns, live n.2 = true ∧ Compat (loc n.1.s n.1.j) (loc n.1.s n.1.j) (Get.ob (look objs) n.1) n.2
  obs : ∀ objs' loc', Sits objs' loc' d g j os ls → (∀ n ∈ ns, ObOk objs' loc' F' B' w' (loc n.1.s n.1.j) n.2) ∧ ∀ (k : Nat) (v : Nat) (o : Ob) (l : LV), os[k]? = some (v, o) → ls[k]? = some l → ObOk objs' loc' F' B' w' l o

theorem BOk.nil {d g j : Nat} {owns : List Ref} : BOk objs loc F' B' w' d g j owns [] [] [] [] :=
  ⟨rfl, by simp [lvs], by simp, fun k v o h => by simp at h, by simp, fun _ _ _ => ⟨by simp, fun k v o l h => by simp at h⟩⟩

theorem back_ok {get : Get} (h : SR base S B w0 objs loc F w) (hR : ∀ s, get s = look objs s ∨ get s = Slot.none) (d g : Nat) (p : Pat) : ∀ {avs : List AV} {vs : List Value} {x : p.den} {t : Took} {out : p.out} {S2 : List Nat} (j : Nat), p.ok = true →
    pack get p avs pr = some (x, t) → Vals objs loc F B w avs vs → RepOut F' B' w' p out vs S2 → ∃ ls, BOk objs loc F' B' w' d g j t.owns (back d g p avs out j).1 (back d g p avs out j).2 ls S2 := by
  have one : ∀ {avs : List AV} {vs : List Value} {a : AV}, avs = [a] → Vals objs loc F B w avs vs → ∃ v, vs = [v] ∧ Val objs loc F B w a v := by
    intro avs vs a e hv
    subst e
    match vs, hv with
    | [v], hv => exact ⟨v, rfl, hv.1⟩
    | [], hv => exact hv.elim
    | _ :: _ :: _, hv => exact hv.2.elim
  have found : ∀ {r : Ref}, Get.ob get r ≠ .gone → Get.ob get r = Get.ob (look objs) r := fun hne => ob_get (seen hR hne)
  induction p with
  | «mut» z e ty =>
    intro avs vs x t out S2 j _ hk hv hr
    match avs, hk, hv with
    | [], hk, _ => cases z <;> simp [pack] at hk
    | _ :: _ :: _, hk, _ => cases z <;> simp [pack] at hk
    | [a], hk, hv =>
      obtain ⟨v, rfl, hv1⟩ := one rfl hv
      clear hv
      have hv := hv1
      clear hv1
      obtain ⟨l, e1, rfl, hl⟩ := hr
      cases a with
      | nils =>
        have hv : v = .slice none 0 0 := hv
        have : l.blk = none := by
          rw [hv] at e1
          simp only [hdr, List.cons.injEq, Value.slice.injEq] at e1
          cases hb : l.blk with
          | none => rfl
          | some b => rw [hb] at e1; simp at e1
        rw [LV.all_of hl.1, this]
        exact ⟨[], BOk.nil⟩
      | ol r vw =>
        cases vw with
        | sub lo hi => cases z <;> simp [pack] at hk
        | whole =>
          have hk' : (match get.ob r with
            | .lst z' e' t' xs => if h : t' = ty then (match Nat.beq e' e && (z || !z') with
              | true => pr (h ▸ xs) ⟨[r], [], []⟩
              | false => none) else none
            | _ => none) = some (x, t) := by cases z <;> exact hk
          split at hk'
          case h_2 => cases hk'
          rename_i z' e' t' xs hob
          have hob' := (found (r := r) (by rw [hob]; simp)).symm.trans hob
          split at hk'
          case isFalse => cases hk'
          rename_i et
          subst et
          split at hk'
          case h_2 => cases hk'
          injection hk' with hk'
          injection hk' with hx ht
          subst ht
          have hcv : v = hdr (loc r.s r.j) xs.length := RS.found (show Leaf objs loc F B w (.ol r .whole) v from hv).2 hob' (by simp)
          rw [hcv] at e1
          simp only [List.cons.injEq, and_true] at e1
          obtain ⟨⟨e2, e4, e5⟩, e3⟩ := hdr_inj e1
          have hlo := (ob_some hob' (by simp)).2
          have hsub : (loc r.s r.j).sub = [] := (h.obs _ _ _ _ hlo).1
          refine ⟨[], rfl, ?_, by simp [back], fun k v o h => by simp [back] at h, fun n hn => ?_, fun objs' loc' _ => ⟨fun n hn => ?_, fun k v o l h => by simp [back] at h⟩⟩
          · simp only [back, lvs, List.map_cons, List.map_nil, List.append_nil, List.flatMap_cons, List.flatMap_nil]
            rw [LV.all_of hl.1, LV.all_of hsub, e2]
          · simp only [back, List.mem_singleton] at hn
            subst hn
            exact ⟨rfl, by rw [hob']; exact ⟨rfl, e3, rfl⟩⟩
          · simp only [back, List.mem_singleton] at hn
            subst hn
            exact hl.of_hdr e2.symm e4.symm (fun hne => (e5 (by rw [e2]; exact hne)).symm) hsub
      | _ => cases z <;> simp [pack] at hk
  | ptr po p ih =>
    intro avs vs x t out S2 j hok hk hv hr
    simp only [Pat.ok, Bool.and_eq_true] at hok
    match avs, hk, hv with
    | [], hk, _ => simp [pack] at hk
    | _ :: _ :: _, hk, _ => simp [pack] at hk
    | [a], hk, hv =>
      obtain ⟨v, rfl, hv1⟩ := one rfl hv
      clear hv
      have hv := hv1
      clear hv1
      obtain ⟨b, cs, e, fr, S', e1, rfl, h1, h2, h3, h4⟩ := hr
      cases a <;> try (simp [pack] at hk; done)
      rename_i r off
      · simp only [pack] at hk
        split at hk
        case h_2 => cases hk
        rename_i hoff
        have hoff := Nat.eq_of_beq_eq_true hoff
        subst hoff
        split at hk
        case h_2 => cases hk
        rename_i ocs hob
        have hob' := (found (r := r) (by rw [hob]; simp)).symm.trans hob
        rw [pack_nat] at hk
        cases hp : pack get p ocs pr with
        | none => rw [hp] at hk; cases hk
        | some q =>
          rw [hp] at hk
          simp only [Nat2, Option.bind_some, pr, Option.some.injEq, Prod.mk.injEq] at hk
          obtain ⟨rfl, rfl⟩ := hk
          obtain ⟨b', hb, e2⟩ := RS.found (show Leaf objs loc F B w (.ptr r off) v from hv).2 hob' (by simp)
          rw [e2] at e1
          simp only [List.cons.injEq, Value.pointer.injEq, Option.some.injEq, Addr.mk.injEq, and_true] at e1
          subst e1
          have hsb : (loc r.s r.j).sub = [] := by
            obtain ⟨_, _, _, _, _, hs, _⟩ := h.obs _ _ _ _ (ob_some hob' (by simp)).2
            exact hs
          obtain ⟨ls, k1, k2, k3, k4⟩ := unpack_ok d g p j hok.2.1 h4
          refine ⟨ls, k1, ?_, by simp [back, Took.and], k3, fun n hn => ?_, fun objs' loc' hs => ?_⟩
          · simp only [back, lvs, List.map_cons, List.map_nil, List.singleton_append, List.flatMap_cons, k2]
            rw [LV.all_of hsb, hb]
            exact List.Perm.refl _
          · simp only [back, List.mem_singleton] at hn
            subst hn
            exact ⟨rfl, by rw [hob']; rfl⟩
          · have u := k4 objs' loc' hs
            refine ⟨fun n hn => ?_, u.obs⟩
            simp only [back, List.mem_singleton] at hn
            subst hn
            exact ⟨b', cs, e, fr, hb, hsb, h1, h2, u.leafs (.inl hok.1) h3⟩
  | fn f p ih =>
    intro avs vs x t out S2 j hok hk hv hr
    simp only [Pat.ok, Bool.and_eq_true] at hok
    match avs, hk, hv with
    | [], hk, _ => simp [pack] at hk
    | _ :: _ :: _, hk, _ => simp [pack] at hk
    | [a], hk, hv =>
      obtain ⟨v, rfl, hv1⟩ := one rfl hv
      clear hv
      have hv := hv1
      clear hv1
      obtain ⟨cs, e1, hr⟩ := hr
      cases a <;> try (simp [pack] at hk; done)
      rename_i f' acs
      simp only [pack] at hk
      split at hk
      case h_2 => cases hk
      obtain ⟨cv, rfl, hlf⟩ := hv
      simp only [List.cons.injEq, Value.func.injEq, true_and, and_true] at e1
      obtain ⟨_, rfl⟩ := e1
      exact ih j hok.2 hk hlf.vals hr
  | mag p ih =>
    intro avs vs x t out S2 j hok hk hv hr
    simp only [Pat.ok, Bool.and_eq_true] at hok
    match avs, hk, hv with
    | [], hk, _ => simp [pack] at hk
    | _ :: _ :: _, hk, _ => simp [pack] at hk
    | [a], hk, hv =>
      obtain ⟨v, rfl, hv1⟩ := one rfl hv
      clear hv
      have hv := hv1
      clear hv1
      obtain ⟨cs, e1, hr⟩ := hr
      cases a <;> try (simp [pack] at hk; done)
      rename_i acs
      simp only [pack] at hk
      obtain ⟨cv, rfl, hlf⟩ := val_agg hv
      simp only [List.cons.injEq, Value.agg.injEq, and_true] at e1
      subst e1
      exact ih j hok.2 hk hlf.vals hr
  | cons a b iha ihb =>
    intro avs vs x t out S2 j hok hk hv hr
    simp only [Pat.ok, Bool.and_eq_true] at hok
    obtain ⟨v, vs', S1, S2, rfl, rfl, h1, h2⟩ := hr
    cases avs with
    | nil => simp [pack] at hk
    | cons av avs =>
      simp only [pack] at hk
      rw [pack_nat] at hk
      cases hp : pack get a [av] pr with
      | none => rw [hp] at hk; cases hk
      | some q =>
        rw [hp] at hk
        simp only [Nat2, Option.bind_some] at hk
        rw [pack_nat] at hk
        cases hp' : pack get b avs pr with
        | none => rw [hp'] at hk; cases hk
        | some q' =>
          rw [hp'] at hk
          simp only [Nat2, Option.bind_some, pr, Option.some.injEq, Prod.mk.injEq] at hk
          obtain ⟨rfl, rfl⟩ := hk
          obtain ⟨ls, k⟩ := iha (vs := [v]) j hok.1 hp ⟨hv.1, trivial⟩ h1
          obtain ⟨ls', k'⟩ := ihb (j + (back d g a [av] out.1 j).2.length) hok.2 hp' hv.2 h2
          have e1 : (back d g (.cons a b) (av :: avs) out j).1 = (back d g a [av] out.1 j).1 ++ (back d g b avs out.2 (j + (back d g a [av] out.1 j).2.length)).1 := rfl
          have e2 : (back d g (.cons a b) (av :: avs) out j).2 = (back d g a [av] out.1 j).2 ++ (back d g b avs out.2 (j + (back d g a [av] out.1 j).2.length)).2 := rfl
          refine ⟨ls ++ ls', ?_⟩
          rw [e1, e2]
          refine ⟨by simp [k.len, k'.len], ?_, ?_, fun i v o hi => ?_, fun n hn => ?_, fun objs' loc' hs => ?_⟩
          · have := k.perm.append k'.perm
            simp only [lvs, List.map_append, List.flatMap_append, List.append_assoc] at this ⊢
            refine List.Perm.trans ?_ this
            refine List.Perm.append_left _ ?_
            rw [← List.append_assoc, ← List.append_assoc]
            exact List.Perm.append_right _ List.perm_append_comm
          · rw [List.map_append]
            exact k.sub.append k'.sub
          · by_cases hlt : i < (back d g a [av] out.1 j).2.length
            · rw [List.getElem?_append_left hlt] at hi; exact k.fresh i v o hi
            · rw [List.getElem?_append_right (by omega)] at hi; exact k'.fresh _ v o hi
          · rcases List.mem_append.1 hn with hn | hn
            · exact k.comp n hn
            · exact k'.comp n hn
          · have q := k.obs objs' loc' (hs.left k.len)
            have q' := k'.obs objs' loc' (hs.right k.len)
            refine ⟨fun n hn => (List.mem_append.1 hn).elim (q.1 n) (q'.1 n), fun i v o l hi hl => ?_⟩
            have hkl := k.len
            by_cases hlt : i < (back d g a [av] out.1 j).2.length
            · rw [List.getElem?_append_left hlt] at hi
              rw [List.getElem?_append_left (by omega)] at hl
              exact q.2 i v o l hi hl
            · rw [List.getElem?_append_right (by omega)] at hi
              rw [List.getElem?_append_right (by omega), hkl] at hl
              exact q'.2 _ v o l hi hl
  | own z e ty =>
    intro avs vs x t out S2 j _ hk hv hr
    cases hr
    exact ⟨[], by unfold back; exact BOk.nil⟩
  | any => intro avs vs x t out S2 j _ hk hv hr; cases hr; exact ⟨[], by unfold back; exact BOk.nil⟩
  | int k => intro avs vs x t out S2 j _ hk hv hr; cases hr; exact ⟨[], by unfold back; exact BOk.nil⟩
  | bool => intro avs vs x t out S2 j _ hk hv hr; cases hr; exact ⟨[], by unfold back; exact BOk.nil⟩
  | nils => intro avs vs x t out S2 j _ hk hv hr; cases hr; exact ⟨[], by unfold back; exact BOk.nil⟩
  | str => intro avs vs x t out S2 j _ hk hv hr; cases hr; exact ⟨[], by unfold back; exact BOk.nil⟩
  | il b ty => intro avs vs x t out S2 j _ hk hv hr; cases hr; exact ⟨[], by unfold back; exact BOk.nil⟩
  | agg p _ => intro avs vs x t out S2 j _ hk hv hr; cases hr; exact ⟨[], by unfold back; exact BOk.nil⟩
  | tup p _ => intro avs vs x t out S2 j _ hk hv hr; cases hr; exact ⟨[], by unfold back; exact BOk.nil⟩
  | nil => intro avs vs x t out S2 j _ hk hv hr; cases hr; exact ⟨[], by unfold back; exact BOk.nil⟩
end
end Go.Eng
end

section
/-! Engine, soundness 22: calls. -/
namespace Go.Eng

/-- What a call leaves. -/
structure Post (rs ps : Pat) (r : rs.den × ps.out) (args : List Value) (Sx : List Nat) (F B : Nat → Prop) (w : World) (F' : Nat → Prop) (S1 S2 : List Nat) (v : Value) (w' : World) : Prop where
  os : w'.os = w.os
  tape : w'.tape = w.tape
  output : w'.output = w.output
  size : w.heap.size ≤ w'.heap.size
  block : ∀ b, b < w.heap.size → b ∉ Sx → w'.heap[b]? = w.heap[b]?
  fro : ∀ b, F b → F' b
  more : ∀ b, F' b → F b ∨ w.heap.size ≤ b ∨ b ∈ Sx
  lt : ∀ b, F' b → b < w'.heap.size
  rep : Rep F' B w' rs r.1 [v] S1
  out : RepOut F' B w' ps r.2 args S2
  nodup : (S1 ++ S2).Nodup
  mine : ∀ b ∈ S1 ++ S2, ¬ F' b ∧ ¬ B b ∧ b < w'.heap.size ∧ (w.heap.size ≤ b ∨ b ∈ Sx)

/-- What comes of calling a function. -/
def Does (P : Program) (f : Nat) (args : Array Value) (w : World) (R : Value → World → Prop) : Prop :=
  (∃ g as, (callFunc f args).run P w = .ok (.enter g as) w ∧ Calls P g as w fun e w' => ∃ v, e = .returned v ∧ R v w') ∨ ∃ v w', (callFunc f args).run P w = .ok (.value v) w' ∧ R v w'

structure EntryOk (P : Program) (e : Entry) : Prop where
  okp : e.ps.ok = true
  okr : e.rs.ok = true
  run : ∀ x r, e.F x = some r → ∀ (w : World) (args : Array Value) (Sx : List Nat) (F B : Nat → Prop), Rep F B w e.ps x args.toList Sx → Sx.Nodup → (∀ b ∈ Sx, ¬ F b ∧ ¬ B b ∧ b < w.heap.size) → (∀ b, F b → b < w.heap.size) → (∀ b, B b → b < w.heap.size) →
    Does P e.f args w fun v w' => ∃ F' S1 S2, Post e.rs e.ps r args.toList Sx F B w F' S1 S2 v w'

section
variable {P : Program} {T : TT} {base : Nat} {S : List Nat} {B F B' F' : Nat → Prop} {w0 : World} {objs : Upd} {loc : Loc} {w w' : World} {ρ : Type}

theorem Rep.nb : ∀ {p : Pat} {x : p.den} {vs : List Value} {Sx : List Nat}, p.nb = true → Rep F B w p x vs Sx → Rep F B' w p x vs Sx
  | .any, _, _, _, _, h => h
  | .int _, _, _, _, _, h => h
  | .bool, _, _, _, _, h => h
  | .str, _, _, _, _, h => h
  | .nils, _, _, _, _, h => h
  | .il b t, xs, _, _, hn, h => by
    have : b = false := by simpa [Pat.nb] using hn
    subst this
    exact ⟨h.1.mono (fun c hc => hc.imp id fun hc => by simp at hc) (fun _ _ => rfl), h.2⟩
  | .own z e t, xs, _, _, _, h => h
  | .mut z e t, xs, _, _, _, h => h
  | .ptr po p, x, _, _, hn, h => by
    obtain ⟨b, cs, e, fr, S', rfl, rfl, h1, h2, h3, h4⟩ := h
    exact ⟨b, cs, e, fr, S', rfl, rfl, h1, h2, h3, Rep.nb hn h4⟩
  | .agg p, x, _, _, hn, h => by
    obtain ⟨cs, rfl, h3, h4⟩ := h
    exact ⟨cs, rfl, h3, Rep.nb hn h4⟩
  | .mag p, x, _, _, hn, h => by
    obtain ⟨cs, rfl, h3, h4⟩ := h
    exact ⟨cs, rfl, h3, Rep.nb hn h4⟩
  | .tup p, x, _, _, hn, h => by
    obtain ⟨cs, rfl, h4⟩ := h
    exact ⟨cs, rfl, Rep.nb hn h4⟩
  | .fn f p, x, _, _, hn, h => by
    obtain ⟨cs, rfl, h3, h4⟩ := h
    exact ⟨cs, rfl, h3, Rep.nb hn h4⟩
  | .nil, _, _, _, _, h => h
  | .cons a b, x, _, _, hn, h => by
    simp only [Pat.nb, Bool.and_eq_true] at hn
    obtain ⟨v, vs', S1, S2, rfl, rfl, h1, h2⟩ := h
    exact ⟨v, vs', S1, S2, rfl, rfl, Rep.nb hn.1 h1, Rep.nb hn.2 h2⟩

theorem RepOut.mono (hF : ∀ b, F b → F' b) (hB : ∀ b, B b → B' b) : ∀ {p : Pat} {x : p.out} {vs : List Value} {Sx : List Nat}, RepOut F B w p x vs Sx → RepOut F' B' w p x vs Sx
  | .any, _, _, _, h => h
  | .int _, _, _, _, h => h
  | .bool, _, _, _, h => h
  | .str, _, _, _, h => h
  | .nils, _, _, _, h => h
  | .il b t, xs, _, _, h => h
  | .own z e t, xs, _, _, h => h
  | .mut z e t, xs, _, _, h => by
    obtain ⟨l, rfl, rfl, h⟩ := h
    exact ⟨l, rfl, rfl, h.mono hF (fun _ _ => rfl) fun _ _ => rfl⟩
  | .ptr po p, x, _, _, h => Rep.mono (p := .ptr po p) hF hB (fun _ _ => rfl) (fun _ _ => rfl) (fun _ _ => rfl) h
  | .agg p, x, _, _, h => h
  | .tup p, x, _, _, h => h
  | .fn f p, x, _, _, h => by
    obtain ⟨cs, rfl, h4⟩ := h
    exact ⟨cs, rfl, RepOut.mono hF hB h4⟩
  | .mag p, x, _, _, h => by
    obtain ⟨cs, rfl, h4⟩ := h
    exact ⟨cs, rfl, RepOut.mono hF hB h4⟩
  | .nil, _, _, _, h => h
  | .cons a b, x, _, _, h => by
    obtain ⟨v, vs', S1, S2, rfl, rfl, h1, h2⟩ := h
    exact ⟨v, vs', S1, S2, rfl, rfl, RepOut.mono hF hB h1, RepOut.mono hF hB h2⟩

theorem RepOut.nb : ∀ {p : Pat} {x : p.out} {vs : List Value} {Sx : List Nat}, p.nbo = true → RepOut F B w p x vs Sx → RepOut F B' w p x vs Sx
  | .any, _, _, _, _, h => h
  | .int _, _, _, _, _, h => h
  | .bool, _, _, _, _, h => h
  | .str, _, _, _, _, h => h
  | .nils, _, _, _, _, h => h
  | .il b t, xs, _, _, _, h => h
  | .own z e t, xs, _, _, _, h => h
  | .mut z e t, xs, _, _, _, h => h
  | .ptr po p, x, _, _, hn, h => by
    exact Rep.nb (p := .ptr po p) hn h
  | .agg p, x, _, _, hn, h => h
  | .tup p, x, _, _, hn, h => h
  | .fn f p, x, _, _, hn, h => by
    obtain ⟨cs, rfl, h4⟩ := h
    exact ⟨cs, rfl, RepOut.nb (p := p) hn h4⟩
  | .mag p, x, _, _, hn, h => by
    obtain ⟨cs, rfl, h4⟩ := h
    exact ⟨cs, rfl, RepOut.nb (p := p) hn h4⟩
  | .nil, _, _, _, _, h => h
  | .cons a b, x, _, _, hn, h => by
    simp only [Pat.nbo, Bool.and_eq_true] at hn
    obtain ⟨v, vs', S1, S2, rfl, rfl, h1, h2⟩ := h
    exact ⟨v, vs', S1, S2, rfl, rfl, RepOut.nb hn.1 h1, RepOut.nb hn.2 h2⟩

def Ref.at (r : Ref) (s j : Nat) : Prop := r.s = s ∧ r.j = j

theorem next_look {get : Get} {u : Upd} {r : Ref} {x : Nat} {o : Ob} (hg : get r.s = look objs r.s) (hgen : r.g = (look objs r.s).g) (hu : ∀ s, (look (applyUpd objs u) s).g = (look objs s).g) (u1 : Upd) (hu1 : u1 = (r.s, ⟨r.g, setNth (Upd.at get u r.s).os r.j (x, o)⟩) :: u) :
    (∀ s, (look (applyUpd objs u1) s).g = (look objs s).g) ∧ (∀ s j, ¬ r.at s j → (look (applyUpd objs u1) s).os[j]? = (look (applyUpd objs u) s).os[j]?) ∧
    (∀ e, (look (applyUpd objs u) r.s).os[r.j]? = some e → (look (applyUpd objs u1) r.s).os[r.j]? = some (x, o)) := by
  have hl : ∀ s, look (applyUpd objs u1) s = if r.s = s then ⟨r.g, (look (applyUpd objs u) r.s).os.set r.j (x, o)⟩ else look (applyUpd objs u) s := by
    intro s
    rw [hu1]
    show look (put (applyUpd objs u) r.s _) s = _
    rw [look_put, upd_at hg, setNth_eq]
  refine ⟨fun s => ?_, fun s j hn => ?_, fun e he => ?_⟩
  · rw [hl]
    split
    · rename_i e; rw [← e]; exact hgen
    · exact hu s
  · rw [hl]
    split
    · rename_i e
      subst e
      exact List.getElem?_set_ne (fun e => hn ⟨rfl, e⟩)
    · rfl
  · rw [hl, if_pos rfl]
    exact List.getElem?_set_self (List.getElem?_eq_some_iff.1 he).1

theorem kills_look {get : Get} : ∀ (ks : List Ref) (u : Upd), (∀ r ∈ ks, get r.s = look objs r.s ∧ r.g = (look objs r.s).g) → (∀ s, (look (applyUpd objs u) s).g = (look objs s).g) →
    (∀ s, (look (applyUpd objs (kills get ks u)) s).g = (look objs s).g) ∧ (∀ s j, (∀ r ∈ ks, ¬ r.at s j) → (look (applyUpd objs (kills get ks u)) s).os[j]? = (look (applyUpd objs u) s).os[j]?) ∧
    (∀ s j e, (∃ r ∈ ks, r.at s j) → (look (applyUpd objs u) s).os[j]? = some e → ∃ r ∈ ks, r.at s j ∧ (look (applyUpd objs (kills get ks u)) s).os[j]? = some (r.v + 1, .gone))
  | [], _, _, hu => ⟨hu, fun _ _ _ => rfl, fun s j e h => by simp at h⟩
  | r :: ks, u, hk, hu => by
    obtain ⟨a1, a2, a3⟩ := next_look (x := r.v + 1) (o := .gone) (hk r (by simp)).1 (hk r (by simp)).2 hu _ rfl
    obtain ⟨b1, b2, b3⟩ := kills_look ks _ (fun r' hr' => hk r' (List.mem_cons_of_mem _ hr')) a1
    refine ⟨b1, fun s j hn => ?_, fun s j e he hu' => ?_⟩
    · exact (b2 s j fun r' hr' => hn r' (List.mem_cons_of_mem _ hr')).trans (a2 s j (hn r (by simp)))
    · have hin : ∃ e', (look (applyUpd objs (Upd.next get u r .gone)) s).os[j]? = some e' := by
        by_cases hr : r.at s j
        · obtain ⟨rfl, rfl⟩ := hr
          exact ⟨_, a3 e hu'⟩
        · exact ⟨e, (a2 s j hr).trans hu'⟩
      obtain ⟨e', he'⟩ := hin
      by_cases hks : ∃ r' ∈ ks, r'.at s j
      · obtain ⟨r', h1, h2, h3⟩ := b3 s j e' hks he'
        exact ⟨r', List.mem_cons_of_mem _ h1, h2, h3⟩
      · obtain ⟨r', h1, h2⟩ := he
        rcases List.mem_cons.1 h1 with rfl | h1
        · refine ⟨r', by simp, h2, ?_⟩
          have h3 := b2 s j (fun r'' h'' hh => hks ⟨r'', h'', hh⟩)
          obtain ⟨rfl, rfl⟩ := h2
          exact h3.trans (a3 e hu')
        · exact absurd ⟨r', h1, h2⟩ hks

theorem sames_look {get : Get} : ∀ (ns : List (Ref × Ob)) (u : Upd), (∀ n ∈ ns, get n.1.s = look objs n.1.s ∧ n.1.g = (look objs n.1.s).g) → (∀ s, (look (applyUpd objs u) s).g = (look objs s).g) → Ref.apart (ns.map (·.1)) = true →
    (∀ s, (look (applyUpd objs (sames get ns u)) s).g = (look objs s).g) ∧ (∀ s j, (∀ n ∈ ns, ¬ n.1.at s j) → (look (applyUpd objs (sames get ns u)) s).os[j]? = (look (applyUpd objs u) s).os[j]?) ∧
    (∀ n ∈ ns, ∀ e, (look (applyUpd objs u) n.1.s).os[n.1.j]? = some e → (look (applyUpd objs (sames get ns u)) n.1.s).os[n.1.j]? = some (n.1.v, n.2))
  | [], _, _, hu, _ => ⟨hu, fun _ _ _ => rfl, by simp⟩
  | (r, o) :: ns, u, hk, hu, ha => by
    obtain ⟨a1, a2, a3⟩ := next_look (x := r.v) (o := o) (hk (r, o) (by simp)).1 (hk (r, o) (by simp)).2 hu _ rfl
    simp only [List.map_cons, Ref.apart, Bool.and_eq_true, Bool.not_eq_true'] at ha
    obtain ⟨b1, b2, b3⟩ := sames_look ns _ (fun n hn => hk n (List.mem_cons_of_mem _ hn)) a1 ha.2
    have hnot : ∀ n ∈ ns, ¬ n.1.at r.s r.j := fun n hn hh => by
      have : Ref.among r (ns.map (·.1)) = true := among_iff.2 ⟨n.1, List.mem_map.2 ⟨n, hn, rfl⟩, hh.1.symm, hh.2.symm⟩
      rw [this] at ha
      exact absurd ha.1 (by simp)
    refine ⟨b1, fun s j hn => ?_, fun n hn e he => ?_⟩
    · exact (b2 s j fun n hn' => hn n (List.mem_cons_of_mem _ hn')).trans (a2 s j (hn (r, o) (by simp)))
    · rcases List.mem_cons.1 hn with rfl | hn
      · exact (b2 _ _ hnot).trans (a3 e he)
      · refine b3 n hn e ((a2 n.1.s n.1.j fun hh => hnot n hn ⟨hh.1.symm, hh.2.symm⟩).trans he)

theorem apart_sub : ∀ {l l' : List Ref}, l.Sublist l' → Ref.apart l' = true → Ref.apart l = true
  | _, _, .slnil, h => h
  | _, _, .cons a s, h => by
    simp only [Ref.apart, Bool.and_eq_true] at h
    exact apart_sub s h.2
  | _, _, .cons_cons a s, h => by
    simp only [Ref.apart, Bool.and_eq_true, Bool.not_eq_true'] at h ⊢
    refine ⟨?_, apart_sub s h.2⟩
    cases hh : Ref.among a _ with
    | false => rfl
    | true =>
      obtain ⟨b, hb, e⟩ := among_iff.1 hh
      have : Ref.among a _ = true := among_iff.2 ⟨b, s.subset hb, e⟩
      rw [this] at h
      exact absurd h.1 (by simp)
end
end Go.Eng
end

section
/-! Engine, soundness 23: the state behind a call. -/
namespace Go.Eng
section
variable {P : Program} {T : TT} {base : Nat} {S : List Nat} {B F B' F' : Nat → Prop} {w0 : World} {objs : Upd} {loc : Loc} {w w' : World} {ρ : Type}

theorem pack_held {get : Get} (h : SR base S B w0 objs loc F w) (hR : ∀ s, get s = look objs s ∨ get s = Slot.none) {p : Pat} {avs : List AV} {vs : List Value} {x : p.den} {t : Took} (hp : pack get p avs pr = some (x, t)) (hv : Vals objs loc F B w avs vs) :
    Rep (FK F loc t.imms) (BK B loc t.bors) w p x vs (blks loc t.owns) ∧ TookOk objs get t := by
  obtain ⟨x', t', Sx, hk, hrep, hS, ht⟩ := pack_ok h hR p hp hv
  simp only [pr, Option.some.injEq, Prod.mk.injEq] at hk
  obtain ⟨rfl, rfl⟩ := hk
  subst hS
  exact ⟨hrep, ht⟩

theorem after_ok {get : Get} (h : SR base S B w0 objs loc F w) (hR : ∀ s, get s = look objs s ∨ get s = Slot.none) {d : Nat} (hd : get d = look objs d) {rs ps : Pat} (okp : ps.ok = true) (okr : rs.ok = true) {avs : List AV} {vs : List Value} {x : ps.den} {t : Took}
    (hp : pack get ps avs pr = some (x, t)) (hv : Vals objs loc F B w avs vs) (ht : TookOk objs get t) (hok : t.ok = true) (hnb : (ps.nbo = true ∧ rs.nb = true) ∨ t.bors = []) {r : rs.den × ps.out} {v : Value} {S1 S2 : List Nat} (hpost : Post rs ps r vs (blks loc t.owns) (FK F loc t.imms) (BK B loc t.bors) w F' S1 S2 v w')
    {g : Nat} (hg : g = (get d).g + 1) {ns : List (Ref × Ob)} {os : List (Nat × Ob)} (hns : ns = (back d g ps avs r.2 0).1) (hos : os = (back d g ps avs r.2 0).2) {rv : List AV} {os' : List (Nat × Ob)} (hrv : rv = (unpack d g rs r.1 os.length).1) (hos' : os' = (unpack d g rs r.1 os.length).2)
    {u : Upd} (hu : u = (d, ⟨g, os ++ os'⟩) :: sames get ns (kills get (t.owns ++ t.imms) [])) :
    ∃ loc', SR base S B w0 (applyUpd objs u) loc' F' w' ∧ Ext B objs loc F w (applyUpd objs u) loc' F' w' ∧ More base S F F' ∧ Val (applyUpd objs u) loc' F' B w' (nth .dead rv 0) v := by
  have gk : ∀ r ∈ t.owns ++ t.imms, live (Get.ob (look objs) r) = true ∧ get r.s = look objs r.s := fun r hr => by
    rcases List.mem_append.1 hr with hr | hr
    · exact ht.owns r hr
    · exact ⟨live_of_lst (ht.imms r hr).1, (ht.imms r hr).2⟩
  have gk' : ∀ r ∈ t.owns ++ t.imms, get r.s = look objs r.s ∧ r.g = (look objs r.s).g := fun r hr => by
    obtain ⟨o, _, _, e1, _⟩ := live_ob (gk r hr).1
    exact ⟨(gk r hr).2, e1⟩
  have gold : ∀ r ∈ t.owns ++ t.imms, ∃ o, Get.ob (look objs) r = o ∧ live o = true ∧ (look objs r.s).os[r.j]? = some (r.v, o) := fun r hr => by
    obtain ⟨o, e0, e1, _, e2⟩ := live_ob (gk r hr).1
    exact ⟨o, e0, e1, e2⟩
  have hout : RepOut F' B w' ps r.2 vs S2 := by
    rcases hnb with hnb | hnb
    · exact RepOut.nb hnb.1 hpost.out
    · refine RepOut.mono (fun _ h => h) (fun b hb => ?_) hpost.out
      rcases hb with hb | ⟨r', hr', _⟩
      · exact hb
      · rw [hnb] at hr'; simp at hr'
  obtain ⟨ls, hb⟩ := back_ok h hR d g ps (F' := F') (B' := B) (w' := w') 0 okp hp hv hout
  rw [← hns, ← hos] at hb
  have hrepr : Rep F' B w' rs r.1 [v] S1 := by
    rcases hnb with hnb | hnb
    · exact Rep.nb hnb.2 hpost.rep
    · refine Rep.mono (fun _ h => h) (fun b hb => ?_) (fun _ _ => rfl) (fun _ _ => rfl) (fun _ _ => rfl) hpost.rep
      rcases hb with hb | ⟨r', hr', _⟩
      · exact hb
      · rw [hnb] at hr'; simp at hr'
  obtain ⟨ls', k1, k2, k3, k4⟩ := unpack_ok (F := F') (B := B) (w := w') d g rs os.length okr hrepr
  rw [← hos'] at k1 k3
  simp only [← hos', ← hrv] at k4
  have hsubn : ∀ n ∈ ns, n.1 ∈ t.owns := fun n hn => hb.sub.subset (List.mem_map.2 ⟨n, hn, rfl⟩)
  have hok' := hok
  simp only [Took.ok, Bool.and_eq_true] at hok'
  obtain ⟨kl1, kl2, kl3⟩ := kills_look (objs := objs) (t.owns ++ t.imms) [] gk' (fun _ => rfl)
  obtain ⟨sl1, sl2, sl3⟩ := sames_look (objs := objs) ns (kills get (t.owns ++ t.imms) []) (fun n hn => gk' n.1 (List.mem_append_left _ (hsubn n hn))) kl1 (apart_sub hb.sub hok'.1)
  obtain ⟨m1, m2⟩ := took_ok h ht hok
  have hlook : ∀ s, look (applyUpd objs u) s = if d = s then ⟨g, os ++ os'⟩ else look (applyUpd objs (sames get ns (kills get (t.owns ++ t.imms) []))) s := by
    intro s
    rw [hu]
    exact look_put _ _ _ _
  -- what became of an old entry
  have old : ∀ s j, s ≠ d → (∃ n ∈ ns, n.1.at s j ∧ (look (applyUpd objs u) s).os[j]? = some (n.1.v, n.2)) ∨ (∃ r ∈ t.owns ++ t.imms, r.at s j ∧ (look (applyUpd objs u) s).os[j]? = some (r.v + 1, .gone)) ∨
      ((∀ r ∈ t.owns ++ t.imms, ¬ r.at s j) ∧ (look (applyUpd objs u) s).os[j]? = (look objs s).os[j]?) := by
    intro s j hs
    rw [hlook, if_neg (Ne.symm hs)]
    by_cases hn : ∃ n ∈ ns, n.1.at s j
    · obtain ⟨n, hn, hat⟩ := hn
      obtain ⟨o, _, _, e2⟩ := gold n.1 (List.mem_append_left _ (hsubn n hn))
      obtain ⟨rfl, rfl⟩ := hat
      obtain ⟨r', _, _, e3⟩ := kl3 n.1.s n.1.j _ ⟨n.1, List.mem_append_left _ (hsubn n hn), rfl, rfl⟩ e2
      exact .inl ⟨n, hn, ⟨rfl, rfl⟩, sl3 n hn _ e3⟩
    · rw [sl2 s j (fun n hn' hat => hn ⟨n, hn', hat⟩)]
      by_cases hr : ∃ r ∈ t.owns ++ t.imms, r.at s j
      · obtain ⟨r, hr, hat⟩ := hr
        obtain ⟨o, _, _, e2⟩ := gold r hr
        obtain ⟨rfl, rfl⟩ := hat
        obtain ⟨r', h1, h2, e3⟩ := kl3 r.s r.j _ ⟨r, hr, rfl, rfl⟩ e2
        exact .inr (.inl ⟨r', h1, h2, e3⟩)
      · exact .inr (.inr ⟨fun r hr' hat => hr ⟨r, hr', hat⟩, kl2 s j fun r hr' hat => hr ⟨r, hr', hat⟩⟩)
  let loc' : Loc := fun s j => if s = d then ((ls ++ ls')[j]?).getD LV.nil else loc s j
  have hl1 := hb.len
  have hloc : ∀ s j, s ≠ d → loc' s j = loc s j := fun s j hs => by simp [loc', hs]
  have hdloc : ∀ k, k < (ls ++ ls').length → (ls ++ ls')[k]? = some (loc' d k) := fun k hk => by simp [loc', List.getElem?_eq_getElem hk]
  have hsits : Sits (applyUpd objs u) loc' d g 0 (os ++ os') (ls ++ ls') := by
    refine ⟨by rw [hlook, if_pos rfl], fun k e hk => ?_⟩
    rw [hlook, if_pos rfl, Nat.zero_add]
    have hlt := (List.getElem?_eq_some_iff.1 hk).1
    exact ⟨hk, hdloc k (by rw [List.length_append] at hlt ⊢; omega)⟩
  have q1 := hb.obs _ loc' (hsits.left hl1)
  have q2 := k4 _ loc' (by have := hsits.right hl1; rw [Nat.zero_add] at this; exact this)
  have cls : ∀ s j v o, (look (applyUpd objs u) s).os[j]? = some (v, o) → live o = true →
      (s ≠ d ∧ (look objs s).os[j]? = some (v, o) ∧ (∀ r ∈ t.owns ++ t.imms, ¬ r.at s j) ∧ loc' s j = loc s j) ∨
      (∃ i, (lvs loc ns ++ (ls ++ ls'))[i]? = some (loc' s j) ∧ ObOk (applyUpd objs u) loc' F' B w' (loc' s j) o ∧ ((∃ n, ns[i]? = some n ∧ n.1.at s j) ∨ (ns.length ≤ i ∧ s = d ∧ j = i - ns.length))) := by
    intro s j v o hj hl
    by_cases hs : s = d
    · subst hs
      rw [hlook, if_pos rfl] at hj
      have hlt := (List.getElem?_eq_some_iff.1 hj).1
      have hlt' : j < (ls ++ ls').length := by rw [List.length_append] at hlt ⊢; omega
      refine .inr ⟨ns.length + j, ?_, ?_, .inr ⟨by omega, rfl, by omega⟩⟩
      · rw [List.getElem?_append_right (by simp [lvs])]
        simp only [lvs, List.length_map, Nat.add_sub_cancel_left]
        exact hdloc j hlt'
      · by_cases hjo : j < os.length
        · rw [List.getElem?_append_left hjo] at hj
          refine q1.2 j v o _ hj ?_
          have := hdloc j hlt'
          rw [List.getElem?_append_left (by omega)] at this
          exact this
        · rw [List.getElem?_append_right (by omega)] at hj
          refine q2.obs _ v o _ hj ?_
          have := hdloc j hlt'
          rw [List.getElem?_append_right (by omega), hl1] at this
          exact this
    · rcases old s j hs with ⟨n, hn, hat, e⟩ | ⟨r, hr, hat, e⟩ | ⟨h1, e⟩
      · rw [hj] at e
        injection e with e
        injection e with e1 e2
        subst e2
        obtain ⟨i, hi, rfl⟩ := List.getElem_of_mem hn
        obtain ⟨rfl, rfl⟩ := hat
        refine .inr ⟨i, ?_, ?_, .inl ⟨ns[i], by simp [hi], rfl, rfl⟩⟩
        · rw [List.getElem?_append_left (by simpa [lvs] using hi), hloc _ _ hs]
          simp [lvs, hi]
        · rw [hloc _ _ hs]
          exact q1.1 _ hn
      · rw [hj] at e
        injection e with e
        injection e with e1 e2
        subst e2
        simp [live] at hl
      · exact .inl ⟨hs, by rw [← e]; exact hj, h1, hloc _ _ hs⟩
  have hnd : ((lvs loc ns ++ (ls ++ ls')).flatMap (·.all)).Nodup ∧ ∀ b ∈ (lvs loc ns ++ (ls ++ ls')).flatMap (·.all), b ∈ S1 ++ S2 := by
    have hperm : ((lvs loc ns ++ (ls ++ ls')).flatMap (·.all)).Perm (S1 ++ S2) := by
      rw [← List.append_assoc, List.flatMap_append, k2]
      exact (hb.perm.append_right S1).trans List.perm_append_comm
    exact ⟨hperm.nodup_iff.2 hpost.nodup, fun b hb => hperm.mem_iff.1 hb⟩
  have clsU : ∀ s j v o b, (look objs s).os[j]? = some (v, o) → live o = true → (∀ r ∈ t.owns ++ t.imms, ¬ r.at s j) → b ∈ (loc s j).all → b < w.heap.size ∧ b ∉ blks loc t.owns ∧ ¬ FK F loc t.imms b ∧ ¬ B b ∧ (base ≤ b ∨ b ∈ S) := by
    intro s j v o b hj hl hno hbk
    obtain ⟨a1, a2, a3, a4⟩ := h.own _ _ _ _ b hj hl hbk
    refine ⟨a3, fun hm => ?_, fun hF => ?_, a2, a4⟩
    · obtain ⟨r, hr, hb'⟩ := blks_mem.1 hm
      obtain ⟨o', _, l', e'⟩ := gold r (List.mem_append_left _ hr)
      have := h.apart _ _ _ _ _ _ _ _ b e' hj l' hl hb' hbk
      exact hno r (List.mem_append_left _ hr) this
    · rcases hF with hF | ⟨r, hr, hb'⟩
      · exact a1 hF
      · obtain ⟨o', _, l', e'⟩ := gold r (List.mem_append_right _ hr)
        have := h.apart _ _ _ _ _ _ _ _ b e' hj l' hl hb' hbk
        exact hno r (List.mem_append_right _ hr) this
  have clsN : ∀ {i : Nat} {l : LV} {b : Nat}, (lvs loc ns ++ (ls ++ ls'))[i]? = some l → b ∈ l.all → ¬ F' b ∧ ¬ B b ∧ b < w'.heap.size ∧ (w.heap.size ≤ b ∨ b ∈ blks loc t.owns) := fun {i l b} hi hbk => by
    obtain ⟨a1, a2, a3, a4⟩ := hpost.mine b (hnd.2 b (List.mem_flatMap.2 ⟨l, List.mem_of_getElem? hi, hbk⟩))
    exact ⟨a1, fun hB => a2 (.inl hB), a3, a4⟩
  have hFsame : Same F w w' := fun b hb => hpost.block b (h.fro b hb) fun hm => (m2 b hm).1 (.inl hb)
  have hBlt : ∀ b, B b → b < w.heap.size := fun b hb => Nat.lt_of_lt_of_le (h.bor b hb).1 h.size.2
  have hBsame : Same B w w' := fun b hb => hpost.block b (hBlt b hb) fun hm => (m2 b hm).2.1 (.inl hb)
  have ext : Ext B objs loc F w (applyUpd objs u) loc' F' w' := by
    refine ⟨fun b hb => hpost.fro b (.inl hb), hFsame, hBsame, hpost.size, fun s => ?_, fun s j v o hgg hj => ?_⟩
    · rw [hlook]
      split
      · rename_i e; subst e; rw [hg, hd]; show _ ≤ (look objs d).g + 1; omega
      · rw [sl1]; exact Nat.le_refl _
    · have hs : s ≠ d := by
        intro e
        subst e
        rw [hlook, if_pos rfl, hg, hd] at hgg
        simp only at hgg
        omega
      rcases old s j hs with ⟨n, hn, hat, e⟩ | ⟨r, hr, hat, e⟩ | ⟨h1, e⟩
      · obtain ⟨o', e0, _, e2⟩ := gold n.1 (List.mem_append_left _ (hsubn n hn))
        obtain ⟨rfl, rfl⟩ := hat
        rw [hj] at e2
        injection e2 with e2
        injection e2 with e2 e3
        subst e3
        refine ⟨_, _, e, by omega, fun _ => ?_⟩
        rw [hloc _ _ hs]
        have := (hb.comp n hn).2
        rw [e0] at this
        exact this
      · obtain ⟨o', _, _, e2⟩ := gold r hr
        obtain ⟨rfl, rfl⟩ := hat
        rw [hj] at e2
        injection e2 with e2
        injection e2 with e2 e3
        exact ⟨_, _, e, by omega, fun _ => by omega⟩
      · exact ⟨v, o, e.trans hj, Nat.le_refl _, fun _ => by rw [hloc _ _ hs]; exact Compat.refl _ _⟩
  have st : Step base S w0 B F w w' := ⟨hFsame, hBsame, hpost.os, hpost.tape, hpost.output, hpost.size, fun b hb hS => hpost.block b (Nat.lt_of_lt_of_le hb h.size.2) fun hm => by
    rcases (m2 b hm).2.2.2 with h1 | h1
    · omega
    · exact hS h1⟩
  refine ⟨loc', h.frame st ?_ ?_ ?_ hpost.lt, ext, fun b hb => ?_, ?_⟩
  · intro s j v o hj
    cases hl : live o with
    | false => cases o <;> simp [live] at hl; trivial
    | true =>
      rcases cls s j v o hj hl with ⟨hs, hj', hno, hlc⟩ | ⟨i, h1, h2, _⟩
      · rw [hlc]
        refine (h.obs s j v o hj').ext ext fun b hbk => ?_
        obtain ⟨a1, a2, _⟩ := clsU s j v o b hj' hl hno hbk
        exact hpost.block b a1 a2
      · exact h2
  · intro s j v o s2 j2 v2 o2 b hj hj2 hl hl2 hbk hbk2
    rcases cls s j v o hj hl with ⟨hs, hj', hno, hlc⟩ | ⟨i, h1, h2, h3⟩
    · rw [hlc] at hbk
      obtain ⟨a1, a2, _⟩ := clsU s j v o b hj' hl hno hbk
      rcases cls s2 j2 v2 o2 hj2 hl2 with ⟨hs2, hj2', hno2, hlc2⟩ | ⟨i2, g1, g2, g3⟩
      · rw [hlc2] at hbk2
        exact h.apart _ _ _ _ _ _ _ _ b hj' hj2' hl hl2 hbk hbk2
      · rcases (clsN g1 hbk2).2.2.2 with q | q
        · omega
        · exact absurd q a2
    · rcases cls s2 j2 v2 o2 hj2 hl2 with ⟨hs2, hj2', hno2, hlc2⟩ | ⟨i2, g1, g2, g3⟩
      · rw [hlc2] at hbk2
        obtain ⟨a1, a2, _⟩ := clsU s2 j2 v2 o2 b hj2' hl2 hno2 hbk2
        rcases (clsN h1 hbk).2.2.2 with q | q
        · omega
        · exact absurd q a2
      · have hi := flatMap_pos (·.all) hnd.1 h1 g1 hbk hbk2
        subst hi
        rcases h3 with ⟨n, hn, hat⟩ | ⟨hle, rfl, rfl⟩
        · rcases g3 with ⟨n2, hn2, hat2⟩ | ⟨hle2, _, _⟩
          · rw [hn] at hn2
            cases hn2
            exact ⟨hat.1.symm.trans hat2.1, hat.2.symm.trans hat2.2⟩
          · have := (List.getElem?_eq_some_iff.1 hn).1
            omega
        · rcases g3 with ⟨n2, hn2, hat2⟩ | ⟨hle2, rfl, rfl⟩
          · have := (List.getElem?_eq_some_iff.1 hn2).1
            omega
          · exact ⟨rfl, rfl⟩
  · intro s j v o b hj hl hbk
    rcases cls s j v o hj hl with ⟨hs, hj', hno, hlc⟩ | ⟨i, h1, h2, h3⟩
    · rw [hlc] at hbk
      obtain ⟨a1, a2, a3, a4, a5⟩ := clsU s j v o b hj' hl hno hbk
      refine ⟨fun hF => ?_, a4, Nat.lt_of_lt_of_le a1 hpost.size, a5⟩
      rcases hpost.more b hF with q | q | q
      · exact a3 q
      · omega
      · exact a2 q
    · obtain ⟨a1, a2, a3, a4⟩ := clsN h1 hbk
      refine ⟨a1, a2, a3, ?_⟩
      rcases a4 with a4 | a4
      · exact .inl (Nat.le_trans h.size.2 a4)
      · exact (m2 b a4).2.2.2
  · rcases hpost.more b hb with q | q | q
    · exact (FK_more h (fun r hr => live_of_lst (ht.imms r hr).1)).1 b q
    · exact .inr (.inl (Nat.le_trans h.size.2 q))
    · exact .inr (m2 b q).2.2.2
  · have hvv := q2.vals
    match hrv' : rv, hvv with
    | [a], hvv => exact hvv.1
    | [], hvv => exact hvv.elim
    | _ :: _ :: _, hvv => exact hvv.2.elim
end
end Go.Eng
end

section
/-! Engine, soundness 24: one operation, calls and all. -/
namespace Go.Eng
section
variable {P : Program} {T : TT} {base : Nat} {S : List Nat} {B F B' F' : Nat → Prop} {w0 : World} {objs : Upd} {loc : Loc} {w w' : World} {ρ : Type}

/-- What an operation does, said for a walk. -/
def Goes (P : Program) (base : Nat) (S : List Nat) (B : Nat → Prop) (w0 : World) (objs : Upd) (loc : Loc) (F : Nat → Prop) (w : World) (o : Oper) (a : Act) (v : AV) (u : Upd) : Prop :=
  ∀ (next : Act → World → Prop) (Q : Exit → Act → World → Prop), (∀ cv w' loc' F', SR base S B w0 (applyUpd objs u) loc' F' w' → Ext B objs loc F w (applyUpd objs u) loc' F' w' → More base S F F' → Val (applyUpd objs u) loc' F' B w' v cv → next (a.put o.dst cv) w') → o.wp P a w next Q

theorem Good.goes {o : Oper} {a : Act} {v : AV} {u : Upd} (h : Good P base S B w0 objs loc F w o a.eval pr (v, u)) : Goes P base S B w0 objs loc F w o a v u := by
  obtain ⟨v', u', n, cv, w', loc', F', hk, hr, hn, h1, h2, h3, h4⟩ := h
  simp only [pr, Option.some.injEq, Prod.mk.injEq] at hk
  obtain ⟨rfl, rfl⟩ := hk
  intro next Q hnext
  unfold Oper.wp
  rw [hr]
  rcases hn with rfl | ⟨rfl, rfl⟩
  · exact hnext _ _ _ _ h1 h2 h3 h4
  · exact hnext _ _ _ _ h1 h2 h3 h4

theorem findE_ok {f key : Nat} {e : Entry} : ∀ {es : List Entry}, findE f key es = some e → e ∈ es ∧ e.f = f
  | [], h => by simp [findE] at h
  | e' :: es, h => by
    simp only [findE] at h
    split at h
    · rename_i hb
      simp only [Bool.and_eq_true] at hb
      injection h with h
      subst h
      exact ⟨by simp, beq_true.1 hb.1⟩
    · obtain ⟨h1, h2⟩ := findE_ok h
      exact ⟨List.mem_cons_of_mem _ h1, h2⟩

theorem Vals.app : ∀ {as bs : List AV} {vs us : List Value}, Vals objs loc F B w as vs → Vals objs loc F B w bs us → Vals objs loc F B w (as ++ bs) (vs ++ us)
  | [], _, [], _, _, k => k
  | _ :: _, _, _ :: _, _, h, k => ⟨h.1, h.2.app k⟩
  | [], _, _ :: _, _, h, _ => h.elim
  | _ :: _, _, [], _, h, _ => h.elim
theorem Vals.of_map {eA : Operand → AV} {ev : Operand → Value} : ∀ {xs : List Operand}, (∀ x ∈ xs, Val objs loc F B w (eA x) (ev x)) → Vals objs loc F B w (xs.map eA) (xs.map ev)
  | [], _ => trivial
  | x :: xs, h => ⟨h x (by simp), Vals.of_map fun y hy => h y (List.mem_cons_of_mem _ hy)⟩

theorem call_goes {es : List Entry} {o : Oper} {f : Operand} {as : Array Operand} {ts : Array TypeId} {d : Nat} {eA : Operand → AV} {a : Act} {v : AV} {u : Upd} {get : Get} (hes : ∀ e ∈ es, EntryOk P e) (ho : o.op = .call ⟨.value f, as, ts⟩) (h : SR base S B w0 objs loc F w) (hR : ∀ s, get s = look objs s ∨ get s = Slot.none) (hd : get d = look objs d)
    (hf : Val objs loc F B w (eA f) (a.eval f)) (hx : ∀ x ∈ as, Val objs loc F B w (eA x) (a.eval x)) (hk : callVK (callK es) (eA f) (as.toList.map eA) get d pr = some (v, u)) : Goes P base S B w0 objs loc F w o a v u := by
  unfold callVK at hk
  split at hk
  case h_2 => cases hk
  rename_i f0 caps hfa
  rw [hfa] at hf
  obtain ⟨cv, hcv, hcaps⟩ := hf
  unfold callK at hk
  split at hk
  · cases hk
  rename_i e he
  obtain ⟨hmem, rfl⟩ := findE_ok he
  have hok := hes e hmem
  have hvals : Vals objs loc F B w (as.toList.map eA ++ caps) (as.toList.map a.eval ++ cv.toList) := (Vals.of_map fun x hxm => hx x (by simpa using hxm)).app hcaps.vals
  rw [pack_nat] at hk
  cases hp : pack get e.ps (as.toList.map eA ++ caps) pr with
  | none => rw [hp] at hk; cases hk
  | some q =>
    obtain ⟨x, t⟩ := q
    rw [hp] at hk
    simp only [Nat2, Option.bind_some] at hk
    split at hk
    · cases hk
    rename_i htok
    simp only [Bool.and_eq_true, Bool.or_eq_true, List.isEmpty_iff] at htok
    obtain ⟨htok, hnb⟩ := htok
    cases hF : e.F x with
    | none => rw [hF] at hk; cases hk
    | some r =>
      rw [hF] at hk
      simp only [Option.bind_some, pr, Option.some.injEq, Prod.mk.injEq] at hk
      obtain ⟨rfl, rfl⟩ := hk
      obtain ⟨hrep, htook⟩ := pack_held h hR hp hvals
      obtain ⟨q1, q2⟩ := took_ok h htook htok
      have hdoes := hok.run x r hF w (as.map a.eval ++ cv) (blks loc t.owns) (FK F loc t.imms) (BK B loc t.bors) (by simpa using hrep) q1 (fun b hb => ⟨(q2 b hb).1, (q2 b hb).2.1, (q2 b hb).2.2.1⟩)
        (FK_more h (fun r hr => live_of_lst (htook.imms r hr).1)).2 (fun b hb => by
          rcases hb with hb | ⟨r', hr', hb'⟩
          · exact Nat.lt_of_lt_of_le (h.bor b hb).1 h.size.2
          · obtain ⟨o', _, l', _, e'⟩ := live_ob (live_of_lst (htook.bors r' hr'))
            exact (h.own _ _ _ _ b e' l' hb').2.2.1)
      intro next Q hnext
      have fin : ∀ v w', (∃ F' S1 S2, Post e.rs e.ps r (as.map a.eval ++ cv).toList (blks loc t.owns) (FK F loc t.imms) (BK B loc t.bors) w F' S1 S2 v w') → next (a.put o.dst v) w' := by
        intro v w' hpost
        obtain ⟨F', S1, S2, hpost⟩ := hpost
        rw [Array.toList_append, Array.toList_map] at hpost
        obtain ⟨loc', k1, k2, k3, k4⟩ := after_ok h hR hd hok.okp hok.okr hp hvals htook htok hnb hpost rfl rfl rfl rfl rfl rfl
        exact hnext _ _ _ _ k1 k2 k3 k4
      have hrun : ∀ n w', (callFunc e.f (as.map a.eval ++ cv)).run P w = .ok n w' → (execOp a.eval o).run P w = .ok n w' := by
        intro n w' hr
        have hres : (resolve a.eval ⟨.value f, as, ts⟩ o.type).run P w = .ok { target := .fn (.func e.f) cv, args := #[] ++ as.map a.eval } w := by
          simp only [resolve, hcv, Deferred.ofValue]
          rfl
        simp only [execOp, ho, Sem.run_bind, hres, Result.andThen_ok, invoke]
        rw [Array.empty_append]
        exact hr
      unfold Oper.wp
      rcases hdoes with ⟨g, as', hc, hcalls⟩ | ⟨v, w', hc, hpost⟩
      · rw [hrun _ _ hc, Oper.upon_enter]
        refine hcalls.mono fun e w'' hh => ?_
        obtain ⟨v, rfl, hpost⟩ := hh
        exact fin v w'' hpost
      · rw [hrun _ _ hc]
        exact fin v w' hpost

theorem restrict_or (objs : Upd) (need : List Nat) (s : Nat) : restrict objs need s = look objs s ∨ restrict objs need s = Slot.none := by
  unfold restrict
  split
  · exact .inl rfl
  · exact .inr rfl
theorem memb_iff {n : Nat} : ∀ {l : List Nat}, memb n l = true ↔ n ∈ l
  | [] => by simp [memb]
  | m :: ms => by
    simp only [memb]
    cases h : Nat.beq m n with
    | true => have := beq_true.1 h; simp [this]
    | false =>
      have := beq_false.1 h
      simp only [memb_iff (l := ms), List.mem_cons]
      exact ⟨.inr, fun hh => hh.resolve_left fun e => this e.symm⟩
theorem restrict_in {objs : Upd} {need : List Nat} {s : Nat} (h : s ∈ need) : restrict objs need s = look objs s := by
  unfold restrict
  rw [memb_iff.2 h]

/-- What the reaching starts from is reached. -/
theorem reach_acc (get : Get) : ∀ (n : Nat) (todo acc : List Nat), ∀ s ∈ acc, s ∈ reach get n todo acc
  | 0, _, _, s, h => h
  | n + 1, [], _, s, h => h
  | n + 1, t :: todo, acc, s, h => by
    unfold reach
    split
    · exact reach_acc get n _ _ s h
    · exact reach_acc get n _ _ s (List.mem_cons_of_mem _ h)

theorem op_goes {es : List Entry} {o : Oper} {d : Nat} {eA : Operand → AV} {a : Act} {v : AV} {u : Upd} (hT : TOk P T) (hes : ∀ e ∈ es, EntryOk P e) (h : SR base S B w0 objs loc F w)
    (hx : ∀ x ∈ o.op.operands, Val objs loc F B w (eA x) (a.eval x)) (hk : opK T (callK es) eA (restrict objs (needOf objs eA o.op d)) d o.op pr = some (v, u)) : Goes P base S B w0 objs loc F w o a v u := by
  by_cases hc : isCall o.op = true
  · have hop : ∃ f as ts, o.op = .call ⟨.value f, as, ts⟩ := by
      unfold isCall at hc
      split at hc
      · exact ⟨_, _, _, by assumption⟩
      · cases hc
    obtain ⟨f, as, ts, ho⟩ := hop
    have hneed : d ∈ needOf objs eA o.op d := by
      unfold needOf
      rw [hc]
      simp only [reach, memb]
      exact reach_acc _ _ _ _ _ (by simp)
    have hk' := hk
    rw [ho] at hk'
    rw [ho] at hx
    refine call_goes hes ho h (restrict_or _ _) (restrict_in hneed) (hx f (by simp [Op.operands, Call.operands])) (fun x hxm => hx x (by simp [Op.operands, Call.operands]; exact .inr hxm)) (d := d) ?_
    rw [← ho] at hk'
    have : opK T (callK es) eA (restrict objs (needOf objs eA o.op d)) d (.call ⟨.value f, as, ts⟩) pr = some (v, u) := by rw [← ho]; exact hk
    exact this
  · have hc : isCall o.op = false := by simpa using hc
    by_cases hm : isMove o.op = true
    · have hop : ∃ x, o.op = .move x ∨ o.op = .assign x := by
        unfold isMove at hm
        split at hm
        · exact ⟨_, .inl (by assumption)⟩
        · exact ⟨_, .inr (by assumption)⟩
        · cases hm
      obtain ⟨x, ho⟩ := hop
      have hk' : (pr (eA x) [] : Option (AV × Upd)) = some (v, u) := by
        rcases ho with ho | ho <;> (rw [ho] at hk; exact hk)
      exact (good_move (K := pr) ho h hk' (hx x (by rcases ho with ho | ho <;> (rw [ho]; simp [Op.operands])))).goes
    have hm : isMove o.op = false := by simpa using hm
    have hneed : needOf objs eA o.op d = d :: o.op.operands.toList.flatMap fun x => (eA x).slots := by
      unfold needOf
      rw [hc, hm]
    refine (op_good (K := pr) (get := restrict objs (needOf objs eA o.op d)) hT h hc hx (fun x hxm s hs => restrict_in ?_) (restrict_in (need := needOf objs eA o.op d) (by rw [hneed]; simp)) hk).goes
    rw [hneed]
    exact List.mem_cons_of_mem _ (List.mem_flatMap.2 ⟨x, by simpa using hxm, hs⟩)
end
end Go.Eng
end

section
/-! Engine, soundness 25: an operation's effect; its footprint. -/
namespace Go.Eng

inductive Eff where
  | skip
  | did (v : AV) (u : Upd)

def setT (o : Oper) (ts : List AV) (v : AV) : List AV := match o.dst with | some d => setNth ts d v | none => ts

def Eff.on (o : Oper) (A : St) : Eff → St
  | .skip => ⟨setT o A.tmps (.tup []), A.objs⟩
  | .did v u => ⟨setT o A.tmps v, applyUpd A.objs u⟩

def slotD (o : Oper) (A : St) (rid i : Nat) : Nat := match o.dst with | some d => d | none => A.tmps.length + 256 * rid + i + 65

/-- Do two states agree at a place? -/
def Agree (A A' : St) (l : Nat) : Prop := (∀ t, l = 2 * t → nth .dead A.tmps t = nth .dead A'.tmps t) ∧ ∀ s, l = 2 * s + 1 → look A.objs s = look A'.objs s

theorem Agree.refl (A : St) (l : Nat) : Agree A A l := ⟨fun _ _ => rfl, fun _ _ => rfl⟩
theorem Agree.symm {A A' : St} {l : Nat} (h : Agree A A' l) : Agree A' A l := ⟨fun t e => (h.1 t e).symm, fun s e => (h.2 s e).symm⟩
theorem Agree.trans {A A' A'' : St} {l : Nat} (h : Agree A A' l) (k : Agree A' A'' l) : Agree A A'' l := ⟨fun t e => (h.1 t e).trans (k.1 t e), fun s e => (h.2 s e).trans (k.2 s e)⟩

/-- What was recorded of an operation. -/
structure Rec (T : TT) (es : List Entry) (ops : Array Oper) (rid i : Nat) (o : Oper) (A : St) (f : Eff) (e : Ev) : Prop where
  num : e.i = i
  guard : match o.guard with
    | none => ∃ v u, f = .did v u
    | some (j, want) => ∃ t, (ops[j]?).bind (·.dst) = some t ∧ e.r.testBit (2 * t) = true ∧ ((∃ b, nth .dead A.tmps t = .bool b ∧ (if b = want then ∃ v u, f = .did v u else f = .skip)) ∨ ∃ l, nth .dead A.tmps t = .tup l ∧ f = .skip)
  run : ∀ v u, f = .did v u → opK T (callK es) (evR A (operandTmps o.op.operands.toList)) (restrict A.objs (needOf A.objs (evR A (operandTmps o.op.operands.toList)) o.op (slotD o A rid i))) (slotD o A rid i) o.op pr = some (v, u)
  tmps : ∀ v u, f = .did v u → ∀ t ∈ operandTmps o.op.operands.toList, e.r.testBit (2 * t) = true
  need : ∀ v u, f = .did v u → ∀ s ∈ needOf A.objs (evR A (operandTmps o.op.operands.toList)) o.op (slotD o A rid i), e.r.testBit (2 * s + 1) = true
  dst : ∀ d, o.dst = some d → e.w.testBit (2 * d) = true
  upd : ∀ v u, f = .did v u → ∀ s, (∃ x, (s, x) ∈ u) → e.w.testBit (2 * s + 1) = true
  /-- It writes nothing else. -/
  only : ∀ l, e.w.testBit l = true → (∃ d, o.dst = some d ∧ l = 2 * d) ∨ ∃ v u s x, f = .did v u ∧ (s, x) ∈ u ∧ l = 2 * s + 1

theorem bits_mem {n : Nat} : ∀ {l : List Nat}, (bitsOf l).testBit n = true ↔ n ∈ l
  | [] => by simp [bitsOf]
  | m :: l => by
    simp only [bitsOf, Nat.testBit_or, Bool.or_eq_true, bits_mem (l := l), List.mem_cons, Nat.testBit_two_pow, decide_eq_true_eq]
    constructor
    · rintro (h | h)
      · exact .inl h.symm
      · exact .inr h
    · rintro (h | h)
      · exact .inl h.symm
      · exact .inr h

section
variable {T : TT} {es : List Entry} {ρ : Type}

theorem set_same {l : List AV} {t : Nat} {b : Bool} (h : nth .dead l t = .bool b) : setNth l t (.bool b) = l := by
  rw [setNth_eq]
  rw [nth_eq] at h
  apply List.ext_getElem?
  intro i
  by_cases e : t = i
  · subst e
    cases hl : l[t]? with
    | none => rw [hl] at h; simp at h
    | some a =>
      rw [hl] at h
      simp only [Option.getD_some] at h
      rw [List.getElem?_set_self (List.getElem?_eq_some_iff.1 hl).1, h]
  · rw [List.getElem?_set_ne e]

theorem operK_rec {ops : Array Oper} {rid i : Nat} {o : Oper} {A : St} {K : Ev → St → Option ρ} {res : ρ} (hk : operK T (callK es) ops rid i o A K = some res) : ∃ f e, K e (f.on o A) = some res ∧ Rec T es ops rid i o A f e := by
  have run : ∀ (g : Nat), (∀ j want, o.guard = some (j, want) → ∃ t, (ops[j]?).bind (·.dst) = some t ∧ nth .dead A.tmps t = .bool want ∧ g.testBit (2 * t) = true) →
      (let d := slotD o A rid i
       let ts := operandTmps o.op.operands.toList
       let eA := evR A ts
       let need := needOf A.objs eA o.op d
       opK T (callK es) eA (restrict A.objs need) d o.op fun v u =>
        K ⟨i, g ||| bitsOf (ts.map (2 * ·)) ||| bitsOf (need.map (2 * · + 1)), (match o.dst with | some d => 2 ^ (2 * d) | none => 0) ||| bitsOf (u.map (2 * ·.1 + 1))⟩
        { tmps := setT o A.tmps v, objs := applyUpd A.objs u }) = some res → ∃ f e, K e (f.on o A) = some res ∧ Rec T es ops rid i o A f e := by
    intro g hg hk
    dsimp only at hk
    rw [opK_nat] at hk
    cases ho : opK T (callK es) (evR A (operandTmps o.op.operands.toList)) (restrict A.objs (needOf A.objs (evR A (operandTmps o.op.operands.toList)) o.op (slotD o A rid i))) (slotD o A rid i) o.op pr with
    | none => rw [ho] at hk; cases hk
    | some q =>
      obtain ⟨v, u⟩ := q
      rw [ho] at hk
      simp only [Nat2, Option.bind_some] at hk
      refine ⟨.did v u, _, hk, rfl, ?_, fun v' u' e => ?_, fun v' u' e t ht => ?_, fun v' u' e s hs => ?_, fun d hd => ?_, fun v' u' e s hs => ?_, fun l hl => ?_⟩
      · cases hgd : o.guard with
        | none => exact ⟨v, u, rfl⟩
        | some q =>
          obtain ⟨j, want⟩ := q
          obtain ⟨t, h1, h2, h3⟩ := hg j want hgd
          exact ⟨t, h1, by simp only [Nat.testBit_or, h3, Bool.true_or], .inl ⟨want, h2, by rw [if_pos rfl]; exact ⟨v, u, rfl⟩⟩⟩
      · cases e; exact ho
      · simp only [Nat.testBit_or, Bool.or_eq_true]
        exact .inl (.inr (bits_mem.2 (List.mem_map.2 ⟨t, ht, rfl⟩)))
      · simp only [Nat.testBit_or, Bool.or_eq_true]
        exact .inr (bits_mem.2 (List.mem_map.2 ⟨s, hs, rfl⟩))
      · simp only [Nat.testBit_or, Bool.or_eq_true, hd]
        exact .inl (by simp)
      · cases e
        obtain ⟨x, hx⟩ := hs
        simp only [Nat.testBit_or, Bool.or_eq_true]
        exact .inr (bits_mem.2 (List.mem_map.2 ⟨(s, x), hx, rfl⟩))
      · simp only [Nat.testBit_or, Bool.or_eq_true] at hl
        rcases hl with hl | hl
        · cases hd : o.dst with
          | none => rw [hd] at hl; simp at hl
          | some d =>
            rw [hd] at hl
            simp only [Nat.testBit_two_pow, decide_eq_true_eq] at hl
            exact .inl ⟨d, rfl, hl.symm⟩
        · obtain ⟨⟨s, x⟩, hs, e⟩ := List.mem_map.1 (bits_mem.1 hl)
          exact .inr ⟨v, u, s, x, rfl, hs, e.symm⟩
  unfold operK at hk
  dsimp only at hk
  cases hgd : o.guard with
  | none =>
    rw [hgd] at hk
    exact run 0 (fun j want h => by rw [hgd] at h; cases h) hk
  | some q =>
    obtain ⟨j, want⟩ := q
    rw [hgd] at hk
    dsimp only at hk
    split at hk
    · cases hk
    · rename_i t ht
      split at hk
      · rename_i b hb
        split at hk
        · rename_i e
          subst e
          rw [set_same hb] at hk
          refine run (2 ^ (2 * t)) (fun j' want' h => ?_) hk
          rw [hgd] at h
          cases h
          exact ⟨t, ht, hb, by simp⟩
        · rename_i e
          have hnw : (!want) = b := by cases want <;> cases b <;> simp_all
          rw [hnw, set_same hb] at hk
          refine ⟨.skip, _, hk, rfl, ?_, by simp, by simp, by simp, fun d hd => ?_, by simp, fun l hl => ?_⟩
          · rw [hgd]
            exact ⟨t, ht, by simp, .inl ⟨b, hb, by rw [if_neg e]⟩⟩
          · simp [hd]
          · cases hd : o.dst with
            | none => simp [hd] at hl
            | some d =>
              simp only [hd, Nat.testBit_two_pow, decide_eq_true_eq] at hl
              exact .inl ⟨d, rfl, hl.symm⟩
      · rename_i l0 hb
        refine ⟨.skip, _, hk, rfl, ?_, by simp, by simp, by simp, fun d hd => ?_, by simp, fun l hl => ?_⟩
        · rw [hgd]
          exact ⟨t, ht, by simp, .inr ⟨l0, hb, rfl⟩⟩
        · simp [hd]
        · cases hd : o.dst with
          | none => simp [hd] at hl
          | some d =>
            simp only [hd, Nat.testBit_two_pow, decide_eq_true_eq] at hl
            exact .inl ⟨d, rfl, hl.symm⟩
      · cases hk

theorem on_len (o : Oper) (A : St) (f : Eff) : (f.on o A).tmps.length = A.tmps.length := by
  cases f <;> simp only [Eff.on, setT] <;> split <;> simp [setNth_eq]

theorem look_out (objs : Upd) : ∀ (u : Upd) (s : Nat), (¬ ∃ x, (s, x) ∈ u) → look (applyUpd objs u) s = look objs s
  | [], s, _ => rfl
  | (s', x) :: u, s, h => by
    show look (put (applyUpd objs u) s' x) s = _
    rw [look_put, if_neg (fun e => h ⟨x, by rw [e]; simp⟩)]
    exact look_out objs u s fun ⟨y, hy⟩ => h ⟨y, List.mem_cons_of_mem _ hy⟩
theorem look_in (objs : Upd) : ∀ (u : Upd) (s : Nat), (∃ x, (s, x) ∈ u) → look (applyUpd objs u) s = look u s
  | [], s, h => by simp at h
  | (s', x) :: u, s, h => by
    show look (put (applyUpd objs u) s' x) s = _
    rw [look_put, look_cons]
    by_cases e : s' = s
    · rw [if_pos e, if_pos e]
    · rw [if_neg e, if_neg e]
      refine look_in objs u s ?_
      obtain ⟨y, hy⟩ := h
      rcases List.mem_cons.1 hy with hy | hy
      · cases hy; exact absurd rfl e
      · exact ⟨y, hy⟩

theorem nth_big {l : List AV} {t : Nat} (h : ¬ t < l.length) : nth .dead l t = .dead := by
  rw [nth_eq, List.getElem?_eq_none (Nat.le_of_not_lt h)]; rfl

theorem nth_setT (o : Oper) (ts : List AV) (v : AV) (t : Nat) : nth .dead (setT o ts v) t = if o.dst = some t ∧ t < ts.length then v else nth .dead ts t := by
  unfold setT
  cases hd : o.dst with
  | none => simp
  | some d =>
    simp only [Option.some.injEq]
    by_cases e : d = t
    · subst e
      by_cases hl : d < ts.length
      · rw [if_pos ⟨rfl, hl⟩, setNth_eq, nth_eq, List.getElem?_set_self hl]; rfl
      · rw [if_neg (fun h => hl h.2), nth_big hl, setNth_eq, nth_big]
        rw [List.length_set]
        exact hl
    · rw [if_neg (fun h => e h.1), setNth_eq, nth_eq, nth_eq, List.getElem?_set_ne e]

/-- What is not written is as it was. -/
theorem Rec.kept {ops : Array Oper} {rid i : Nat} {o : Oper} {A A' : St} {f : Eff} {e : Ev} (h : Rec T es ops rid i o A f e) {l : Nat} (hl : e.w.testBit l = false) : Agree (f.on o A') A' l := by
  have hd : ∀ d, o.dst = some d → l ≠ 2 * d := fun d hd e' => by rw [e', h.dst d hd] at hl; cases hl
  have hts : ∀ t v, l = 2 * t → nth .dead (setT o A'.tmps v) t = nth .dead A'.tmps t := fun t v e' => by
    rw [nth_setT, if_neg]
    rintro ⟨h1, _⟩
    exact hd t h1 e'
  cases f with
  | skip => exact ⟨fun t e' => hts t _ e', fun _ _ => rfl⟩
  | did v u =>
    refine ⟨fun t e' => hts t _ e', fun s e' => ?_⟩
    show look (applyUpd A'.objs u) s = _
    refine look_out _ _ _ ?_
    intro hs
    have := h.upd v u rfl s hs
    rw [← e', hl] at this
    cases this

/-- What is written does not hang on what was there. -/
theorem Rec.wrote {ops : Array Oper} {rid i : Nat} {o : Oper} {A A1 A2 : St} {f : Eff} {e : Ev} (h : Rec T es ops rid i o A f e) (hlen : A1.tmps.length = A2.tmps.length) {l : Nat} (hl : e.w.testBit l = true) : Agree (f.on o A1) (f.on o A2) l := by
  have hts : ∀ t v, l = 2 * t → nth .dead (setT o A1.tmps v) t = nth .dead (setT o A2.tmps v) t := fun t v e' => by
    rcases h.only l hl with ⟨d, h1, h2⟩ | ⟨_, _, s, x, _, _, h2⟩
    · have : d = t := Nat.eq_of_mul_eq_mul_left (by decide : 0 < 2) (h2.symm.trans e')
      subst this
      rw [nth_setT, nth_setT, hlen]
      by_cases hlt : d < A2.tmps.length
      · rw [if_pos ⟨h1, hlt⟩, if_pos ⟨h1, hlt⟩]
      · rw [if_neg (fun h => hlt h.2), if_neg (fun h => hlt h.2), nth_big hlt, nth_big (by rw [hlen]; exact hlt)]
    · omega
  cases f with
  | skip =>
    refine ⟨fun t e' => hts t _ e', fun s e' => ?_⟩
    rcases h.only l hl with ⟨d, h1, h2⟩ | ⟨v, u, _, _, h2, _⟩
    · exact absurd (h2.symm.trans e') (by intro hh; have : 2 * (d : Nat) = 2 * s + 1 := hh; omega)
    · cases h2
  | did v u =>
    refine ⟨fun t e' => hts t _ e', fun s e' => ?_⟩
    rcases h.only l hl with ⟨d, h1, h2⟩ | ⟨v', u', s', x, h1, h2, h3⟩
    · exact absurd (h2.symm.trans e') (by intro hh; have : 2 * (d : Nat) = 2 * s + 1 := hh; omega)
    · cases h1
      have : s = s' := by omega
      subst this
      show look (applyUpd A1.objs u) s = look (applyUpd A2.objs u) s
      rw [look_in _ _ _ ⟨x, h2⟩, look_in _ _ _ ⟨x, h2⟩]

theorem reach_congr {g1 g2 : Get} : ∀ (n : Nat) (todo acc : List Nat), (∀ s ∈ reach g1 n todo acc, g1 s = g2 s) → reach g2 n todo acc = reach g1 n todo acc
  | 0, _, _, _ => rfl
  | n + 1, [], _, _ => rfl
  | n + 1, t :: todo, acc, h => by
    unfold reach at h ⊢
    cases hm : memb t acc with
    | true =>
      rw [hm] at h
      exact reach_congr n todo acc h
    | false =>
      rw [hm] at h
      dsimp only at h ⊢
      have := h t (reach_acc _ _ _ _ _ (by simp))
      rw [← this]
      exact reach_congr n _ _ h

theorem evR_congr {A A' : St} {ts : List Nat} (h : ∀ t ∈ ts, nth .dead A'.tmps t = nth .dead A.tmps t) : evR A' ts = evR A ts := by
  funext x
  cases x with
  | tmp t =>
    simp only [evR]
    cases hm : memb t ts with
    | true => exact h t (memb_iff.1 hm)
    | false => rfl
  | _ => rfl

/-- The record holds of every state that agrees on what is read. -/
theorem Rec.congr {ops : Array Oper} {rid i : Nat} {o : Oper} {A A' : St} {f : Eff} {e : Ev} (h : Rec T es ops rid i o A f e) (hlen : A'.tmps.length = A.tmps.length) (ha : ∀ l, e.r.testBit l = true → Agree A' A l) : Rec T es ops rid i o A' f e := by
  have hslot : slotD o A' rid i = slotD o A rid i := by unfold slotD; rw [hlen]
  have hev : ∀ v u, f = .did v u → evR A' (operandTmps o.op.operands.toList) = evR A (operandTmps o.op.operands.toList) := fun v u hf => evR_congr fun t ht => (ha _ (h.tmps v u hf t ht)).1 t rfl
  have hneed : ∀ v u, f = .did v u → needOf A'.objs (evR A' (operandTmps o.op.operands.toList)) o.op (slotD o A' rid i) = needOf A.objs (evR A (operandTmps o.op.operands.toList)) o.op (slotD o A rid i) := fun v u hf => by
    rw [hev v u hf, hslot]
    have hn := h.need v u hf
    unfold needOf at hn ⊢
    dsimp only at hn ⊢
    cases hc : isCall o.op with
    | false => rfl
    | true =>
      rw [hc] at hn
      exact reach_congr _ _ _ fun s hs => ((ha _ (hn s hs)).2 s rfl).symm
  refine ⟨h.num, ?_, fun v u hf => ?_, h.tmps, fun v u hf s hs => ?_, h.dst, h.upd, h.only⟩
  · have hg := h.guard
    cases hgd : o.guard with
    | none => rw [hgd] at hg; exact hg
    | some q =>
      rw [hgd] at hg
      obtain ⟨t, h1, h3, h4⟩ := hg
      refine ⟨t, h1, h3, ?_⟩
      rw [(ha _ h3).1 t rfl]
      exact h4
  · have hr := h.run v u hf
    rw [hneed v u hf, hev v u hf, hslot]
    have : restrict A'.objs (needOf A.objs (evR A (operandTmps o.op.operands.toList)) o.op (slotD o A rid i)) = restrict A.objs (needOf A.objs (evR A (operandTmps o.op.operands.toList)) o.op (slotD o A rid i)) := by
      funext s
      unfold restrict
      cases hm : memb s _ with
      | true => exact (ha _ (h.need v u hf s (memb_iff.1 hm))).2 s rfl
      | false => rfl
    rw [this]
    exact hr
  · rw [hneed v u hf] at hs
    exact h.need v u hf s hs
end
end Go.Eng
end

section
/-! Engine, soundness 26: regions. -/
namespace Go.Eng
section
variable {P : Program} {T : TT} {es : List Entry} {base : Nat} {S : List Nat} {B F0 : Nat → Prop} {G : Act → Prop} {w0 : World} {ρ : Type}

/-- The interpreter's state and the machine's. -/
def RelA (base : Nat) (S : List Nat) (B : Nat → Prop) (w0 : World) (F0 : Nat → Prop) (G : Act → Prop) (A : St) (a : Act) (w : World) : Prop :=
  ∃ loc F, SR base S B w0 A.objs loc F w ∧ (∀ b, F0 b → F b) ∧ More base S F0 F ∧ G a ∧ a.tmps.size = A.tmps.length ∧ ∀ t, Val A.objs loc F B w (nth .dead A.tmps t) (a.tmps.getD t undef)

theorem Val.dead {objs : Upd} {loc : Loc} {F B : Nat → Prop} {w : World} {v : Value} : Val objs loc F B w .dead v := trivial

theorem val_const {objs : Upd} {loc : Loc} {F B : Nat → Prop} {w : World} (v : Value) : Val objs loc F B w (constAV v) v := by
  unfold constAV
  split <;> first | rfl | trivial

theorem mem_operandTmps {t : Nat} : ∀ {l : List Operand}, Operand.tmp t ∈ l → t ∈ operandTmps l
  | [], h => by simp at h
  | .tmp t' :: l, h => by
    rcases List.mem_cons.1 h with h | h
    · cases h; simp [operandTmps]
    · simp [operandTmps, mem_operandTmps h]
  | .const _ :: l, h => by
    rcases List.mem_cons.1 h with h | h
    · cases h
    · exact mem_operandTmps (l := l) h
  | .func _ :: l, h => by
    rcases List.mem_cons.1 h with h | h
    · cases h
    · exact mem_operandTmps (l := l) h
  | .global _ :: l, h => by
    rcases List.mem_cons.1 h with h | h
    · cases h
    · exact mem_operandTmps (l := l) h

theorem val_evR {objs : Upd} {loc : Loc} {F B : Nat → Prop} {w : World} {A : St} {a : Act} (hv : ∀ t, Val objs loc F B w (nth .dead A.tmps t) (a.tmps.getD t undef)) (ts : List Nat) (x : Operand) : Val objs loc F B w (evR A ts x) (a.eval x) := by
  cases x with
  | tmp t =>
    simp only [evR]
    split
    · exact hv t
    · trivial
  | const v => exact val_const v
  | func f => exact ⟨#[], rfl, trivial⟩
  | global g => trivial

theorem put_get (a : Act) (dst : Option Tmp) (v : Value) (t : Nat) : (a.put dst v).tmps.getD t undef = if dst = some t ∧ t < a.tmps.size then v else a.tmps.getD t undef := by
  cases dst with
  | none => simp [Act.put]
  | some d =>
    simp only [Act.put, Option.some.injEq]
    by_cases e : d = t
    · subst e
      by_cases h : d < a.tmps.size
      · rw [if_pos ⟨rfl, h⟩]
        simp [h]
      · rw [if_neg (fun hh => h hh.2)]
        simp only [Array.getD_eq_getD_getElem?]
        rw [Array.getElem?_eq_none (by simpa using Nat.le_of_not_lt h), Array.getElem?_eq_none (Nat.le_of_not_lt h)]
    · rw [if_neg (fun hh => e hh.1)]
      simp [Array.getElem?_setIfInBounds_ne e]
theorem put_size (a : Act) (dst : Option Tmp) (v : Value) : (a.put dst v).tmps.size = a.tmps.size := by cases dst <;> simp [Act.put]
theorem put_defers (a : Act) (dst : Option Tmp) (v : Value) : (a.put dst v).defers = a.defers := by cases dst <;> rfl

theorem rel_put {A : St} {a : Act} {w : World} {o : Oper} {v : AV} {cv : Value} {objs : Upd} {loc : Loc} {F : Nat → Prop} (hs : a.tmps.size = A.tmps.length) (hv : ∀ t, Val objs loc F B w (nth .dead A.tmps t) (a.tmps.getD t undef)) (hc : Val objs loc F B w v cv) :
    ∀ t, Val objs loc F B w (nth .dead (setT o A.tmps v) t) ((a.put o.dst cv).tmps.getD t undef) := by
  intro t
  rw [nth_setT, put_get, hs]
  by_cases h : o.dst = some t ∧ t < A.tmps.length
  · rw [if_pos h, if_pos h]; exact hc
  · rw [if_neg h, if_neg h]; exact hv t

theorem rec_step {ops : Array Oper} {rid i : Nat} {o : Oper} {A : St} {f : Eff} {e : Ev} {a : Act} {w : World} {next : Act → World → Prop} {Q : Exit → Act → World → Prop} (hT : TOk P T) (hes : ∀ e ∈ es, EntryOk P e) (hr : Rec T es ops rid i o A f e) (ho : ops[i]? = some o) (hG : ∀ a cv, G a → G (a.put o.dst cv))
    (h : RelA base S B w0 F0 G A a w) (hnext : ∀ a' w', RelA base S B w0 F0 G (f.on o A) a' w' → next a' w') : wpOp P ops Q i next a w := by
  obtain ⟨loc, F, hsr, hF0, hmore, hdef, hsize, hval⟩ := h
  have skip : f = .skip → next (a.put o.dst undef) w := fun hf => by
    subst hf
    exact hnext _ _ ⟨loc, F, hsr, hF0, hmore, hG _ _ hdef, by rw [put_size, on_len]; exact hsize, rel_put hsize hval ⟨#[], rfl, trivial⟩⟩
  have did : (∃ v u, f = .did v u) → o.wp P a w next Q := fun hf => by
    obtain ⟨v, u, rfl⟩ := hf
    refine op_goes hT hes hsr (fun x _ => val_evR hval _ x) (hr.run v u rfl) next Q fun cv w' loc' F' k1 k2 k3 k4 => ?_
    exact hnext _ _ ⟨loc', F', k1, fun b hb => k2.fro b (hF0 b hb), hmore.trans k3, hG _ _ hdef, by rw [put_size, on_len]; exact hsize, rel_put hsize (fun t => (hval t).ext k2) k4⟩
  unfold wpOp
  rw [ho]
  dsimp only
  have hg := hr.guard
  cases hgd : o.guard with
  | none =>
    rw [hgd] at hg
    have hw : Region.wanted o (yielded ops a.tmps) = true := by simp [Region.wanted, hgd]
    rw [if_pos hw]
    exact .inl (did hg)
  | some q =>
    obtain ⟨j, want⟩ := q
    rw [hgd] at hg
    obtain ⟨t, h1, _, ⟨b, h2, h4⟩ | ⟨l, h2, h4⟩⟩ := hg
    rotate_left
    · have hv := hval t
      rw [h2] at hv
      obtain ⟨vs, hv, _⟩ := hv
      have hy : yielded ops a.tmps j = none := by
        simp only [yielded, h1, Option.bind_some]
        rw [Array.getD_eq_getD_getElem?] at hv
        cases hc : a.tmps[t]? with
        | none => rfl
        | some c =>
          rw [hc] at hv
          simp only [Option.getD_some] at hv
          subst hv
          rfl
      have hw : Region.wanted o (yielded ops a.tmps) = false := by simp [Region.wanted, hgd, hy]
      rw [hw]
      exact skip h4
    have hlt : t < A.tmps.length := by
      by_cases hlt : t < A.tmps.length
      · exact hlt
      · rw [nth_big hlt] at h2; cases h2
    have hv := hval t
    rw [h2] at hv
    have hv : a.tmps.getD t undef = .bool b := hv
    have hy : yielded ops a.tmps j = some b := by
      have : a.tmps[t]? = some (.bool b) := by
        have hlt' : t < a.tmps.size := by rw [hsize]; exact hlt
        rw [Array.getElem?_eq_getElem hlt']
        rw [Array.getD_eq_getD_getElem?, Array.getElem?_eq_getElem hlt'] at hv
        simpa using hv
      simp [yielded, h1, this]
    have hw : Region.wanted o (yielded ops a.tmps) = (b == want) := by simp [Region.wanted, hgd, hy]
    rw [hw]
    by_cases e : b = want
    · rw [if_pos (by simpa using e)]
      rw [if_pos e] at h4
      exact .inl (did h4)
    · rw [if_neg (by simpa using e)]
      rw [if_neg e] at h4
      exact skip h4

/-- A plain region. -/
theorem reg_ok {ops : Array Oper} {rid : Nat} {Q : Exit → Act → World → Prop} {K : St → Option ρ} {res : ρ} (hT : TOk P T) (hes : ∀ e ∈ es, EntryOk P e) : ∀ (os : List Oper) (i : Nat) (A : St) (a : Act) (w : World), (∀ o ∈ os, ∀ a cv, G a → G (a.put o.dst cv)) → (∀ k, os[k]? = ops[i + k]?) → regK T (callK es) ops rid os i A K = some res → RelA base S B w0 F0 G A a w →
    (∀ A' a' w', K A' = some res → RelA base S B w0 F0 G A' a' w' → Q .normal a' w') → wpOps P ops Q ((List.range os.length).map (i + ·)) a w
  | [], i, A, a, w, _, _, hk, h, hq => hq A a w hk h
  | o :: os, i, A, a, w, hG, hos, hk, h, hq => by
    rw [List.length_cons, List.range_succ_eq_map, List.map_cons, List.map_map, wpOps_cons, Nat.add_zero]
    simp only [regK] at hk
    obtain ⟨f, e, hk, hr⟩ := operK_rec hk
    refine rec_step hT hes hr (by have := hos 0; simpa using this.symm) (hG o (by simp)) h fun a' w' h' => ?_
    have := reg_ok (Q := Q) hT hes os (i + 1) (f.on o A) a' w' (fun o' ho' => hG o' (List.mem_cons_of_mem _ ho')) (fun k => by have := hos (k + 1); rw [show i + 1 + k = i + (k + 1) by omega]; simpa using this) hk h' hq
    have e : (fun x => i + 1 + x) = (fun x => i + x) ∘ Nat.succ := by funext x; simp; omega
    rw [e] at this
    exact this

theorem SR.congr {objs objs' : Upd} {loc : Loc} {F : Nat → Prop} {w : World} (h : SR base S B w0 objs loc F w) (he : ∀ s, look objs' s = look objs s) : SR base S B w0 objs' loc F w ∧ Ext B objs loc F w objs' loc F w := by
  have ext : Ext B objs loc F w objs' loc F w := ⟨fun _ h => h, fun _ _ => rfl, fun _ _ => rfl, Nat.le_refl _, fun s => by rw [he]; exact Nat.le_refl _, fun s j v o _ hj => ⟨v, o, by rw [he]; exact hj, Nat.le_refl _, fun _ => Compat.refl _ _⟩⟩
  refine ⟨h.frame (Step.refl h) (fun s j v o hj => ?_) (fun s j v o s' j' v' o' b hj hj' => ?_) (fun s j v o b hj => ?_) h.fro, ext⟩
  · rw [he] at hj; exact (h.obs s j v o hj).ext ext fun _ _ => rfl
  · rw [he] at hj hj'; exact h.apart s j v o s' j' v' o' b hj hj'
  · rw [he] at hj; exact h.own s j v o b hj

theorem RelA.congr {A A' : St} {a : Act} {w : World} (h : RelA base S B w0 F0 G A a w) (hlen : A'.tmps.length = A.tmps.length) (he : ∀ l, Agree A' A l) : RelA base S B w0 F0 G A' a w := by
  obtain ⟨loc, F, hsr, hF0, hmore, hdef, hsize, hval⟩ := h
  obtain ⟨k1, k2⟩ := hsr.congr (objs' := A'.objs) fun s => (he _).2 s rfl
  exact ⟨loc, F, k1, hF0, hmore, hdef, by rw [hlen]; exact hsize, fun t => by rw [(he _).1 t rfl]; exact (hval t).ext k2⟩
end
end Go.Eng
end

section
/-! Engine, soundness 27: regions whose order is drawn. -/
namespace Go.Eng

/-- A whole listed run. -/
structure Tr (T : TT) (es : List Entry) (ops : Array Oper) (rid n : Nat) (As : Nat → St) (fs : Nat → Eff) (evs : Nat → Ev) (bef : Nat → Nat) : Prop where
  next : ∀ k o, ops[k]? = some o → k < n → As (k + 1) = (fs k).on o (As k)
  recd : ∀ k o, ops[k]? = some o → k < n → Rec T es ops rid k o (As k) (fs k) (evs k)
  free : ∀ j k, j < k → k < n → (bef k).testBit j = true ∨ Ev.free (evs j) (evs k) = true
  edge : ∀ k o, ops[k]? = some o → k < n → ∀ e ∈ o.after, Region.binds .any e = true → e.on < k
  bits : ∀ k o, ops[k]? = some o → k < n → ∀ j, (bef k).testBit j = true → ∃ e ∈ o.after, Region.binds .any e = true ∧ e.on < k ∧ (j = e.on ∨ (bef e.on).testBit j = true)

theorem edges_spec {i : Nat} {bs : List Nat} : ∀ {l : List Edge} {b : Nat}, edges i bs l = some b → (∀ e ∈ l, Region.binds .any e = true → e.on < i) ∧ ∀ j, b.testBit j = true → ∃ e ∈ l, Region.binds .any e = true ∧ e.on < i ∧ (j = e.on ∨ (nth 0 bs e.on).testBit j = true)
  | [], b, h => by simp [edges] at h; subst h; simp
  | e :: l, b, h => by
    simp only [edges] at h
    split at h
    · rename_i hb
      obtain ⟨h1, h2⟩ := edges_spec h
      refine ⟨fun e' he' hb' => ?_, fun j hj => ?_⟩
      · rcases List.mem_cons.1 he' with rfl | he'
        · rw [hb] at hb'; cases hb'
        · exact h1 e' he' hb'
      · obtain ⟨e', a, c⟩ := h2 j hj
        exact ⟨e', List.mem_cons_of_mem _ a, c⟩
    · rename_i hb
      split at h
      · rename_i b' hlt hr
        have hlt : e.on < i := by simpa using hlt
        injection h with h
        obtain ⟨h1, h2⟩ := edges_spec hr
        refine ⟨fun e' he' hb' => ?_, fun j hj => ?_⟩
        · rcases List.mem_cons.1 he' with rfl | he'
          · exact hlt
          · exact h1 e' he' hb'
        · rw [← h] at hj
          simp only [Nat.testBit_or, Bool.or_eq_true, Nat.testBit_two_pow, decide_eq_true_eq] at hj
          rcases hj with (hj | hj) | hj
          · exact ⟨e, by simp, hb, hlt, .inl hj.symm⟩
          · exact ⟨e, by simp, hb, hlt, .inr hj⟩
          · obtain ⟨e', a, c⟩ := h2 j hj
            exact ⟨e', List.mem_cons_of_mem _ a, c⟩
      · cases h

theorem clash_spec {bef : Nat} {e : Ev} : ∀ {l : List Ev}, clash bef e l = false → ∀ x ∈ l, bef.testBit x.i = true ∨ Ev.free x e = true
  | [], _, x, hx => by simp at hx
  | y :: l, h, x, hx => by
    simp only [clash] at h
    split at h
    · rename_i hy
      rcases List.mem_cons.1 hx with rfl | hx
      · simpa using hy
      · exact clash_spec h x hx
    · cases h

section
variable {T : TT} {es : List Entry} {ρ : Type}

theorem draw_run {ops : Array Oper} {rid : Nat} {K : St → Option ρ} {res : ρ} : ∀ (os : List Oper) (i : Nat) (bs : List Nat) (el : List Ev) (A : St), (∀ k, os[k]? = ops[i + k]?) → el.length = i → bs.length = i → (∀ k x, k < i → el[i - 1 - k]? = some x → x.i = k) →
    drawK T (callK es) ops rid os bs i el A K = some res → ∃ (As : Nat → St) (fs : Nat → Eff) (evs : Nat → Ev) (bef : Nat → Nat), As i = A ∧ (∀ k, k < i → el[i - 1 - k]? = some (evs k)) ∧ (∀ k, k < i → bs[k]? = some (bef k)) ∧ K (As (i + os.length)) = some res ∧
      (∀ k o, ops[k]? = some o → i ≤ k → k < i + os.length → As (k + 1) = (fs k).on o (As k) ∧ Rec T es ops rid k o (As k) (fs k) (evs k) ∧ (∀ j, j < k → (bef k).testBit j = true ∨ Ev.free (evs j) (evs k) = true) ∧
        ∃ bl : List Nat, (∀ m, m < k → nth 0 bl m = bef m) ∧ edges k bl o.after.toList = some (bef k))
  | [], i, bs, el, A, _, hel, hbs, _, hk => by
    refine ⟨fun _ => A, fun _ => .skip, fun k => (el[i - 1 - k]?).getD ⟨0, 0, 0⟩, fun k => (bs[k]?).getD 0, rfl, fun k hk => ?_, fun k hk => ?_, hk, fun k o _ h1 h2 => ?_⟩
    · dsimp only
      rw [List.getElem?_eq_getElem (by omega)]; rfl
    · dsimp only
      rw [List.getElem?_eq_getElem (by omega)]; rfl
    · simp at h2; omega
  | o :: os, i, bs, el, A, hos, hel, hbs, hnum, hk => by
    simp only [drawK] at hk
    split at hk
    · cases hk
    rename_i b hedge
    obtain ⟨f, e, hk, hrec⟩ := operK_rec hk
    split at hk
    · cases hk
    rename_i hclash
    obtain ⟨As, fs, evs, bef, h1, h2, h3, h4, h5⟩ := draw_run os (i + 1) (bs ++ [b]) (e :: el) (f.on o A) (fun k => by have := hos (k + 1); rw [show i + 1 + k = i + (k + 1) by omega]; simpa using this) (by simp [hel]) (by simp [hbs])
      (fun k x hk hx => by
        by_cases e' : k = i
        · subst e'
          rw [show k + 1 - 1 - k = 0 by omega] at hx
          simp only [List.getElem?_cons_zero, Option.some.injEq] at hx
          rw [← hx]
          exact hrec.num
        · rw [show i + 1 - 1 - k = (i - 1 - k) + 1 by omega, List.getElem?_cons_succ] at hx
          exact hnum k x (by omega) hx) hk
    have hei : evs i = e := by
      have := h2 i (by omega)
      rw [show i + 1 - 1 - i = 0 by omega] at this
      simpa using this.symm
    have hbi : bef i = b := by
      have := h3 i (by omega)
      rw [List.getElem?_append_right (by omega), hbs] at this
      simpa using this.symm
    have hevs : ∀ k, k < i → el[i - 1 - k]? = some (evs k) := fun k hk => by
      have := h2 k (by omega)
      rw [show i + 1 - 1 - k = (i - 1 - k) + 1 by omega, List.getElem?_cons_succ] at this
      exact this
    have hbef : ∀ k, k < i → bs[k]? = some (bef k) := fun k hk => by
      have := h3 k (by omega)
      rw [List.getElem?_append_left (by omega)] at this
      exact this
    refine ⟨fun k => if k = i then A else As k, fun k => if k = i then f else fs k, evs, bef, by simp, hevs, hbef, ?_, fun k o' ho' hle hlt => ?_⟩
    · dsimp only
      have hlen : i + (o :: os).length = i + 1 + os.length := by simp; omega
      rw [hlen, if_neg (by omega)]
      exact h4
    · by_cases hki : k = i
      · subst hki
        have ho : o' = o := by
          have := hos 0
          simp only [List.getElem?_cons_zero, Nat.add_zero] at this
          rw [← this] at ho'
          simpa using ho'.symm
        subst ho
        refine ⟨?_, ?_, fun j hj => ?_, bs, fun m hm => ?_, ?_⟩
        · dsimp only
          rw [if_neg (by omega), if_pos rfl, if_pos rfl]; exact h1
        · dsimp only
          rw [if_pos rfl, if_pos rfl, hei]; exact hrec
        · rw [hei, hbi]
          have hx := hevs j hj
          have := clash_spec hclash (evs j) (List.mem_of_getElem? hx)
          rw [hnum j _ hj hx] at this
          exact this
        · rw [nth_eq, hbef m hm]; rfl
        · rw [hbi]; exact hedge
      · dsimp only
        rw [if_neg (by omega), if_neg hki, if_neg hki]
        exact h5 k o' ho' (by omega) (by simp at hlt; omega)

theorem draw_tr {ops : Array Oper} {rid : Nat} {K : St → Option ρ} {res : ρ} {A : St} (hk : drawK T (callK es) ops rid ops.toList [] 0 [] A K = some res) : ∃ (As : Nat → St) (fs : Nat → Eff) (evs : Nat → Ev) (bef : Nat → Nat), As 0 = A ∧ K (As ops.size) = some res ∧ Tr T es ops rid ops.size As fs evs bef := by
  obtain ⟨As, fs, evs, bef, h1, _, _, h4, h5⟩ := draw_run ops.toList 0 [] [] A (fun k => by rw [Nat.zero_add]; simp) rfl rfl (fun k x hk => by omega) hk
  rw [Nat.zero_add, Array.length_toList] at h4
  have h5' : ∀ k o, ops[k]? = some o → k < ops.size → _ := fun k o ho hlt => h5 k o ho (Nat.zero_le _) (by rw [Nat.zero_add, Array.length_toList]; exact hlt)
  refine ⟨As, fs, evs, bef, h1, h4, fun k o ho hlt => (h5' k o ho hlt).1, fun k o ho hlt => (h5' k o ho hlt).2.1, fun j k hj hlt => ?_, fun k o ho hlt => ?_, fun k o ho hlt j hj => ?_⟩
  · exact (h5' k ops[k] (by simp [hlt]) hlt).2.2.1 j hj
  · obtain ⟨bl, _, h⟩ := (h5' k o ho hlt).2.2.2
    exact fun e he => (edges_spec h).1 e (by simpa using he)
  · obtain ⟨bl, hbl, h⟩ := (h5' k o ho hlt).2.2.2
    obtain ⟨e, he, hb, hlt', hj⟩ := (edges_spec h).2 j hj
    refine ⟨e, by simpa using he, hb, hlt', hj.imp id fun hj => ?_⟩
    rw [hbl e.on hlt'] at hj
    exact hj

theorem free_spec {a b : Ev} (h : Ev.free a b = true) (l : Nat) : ¬ (a.w.testBit l = true ∧ b.r.testBit l = true) ∧ ¬ (a.w.testBit l = true ∧ b.w.testBit l = true) ∧ ¬ (a.r.testBit l = true ∧ b.w.testBit l = true) := by
  unfold Ev.free at h
  have h := beq_true.1 h
  have hl : ((a.w &&& (b.r ||| b.w)) ||| (a.r &&& b.w)).testBit l = false := by rw [h]; simp
  simp only [Nat.testBit_or, Nat.testBit_and] at hl
  refine ⟨?_, ?_, ?_⟩ <;> rintro ⟨h1, h2⟩ <;> simp [h1, h2] at hl

variable {ops : Array Oper} {rid n : Nat} {As : Nat → St} {fs : Nat → Eff} {evs : Nat → Ev} {bef : Nat → Nat}

/-- The listed state at a place: what the last writer left. -/
theorem Tr.char (t : Tr T es ops rid ops.size As fs evs bef) (l : Nat) : ∀ i, i ≤ ops.size → (∃ k, k < i ∧ (evs k).w.testBit l = true ∧ (∀ k', k < k' → k' < i → (evs k').w.testBit l = false) ∧ Agree (As i) (As (k + 1)) l) ∨ ((∀ k, k < i → (evs k).w.testBit l = false) ∧ Agree (As i) (As 0) l)
  | 0, _ => .inr ⟨fun k hk => by omega, Agree.refl _ _⟩
  | i + 1, hi => by
    have ho : ops[i]? = some ops[i] := by simp
    cases hw : (evs i).w.testBit l with
    | true => exact .inl ⟨i, by omega, hw, fun k' h1 h2 => by omega, Agree.refl _ _⟩
    | false =>
      have hkept : Agree (As (i + 1)) (As i) l := by
        rw [t.next i _ ho (by omega)]
        exact (t.recd i _ ho (by omega)).kept hw
      rcases Tr.char t l i (by omega) with ⟨k, h1, h2, h3, h4⟩ | ⟨h1, h2⟩
      · refine .inl ⟨k, by omega, h2, fun k' hk' hlt => ?_, hkept.trans h4⟩
        by_cases e : k' = i
        · subst e; exact hw
        · exact h3 k' hk' (by omega)
      · refine .inr ⟨fun k hk => ?_, hkept.trans h2⟩
        by_cases e : k = i
        · subst e; exact hw
        · exact h1 k (by omega)

/-- The state after the operations of a set. -/
def Inv (n : Nat) (As : Nat → St) (evs : Nat → Ev) (D : Nat → Prop) (A : St) : Prop :=
  A.tmps.length = (As 0).tmps.length ∧ ∀ l, (∃ k, k < n ∧ D k ∧ (evs k).w.testBit l = true ∧ (∀ k', k < k' → k' < n → D k' → (evs k').w.testBit l = false) ∧ Agree A (As (k + 1)) l) ∨ ((∀ k, k < n → D k → (evs k).w.testBit l = false) ∧ Agree A (As 0) l)

theorem Tr.same (t : Tr T es ops rid ops.size As fs evs bef) {D : Nat → Prop} {A : St} (h : Inv ops.size As evs D A) {i l : Nat} (hi : i ≤ ops.size) (hD : ∀ k, k < ops.size → (evs k).w.testBit l = true → (D k ↔ k < i)) : Agree A (As i) l := by
  rcases h.2 l with ⟨k, h1, h2, h3, h4, h5⟩ | ⟨h1, h2⟩
  · have hki := (hD k h1 h3).1 h2
    rcases t.char l i hi with ⟨k2, g1, g2, g3, g4⟩ | ⟨g1, _⟩
    · have : k = k2 := by
        rcases Nat.lt_trichotomy k k2 with hlt | rfl | hlt
        · have := h4 k2 hlt (by omega) ((hD k2 (by omega) g2).2 g1)
          rw [g2] at this; cases this
        · rfl
        · have := g3 k hlt hki
          rw [h3] at this; cases this
      subst this
      exact h5.trans g4.symm
    · have := g1 k hki
      rw [h3] at this; cases this
  · rcases t.char l i hi with ⟨k2, g1, g2, g3, g4⟩ | ⟨_, g2⟩
    · have := h1 k2 (by omega) ((hD k2 (by omega) g2).2 g1)
      rw [g2] at this; cases this
    · exact h2.trans g2.symm

def Closed (ops : Array Oper) (D : Nat → Prop) : Prop := ∀ k o, ops[k]? = some o → D k → ∀ e ∈ o.after, Region.binds .any e = true → D e.on

theorem Tr.closure (t : Tr T es ops rid ops.size As fs evs bef) {D : Nat → Prop} (hD : Closed ops D) : ∀ k, k < ops.size → D k → ∀ j, (bef k).testBit j = true → D j := by
  intro k
  induction k using Nat.strongRecOn with
  | _ k ih =>
    intro hk hDk j hj
    have ho : ops[k]? = some ops[k] := by simp [hk]
    obtain ⟨e, he, hb, hlt, hj⟩ := t.bits k _ ho hk j hj
    have hDe := hD k _ ho hDk e he hb
    rcases hj with rfl | hj
    · exact hDe
    · exact ih e.on hlt (by omega) hDe j hj

theorem Tr.before (t : Tr T es ops rid ops.size As fs evs bef) {D : Nat → Prop} (hD : Closed ops D) {i : Nat} {o : Oper} (ho : ops[i]? = some o) (hi : i < ops.size) (hr : ∀ e ∈ o.after, Region.binds .any e = true → D e.on) : ∀ j, (bef i).testBit j = true → D j := by
  intro j hj
  obtain ⟨e, he, hb, hlt, hj⟩ := t.bits i o ho hi j hj
  rcases hj with rfl | hj
  · exact hr e he hb
  · exact t.closure hD e.on (by omega) (hr e he hb) j hj

/-- An operation that is ready, and its state then. -/
theorem Tr.step (t : Tr T es ops rid ops.size As fs evs bef) {D : Nat → Prop} (hD : Closed ops D) {A : St} (h : Inv ops.size As evs D A) {i : Nat} {o : Oper} (ho : ops[i]? = some o) (hi : i < ops.size) (hn : ¬ D i) (hr : ∀ e ∈ o.after, Region.binds .any e = true → D e.on) :
    Rec T es ops rid i o A (fs i) (evs i) ∧ Inv ops.size As evs (fun k => D k ∨ k = i) ((fs i).on o A) := by
  have hrec := t.recd i o ho hi
  have hbef := t.before hD ho hi hr
  have hlen : ∀ k, k ≤ ops.size → (As k).tmps.length = (As 0).tmps.length := by
    intro k
    induction k with
    | zero => intro _; rfl
    | succ k ih =>
      intro hk
      have hok : ops[k]? = some ops[k] := by simp
      rw [t.next k _ hok (by omega), on_len]
      exact ih (by omega)
  have hli : A.tmps.length = (As i).tmps.length := h.1.trans (hlen i (by omega)).symm
  -- a place that the operation touches
  have up : ∀ l, (evs i).w.testBit l = true → ∀ k, k < ops.size → i < k → (evs k).w.testBit l = true → ¬ D k := fun l hl k hk hik hw hDk => by
    rcases t.free i k hik hk with hb | hf
    · exact hn (t.closure hD k hk hDk i hb)
    · exact (free_spec hf l).2.1 ⟨hl, hw⟩
  have reads : ∀ l, (evs i).r.testBit l = true → Agree A (As i) l := fun l hl => t.same h (by omega) fun k hk hw => by
    constructor
    · intro hDk
      rcases Nat.lt_trichotomy k i with hlt | rfl | hlt
      · exact hlt
      · exact absurd hDk hn
      · exfalso
        rcases t.free i k hlt hk with hb | hf
        · exact hn (t.closure hD k hk hDk i hb)
        · exact (free_spec hf l).2.2 ⟨hl, hw⟩
    · intro hlt
      rcases t.free k i hlt hi with hb | hf
      · exact hbef k hb
      · exact absurd ⟨hw, hl⟩ (free_spec hf l).1
  refine ⟨hrec.congr hli reads, ?_, fun l => ?_⟩
  · rw [on_len]; exact h.1
  · cases hw : (evs i).w.testBit l with
    | true =>
      refine .inl ⟨i, hi, .inr rfl, hw, fun k' hk' hlt hDk' => ?_, ?_⟩
      · rcases hDk' with hDk' | rfl
        · cases hw' : (evs k').w.testBit l with
          | false => rfl
          | true => exact absurd hDk' (up l hw k' hlt hk' hw')
        · omega
      · rw [t.next i o ho hi]
        exact hrec.wrote hli hw
    | false =>
      have hk := hrec.kept (A' := A) hw
      rcases h.2 l with ⟨k, h1, h2, h3, h4, h5⟩ | ⟨h1, h2⟩
      · refine .inl ⟨k, h1, .inl h2, h3, fun k' hk' hlt hDk' => ?_, hk.trans h5⟩
        rcases hDk' with hDk' | rfl
        · exact h4 k' hk' hlt hDk'
        · exact hw
      · refine .inr ⟨fun k hk' hDk' => ?_, hk.trans h2⟩
        rcases hDk' with hDk' | rfl
        · exact h1 k hk' hDk'
        · exact hw
end
end Go.Eng
end

section
/-! Engine, soundness 28: regions, whole. -/
namespace Go.Eng
section
variable {P : Program} {T : TT} {es : List Entry} {base : Nat} {S : List Nat} {B F0 : Nat → Prop} {G : Act → Prop} {w0 : World} {ρ : Type}
variable {ops : Array Oper} {rid : Nat} {As : Nat → St} {fs : Nat → Eff} {evs : Nat → Ev} {bef : Nat → Nat}

def On (listed : Array Bool) (k : Nat) : Prop := listed.getD k false = true

theorem on_set {listed : Array Bool} {i k : Nat} (hi : i < listed.size) : On (listed.setIfInBounds i true) k ↔ On listed k ∨ k = i := by
  unfold On
  by_cases e : i = k
  · subst e
    simp [hi]
  · simp only [Array.getD_eq_getD_getElem?, Array.getElem?_setIfInBounds_ne e]
    constructor
    · exact .inl
    · rintro (h | h)
      · exact h
      · exact absurd h.symm e

theorem off_of {listed : Array Bool} {i : Nat} (h : listed.getD i true = false) : i < listed.size ∧ ¬ On listed i := by
  by_cases hi : i < listed.size
  · refine ⟨hi, fun ho => ?_⟩
    unfold On at ho
    simp only [Array.getD_eq_getD_getElem?, Array.getElem?_eq_getElem hi, Option.getD_some] at h ho
    rw [h] at ho
    cases ho
  · simp [Array.getElem?_eq_none (Nat.le_of_not_lt hi)] at h

theorem off_iff' {listed : Array Bool} {i : Nat} (hi : i < listed.size) (h : ¬ On listed i) : listed.getD i true = false := by
  unfold On at h
  simp only [Array.getD_eq_getD_getElem?, Array.getElem?_eq_getElem hi, Option.getD_some] at h ⊢
  simpa using h

theorem count_set : ∀ {l : List Bool} {i : Nat}, l[i]? = some false → (l.set i true).countP (fun b => !b) + 1 = l.countP (fun b => !b)
  | b :: l, 0, h => by
    simp only [List.getElem?_cons_zero, Option.some.injEq] at h
    subst h
    simp
  | b :: l, i + 1, h => by
    have := count_set (l := l) (i := i) (by simpa using h)
    simp only [List.set_cons_succ, List.countP_cons]
    omega
  | [], _, h => by simp at h

theorem Inv.iff {n : Nat} {D D' : Nat → Prop} {A : St} (h : Inv n As evs D A) (hD : ∀ k, D k ↔ D' k) : Inv n As evs D' A := by
  have : D = D' := funext fun k => propext (hD k)
  rw [← this]; exact h

theorem draw_ok {Q : Exit → Act → World → Prop} (hT : TOk P T) (hes : ∀ e ∈ es, EntryOk P e) (hG : ∀ o ∈ ops, ∀ a cv, G a → G (a.put o.dst cv)) (t : Tr T es ops rid ops.size As fs evs bef) (hq : ∀ a w, RelA base S B w0 F0 G (As ops.size) a w → Q .normal a w) : ∀ (fuel : Nat) (listed : Array Bool) (A : St) (a : Act) (w : World),
    listed.size = ops.size → listed.toList.countP (fun b => !b) = fuel → Closed ops (On listed) → Inv ops.size As evs (On listed) A → RelA base S B w0 F0 G A a w → wpAny P .any ops Q fuel listed a w := by
  have all : ∀ (listed : Array Bool), listed.size = ops.size → Region.ready .any ops listed = [] → ∀ k, k < ops.size → On listed k := by
    intro listed hsz hr k
    induction k using Nat.strongRecOn with
    | _ k ih =>
      intro hk
      by_cases hoff : On listed k
      · exact hoff
      · have ho : ops[k]? = some ops[k] := by simp [hk]
        have : k ∈ Region.ready .any ops listed := mem_ready.2 ⟨off_iff' (by omega) hoff, ops[k], ho, fun e he hb => ih e.on (t.edge k _ ho hk e he hb) (by have := t.edge k _ ho hk e he hb; omega)⟩
        rw [hr] at this
        cases this
  have fin : ∀ (listed : Array Bool) (A : St) (a : Act) (w : World), (∀ k, k < ops.size → On listed k) → Inv ops.size As evs (On listed) A → RelA base S B w0 F0 G A a w → Q .normal a w := by
    intro listed A a w hall hinv hrel
    have hag : ∀ l, Agree A (As ops.size) l := fun l => t.same hinv (Nat.le_refl _) fun k hk _ => ⟨fun _ => hk, fun _ => hall k hk⟩
    have hlen : ∀ k, k ≤ ops.size → (As k).tmps.length = (As 0).tmps.length := by
      intro k
      induction k with
      | zero => intro _; rfl
      | succ k ih =>
        intro hk
        have hok : ops[k]? = some ops[k] := by simp
        rw [t.next k _ hok (by omega), on_len]
        exact ih (by omega)
    exact hq a w (hrel.congr ((hlen _ (Nat.le_refl _)).trans hinv.1.symm) fun l => (hag l).symm)
  intro fuel
  induction fuel with
  | zero =>
    intro listed A a w hsz hc _ hinv hrel
    have hall : ∀ k, k < ops.size → On listed k := fun k hk => by
      by_cases hon : On listed k
      · exact hon
      · have hoff := off_iff' (by omega) hon
        have hmem : false ∈ listed.toList := by
          have hk' : k < listed.size := by omega
          simp only [Array.getD_eq_getD_getElem?, Array.getElem?_eq_getElem hk', Option.getD_some] at hoff
          rw [← hoff]
          simp
        have := List.countP_eq_zero.1 hc false hmem
        simp at this
    refine ⟨?_, fin listed A a w hall hinv hrel⟩
    cases hr : Region.ready .any ops listed with
    | nil => rfl
    | cons i l =>
      have : i ∈ Region.ready .any ops listed := by rw [hr]; simp
      obtain ⟨h1, _⟩ := mem_ready.1 this
      obtain ⟨h2, h3⟩ := off_of h1
      exact absurd (hall i (by omega)) h3
  | succ fuel ih =>
    intro listed A a w hsz hc hcl hinv hrel
    refine ⟨fun hr => fin listed A a w (all listed hsz hr) hinv hrel, fun i hi => ?_⟩
    obtain ⟨h1, o, ho, h2⟩ := mem_ready.1 hi
    obtain ⟨h3, h4⟩ := off_of h1
    obtain ⟨k1, k2⟩ := t.step hcl hinv ho (by omega) h4 h2
    refine rec_step hT hes k1 ho (hG o (Array.mem_of_getElem? ho)) hrel fun a' w' hrel' => ih _ _ a' w' (by simp [hsz]) ?_ ?_ (k2.iff fun k => (on_set h3).symm) hrel'
    · have := count_set (l := listed.toList) (i := i) (by
        simp only [Array.getD_eq_getD_getElem?, Array.getElem?_eq_getElem h3, Option.getD_some] at h1
        simp [h3, h1])
      rw [Array.toList_setIfInBounds]
      omega
    · intro k o' ho' hk e he hb
      rw [on_set h3] at hk ⊢
      rcases hk with hk | rfl
      · exact .inl (hcl k o' ho' hk e he hb)
      · rw [ho] at ho'
        cases ho'
        exact .inl (h2 e he hb)

theorem region_draw {K : St → Option ρ} {res : ρ} {Q : Exit → Act → World → Prop} {A : St} {a : Act} {w : World} (hT : TOk P T) (hes : ∀ e ∈ es, EntryOk P e) (hG : ∀ o ∈ ops, ∀ a cv, G a → G (a.put o.dst cv)) (hm : P.follows .mixedOrders = true)
    (hk : drawK T (callK es) ops rid ops.toList [] 0 [] A K = some res) (h : RelA base S B w0 F0 G A a w) (hq : ∀ A' a' w', K A' = some res → RelA base S B w0 F0 G A' a' w' → Q .normal a' w') : (Code.region rid ops true).wp P Q a w := by
  obtain ⟨As, fs, evs, bef, h1, h2, t⟩ := draw_tr hk
  have hrel : RelA base S B w0 F0 G A a { w with drawn := w.drawn + 1 } := by
    obtain ⟨loc, F, hsr, hF0, hmore, hdef, hsize, hval⟩ := h
    have ext : Ext B A.objs loc F w A.objs loc F { w with drawn := w.drawn + 1 } := ⟨fun _ h => h, fun _ _ => rfl, fun _ _ => rfl, Nat.le_refl _, fun _ => Nat.le_refl _, fun _ _ v o _ h => ⟨v, o, h, Nat.le_refl _, fun _ => Compat.refl _ _⟩⟩
    refine ⟨loc, F, ⟨fun s j v o hj => (hsr.obs s j v o hj).ext ext fun _ _ => rfl, hsr.apart, hsr.own, hsr.fro, hsr.bor, hsr.os, hsr.tape, hsr.output, hsr.size, hsr.block⟩, hF0, hmore, hdef, hsize, fun t => (hval t).ext ext⟩
  refine wp_region_any hm (draw_ok hT hes hG t (fun a' w' hr => hq _ a' w' h2 hr) ops.size (Array.replicate ops.size false) A a _ (by simp) ?_ ?_ ?_ hrel)
  · simp [List.countP_replicate]
  · intro k o _ hk
    unfold On at hk
    by_cases hlt : k < ops.size
    · simp [hlt] at hk
    · simp [hlt] at hk
  · refine ⟨by rw [h1], fun l => .inr ⟨fun k hk hD => ?_, by rw [h1]; exact Agree.refl _ _⟩⟩
    unfold On at hD
    simp [hk] at hD

theorem region_plain {K : St → Option ρ} {res : ρ} {Q : Exit → Act → World → Prop} {A : St} {a : Act} {w : World} (hT : TOk P T) (hes : ∀ e ∈ es, EntryOk P e) (hG : ∀ o ∈ ops, ∀ a cv, G a → G (a.put o.dst cv))
    (hk : regK T (callK es) ops rid ops.toList 0 A K = some res) (h : RelA base S B w0 F0 G A a w) (hq : ∀ A' a' w', K A' = some res → RelA base S B w0 F0 G A' a' w' → Q .normal a' w') : (Code.region rid ops false).wp P Q a w := by
  refine wp_region ?_
  have := reg_ok (Q := Q) hT hes ops.toList 0 A a w (fun o ho => hG o (by simpa using ho)) (fun k => by rw [Nat.zero_add]; simp) hk h hq
  simpa using this
end
end Go.Eng
end

section
/-! Engine, soundness 29: code. -/
namespace Go.Eng
section
variable {ρ : Type}
theorem forceNat_eq (n : Nat) (K : Nat → Option ρ) : forceNat n K = K n := by cases n <;> rfl
theorem forceRef_eq (r : Ref) (K : Ref → Option ρ) : forceRef r K = K r := by
  obtain ⟨s, j, g, v⟩ := r
  simp only [forceRef, forceNat_eq]
theorem forceLeaf_eq (a : AV) (K : AV → Option ρ) : forceLeaf a K = K a := by
  cases a <;> simp only [forceLeaf, forceRef_eq, forceNat_eq]
theorem forceLeafs_eq : ∀ (vs : List AV) (K : List AV → Option ρ), forceLeafs vs K = K vs
  | [], _ => rfl
  | v :: vs, K => by simp only [forceLeafs, forceLeaf_eq, forceLeafs_eq vs]
theorem forceAV_eq (a : AV) (K : AV → Option ρ) : forceAV a K = K a := by
  cases a <;> simp only [forceAV, forceLeaf_eq, forceLeafs_eq]
theorem forceAVs_eq : ∀ (vs : List AV) (K : List AV → Option ρ), forceAVs vs K = K vs
  | [], _ => rfl
  | v :: vs, K => by simp only [forceAVs, forceAV_eq, forceAVs_eq vs]
theorem forceOb_eq (o : Ob) (K : Ob → Option ρ) : forceOb o K = K o := by
  cases o <;> simp only [forceOb, forceLeafs_eq]
theorem forceObs_eq : ∀ (os : List (Nat × Ob)) (K : List (Nat × Ob) → Option ρ), forceObs os K = K os
  | [], _ => rfl
  | (n, o) :: r, K => by simp only [forceObs, forceNat_eq, forceOb_eq, forceObs_eq r]
theorem forceUpd_eq : ∀ (u : Upd) (K : Upd → Option ρ), forceUpd u K = K u
  | [], _ => rfl
  | (s, ⟨g, os⟩) :: r, K => by simp only [forceUpd, forceNat_eq, forceObs_eq, forceUpd_eq r]
theorem forceSt_eq (A : St) (K : St → Option ρ) : forceSt A K = K A := by
  obtain ⟨ts, u⟩ := A
  simp only [forceSt, forceAVs_eq, forceUpd_eq]
end

/-- No operation of the code breaks G. -/
def CodeKeeps (G : Act → Prop) : Code → Prop
  | .region _ ops _ => ∀ o ∈ ops, ∀ a cv, G a → G (a.put o.dst cv)
  | .seq x y => CodeKeeps G x ∧ CodeKeeps G y
  | .cond _ x y => CodeKeeps G x ∧ CodeKeeps G y
  | .block _ c => CodeKeeps G c
  | .loop c => CodeKeeps G c
  | _ => True

section
variable {P : Program} {base : Nat} {S : List Nat} {B F0 : Nat → Prop} {G : Act → Prop} {w0 : World} {ρ : Type}

theorem setAll_len : ∀ (ss : List Nat) (ts vs : List AV), (setAll ts ss vs).length = ts.length
  | [], _, _ => by simp [setAll]
  | _ :: _, _, [] => by simp [setAll]
  | s :: ss, ts, v :: vs => by rw [setAll, setAll_len ss, setNth_eq, List.length_set]

theorem setAll_val {objs : Upd} {loc : Loc} {F B : Nat → Prop} {w : World} {f : Nat → Value} : ∀ (ss : List Nat) (ts avs : List AV), (∀ t, Val objs loc F B w (nth .dead ts t) (f t)) → Vals objs loc F B w avs (ss.map f) → ∀ t, Val objs loc F B w (nth .dead (setAll ts ss avs) t) (f t)
  | [], _, _, h, _ => by simpa [setAll] using h
  | _ :: _, _, [], _, hv => hv.elim
  | s :: ss, ts, av :: avs, h, hv => by
    rw [setAll]
    refine setAll_val ss _ avs (fun t => ?_) hv.2
    rw [setNth_eq, nth_eq]
    by_cases e : s = t
    · subst e
      by_cases hl : s < ts.length
      · rw [List.getElem?_set_self hl]; exact hv.1
      · rw [List.getElem?_eq_none (by rw [List.length_set]; exact Nat.le_of_not_lt hl)]; trivial
    · rw [List.getElem?_set_ne e, ← nth_eq]; exact h t

theorem Vals.of_nat {objs : Upd} {loc : Loc} {F B : Nat → Prop} {w : World} {g : Nat → AV} {f : Nat → Value} (h : ∀ t, Val objs loc F B w (g t) (f t)) : ∀ (ss : List Nat), Vals objs loc F B w (ss.map g) (ss.map f)
  | [] => trivial
  | s :: ss => ⟨h s, Vals.of_nat h ss⟩

/-- What holds at a cut, as a state. -/
theorem rel_unpack {c : Cut} {x : c.p.den} {n : Nat} {a : Act} {w : World} {F : Nat → Prop} (hok : c.p.ok = true) (h : Holds base S B w0 F w c.p x (c.slots.map fun t => a.tmps.getD t undef)) (hF0 : ∀ b, F0 b → F b) (hmore : More base S F0 F) (hG : G a) (hn : a.tmps.size = n) :
    RelA base S B w0 F0 G (c.unpack n x) a w := by
  obtain ⟨loc, h1, h2⟩ := unpack_sr n hok h
  refine ⟨loc, F, h1, hF0, hmore, hG, ?_, ?_⟩
  · show _ = (setAll (List.replicate n .dead) c.slots _).length
    rw [setAll_len, List.length_replicate]; exact hn
  · refine setAll_val (f := fun t => a.tmps.getD t undef) c.slots _ _ (fun t => ?_) h2
    have : nth AV.dead (List.replicate n .dead) t = .dead := by
      rw [nth_eq]
      cases hr : (List.replicate n AV.dead)[t]? with
      | none => rfl
      | some v => have := List.mem_of_getElem? hr; simp at this; simp [this.2]
    rw [this]; trivial

theorem cut_ok {c : Cut} {n : Nat} {K : c.p.den → Option ρ} {res : ρ} {A : St} {a : Act} {w : World} (hok : c.p.ok = true) (hn : ∀ a, G a → a.tmps.size = n) (h : RelA base S B w0 F0 G A a w) (hk : c.pack A K = some res) : ∃ x, K x = some res ∧ RelA base S B w0 F0 G (c.unpack n x) a w := by
  obtain ⟨loc, F, hsr, hF0, hmore, hG, hsize, hval⟩ := h
  obtain ⟨x, F', h1, h2, h3, h4⟩ := pack_holds hsr hk (Vals.of_nat hval c.slots)
  exact ⟨x, h1, rel_unpack hok h2 (fun b hb => h3 b (hF0 b hb)) (hmore.trans h4) hG (hn a hG)⟩

theorem wp_loop_fuel {c : Code} {Q : Exit → Act → World → Prop} (I : Nat → Act → World → Prop) (h0 : ∀ a w, ¬ I 0 a w) (round : ∀ n a w, I (n + 1) a w → c.wp P (Exit.then (fun a' w' => I n a' w') Q) a w) {n : Nat} {a : Act} {w : World} (h : I n a w) : (Code.loop c).wp P Q a w := by
  intro b k cs
  have key : ∀ n a w, I n a w → ∃ e a' w', Q e a' w' ∧ Arrives P (lone (b.at a (.code c :: .inLoop c :: k)) cs w) b k cs e a' w' := by
    intro n
    induction n with
    | zero => intro a w h; exact absurd h (h0 a w)
    | succ n ih =>
      intro a w hI
      obtain ⟨e, a₁, w₁, hq, harr⟩ := round n a w hI b (.inLoop c :: k) cs
      cases e with
      | normal =>
        obtain ⟨e₂, a₂, w₂, hq₂, harr₂⟩ := ih a₁ w₁ hq
        exact ⟨e₂, a₂, w₂, hq₂, .of_steps (Steps.trans harr (.one step_inLoop)) harr₂⟩
      | exit id => exact ⟨_, a₁, w₁, hq, .pass (x := .inLoop c) rfl (fun _ _ => .inl (by simp)) harr⟩
      | goto l => exact ⟨_, a₁, w₁, hq, .pass (x := .inLoop c) rfl (fun _ _ => .inl (by simp)) harr⟩
      | ret => exact ⟨_, a₁, w₁, hq, .pass (x := .inLoop c) rfl (fun _ _ => .inl (by simp)) harr⟩
      | panic ch => exact ⟨_, a₁, w₁, hq, .pass (x := .inLoop c) rfl (fun _ _ => .inl (by simp)) harr⟩
      | outgrown => exact ⟨_, a₁, w₁, hq, .pass (x := .inLoop c) rfl (fun _ _ => .inl (by simp)) harr⟩
  obtain ⟨e, a', w', hq, harr⟩ := key n a w h
  exact ⟨e, a', w', hq, .of_steps (.one step_loop) harr⟩

def Ex.to : Ex → Exit
  | .normal => .normal
  | .exit id => .exit id

structure CtxOk (P : Program) (C : Ctx) (G : Act → Prop) : Prop where
  hT : TOk P C.T
  hes : ∀ e ∈ C.es, EntryOk P e
  hm : P.follows .mixedOrders = true
  cuts : ∀ q ∈ C.loops, q.2.1.p.ok = true ∧ q.2.2.p.ok = true
  num : ∀ a, G a → a.tmps.size = C.n

theorem findCut_ok {id : Nat} {c : Cut × Cut} : ∀ {l : List (Nat × Cut × Cut)}, findCut id l = some c → ∃ q ∈ l, q.2 = c
  | [], h => by simp [findCut] at h
  | (i, c') :: l, h => by
    simp only [findCut] at h
    split at h
    · injection h with h
      exact ⟨(i, c'), by simp, h⟩
    · obtain ⟨q, h1, h2⟩ := findCut_ok h
      exact ⟨q, List.mem_cons_of_mem _ h1, h2⟩

def CodeOk (P : Program) (base : Nat) (S : List Nat) (B : Nat → Prop) (w0 : World) (F0 : Nat → Prop) (G : Act → Prop) (C : Ctx) (c : Code) : Prop :=
  CodeKeeps G c → ∀ (A : St) (K : Ex → St → Option C.R) (res : C.R) (Q : Exit → Act → World → Prop) (a : Act) (w : World), evC C c A K = some res → RelA base S B w0 F0 G A a w →
    (∀ e A' a' w', K e A' = some res → RelA base S B w0 F0 G A' a' w' → Q e.to a' w') → (∀ A' a' w', C.fin A' = some res → RelA base S B w0 F0 G A' a' w' → Q .ret a' w') → c.wp P Q a w

theorem loop_ok {C : Ctx} (hC : CtxOk P C G) {id : Nat} {body : Code} (ih : CodeOk P base S B w0 F0 G C body) : CodeOk P base S B w0 F0 G C (.block id (.loop body)) := by
  intro hkeep A K res Q a w hk h hK hfin
  simp only [evC] at hk
  split at hk
  · cases hk
  rename_i c c' hfind
  obtain ⟨q, hq, hqe⟩ := findCut_ok hfind
  have hcuts := hC.cuts q hq
  rw [hqe] at hcuts
  obtain ⟨x, hk, hrel⟩ := cut_ok hcuts.1 hC.num h hk
  refine wp_block ?_
  refine wp_loop_fuel (fun n a w => ∃ y, RelA base S B w0 F0 G (c.unpack C.n y) a w ∧ whileK (fun rec y => evC C body (c.unpack C.n y) fun e A' => match e with
        | .normal => c.pack A' rec
        | .exit i => match Nat.beq i id with
          | true => c'.pack A' fun z => K .normal (c'.unpack C.n z)
          | false => none) n y = some res) (fun a w hh => by obtain ⟨y, _, hh⟩ := hh; simp [whileK] at hh) (fun n a w hh => ?_) (n := C.k) ⟨x, hrel, hk⟩
  obtain ⟨y, hr, hh⟩ := hh
  simp only [whileK] at hh
  refine ih hkeep _ _ res _ a w hh hr (fun e A' a' w' he hr' => ?_) (fun A' a' w' hf hr' => hfin A' a' w' hf hr')
  cases e with
  | normal =>
    obtain ⟨y', hy', hr''⟩ := cut_ok hcuts.1 hC.num hr' he
    exact ⟨y', hr'', hy'⟩
  | exit i =>
    dsimp only at he
    split at he
    · rename_i hi
      have hi := beq_true.1 hi
      obtain ⟨z, hz, hr''⟩ := cut_ok hcuts.2 hC.num hr' he
      show (if i = id then Q .normal a' w' else Q (.exit i) a' w')
      rw [if_pos hi]
      exact hK .normal _ a' w' hz hr''
    · cases he

theorem block_ok {C : Ctx} {id : Nat} {c : Code} (hnl : ∀ b, c ≠ .loop b) (ih : CodeOk P base S B w0 F0 G C c) : CodeOk P base S B w0 F0 G C (.block id c) := by
  intro hkeep A K res Q a w hk h hK hfin
  have hk' : evC C c A (fun e A' => match e with
      | .exit i => match Nat.beq i id with
        | true => K .normal A'
        | false => K (.exit i) A'
      | e => K e A') = some res := by
    cases c <;> first | exact hk | exact absurd rfl (hnl _)
  refine wp_block (ih hkeep _ _ res _ a w hk' h (fun e A' a' w' he hr => ?_) (fun A' a' w' hf hr => hfin A' a' w' hf hr))
  cases e with
  | normal => exact hK .normal A' a' w' he hr
  | exit i =>
    dsimp only at he
    show (if i = id then Q .normal a' w' else Q (.exit i) a' w')
    split at he
    · rename_i hi
      rw [if_pos (beq_true.1 hi)]
      exact hK .normal A' a' w' he hr
    · rename_i hi
      rw [if_neg (beq_false.1 hi)]
      exact hK (.exit i) A' a' w' he hr

theorem code_ok {C : Ctx} (hC : CtxOk P C G) (c : Code) : CodeOk P base S B w0 F0 G C c ∧ ∀ b, c = .loop b → CodeOk P base S B w0 F0 G C b := by
  induction c with
  | skip =>
    refine ⟨fun _ A K res Q a w hk h hK _ => wp_skip (hK .normal A a w hk h), fun b e => by cases e⟩
  | ret =>
    refine ⟨fun _ A K res Q a w hk h _ hfin => wp_ret (hfin A a w hk h), fun b e => by cases e⟩
  | exit id =>
    refine ⟨fun _ A K res Q a w hk h hK _ => wp_exit (hK (.exit id) A a w hk h), fun b e => by cases e⟩
  | seq x y ihx ihy =>
    refine ⟨fun hkeep A K res Q a w hk h hK hfin => wp_seq (ihx.1 hkeep.1 A _ res _ a w hk h (fun e A' a' w' he hr => ?_) (fun A' a' w' hf hr => hfin A' a' w' hf hr)), fun b e => by cases e⟩
    cases e with
    | normal => exact ihy.1 hkeep.2 A' K res Q a' w' he hr hK hfin
    | exit i => exact hK (.exit i) A' a' w' he hr
  | cond c x y ihx ihy =>
    refine ⟨fun hkeep A K res Q a w hk h hK hfin => ?_, fun b e => by cases e⟩
    simp only [evC] at hk
    split at hk
    · rename_i b hb
      have hc : a.eval c = .bool b := by
        obtain ⟨loc, F, _, _, _, _, _, hval⟩ := h
        cases c with
        | tmp t =>
          have := hval t
          simp only [St.ev] at hb
          rw [hb] at this
          exact this
        | const v =>
          have := val_const (objs := A.objs) (loc := loc) (F := F) (B := B) (w := w) v
          simp only [St.ev] at hb
          rw [hb] at this
          exact this
        | func f => simp [St.ev] at hb
        | global g => simp [St.ev] at hb
      split at hk
      · rename_i e
        exact wp_cond hc (by rw [e]; exact ihx.1 hkeep.1 A K res Q a w hk h hK hfin)
      · rename_i e
        exact wp_cond hc (by rw [if_neg e]; exact ihy.1 hkeep.2 A K res Q a w hk h hK hfin)
    · cases hk
  | block id c ih =>
    refine ⟨?_, fun b e => by cases e⟩
    by_cases hl : ∃ b, c = .loop b
    · obtain ⟨b, rfl⟩ := hl
      exact loop_ok hC (ih.2 b rfl)
    · exact block_ok (fun b e => hl ⟨b, e⟩) ih.1
  | loop c ih =>
    refine ⟨fun _ A K res Q a w hk _ _ _ => by simp [evC] at hk, fun b e => by cases e; exact ih.1⟩
  | region rid ops draw =>
    refine ⟨fun hkeep A K res Q a w hk h hK hfin => ?_, fun b e => by cases e⟩
    simp only [evC, forceSt_eq] at hk
    cases draw with
    | false => exact region_plain hC.hT hC.hes hkeep hk h fun A' a' w' h1 h2 => hK .normal A' a' w' h1 h2
    | true => exact region_draw hC.hT hC.hes hkeep hC.hm hk h fun A' a' w' h1 h2 => hK .normal A' a' w' h1 h2
  | _ => exact ⟨fun _ A K res Q a w hk _ _ _ => by simp [evC] at hk, fun b e => by cases e⟩
end
end Go.Eng
end
