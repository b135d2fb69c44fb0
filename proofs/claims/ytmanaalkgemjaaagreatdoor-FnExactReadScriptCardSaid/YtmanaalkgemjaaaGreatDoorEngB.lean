import Derived.Test.YtmanaalkgemjaaaGreatDoorEngA
import Derived.Great.FillDense
import Derived.Great.BuildSlice
import Derived.Lib.ConvBytes
import Derived.Laws.Tables
import Derived.Laws.BytesArg
import Derived.Laws.BytesString
import Derived.Laws.IdiomCopy
import Derived.Deep.Upon
/- An interpreter of the program's code over plain values is sound: what it answers is what the call answers (part B). Conditions: none beyond each theorem's own. -/
set_option linter.unusedVariables false
section
namespace Go.Eng
variable [Names]
section
variable {P : Program} {T : TT} {base : Nat} {S : List Nat} {B F : Nat → Prop} {w0 : World} {objs : Upd} {loc : Loc} {w : World} {ρ : Type}
theorem zeros_leafs : ∀ {as : List AV} {vs : List Value}, zeros as vs = true → Leafs objs loc F B w as vs
  | [], [], _ => trivial
  | a :: as, v :: vs, h => by
    simp only [zeros, Bool.and_eq_true] at h
    have h1 : v.oneCell' = true ∧ Leaf objs loc F B w a v := by
      obtain ⟨h, _⟩ := h
      unfold avZero at h
      split at h
      · simp only [Bool.and_eq_true, decide_eq_true_eq, beq_iff_eq] at h
        obtain ⟨⟨rfl, rfl⟩, rfl⟩ := h
        exact ⟨rfl, rfl⟩
      · exact ⟨rfl, rfl⟩
      · rename_i s s'
        simp only [Bool.and_eq_true, beq_iff_eq] at h
        refine ⟨rfl, ?_⟩
        have e : ∀ x : ByteArray, x.size = 0 → x = ⟨#[]⟩ := by
          intro x hx
          cases x with
          | mk d => congr 1; exact Array.eq_empty_of_size_eq_zero hx
        show Value.string s' = Value.string s
        rw [e s h.1, e s' h.2]
      · exact ⟨rfl, rfl⟩
      · exact ⟨rfl, rfl⟩
      · exact ⟨h, trivial⟩
      · cases h
    exact ⟨h1.1, h1.2, zeros_leafs h.2⟩
  | [], _ :: _, h => by simp [zeros] at h
  | _ :: _, [], h => by simp [zeros] at h
theorem Good.new {o : Oper} {ev : Operand → Value} {K : AV → Upd → Option ρ} {res : ρ} {d : Nat} {ob : Ob} {obj : Obj} {cap : Nat} {v : AV} {cv : Value} {w1 : World} (h : SR base S B w0 objs loc F w)
    (hk : K v [(d, ⟨(look objs d).g + 1, [(0, ob)]⟩)] = some res) (hr : (execOp ev o).run P w = .ok (.value cv) w1) (hw1 : w1.heap = w.heap.push obj) (hos : w1.os = w.os) (htape : w1.tape = w.tape) (hout : w1.output = w.output)
    (hx : ∀ objs' loc' , Ext B objs loc F w objs' loc' F w1 → ObOk objs' loc' F B w1 ⟨some w.heap.size, 0, cap, []⟩ ob)
    (hv : Val (put objs d ⟨(look objs d).g + 1, [(0, ob)]⟩) (loc.slot d fun _ => ⟨some w.heap.size, 0, cap, []⟩) F B w1 v cv) : Good P base S B w0 objs loc F w o ev K res := by
  obtain ⟨k1, k2⟩ := h.alloc1 (d := d) (cap := cap) (o := ob) hw1 hos htape hout (fun e => hx _ _ e)
  exact ⟨v, _, _, cv, w1, _, F, hk, hr, .inl rfl, k1, k2, More.refl _ _ _, hv⟩
omit [Names] in
theorem new_ref {objs : Upd} {d : Nat} {ob : Ob} {C : Ob → Prop} (hC : C ob) : RS (put objs d ⟨(look objs d).g + 1, [(0, ob)]⟩) ⟨d, 0, (look objs d).g + 1, 0⟩ C := by
  refine .inr ⟨?_, 0, ob, ?_, .inr ⟨rfl, hC⟩⟩
  · simp [look_put]
  · simp [look_put]
theorem good_alloc {o : Oper} {t d : Nat} {ev : Operand → Value} {K : AV → Upd → Option ρ} {res : ρ} {get : Get} (hT : TOk P T) (ho : o.op = .alloc t) (h : SR base S B w0 objs loc F w) (hd : get d = look objs d)
    (hk : allocK get d (T.at t).zero K = some res) : Good P base S B w0 objs loc F w o ev K res := by
  unfold allocK at hk
  split at hk
  · cases hk
  · rename_i z zs hz
    obtain ⟨inf, zv, hi, hzv, hzz⟩ := (hT t).zero (by rw [hz]; simp)
    rw [hz] at hzz
    simp only [newOb, hd] at hk
    refine Good.new (w1 := w.alloc (.cells zv.cells t)) (cap := 0) (cv := .pointer (some ⟨w.heap.size, 0, none⟩)) h hk ?_ rfl rfl rfl rfl (fun objs' loc' e => ?_) ⟨rfl, new_ref ⟨w.heap.size, by simp [Loc.slot], rfl⟩⟩
    · simp [execOp, ho, Instr.alloc, zeroValue, typeInfo, hi, hzv, newVar, newRow]
    · exact ⟨w.heap.size, zv.cells, t, (0, 0), rfl, rfl, alloc_new w _, .inl rfl, zeros_leafs hzz⟩
theorem good_box {o : Oper} {t d : Nat} {x : Operand} {av : AV} {ev : Operand → Value} {K : AV → Upd → Option ρ} {res : ρ} {get : Get} (ho : o.op = .box t x) (h : SR base S B w0 objs loc F w) (hd : get d = look objs d)
    (hx : Val objs loc F B w av (ev x)) (hk : boxK get d av K = some res) : Good P base S B w0 objs loc F w o ev K res := by
  unfold boxK at hk
  split at hk
  · rename_i hs
    simp only [newOb, hd] at hk
    have hx1 : Val1 objs loc F B w av (ev x) := by
      cases av <;> first | exact hx | (simp [AV.sure] at hs)
    refine Good.new (w1 := w.alloc (.cells (ev x).cells t)) (cap := 0) (cv := .pointer (some ⟨w.heap.size, 0, none⟩)) h hk ?_ rfl rfl rfl rfl (fun objs' loc' e => ?_) ⟨rfl, new_ref ⟨w.heap.size, by simp [Loc.slot], rfl⟩⟩
    · simp [execOp, ho, Instr.box, newVar, newRow]
    · exact ⟨w.heap.size, (ev x).cells, t, (0, 0), rfl, rfl, alloc_new w _, .inl rfl, (val_cells hx1 hs).ext e⟩
  · cases hk
def setVals : List Value → Nat → List Value → List Value
  | vs, _, [] => vs
  | vs, off, u :: us => setVals (vs.set off u) (off + 1) us
omit [Names] in
theorem setVals_len : ∀ (us vs : List Value) (off : Nat), (setVals vs off us).length = vs.length
  | [], _, _ => rfl
  | _ :: us, vs, off => by rw [setVals, setVals_len us]; simp
theorem Leafs.setAll : ∀ {bs as : List AV} {us vs : List Value} {off : Nat}, Leafs objs loc F B w as vs → Leafs objs loc F B w bs us → Leafs objs loc F B w (setCells as off bs) (setVals vs off us)
  | [], _, [], _, _, h, _ => h
  | b :: bs, as, u :: us, vs, off, h, k => by
    rw [setCells, setVals, setNth_eq]
    exact Leafs.setAll (h.set off k.1 k.2.1) k.2.2
  | [], _, _ :: _, _, _, _, k => k.elim
  | _ :: _, _, [], _, _, _, k => k.elim
omit [Names] in
theorem foldl_setVals : ∀ (us : List Value) (k off : Nat) (cs : Array Value), ((us.zipIdx k).foldl (fun (cs : Array Value) (x : Value × Nat) => cs.setIfInBounds (off + x.2) x.1) cs).toList = setVals cs.toList (off + k) us
  | [], _, _, _ => rfl
  | u :: us, k, off, cs => by
    rw [List.zipIdx_cons, List.foldl_cons, foldl_setVals us (k + 1) off]
    simp [setVals, Nat.add_assoc]
theorem buildK_ok {offs : List (Nat × Nat)} {places : Nat → Option (Nat × Nat)} (hT : TOk P T) (hp : ∀ f off ft, nth? offs f = some (off, ft) → ∃ inf, P.info? ft = some inf ∧ places f = some (off, inf.size)) {eA : Operand → AV} {ev : Operand → Value} :
    ∀ (ps : List (Nat × Operand)) {cs : List AV} {cells : Array Value} {K : List AV → Option ρ} {res : ρ}, buildK T offs cs (ps.map fun p => (p.1, eA p.2)) K = some res → Leafs objs loc F B w cs cells.toList →
    (∀ p ∈ ps, Val objs loc F B w (eA p.2) (ev p.2)) → ∃ cs' cells', K cs' = some res ∧ Instr.fill places cells (ps.map fun p => (p.1, ev p.2)) = some cells' ∧ Leafs objs loc F B w cs' cells'.toList
  | [], cs, cells, K, res, hk, hl, _ => ⟨cs, cells, hk, rfl, hl⟩
  | (i, x) :: ps, cs, cells, K, res, hk, hl, hv => by
    simp only [List.map_cons, buildK] at hk
    split at hk
    case h_2 => cases hk
    rename_i off ft hoff
    split at hk
    case h_2 => cases hk
    rename_i hlen
    simp only [Bool.and_eq_true, Nat.ble_eq] at hlen
    obtain ⟨hlen1, hlen2⟩ := hlen
    have hlen1 := beq_true.1 hlen1
    split at hk
    case h_2 => cases hk
    rename_i hs
    simp only [Bool.and_eq_true, Nat.ble_eq] at hs
    have hx := hv (i, x) (by simp)
    have hx1 : Val1 objs loc F B w (eA x) (ev x) := by
      have hs1 := hs.1
      revert hs1 hx
      cases eA x <;> intro hx hs1 <;> first | exact hx | (simp [AV.sure] at hs1)
    have hc := val_cells hx1 hs.1
    obtain ⟨inf, hi, hpl⟩ := hp i off ft hoff
    obtain ⟨d, inf', _, _, hi', hsz⟩ := at_row (t := ft) hT (by omega)
    rw [hi] at hi'
    injection hi' with hi'
    subst hi'
    have hcl : (eA x).cells.length = (ev x).cells.size := by simpa using hc.len
    have hll : cs.length = cells.size := by simpa using hl.len
    have hfold := foldl_setVals (ev x).cells.toList 0 off cells
    rw [Nat.add_zero] at hfold
    obtain ⟨cs', cells', h1, h2, h3⟩ := buildK_ok hT hp ps (cells := ((ev x).cells.toList.zipIdx 0).foldl (fun (cs : Array Value) (x : Value × Nat) => cs.setIfInBounds (off + x.2) x.1) cells) hk
      (by rw [hfold]; exact hl.setAll hc) (fun p hp => hv p (List.mem_cons_of_mem _ hp))
    refine ⟨cs', cells', h1, ?_, h3⟩
    simp only [List.map_cons, Instr.fill]
    rw [hpl]
    have c1 : ¬ ((ev x).cells.size ≠ inf.size) := by rw [hsz]; omega
    have c2 : ¬ (off + (ev x).cells.size > cells.size) := by omega
    simp only [Bool.or_eq_true, decide_eq_true_eq]
    rw [if_neg (by simp only [not_or]; exact ⟨c1, c2⟩)]
    rw [← h2]
    congr 1
    rw [← Array.foldl_toList, Array.toList_zipIdx]
omit [Names] in
theorem arrOffs_at {e : Nat} : ∀ {n i f off ft : Nat}, nth? (arrOffs e i n) f = some (off, ft) → off = i + f ∧ ft = e
  | 0, _, _, _, _, h => by simp [arrOffs, nth?] at h
  | n + 1, i, f, off, ft, h => by
    cases f with
    | zero => simp [arrOffs, nth?] at h; exact ⟨by omega, h.2.symm⟩
    | succ f =>
      obtain ⟨h1, h2⟩ := arrOffs_at (n := n) (i := i + 1) (f := f) h
      exact ⟨by omega, h2⟩
theorem good_struct {o : Oper} {t : Nat} {ps : Array (Nat × Operand)} {eA : Operand → AV} {ev : Operand → Value} {K : AV → Upd → Option ρ} {res : ρ} (hT : TOk P T) (ho : o.op = .build t ps) (h : SR base S B w0 objs loc F w)
    (hx : ∀ p ∈ ps, Val objs loc F B w (eA p.2) (ev p.2)) (hk : structK T t (ps.toList.map fun p => (p.1, eA p.2)) K = some res) : Good P base S B w0 objs loc F w o ev K res := by
  unfold structK at hk
  split at hk
  · split at hk
    case h_2 => cases hk
    rename_i e n z zs hkind hz
    obtain ⟨hu, inf, hinf, hsz⟩ := (hT t).arr e n hkind
    obtain ⟨it, zv, hi, hzv, hzz⟩ := (hT t).zero (by rw [hz]; simp)
    rw [hz] at hzz
    obtain ⟨cs', cells', h1, h2, h3⟩ := buildK_ok (P := P) (objs := objs) (loc := loc) (F := F) (B := B) (w := w) (ev := ev) (places := fun i => some (i * inf.size, inf.size)) hT (fun f off ft hf => by
      obtain ⟨rfl, rfl⟩ := arrOffs_at hf
      exact ⟨inf, hinf, by rw [hsz, Nat.mul_one, Nat.zero_add]⟩) ps.toList hk (zeros_leafs hzz) (fun p hp => hx p (by simpa using hp))
    refine Good.pure (cv := .agg cells') h h1 ?_ ⟨cells', rfl, h3⟩
    have hb : P.built t (ps.map fun (i, x) => (i, ev x)).toList = some cells' := by
      simp only [Program.built, hi, hu, hzv, hinf, Array.toList_map]
      exact h2
    simp only [execOp, ho, Sem.run_bind, run_build w t _ cells' hb, Sem.run_pure, Result.andThen_ok]
  rename_i hof
  have hne : (T.at t).offs ≠ [] := by rw [hof]; simp
  split at hk
  · cases hk
  · rename_i z zs hz
    obtain ⟨inf, zv, hi, hzv, hzz⟩ := (hT t).zero (by rw [hz]; simp)
    rw [hz] at hzz
    obtain ⟨fields, places, hu, hpl, hp⟩ := (hT t).places hne
    obtain ⟨cs', cells', h1, h2, h3⟩ := buildK_ok (P := P) (objs := objs) (loc := loc) (F := F) (B := B) (w := w) (ev := ev) (places := (places.toArray[·]?)) hT (fun f off ft hf => by obtain ⟨i, h1, h2⟩ := hp f off ft hf; exact ⟨i, h1, by simpa using h2⟩) ps.toList hk (zeros_leafs hzz) (fun p hp => hx p (by simpa using hp))
    refine Good.pure (cv := .agg cells') h h1 ?_ ⟨cells', rfl, h3⟩
    have hb : P.built t (ps.map fun (i, x) => (i, ev x)).toList = some cells' := by
      simp only [Program.built, hi, hu, hzv, hpl, Array.toList_map]
      exact h2
    simp only [execOp, ho, Sem.run_bind, run_build w t _ cells' hb, Sem.run_pure, Result.andThen_ok]
end
end Go.Eng
end

section
namespace Go.Eng
variable [Names]
section
variable {P : Program} {T : TT} {base : Nat} {S : List Nat} {B F : Nat → Prop} {w0 : World} {objs : Upd} {loc : Loc} {w : World} {ρ : Type}
omit [Names] in
theorem kills_g {get : Get} : ∀ (ks : List Ref) (u : Upd), (∀ s, (look (applyUpd objs u) s).g = (look objs s).g) → (∀ r ∈ ks, r.g = (look objs r.s).g) → ∀ s, (look (applyUpd objs (kills get ks u)) s).g = (look objs s).g
  | [], _, h, _ => h
  | r :: ks, u, h, hr => kills_g ks _ (fun s => by
      show (look (put (applyUpd objs u) r.s ⟨r.g, _⟩) s).g = _
      rw [look_put]
      by_cases e : r.s = s
      · rw [if_pos e, ← e]; exact hr r (by simp)
      · rw [if_neg e]; exact h s) (fun r' h' => hr r' (List.mem_cons_of_mem _ h'))
omit [Names] in
theorem rowsIn_flat {α : Type} {R : α → List Value → Prop} {s : Nat} (hs : 0 < s) {cvs : List Value} {xs : List α} (hz : ∀ v ∈ cvs, v.cells.size = s) (hl : xs.length = cvs.length)
    (h : ∀ (i : Nat) (x : α) (cv : Value), xs[i]? = some x → cvs[i]? = some cv → R x cv.cells.toList) : RowsIn R s (cvs.flatMap fun v => v.cells.toList) xs := by
  intro i hi
  have hi' : i < cvs.length := by omega
  refine ⟨(cvs[i]).cells.toList, by simpa using hz _ (List.getElem_mem hi'), fun j hj => ?_, h i _ _ (by simp) (by simp)⟩
  rw [Great.flat_get hs cvs hz]
  have h1 : (i * s + j) / s = i := by rw [Nat.mul_comm, Nat.mul_add_div hs, Nat.div_eq_of_lt hj, Nat.add_zero]
  have h2 : (i * s + j) % s = j := by rw [Nat.mul_comm, Nat.mul_add_mod, Nat.mod_eq_of_lt hj]
  rw [h1, h2, List.getElem?_eq_getElem hi']
  simp
omit [Names] in
theorem partsRows_ok : ∀ {l : List (Nat × Operand)} {n : Nat} {eA : Operand → AV} {vs : List AV}, partsRows n (l.map fun p => (p.1, eA p.2)) = some vs → ∃ xs : List Operand, vs = xs.map eA ∧ (∀ x ∈ xs, ∃ p ∈ l, p.2 = x) ∧ (∀ ev : Operand → Value, l.map (fun p => (p.1, ev p.2)) = ((xs.map ev).zipIdx n).map fun x => (x.2, x.1))
  | [], n, eA, vs, h => by simp [partsRows] at h; exact ⟨[], by simp [h], by simp, by simp⟩
  | (i, x) :: l, n, eA, vs, h => by
    simp only [List.map_cons, partsRows] at h
    split at h
    · rename_i hb
      have hb := beq_true.1 hb
      cases hr : partsRows (n + 1) (l.map fun p => (p.1, eA p.2)) with
      | none => simp [hr] at h
      | some vs' =>
        simp only [hr, Option.map_some, Option.some.injEq] at h
        obtain ⟨xs, h1, h2, h3⟩ := partsRows_ok hr
        refine ⟨x :: xs, by rw [← h, h1]; rfl, fun y hy => ?_, fun ev => by simp [h3 ev, hb]⟩
        rcases List.mem_cons.1 hy with rfl | hy
        · exact ⟨(i, y), by simp, rfl⟩
        · obtain ⟨p, hp, e⟩ := h2 y hy
          exact ⟨p, List.mem_cons_of_mem _ hp, e⟩
    · cases h
theorem good_newlst {o : Oper} {d e cap : Nat} {ty : Ty} {rows : List ty.den} {ks : List Ref} {z : Bool} {fr : Nat × Nat} {vs : Array Value} {w1 : World} {ev : Operand → Value} {K : AV → Upd → Option ρ} {res : ρ} {get : Get} (h : SR base S B w0 objs loc F w) (hd : get d = look objs d)
    (hks : ∀ r ∈ ks, isLst (Get.ob (look objs) r) = true ∧ get r.s = look objs r.s) (hap : Ref.apart ks = true)
    (hk : K (.ol ⟨d, 0, (get d).g + 1, 0⟩ .whole) ([(d, ⟨(get d).g + 1, [(0, .lst z e ty rows)]⟩)] ++ kills get ks []) = some res)
    (hr : (execOp ev o).run P w = .ok (.value (.slice (some ⟨w.heap.size, 0, none⟩) rows.length cap)) w1) (hw1 : w1.heap = w.heap.push (.cells vs e fr)) (hos : w1.os = w.os) (htape : w1.tape = w.tape) (hout : w1.output = w.output)
    (hz : z = false → fr = (0, 0)) (hth : Thaw fr vs.size) (hc : rows.length ≤ cap) (hm : cap ≤ maxLen) (hs : vs.size = cap * ty.w) (hrows : RowsIn (IRep (FK F loc ks) w ty) ty.w vs.toList rows) : Good P base S B w0 objs loc F w o ev K res := by
  obtain ⟨F', q1, q2, q3, q4, q5⟩ := kills_ok ks [] F h (Ext.refl _ _ _ _ _) (More.refl _ _ _) (fun r hr => (hks r hr).1) hap (fun r hr => (hks r hr).2)
  have hg : (look (applyUpd objs (kills get ks [])) d).g = (get d).g := by
    rw [kills_g ks [] (fun _ => rfl) (fun r hr => ?_) d, hd]
    have := (hks r hr).1
    revert this
    cases ho : Get.ob (look objs) r with
    | gone => intro h; simp [isLst] at h
    | box => intro h; simp [isLst] at h
    | lst => intro _; exact (ob_some ho (by simp)).1
  obtain ⟨k1, k2⟩ := q1.alloc1 (d := d) (cap := cap) (o := .lst z e ty rows) hw1 hos htape hout (fun x => by
    refine LstOld.ok ⟨rfl, vs, fr, by rw [hw1]; simp, hz, hth, hc, hm, .inr (by rw [hs]; show cap * ty.w = 0 + cap * ty.w; omega), fun i hi => ?_⟩
    obtain ⟨rs, a1, a2, a3⟩ := hrows i hi
    exact ⟨rs, a1, fun j hj => by rw [← a2 j hj]; rfl, (a3.mono q4 (fun _ _ => rfl)).mono (fun _ hb => hb) x.sameF⟩)
  rw [hg] at k1 k2
  refine ⟨_, _, _, _, w1, _, F', hk, hr, .inl rfl, k1, q2.trans k2, q3, ⟨rfl, ?_⟩⟩
  refine .inr ⟨?_, 0, .lst z e ty rows, ?_, .inr ⟨rfl, ?_⟩⟩
  · simp [applyUpd, look_put]
  · simp [applyUpd, look_put]
  · simp [viewOk, hdr, Loc.slot]
theorem good_newlstT {o : Oper} {d e cap : Nat} {ty : Ty} {rows : List ty.den} {ks : List Ref} {Ss : List (List Nat)} {z : Bool} {fr : Nat × Nat} {vs : Array Value} {w1 : World} {ev : Operand → Value} {K : AV → Upd → Option ρ} {res : ρ} {get : Get} (h : SR base S B w0 objs loc F w) (hd : get d = look objs d)
    (hks : ∀ r ∈ ks, isLst (Get.ob (look objs) r) = true ∧ get r.s = look objs r.s) (hap : Ref.apart ks = true)
    (hk : K (.ol ⟨d, 0, (get d).g + 1, 0⟩ .whole) ([(d, ⟨(get d).g + 1, [(0, .lst z e ty rows)]⟩)] ++ kills get ks []) = some res)
    (hr : (execOp ev o).run P w = .ok (.value (.slice (some ⟨w.heap.size, 0, none⟩) rows.length cap)) w1) (hw1 : w1.heap = w.heap.push (.cells vs e fr)) (hos : w1.os = w.os) (htape : w1.tape = w.tape) (hout : w1.output = w.output)
    (hz : z = false → fr = (0, 0)) (hth : Thaw fr vs.size) (hc : rows.length ≤ cap) (hm : cap ≤ maxLen) (hs : vs.size = cap * ty.w) (hfl : Ss.flatten = blks loc ks) (hrows : RowsT (TRep F w ty) ty.w vs.toList rows Ss) : Good P base S B w0 objs loc F w o ev K res := by
  have hnd := blks_nodupL h (fun r hr => (hks r hr).1) hap (fun r hr => h.nodup (hks r hr).1)
  obtain ⟨q1, q2, q3, q4, q5, q6⟩ := kills_gone ks [] h (Ext.refl _ _ _ _ _) (fun r hr => (hks r hr).1) hap (fun r hr => (hks r hr).2)
  have hg : (look (applyUpd objs (kills get ks [])) d).g = (get d).g := by rw [q6, hd]; rfl
  have olds : ∀ b, b < w.heap.size → w1.heap[b]? = w.heap[b]? := fun b hb => by rw [hw1, Array.getElem?_push, if_neg (by omega)]
  obtain ⟨k1, k2⟩ := q1.allocG (d := d) (cap := cap) (o := .lst z e ty rows) (sub := blks loc ks) hw1 hos htape hout q4 (fun x => by
    refine ⟨vs, fr, Ss, by rw [hw1]; simp, hz, hth, hc, hm, .inr (by rw [hs]; show cap * ty.w = 0 + cap * ty.w; omega), hfl.symm, ?_, ?_⟩
    · refine List.nodup_cons.2 ⟨fun hb => ?_, hnd⟩
      have := (q4 _ hb).2.2.1
      omega
    · rw [show (⟨some w.heap.size, 0, cap, blks loc ks⟩ : LV).off = 0 from rfl, List.drop_zero]
      exact hrows.mono fun y rs S0 hS hy => hy.mono (fun _ hb => hb) x.sameF (fun b hb => olds b (q4 b (by rw [← hfl]; exact List.mem_flatten.2 ⟨S0, hS, hb⟩)).2.2.1))
  rw [hg] at k1 k2
  refine ⟨_, _, _, _, w1, _, F, hk, hr, .inl rfl, k1, q2.trans k2, More.refl _ _ _, ⟨rfl, ?_⟩⟩
  refine .inr ⟨?_, 0, .lst z e ty rows, ?_, .inr ⟨rfl, ?_⟩⟩
  · simp [applyUpd, look_put]
  · simp [applyUpd, look_put]
  · simp [viewOk, hdr, Loc.slot]
omit [Names] in
theorem rowsT_flat {α : Type} {R : α → List Value → List Nat → Prop} {s : Nat} (hs : 0 < s) {cvs : List Value} {xs : List α} {Ss : List (List Nat)} (hz : ∀ v ∈ cvs, v.cells.size = s) (hl : xs.length = cvs.length) (hl' : Ss.length = cvs.length)
    (h : ∀ (i : Nat) (x : α) (cv : Value) (S0 : List Nat), xs[i]? = some x → cvs[i]? = some cv → Ss[i]? = some S0 → R x cv.cells.toList S0) : RowsT R s (cvs.flatMap fun v => v.cells.toList) xs Ss := by
  refine ⟨by omega, fun i x S0 hx hS => ?_⟩
  have hi : i < xs.length := (List.getElem?_eq_some_iff.1 hx).1
  have hi' : i < cvs.length := by omega
  refine ⟨(cvs[i]).cells.toList, by simpa using hz _ (List.getElem_mem hi'), fun j hj => ?_, h i _ _ _ hx (by simp) hS⟩
  rw [Great.flat_get hs cvs hz]
  have h1 : (i * s + j) / s = i := by rw [Nat.mul_comm, Nat.mul_add_div hs, Nat.div_eq_of_lt hj, Nat.add_zero]
  have h2 : (i * s + j) % s = j := by rw [Nat.mul_comm, Nat.mul_add_mod, Nat.mod_eq_of_lt hj]
  rw [h1, h2, List.getElem?_eq_getElem hi']
  simp
theorem good_lit {o : Oper} {t n d : Nat} {ps : Array (Nat × Operand)} {eA : Operand → AV} {ev : Operand → Value} {K : AV → Upd → Option ρ} {res : ρ} {get : Get} (hT : TOk P T) (ho : o.op = .buildSlice t n ps) (h : SR base S B w0 objs loc F w) (hd : get d = look objs d)
    (hx : ∀ p ∈ ps, Val objs loc F B w (eA p.2) (ev p.2)) (hg : ∀ p ∈ ps, ∀ s ∈ AV.slots (eA p.2), get s = look objs s)
    (hk : litK get d (T.at t).kind n (partsRows 0 (ps.toList.map fun p => (p.1, eA p.2))) K = some res) : Good P base S B w0 objs loc F w o ev K res := by
  unfold litK at hk
  split at hk
  case h_2 => cases hk
  rename_i _ _ e ty vs hkind hvs
  split at hk
  case h_2 => cases hk
  rename_i hb
  simp only [Bool.and_eq_true, Nat.ble_eq] at hb
  obtain ⟨⟨hlen, hsmall⟩, hnl⟩ := hb
  have hlen := beq_true.1 hlen
  obtain ⟨xs, rfl, hmem, hparts⟩ := partsRows_ok hvs
  obtain ⟨hu, inf, z, hie, hsz, hpos, hbytes, hz, hzs, _⟩ := (hT t).slice e ty hkind
  have hxs : ∀ x ∈ xs, Val objs loc F B w (eA x) (ev x) := fun x hxm => by
    obtain ⟨p, hp, rfl⟩ := hmem x hxm
    exact hx p (by simpa using hp)
  have hlook : ∀ (i : Nat) (v : AV) (cv : Value), (xs.map eA)[i]? = some v → (xs.map ev)[i]? = some cv → Val objs loc F B w v cv := fun i v cv hv hcv => by
    rw [List.getElem?_map] at hv hcv
    cases hxi : xs[i]? with
    | none => rw [hxi] at hv; cases hv
    | some x =>
      rw [hxi] at hv hcv
      cases hv; cases hcv
      exact hxs x (List.mem_of_getElem? hxi)
  have hslots : ∀ v ∈ xs.map eA, ∀ s ∈ AV.slots v, get s = look objs s := fun v hv s hs => by
    obtain ⟨x, hxm, rfl⟩ := List.mem_map.1 hv
    obtain ⟨p, hp, rfl⟩ := hmem x hxm
    exact hg p (by simpa using hp) s hs
  have hnx : n = xs.length := by simpa using hlen.symm
  -- the run, whatever the rows are
  have hrunA : (∀ cv ∈ xs.map ev, cv.cells.size = ty.w) → (execOp ev o).run P w = .ok (.value (.slice (some ⟨w.heap.size, 0, none⟩) n n)) (w.alloc (.cells ((xs.map ev).flatMap fun v => v.cells.toList).toArray e)) := fun hcs => by
    have hf := Great.fill_whole (s := ty.w) hpos (xs.map ev) ((Array.range (n * inf.size)).map (z.cells[· % z.cells.size]!)) hcs (by simp [hnx, hsz])
    have hpe : (ps.map fun (i, x) => (i, ev x)).toList = ((xs.map ev).zipIdx 0).map fun x => (x.2, x.1) := by rw [Array.toList_map]; exact hparts ev
    have hrun : (Instr.buildSlice t n (ps.map fun (i, x) => (i, ev x))).run P w = .ok (.slice (some ⟨w.heap.size, 0, none⟩) n n) (w.alloc (.cells ((xs.map ev).flatMap fun v => v.cells.toList).toArray e)) := by
      by_cases h0 : n = 0
      · have hxs0 : xs = [] := List.eq_nil_of_length_eq_zero (by omega)
        subst hxs0
        have hp0 : ps.toList = [] := by have := hparts ev; simpa using this
        simp [Instr.buildSlice, run_underlying hu, sizeOf, typeInfo, hie, h0, newRow, hp0, Instr.fill, Array.range_zero']
      · exact run_buildSlice w t e n _ _ inf z hu hie hz (by rw [hsz]; omega) (by rw [hsz]; exact Nat.mul_ne_zero h0 (by omega)) (by rw [hpe, hsz]; rw [hsz] at hf; exact hf)
    simp only [execOp, ho, Sem.run_bind, hrun, Sem.run_pure, Result.andThen_ok]
  have hmax : n ≤ maxLen := by
    simp only [maxLen]
    have : n ≤ n * ty.w := Nat.le_mul_of_pos_right _ hpos
    omega
  have hsizeA : (∀ cv ∈ xs.map ev, cv.cells.size = ty.w) → ((xs.map ev).flatMap fun v => v.cells.toList).toArray.size = n * ty.w := fun hcs => by
    rw [List.size_toArray, List.length_flatMap, hnx]
    have : (xs.map ev).map (fun v => v.cells.toList.length) = List.replicate xs.length ty.w := by
      rw [List.eq_replicate_iff]
      refine ⟨by simp, fun b hb => ?_⟩
      obtain ⟨v, hv, rfl⟩ := List.mem_map.1 hb
      simpa using hcs v hv
    rw [this]
    simp
  cases hto : ty.hasO with
  | false =>
    obtain ⟨rows, ks, hk, hl, hrep, hks⟩ := toRows_ok (cvs := xs.map ev) h hto hk (by simp) hlook hslots
    split at hk
    case h_2 => cases hk
    rename_i hap
    have hl' : rows.length = n := by simpa [hl] using hlen
    have hcs : ∀ cv ∈ xs.map ev, cv.cells.size = ty.w := fun cv hcv => by
      obtain ⟨i, hi, rfl⟩ := List.getElem_of_mem hcv
      have hir : i < rows.length := by rw [hl]; exact hi
      have := (hrep i (rows[i]'hir) ((xs.map ev)[i]'hi) (List.getElem?_eq_getElem _) (List.getElem?_eq_getElem _)).len
      rw [Array.length_toList] at this
      exact this
    exact good_newlst (ks := ks) (vs := ((xs.map ev).flatMap fun v => v.cells.toList).toArray) (fr := (0, 0)) (cap := n) (w1 := w.alloc (.cells ((xs.map ev).flatMap fun v => v.cells.toList).toArray e)) h hd hks hap hk (by rw [hl']; exact hrunA hcs) rfl rfl rfl rfl (fun _ => rfl) (.inl rfl) (by omega) hmax (hsizeA hcs) (rowsIn_flat hpos hcs hl hrep)
  | true =>
    have htl : ty.hasL = false := by rw [hto] at hnl; simpa using hnl
    obtain ⟨rows, ks, Ss, hk, hl, hlS, hfl, hrep, hks⟩ := toRowsT_ok (cvs := xs.map ev) h htl hk (by simp) hlook hslots
    split at hk
    case h_2 => cases hk
    rename_i hap
    have hl' : rows.length = n := by simpa [hl] using hlen
    have hcs : ∀ cv ∈ xs.map ev, cv.cells.size = ty.w := fun cv hcv => by
      obtain ⟨i, hi, rfl⟩ := List.getElem_of_mem hcv
      have hir : i < rows.length := by rw [hl]; exact hi
      have hiS : i < Ss.length := by rw [hlS]; exact hi
      have := (hrep i (rows[i]'hir) ((xs.map ev)[i]'hi) (Ss[i]'hiS) (List.getElem?_eq_getElem _) (List.getElem?_eq_getElem _) (List.getElem?_eq_getElem _)).len
      rw [Array.length_toList] at this
      exact this
    exact good_newlstT (ks := ks) (vs := ((xs.map ev).flatMap fun v => v.cells.toList).toArray) (fr := (0, 0)) (cap := n) (w1 := w.alloc (.cells ((xs.map ev).flatMap fun v => v.cells.toList).toArray e)) h hd hks hap hk (by rw [hl']; exact hrunA hcs) rfl rfl rfl rfl (fun _ => rfl) (.inl rfl) (by omega) hmax (hsizeA hcs) hfl (rowsT_flat hpos hcs hl hlS hrep)
omit [Names] in
theorem zeros_slots : ∀ {as : List AV} {vs : List Value}, zeros as vs = true → AV.slots.go as = []
  | [], _, _ => rfl
  | a :: as, v :: vs, h => by
    simp only [zeros, Bool.and_eq_true] at h
    have := zeros_slots h.2
    have h1 := h.1
    cases a <;> simp_all [AV.slots.go, avZero]
  | _ :: _, [], h => by simp [zeros] at h
theorem good_make {o : Oper} {t d : Nat} {x y : Operand} {ax ay : AV} {ev : Operand → Value} {K : AV → Upd → Option ρ} {res : ρ} {get : Get} (hT : TOk P T) (ho : o.op = .makeSlice t x y) (h : SR base S B w0 objs loc F w) (hd : get d = look objs d)
    (hx : Val objs loc F B w ax (ev x)) (hy : Val objs loc F B w ay (ev y)) (hk : makeK T get d (T.at t).kind ax ay K = some res) : Good P base S B w0 objs loc F w o ev K res := by
  unfold makeK at hk
  split at hk
  case h_2 => cases hk
  rename_i _ _ _ a b e ty hkind
  split at hk
  case h_2 => cases hk
  rename_i hnl0
  have hnl : (!(ty.hasO && ty.hasL)) = true := by rw [hnl0]; rfl
  split at hk
  case isFalse => cases hk
  rename_i hab
  subst hab
  split at hk
  case isFalse => cases hk
  rename_i ha
  obtain ⟨hu, inf, z, hie, hsz, hpos, hbytes, hz, hzs, _⟩ := (hT t).slice e ty hkind
  have hx := val_int hx
  have hy := val_int hy
  unfold zeroRow at hk
  split at hk
  case h_1 => cases hk
  rename_i _ z0 zs0 hz0
  obtain ⟨inf', z', hi', hz', hzz⟩ := (hT e).zero (by rw [hz0]; simp)
  rw [hie] at hi'
  cases hi'
  rw [hz] at hz'
  cases hz'
  rw [hz0] at hzz
  have hcap : a ≤ 274877906944 := by have := ha.2; simp only [capMax] at this; omega
  have hrun := run_make (P := P) w t e inf z hu hie hz .i64 .i64 a a ha.1 (Int.le_refl _) (by
    have : (inf.bytes : Int) ≤ 512 := by omega
    calc (inf.bytes : Int) * a ≤ 512 * a := Int.mul_le_mul_of_nonneg_right this ha.1
      _ ≤ 281474976710656 := by omega) (by omega)
  have hrows : ∀ {x0 : ty.den} (i : Nat), i < a.toNat → ∀ j, j < ty.w → (madeCells z.cells (a.toNat * inf.size)).toList[i * ty.w + j]? = z.cells.toList[j]? := fun {x0} i hi j hj => by
    have hij : i * ty.w + j < a.toNat * inf.size := by
      rw [hsz]
      calc i * ty.w + j < i * ty.w + ty.w := by omega
        _ = (i + 1) * ty.w := by rw [Nat.add_mul, Nat.one_mul]
        _ ≤ a.toNat * ty.w := Nat.mul_le_mul_right _ (by omega)
    have hmod : (i * ty.w + j) % z.cells.size = j := by rw [hzs, Nat.mul_comm, Nat.mul_add_mod, Nat.mod_eq_of_lt hj]
    simp [madeCells, hij, hzs, hj, Nat.mod_eq_of_lt hj]
  cases hto : ty.hasO with
  | false =>
    obtain ⟨x0, ks, hk, h1, h2⟩ := toRow_ok h hto hk (zeros_leafs hzz) (fun s hs => by rw [zeros_slots hzz] at hs; cases hs)
    split at hk
    case h_2 => cases hk
    have hw := h1.len
    rw [Array.length_toList] at hw
    refine good_newlst (ks := []) (vs := madeCells z.cells (a.toNat * inf.size)) (fr := (0, 0)) (cap := a.toNat) (w1 := w.alloc (.cells (madeCells z.cells (a.toNat * inf.size)) e)) h hd (by simp) rfl hk ?_ rfl rfl rfl rfl (fun _ => rfl) (.inl rfl) (by simp) ?_ (by rw [size_madeCells, hsz]) ?_
    · simp only [execOp, ho, hx, hy, Sem.run_bind, hrun, Sem.run_pure, Result.andThen_ok, List.length_replicate]
    · simp only [maxLen]; omega
    · intro i hi
      rw [List.length_replicate] at hi
      exact ⟨z.cells.toList, by simpa using hzs, hrows (x0 := x0) i hi, by simpa using h1⟩
  | true =>
    have htl : ty.hasL = false := by rw [hto] at hnl; simpa using hnl
    obtain ⟨x0, ks, hk, h1, h2⟩ := toRowT_ok h htl hk (zeros_leafs hzz) (fun s hs => by rw [zeros_slots hzz] at hs; cases hs)
    split at hk
    case h_2 => cases hk
    refine good_newlstT (ks := []) (Ss := List.replicate a.toNat []) (vs := madeCells z.cells (a.toNat * inf.size)) (fr := (0, 0)) (cap := a.toNat) (w1 := w.alloc (.cells (madeCells z.cells (a.toNat * inf.size)) e)) h hd (by simp) rfl hk ?_ rfl rfl rfl rfl (fun _ => rfl) (.inl rfl) (by simp) ?_ (by rw [size_madeCells, hsz]) (by simp [blks]) ?_
    · simp only [execOp, ho, hx, hy, Sem.run_bind, hrun, Sem.run_pure, Result.andThen_ok, List.length_replicate]
    · simp only [maxLen]; omega
    · refine ⟨by simp, fun i y S0 hy hS => ?_⟩
      have hi := (List.getElem?_eq_some_iff.1 hy).1
      rw [List.length_replicate] at hi
      rw [List.getElem?_replicate, if_pos hi, Option.some.injEq] at hy hS
      subst hy hS
      exact ⟨z.cells.toList, by simpa using hzs, hrows (x0 := x0) i hi, by simpa [blks] using h1⟩
theorem run_conv_bytes {src dst e : TypeId} {a : Option Addr} {n c : Nat} {xs : List Int} (hs : P.underlying src = some (.slice e)) (he : P.underlying e = some (.int .u8)) (hd : P.underlying dst = some .string) (hl : xs.length = n)
    (h : 0 < n → ∃ b o, a = some ⟨b, o, none⟩ ∧ b < w.heap.size ∧ RowsAt (IRep F w (.int .u8)) w 1 b o xs) : (convert src dst (.slice a n c)).run P w = .ok (.string (strOf xs)) w := by
  by_cases hn : 0 < n
  · obtain ⟨b, o, rfl, _, hr⟩ := h hn
    exact run_convert_bytes_arg w src e hs he b o n c xs hl (fun i hi => by
      obtain ⟨rs, h1, h2, h3⟩ := hr i (by omega)
      have h3 : rs = [.int .u8 xs[i]] := h3
      have := h2 0 (.int .u8 xs[i]) (by rw [h3]; rfl)
      simp only [Nat.mul_one, Nat.add_zero] at this
      rw [this]
      simp [List.getD, List.getElem?_eq_getElem (show i < xs.length by omega)]) dst hd
  · have hx : xs = [] := List.eq_nil_of_length_eq_zero (by omega)
    have hn : n = 0 := by omega
    subst hx hn
    cases a with
    | none => rw [run_convert_bytes_nil w src e hs he 0 c dst hd]; rfl
    | some a =>
      rw [run_convert_bytes_string w src dst e _ 0 c hs he hd, run_bytesToString w a 0 c [] (by simp [loadCells, loadCellsFrom])]
      rfl
theorem good_conv {o : Oper} {src t d : Nat} {x : Operand} {av : AV} {ev : Operand → Value} {K : AV → Upd → Option ρ} {res : ρ} {get : Get} (hT : TOk P T) (ho : o.op = .convert src t x) (h : SR base S B w0 objs loc F w) (hd : get d = look objs d)
    (hx : Val objs loc F B w av (ev x)) (hg : ∀ s ∈ AV.slots av, get s = look objs s) (hk : convK get d (T.at src).w (T.at src).kind (T.at t).kind av K = some res) : Good P base S B w0 objs loc F w o ev K res := by
  unfold convK at hk
  split at hk
  · rename_i k hkind
    split at hk
    · rename_i k' n hw
      have hw : 1 ≤ (T.at src).w := by simpa using hw
      obtain ⟨d', inf, h1, _⟩ := at_row (t := src) hT (by omega)
      exact good_conv_int hT ho h (by rw [h1]; rfl) hx hkind hk
    · cases hk
  · rename_i e ty hkind
    obtain ⟨hu, inf, z, hie, hsz, hpos, hbytes, hz, hzs, h8⟩ := (hT t).slice e ty hkind
    split at hk
    · rename_i s hsrc
      split at hk
      · rename_i hty
        subst hty
        split at hk
        case isFalse => cases hk
        rename_i hss
        have hv := val_str hx
        have hus := (hT src).str hsrc
        have hrun := Lib.run_convert_string_bytes (P := P) w src t e s hus hu (h8 rfl)
        have hlen : (bytesOf s).length = s.size := by rw [bytesOf, List.length_map, Array.length_toList]; rfl
        have hss : s.size ≤ maxLen := hss
        have hge := grownCap_ge w s.size 0 e
        have hsize : (Lib.bytesCells w e s).size = grownCap w s.size 0 e := by
          unfold Lib.bytesCells
          rw [Array.size_append, Array.size_map, Array.size_replicate]
          show s.size + _ = _
          omega
        refine good_newlst (ks := []) (ty := .int .u8) (rows := bytesOf s) (z := true) (vs := Lib.bytesCells w e s) (fr := ((Lib.bytesCells w e s).size, (Lib.bytesCells w e s).size + 1)) (cap := grownCap w s.size 0 e) (w1 := Lib.bytesWorld w e s) h hd (by simp) rfl hk ?_ ?_ rfl rfl rfl (fun h => by cases h) (.inr (Nat.le_refl _)) (by rw [hlen]; exact hge) (grownCap_le_maxLen w _ _ _ hss) (by rw [hsize]; simp [Ty.w]) ?_
        · simp only [execOp, ho, hv, Sem.run_bind, hrun, Sem.run_pure, Result.andThen_ok, hlen]
        · apply Array.ext_getElem?
          intro j
          rw [Array.getElem?_push]
          by_cases hj : j < w.heap.size
          · rw [Lib.bytesWorld_at_old w e s j hj, if_neg (by omega)]
          · by_cases hj' : j = w.heap.size
            · rw [if_pos hj', hj', Lib.bytesWorld_at_new]
            · rw [if_neg hj', Array.getElem?_eq_none (by rw [Lib.bytesWorld_size]; omega), Array.getElem?_eq_none (by omega)]
        · intro i hi
          rw [hlen] at hi
          refine ⟨[.int .u8 (bytesOf s)[i]], rfl, fun j hj => ?_, rfl⟩
          have hj : j = 0 := by simp [Ty.w] at hj; exact hj
          subst hj
          have hi' : i < s.data.size := hi
          simp only [Ty.w, Nat.mul_one, Nat.add_zero, Lib.bytesCells, Array.toList_append, Array.toList_map]
          rw [List.getElem?_append_left (by rw [List.length_map, Array.length_toList]; exact hi'), List.getElem?_map, Array.getElem?_toList, Array.getElem?_eq_getElem hi']
          simp [bytesOf]
      · cases hk
    · cases hk
  · rename_i hkind
    have hud := (hT t).str hkind
    split at hk
    · rename_i hsrc
      split at hk
      · have hv := val_str hx
        have hus := (hT src).str hsrc
        exact Good.pure h hk (by simp [execOp, ho, hv, convert, run_underlying hus, run_underlying hud]) rfl
      · cases hk
    · rename_i e ty hsrc
      split at hk
      · rename_i hty
        subst hty
        obtain ⟨hu, inf, z, hie, hsz, hpos, hbytes, hz, hzs, h8⟩ := (hT src).slice e _ hsrc
        split at hk
        · cases hk
        · rename_i hns
          obtain ⟨xs, hk, hr⟩ := rowsOf_ok h (t := .int .u8) rfl hk hx hg
          rcases hr with ⟨a, n, c, hcv, _, hl, hnc, hrow⟩ | ⟨s, rfl, _⟩
          · refine Good.pure h hk ?_ rfl
            simp only [execOp, ho, hcv, Sem.run_bind, run_conv_bytes (dst := t) hu (h8 rfl) hud hl hrow, Sem.run_pure, Result.andThen_ok]
          · exact absurd rfl (hns s)
      · cases hk
    · cases hk
  · cases hk
end
end Go.Eng
end

section
namespace Go.Eng
variable [Names]
section
variable {P : Program} {T : TT} {base : Nat} {S : List Nat} {B F : Nat → Prop} {w0 : World} {objs : Upd} {loc : Loc} {w : World} {ρ : Type}
omit [Names] in
theorem setVals_get : ∀ (us vs : List Value) (off k : Nat), off + us.length ≤ vs.length → (setVals vs off us)[k]? = if k < off then vs[k]? else if k < off + us.length then us[k - off]? else vs[k]?
  | [], vs, off, k, _ => by
    simp only [setVals, List.length_nil, Nat.add_zero]
    split <;> simp_all
  | u :: us, vs, off, k, h => by
    simp only [List.length_cons] at h
    rw [setVals, setVals_get us (vs.set off u) (off + 1) k (by simp; omega)]
    by_cases h1 : k < off
    · rw [if_pos (by omega), if_pos h1, List.getElem?_set_ne (by omega)]
    · rw [if_neg h1]
      by_cases h2 : k = off
      · subst h2
        rw [if_pos (by omega), if_pos (by simp), List.getElem?_set_self (by omega)]
        simp
      · rw [if_neg (by omega)]
        by_cases h3 : k < off + (us.length + 1)
        · rw [if_pos (by omega), if_pos (by simpa using h3), show k - off = (k - (off + 1)) + 1 by omega, List.getElem?_cons_succ]
        · rw [if_neg (by omega), if_neg (by simpa using h3), List.getElem?_set_ne (by omega)]
omit [Names] in
theorem splice_get {vs us : List Value} {off : Nat} (k : Nat) (h : off + us.length ≤ vs.length) : (splice vs off us)[k]? = if k < off then vs[k]? else if k < off + us.length then us[k - off]? else vs[k]? := by
  unfold splice
  by_cases h1 : k < off
  · rw [if_pos h1, List.append_assoc, List.getElem?_append_left (by simp; omega), List.getElem?_take_of_lt h1]
  · rw [if_neg h1]
    by_cases h2 : k < off + us.length
    · rw [if_pos h2, List.getElem?_append_left (by simp; omega), List.getElem?_append_right (by simp; omega)]
      simp only [List.length_take]
      rw [Nat.min_eq_left (by omega)]
    · rw [if_neg h2, List.getElem?_append_right (by simp; omega), List.getElem?_drop]
      congr 1
      simp
      omega
omit [Names] in
theorem setCells_rest (b : Nat) : ∀ (vs : List Value) (o : Nat) (w : World), (w.setCells b o vs).os = w.os ∧ (w.setCells b o vs).tape = w.tape ∧ (w.setCells b o vs).output = w.output ∧ (w.setCells b o vs).heap.size = w.heap.size ∧ ∀ k, k ≠ b → (w.setCells b o vs).heap[k]? = w.heap[k]?
  | [], _, _ => ⟨rfl, rfl, rfl, rfl, fun _ _ => rfl⟩
  | v :: r, o, w => by
    obtain ⟨h1, h2, h3, h4, h5⟩ := setCells_rest b r (o + 1) (w.setCell ⟨b, o, none⟩ v)
    refine ⟨h1, h2, h3, by rw [World.setCells, h4]; simp, fun k hk => ?_⟩
    rw [World.setCells, h5 k hk]
    show (w.heap.modify b _)[k]? = _
    rw [Array.getElem?_modify]
    rw [if_neg (fun e => hk e.symm)]
omit [Names] in
theorem setCells_heap (b : Nat) {e : TypeId} {fr : Nat × Nat} : ∀ (vs : List Value) (o : Nat) (w : World) (cur : Array Value), w.heap[b]? = some (.cells cur e fr) → (w.setCells b o vs).heap[b]? = some (.cells (setVals cur.toList o vs).toArray e fr)
  | [], _, w, cur, h => by simpa [World.setCells, setVals] using h
  | v :: r, o, w, cur, h => by
    rw [World.setCells]
    have hb : (w.setCell ⟨b, o, none⟩ v).heap[b]? = some (.cells (cur.setIfInBounds o v) e fr) := by
      show (w.heap.modify b _)[b]? = _
      rw [Array.getElem?_modify, if_pos rfl, h]
      rfl
    rw [setCells_heap b r (o + 1) _ _ hb]
    simp [setVals]
omit [Names] in
theorem run_store_plain {t : TypeId} {b o : Nat} {v : Value} {inf : TypeInfo} {cur : Array Value} {e : TypeId} {fr : Nat × Nat} (hi : P.info? t = some inf) (hsz : v.cells.size = inf.size) (hb : w.heap[b]? = some (.cells cur e fr)) (hth : Thaw fr cur.size)
    (hle : o + v.cells.size ≤ cur.size) (h1 : ∀ x ∈ v.cells.toList, x.oneCell' = true) : (Instr.storeAt t (.pointer (some ⟨b, o, none⟩)) v).run P w = .ok () (w.setCells b o v.cells.toList) := by
  have hc := run_storeCells_cells (P := P) b o v.cells.toList 0 w (fun j hj => by
      rw [cell_heap hb, Array.getElem?_eq_getElem (by simp at hj; omega)]; rfl) (fun j hj => by
      have hj : j < v.cells.size := by simpa using hj
      simp only [World.frozen?, hb]
      rcases hth with rfl | hth
      · simp
      · simp
        omega) h1
  rw [Nat.add_zero] at hc
  simp [Instr.storeAt, Instr.sureAddr, storeVar, sizeOf, typeInfo, hi, hsz, hc]
omit [Names] in
theorem rowsIn_set {α : Type} {R : α → List Value → Prop} {width : Nat} {vs us rs : List Value} {xs : List α} {i off : Nat} {y : α} (h : RowsIn R width vs xs) (hi : i < xs.length) (hle : off + us.length ≤ width)
    (hlen : i * width + off + us.length ≤ vs.length) (hrl : rs.length = width) (hrs : ∀ j, j < width → vs[i * width + j]? = rs[j]?) (hy : R y (splice rs off us)) : RowsIn R width (splice vs (i * width + off) us) (xs.set i y) := by
  intro k hk
  rw [List.length_set] at hk
  by_cases e : k = i
  · subst e
    refine ⟨splice rs off us, by simp [splice]; omega, fun j hj => ?_, by simpa using hy⟩
    rw [splice_get _ hlen, splice_get _ (by omega), hrs j hj]
    by_cases h1 : j < off
    · rw [if_pos (by omega), if_pos h1]
    · rw [if_neg (by omega), if_neg h1]
      by_cases h2 : j < off + us.length
      · rw [if_pos (by omega), if_pos h2]
        congr 1
        omega
      · rw [if_neg (by omega), if_neg h2]
  · obtain ⟨rs', h1, h2, h3⟩ := h k hk
    refine ⟨rs', h1, fun j hj => ?_, by rw [List.getElem_set_ne (by omega)]; exact h3⟩
    rw [← h2 j hj, splice_get _ hlen]
    by_cases hlt : k < i
    · have : (k + 1) * width ≤ i * width := Nat.mul_le_mul_right _ hlt
      rw [Nat.add_mul] at this
      rw [if_pos (by omega)]
    · have : (i + 1) * width ≤ k * width := Nat.mul_le_mul_right _ (by omega)
      rw [Nat.add_mul] at this
      rw [if_neg (by omega), if_neg (by omega)]
omit [Names] in
theorem splice_drop {vs us : List Value} {o k : Nat} (h : o + k + us.length ≤ vs.length) : (splice vs (o + k) us).drop o = splice (vs.drop o) k us := by
  apply List.ext_getElem?
  intro i
  rw [List.getElem?_drop, splice_get _ h, splice_get _ (by rw [List.length_drop]; omega), List.getElem?_drop]
  by_cases h1 : i < k
  · rw [if_pos (by omega), if_pos h1]
  · rw [if_neg (by omega), if_neg h1]
    by_cases h2 : i < k + us.length
    · rw [if_pos (by omega), if_pos h2]
      congr 1
      omega
    · rw [if_neg (by omega), if_neg h2]
omit [Names] in
theorem setVals_splice {vs us : List Value} {off : Nat} (h : off + us.length ≤ vs.length) : setVals vs off us = splice vs off us := by
  apply List.ext_getElem?
  intro k
  rw [setVals_get us vs off k h, splice_get k h]
omit [Names] in
theorem flatten_at {Ss : List (List Nat)} {i : Nat} (h : i < Ss.length) : Ss.flatten = (Ss.take i).flatten ++ Ss[i] ++ (Ss.drop (i + 1)).flatten := by
  conv => lhs; rw [← List.take_append_drop i Ss, List.flatten_append, List.drop_eq_getElem_cons h, List.flatten_cons]
  rw [List.append_assoc]
omit [Names] in
theorem flatten_set {Ss : List (List Nat)} {i : Nat} {X : List Nat} (h : i < Ss.length) : (Ss.set i X).flatten = (Ss.take i).flatten ++ X ++ (Ss.drop (i + 1)).flatten := by
  have h' : i < (Ss.set i X).length := by simpa using h
  rw [flatten_at h', List.getElem_set_self, List.take_set_of_le (Nat.le_refl _), List.drop_set_of_lt (by omega)]
omit [Names] in
theorem nodup_swap {b : Nat} {A S1 M S3 D K : List Nat} (h : (b :: (A ++ (S1 ++ M ++ S3) ++ D)).Nodup) (hk : K.Nodup) (hd : ∀ c ∈ K, c ∉ b :: (A ++ (S1 ++ M ++ S3) ++ D)) : (b :: (A ++ (S1 ++ K ++ S3) ++ D)).Nodup := by
  have hs : (b :: (A ++ (S1 ++ S3) ++ D)).Sublist (b :: (A ++ (S1 ++ M ++ S3) ++ D)) := by
    refine List.Sublist.cons_cons _ (List.Sublist.append (List.Sublist.append (List.Sublist.refl _) ?_) (List.Sublist.refl _))
    exact List.Sublist.append (List.sublist_append_left S1 M) (List.Sublist.refl _)
  have h1 : (K ++ (b :: (A ++ (S1 ++ S3) ++ D))).Nodup := List.nodup_append.2 ⟨hk, h.sublist hs, fun x hx y hy e => hd x hx (hs.subset (e ▸ hy))⟩
  refine (List.Perm.nodup_iff ?_).1 h1
  refine (List.perm_middle).trans (List.Perm.cons _ ?_)
  refine List.perm_iff_count.2 fun c => ?_
  simp only [List.count_append]
  omega
omit [Names] in
theorem nodup_mid {A T1 L T2 D : List Nat} (h : (A ++ (T1 ++ L ++ T2) ++ D).Nodup) : ∀ c ∈ L, c ∉ A ++ (T1 ++ T2) ++ D := by
  intro c hc hc2
  have h1 : (L ++ (A ++ (T1 ++ T2) ++ D)).Nodup := by
    refine (List.Perm.nodup_iff ?_).1 h
    refine List.perm_iff_count.2 fun c => ?_
    simp only [List.count_append]
    omega
  exact (List.nodup_append.1 h1).2.2 c hc c hc2 rfl
omit [Names] in
theorem rowsT_set {α : Type} {R : α → List Value → List Nat → Prop} {width : Nat} {vs us rs : List Value} {xs : List α} {Ss : List (List Nat)} {i off : Nat} {y : α} {S1 : List Nat} (h : RowsT R width vs xs Ss) (hi : i < xs.length) (hle : off + us.length ≤ width)
    (hlen : i * width + off + us.length ≤ vs.length) (hrl : rs.length = width) (hrs : ∀ j, j < width → vs[i * width + j]? = rs[j]?) (hy : R y (splice rs off us) S1) : RowsT R width (splice vs (i * width + off) us) (xs.set i y) (Ss.set i S1) := by
  refine ⟨by simpa using h.1, fun k x S0 hx hS => ?_⟩
  by_cases e : k = i
  · subst e
    rw [List.getElem?_set_self hi, Option.some.injEq] at hx
    rw [List.getElem?_set_self (by rw [h.1]; exact hi), Option.some.injEq] at hS
    subst hx hS
    refine ⟨splice rs off us, by simp [splice]; omega, fun j hj => ?_, hy⟩
    rw [splice_get _ hlen, splice_get _ (by omega), hrs j hj]
    by_cases h1 : j < off
    · rw [if_pos (by omega), if_pos h1]
    · rw [if_neg (by omega), if_neg h1]
      by_cases h2 : j < off + us.length
      · rw [if_pos (by omega), if_pos h2]
        congr 1
        omega
      · rw [if_neg (by omega), if_neg h2]
  · rw [List.getElem?_set_ne (fun e' => e e'.symm)] at hx hS
    obtain ⟨rs', h1, h2, h3⟩ := h.2 k x S0 hx hS
    refine ⟨rs', h1, fun j hj => ?_, h3⟩
    rw [← h2 j hj, splice_get _ hlen]
    by_cases hlt : k < i
    · have : (k + 1) * width ≤ i * width := Nat.mul_le_mul_right _ hlt
      rw [Nat.add_mul] at this
      rw [if_pos (by omega)]
    · have : (i + 1) * width ≤ k * width := Nat.mul_le_mul_right _ (by omega)
      rw [Nat.add_mul] at this
      rw [if_neg (by omega), if_neg (by omega)]
theorem good_store {o : Oper} {t : Nat} {x y : Operand} {ax av : AV} {ev : Operand → Value} {K : AV → Upd → Option ρ} {res : ρ} {get : Get} (hT : TOk P T) (ho : o.op = .store t x y) (h : SR base S B w0 objs loc F w)
    (hx : Val objs loc F B w ax (ev x)) (hy : Val objs loc F B w av (ev y)) (hgx : ∀ s ∈ AV.slots ax, get s = look objs s) (hgy : ∀ s ∈ AV.slots av, get s = look objs s)
    (hsure : av.sure = true) (hcl : av.cells.length = (T.at t).w) (hpos : 1 ≤ (T.at t).w) (hk : storeK get ax av (fun u => K .dead u) = some res) : Good P base S B w0 objs loc F w o ev K res := by
  have hy1 := hy.sure1 hsure
  have hc := val_cells hy1 hsure
  obtain ⟨dd, inf, _, _, hi, hsz⟩ := at_row (t := t) hT (by omega)
  have hcs : (ev y).cells.size = inf.size := by rw [hsz, ← hcl]; simpa using hc.len.symm
  have hone := hc.one
  unfold storeK at hk
  split at hk
  · rename_i _ _ r off
    have hgr : get r.s = look objs r.s := hgx r.s (by simp [AV.slots])
    rw [ob_get hgr] at hk
    split at hk
    · rename_i cs hob
      split at hk
      case h_2 => cases hk
      rename_i hle
      have hle : off + av.cells.length ≤ cs.length := by simpa using hle
      obtain ⟨hg, hj⟩ := ob_some hob (by simp)
      have hv := RS.found (hx : Leaf objs loc F B w (.ptr r off) (ev x)).2 hob (by simp)
      obtain ⟨b, hb, hxv⟩ := hv
      obtain ⟨b', vs, e, fr, hb', hsub, hheap, hth, hlf⟩ := h.obs _ _ _ _ hj
      rw [hb] at hb'
      cases hb'
      have hll : cs.length = vs.size := by simpa using hlf.len
      have hcl' : av.cells.length = (ev y).cells.size := by simpa using hc.len
      have hrun := run_store_plain (P := P) (o := off) hi hcs hheap hth (by omega) hone
      obtain ⟨c1, c2, c3, c4, c5⟩ := setCells_rest b (ev y).cells.toList off w
      have hnew := setCells_heap b (ev y).cells.toList off w vs hheap
      have st := Step.of_one h hj rfl (LV.mem_blk hb) (fun k _ => c5 k) c1 c2 c3 (by omega)
      have hloc : loc.set r.s r.j (loc r.s r.j) = loc := by
        funext s j
        by_cases e : s = r.s ∧ j = r.j
        · rw [e.1, e.2, Loc.set_same]
        · rw [Loc.set_ne _ _ _ _ e]
      have key := h.turn (F' := F) (l' := loc r.s r.j) (v' := r.v) (o' := .box (setCells cs off av.cells)) st hj (.inr ⟨rfl, rfl, trivial⟩) (fun k hk _ => c5 k (fun e => by subst e; exact hk rfl (LV.mem_blk hb))) (fun _ h => h) (fun _ h => .inl h) (fun ext => by
        refine ⟨b, _, e, fr, hb, hsub, hnew, ?_, ?_⟩
        · rw [List.size_toArray, setVals_len]; simpa using hth
        · exact (hlf.ext ext).setAll (hc.ext ext)) (fun _ k hk => by
        have hk := LV.blk_of hsub hk
        rw [hb] at hk
        cases hk
        obtain ⟨a1, a2, a3, a4⟩ := h.own _ _ _ _ b hj rfl (LV.mem_blk hb)
        exact ⟨a1, a2, by omega, a4, .inl ⟨rfl, LV.mem_blk hb⟩⟩)
      rw [hloc] at key
      refine ⟨.dead, _, _, undef, w.setCells b off (ev y).cells.toList, loc, F, hk, ?_, .inr ⟨rfl, rfl⟩, ?_, ?_, More.refl _ _ _, trivial⟩
      · simp only [execOp, ho, hxv, Sem.run_bind, hrun, Sem.run_pure, Result.andThen_ok]
      · simp only [Upd.same, applyUpd, Upd.at, hgr, hg, setNth_eq]; exact key.1
      · simp only [Upd.same, applyUpd, Upd.at, hgr, hg, setNth_eq]; exact key.2
    · cases hk
  · rename_i _ _ r ix off
    have hgr : get r.s = look objs r.s := hgx r.s (by simp [AV.slots])
    rw [ob_get hgr] at hk
    split at hk
    · rename_i z e t0 xs hob
      obtain ⟨hg, hj⟩ := ob_some hob (by simp)
      have hv := RS.found (hx : Leaf objs loc F B w (.ep r ix off) (ev x)).2 hob (by simp)
      obtain ⟨b, hb, h0, hlt, hxv⟩ := hv
      have hix : ix.toNat < xs.length := by omega
      cases hto : t0.hasO with
      | false =>
        rw [hto] at hk
        simp only at hk
        have hok := (show LstOk F w (loc r.s r.j) z e t0 xs from h.obs _ _ _ _ hj).old hto
        simp only [LstOld, hb] at hok
        obtain ⟨hsub, vs, fr, hheap, hzf, hth, hnc, hcm, hvs, hrows⟩ := hok
        obtain ⟨rs, hrl, hrc, hrr⟩ := hrows ix.toNat hix
        have hrd : Ty.rd xs ix = xs[ix.toNat] := by simp [Ty.rd, List.getD, hix]
        rw [hrd] at hk
        obtain ⟨yv, ks, hk, hput, hpl, hks⟩ := putRow_ok h hto hk hrr hc (fun s hs => hgy s (cells_slots hsure s hs))
        split at hk
        case h_2 => cases hk
        rename_i hap
        have hap' : Ref.apart ks = true ∧ Ref.among r ks = false := by
          simp only [Ref.apart, Bool.and_eq_true, Bool.not_eq_true'] at hap
          exact ⟨hap.2, hap.1⟩
        obtain ⟨F', q1, q2, q3, q4, q5⟩ := kills_ok ks [] F h (Ext.refl _ _ _ _ _) (More.refl _ _ _) (fun r hr => (hks r hr).1) hap'.1 (fun r hr => (hks r hr).2)
        have hob1 := (q5 r hap'.2).trans (show Get.ob (look (applyUpd objs [])) r = _ from hob)
        obtain ⟨hg1, hj1⟩ := ob_some hob1 (by simp)
        have hcl' : av.cells.length = (ev y).cells.size := by simpa using hc.len
        have hsl : (ev y).cells.toList.length = (ev y).cells.size := by simp
        have hbound : (loc r.s r.j).off + (ix.toNat * t0.w + off) + (ev y).cells.size ≤ vs.size := by
          have : (ix.toNat + 1) * t0.w ≤ (loc r.s r.j).cap * t0.w := Nat.mul_le_mul_right _ (by omega)
          rw [Nat.add_mul] at this
          omega
        have hxv : ev x = .pointer (some ⟨b, (loc r.s r.j).off + (ix.toNat * t0.w + off), none⟩) := by rw [hxv, Nat.add_assoc]
        have hrun := run_store_plain (P := P) (o := (loc r.s r.j).off + (ix.toNat * t0.w + off)) hi hcs hheap hth hbound hone
        obtain ⟨c1, c2, c3, c4, c5⟩ := setCells_rest b (ev y).cells.toList ((loc r.s r.j).off + (ix.toNat * t0.w + off)) w
        have hnew := setCells_heap b (ev y).cells.toList ((loc r.s r.j).off + (ix.toNat * t0.w + off)) w vs hheap
        have st := Step.of_one q1 hj1 rfl (LV.mem_blk hb) (fun k _ => c5 k) c1 c2 c3 (by omega)
        obtain ⟨a1, a2, a3, a4⟩ := q1.own _ _ _ _ b hj1 rfl (LV.mem_blk hb)
        have hloc : loc.set r.s r.j (loc r.s r.j) = loc := by
          funext s j
          by_cases e : s = r.s ∧ j = r.j
          · rw [e.1, e.2, Loc.set_same]
          · rw [Loc.set_ne _ _ _ _ e]
        have key := q1.turn (F' := F') (l' := loc r.s r.j) (v' := r.v) (o' := .lst z e t0 (xs.set ix.toNat yv)) st hj1 (.inr ⟨rfl, ⟨rfl, by simp, rfl⟩, OSame.flat hto⟩) (fun k hk _ => c5 k (fun e => by subst e; exact hk rfl (LV.mem_blk hb))) (fun _ h => h) (fun _ h => .inl h) (fun ext => by
          have hsame : Same F' w (w.setCells b ((loc r.s r.j).off + (ix.toNat * t0.w + off)) (ev y).cells.toList) := ext.sameF
          refine LstOld.ok ?_
          simp only [LstOld, hb]
          refine ⟨hsub, _, fr, hnew, hzf, ?_, by simpa using hnc, hcm, ?_, ?_⟩
          · rw [List.size_toArray, setVals_len]; simpa using hth
          · rw [List.size_toArray, setVals_len]; simpa using hvs
          · rw [List.toList_toArray, setVals_splice (by simpa using hbound), splice_drop (by simpa using hbound)]
            have hrows' : RowsIn (IRep F' (w.setCells b ((loc r.s r.j).off + (ix.toNat * t0.w + off)) (ev y).cells.toList) t0) t0.w (vs.toList.drop (loc r.s r.j).off) xs := fun i hi => by
              obtain ⟨rs', p1, p2, p3⟩ := hrows i hi
              exact ⟨rs', p1, p2, (p3.mono (fun b hb => q4 b (.inl hb)) (fun _ _ => rfl)).mono (fun _ hb => hb) hsame⟩
            exact rowsIn_set hrows' hix hpl (by simp only [List.length_drop, Array.length_toList]; omega) hrl hrc ((hput.mono q4 (fun _ _ => rfl)).mono (fun _ hb => hb) hsame)) (fun _ k hk => by
          have hk := LV.blk_of hsub hk
          rw [hb] at hk
          cases hk
          exact ⟨a1, a2, by omega, a4, .inl ⟨rfl, LV.mem_blk hb⟩⟩)
        rw [hloc] at key
        have hua : Upd.at get (kills get ks []) r.s = look (applyUpd objs (kills get ks [])) r.s := upd_at hgr _
        refine ⟨.dead, _, _, undef, w.setCells b ((loc r.s r.j).off + (ix.toNat * t0.w + off)) (ev y).cells.toList, loc, F', hk, ?_, .inr ⟨rfl, rfl⟩, ?_, ?_, q3, trivial⟩
        · simp only [execOp, ho, hxv, Sem.run_bind, hrun, Sem.run_pure, Result.andThen_ok]
        · simp only [Upd.same, applyUpd, hua, hg1, setNth_eq]; exact key.1
        · simp only [Upd.same, applyUpd, hua, hg1, setNth_eq]; exact q2.trans key.2
      | true =>
        rw [hto] at hk
        simp only at hk
        split at hk
        case h_2 => cases hk
        rename_i hsh
        rw [Bool.or_eq_false_iff] at hsh
        have htl := hsh.2
        have hsg : r.s ≠ SHG := beq_false.1 hsh.1
        have hok : LstOk F w (loc r.s r.j) z e t0 xs := h.obs _ _ _ _ hj
        unfold LstOk LstW at hok
        rw [hb] at hok
        obtain ⟨vs, fr, Ss, hheap, hzf, hth, hnc, hcm, hvs, hsub, hnd, hlen, hrows⟩ := hok
        have hiS : ix.toNat < Ss.length := by omega
        obtain ⟨rs, hrl, hrc, hrr⟩ := hrows ix.toNat _ _ (List.getElem?_eq_getElem hix) (List.getElem?_eq_getElem hiS)
        rw [rd_at hix] at hk
        obtain ⟨yv, ks, S1, S2, S3, hk, hput, hS0, hpl, hks⟩ := putRowT_ok h htl hk hrr hc (fun s hs => hgy s (cells_slots hsure s hs))
        split at hk
        case h_2 => cases hk
        rename_i hap
        have hap' : Ref.apart ks = true ∧ Ref.among r ks = false := by
          simp only [Ref.apart, Bool.and_eq_true, Bool.not_eq_true'] at hap
          exact ⟨hap.2, hap.1⟩
        have hgs : get SHG = look objs SHG := hgx SHG (by simp [AV.slots])
        have hkn := blks_nodupL h (fun r hr => (hks r hr).1) hap'.1 (fun r hr => h.nodup (hks r hr).1)
        obtain ⟨q1, q2, q3, q4, q5, q6⟩ := kills_gone ks [] h (Ext.refl _ _ _ _ _) (fun r hr => (hks r hr).1) hap'.1 (fun r hr => (hks r hr).2)
        have hob1 := (q3 r hap'.2).trans (show Get.ob (look (applyUpd objs [])) r = _ from hob)
        obtain ⟨hg1, hj1⟩ := ob_some hob1 (by simp)
        have hcl' : av.cells.length = (ev y).cells.size := by simpa using hc.len
        have hsl : (ev y).cells.toList.length = (ev y).cells.size := by simp
        have hbound : (loc r.s r.j).off + (ix.toNat * t0.w + off) + (ev y).cells.size ≤ vs.size := by
          have : (ix.toNat + 1) * t0.w ≤ (loc r.s r.j).cap * t0.w := Nat.mul_le_mul_right _ (by omega)
          rw [Nat.add_mul] at this
          omega
        have hxv : ev x = .pointer (some ⟨b, (loc r.s r.j).off + (ix.toNat * t0.w + off), none⟩) := by rw [hxv, Nat.add_assoc]
        have hrun := run_store_plain (P := P) (o := (loc r.s r.j).off + (ix.toNat * t0.w + off)) hi hcs hheap hth hbound hone
        obtain ⟨c1, c2, c3, c4, c5⟩ := setCells_rest b (ev y).cells.toList ((loc r.s r.j).off + (ix.toNat * t0.w + off)) w
        have hnew := setCells_heap b (ev y).cells.toList ((loc r.s r.j).off + (ix.toNat * t0.w + off)) w vs hheap
        have st := Step.of_one q1 hj1 rfl (LV.mem_blk hb) (fun k _ => c5 k) c1 c2 c3 (by omega)
        have hS' : Ss.flatten = (Ss.take ix.toNat).flatten ++ (S1 ++ S2 ++ S3) ++ (Ss.drop (ix.toNat + 1)).flatten := by rw [← hS0]; exact flatten_at hiS
        have hall : ∀ c, c ∈ b :: ((Ss.set ix.toNat (S1 ++ blks loc ks ++ S3)).flatten) → c ∈ (loc r.s r.j).all ∨ c ∈ blks loc ks := by
          intro c hc'
          rcases List.mem_cons.1 hc' with rfl | hc'
          · exact .inl (LV.mem_blk hb)
          · rw [flatten_set hiS] at hc'
            have : c ∈ blks loc ks ∨ c ∈ Ss.flatten := by
              rw [hS']
              simp only [List.mem_append] at hc' ⊢
              rcases hc' with (hc' | ((hc' | hc') | hc')) | hc' <;> simp [hc']
            rcases this with h | h
            · exact .inr h
            · exact .inl (LV.mem_sub (by rw [hsub]; exact h))
        have hdis : ∀ c ∈ blks loc ks, c ∉ b :: Ss.flatten := fun c hc1 hc2 => by
          refine (q4 c hc1).2.2.2.2 r.s r.j _ _ hj1 rfl ?_
          rcases List.mem_cons.1 hc2 with rfl | hc2
          · exact LV.mem_blk hb
          · exact LV.mem_sub (by rw [hsub]; exact hc2)
        have hnd' : (b :: (Ss.set ix.toNat (S1 ++ blks loc ks ++ S3)).flatten).Nodup := by
          rw [flatten_set hiS]
          rw [hsub] at hnd
          refine nodup_swap (M := S2) ?_ hkn ?_
          · rw [← hS']; exact hnd
          · rw [← hS']; exact hdis
        have key := q1.turnB (F' := F) (l' := ⟨some b, (loc r.s r.j).off, (loc r.s r.j).cap, (Ss.set ix.toNat (S1 ++ blks loc ks ++ S3)).flatten⟩) (v' := r.v) (o' := .lst z e t0 (xs.set ix.toNat yv)) st hsg hj1 (.inr ⟨rfl, ⟨rfl, by simp, by simp [LV.core, hb]⟩⟩) (fun k hk _ => c5 k (fun e => by subst e; exact hk rfl (LV.mem_blk hb))) (fun _ h => h) (fun _ h => .inl h) rfl (fun ext => by
          have hsame : Same F w (w.setCells b ((loc r.s r.j).off + (ix.toNat * t0.w + off)) (ev y).cells.toList) := ext.sameF
          refine ⟨_, fr, Ss.set ix.toNat (S1 ++ blks loc ks ++ S3), hnew, hzf, ?_, by simpa using hnc, hcm, ?_, rfl, hnd', ?_⟩
          · rw [List.size_toArray, setVals_len]; simpa using hth
          · rw [List.size_toArray, setVals_len]; simpa using hvs
          · rw [List.toList_toArray, setVals_splice (by simpa using hbound), splice_drop (by simpa using hbound)]
            have hnb : ∀ c, c ≠ b → (w.setCells b ((loc r.s r.j).off + (ix.toNat * t0.w + off)) (ev y).cells.toList).heap[c]? = w.heap[c]? := c5
            have hneb : ∀ c, c ∈ (Ss.set ix.toNat (S1 ++ blks loc ks ++ S3)).flatten → c ≠ b := fun c hc' e => (List.nodup_cons.1 hnd').1 (e ▸ hc')
            have hneb0 : ∀ c, c ∈ Ss.flatten → c ≠ b := fun c hc' e => (List.nodup_cons.1 hnd).1 (by rw [hsub]; exact e ▸ hc')
            have hrows' : RowsT (TRep F (w.setCells b ((loc r.s r.j).off + (ix.toNat * t0.w + off)) (ev y).cells.toList) t0) t0.w (vs.toList.drop (loc r.s r.j).off) xs Ss := RowsT.mono ⟨hlen, hrows⟩ fun x rs S0 hS hx => hx.mono (fun _ h => h) hsame fun c hc' => hnb c (hneb0 c (List.mem_flatten.2 ⟨S0, hS, hc'⟩))
            refine rowsT_set hrows' hix hpl (by simp only [List.length_drop, Array.length_toList]; omega) hrl hrc (hput.mono (fun _ h => h) hsame fun c hc' => hnb c (hneb c ?_))
            rw [flatten_set hiS]
            simp only [List.mem_append] at hc' ⊢
            rcases hc' with (hc' | hc') | hc' <;> simp [hc']) (fun _ c hc' => by
          have hc'' : c ∈ b :: (Ss.set ix.toNat (S1 ++ blks loc ks ++ S3)).flatten := hc'
          rcases hall c hc'' with hc3 | hc3
          · obtain ⟨a1, a2, a3, a4⟩ := q1.own _ _ _ _ c hj1 rfl hc3
            exact ⟨a1, a2, by omega, a4, q1.nobody hj1 (.inl ⟨rfl, hc3⟩)⟩
          · obtain ⟨a1, a2, a3, a4, a5⟩ := q4 c hc3
            exact ⟨a1, a2, by omega, a4, fun s1 j1 v1 o1 h1 l1 b1 => absurd b1 (a5 s1 j1 v1 o1 h1 l1)⟩)
        have hua : Upd.at get (kills get ks []) r.s = look (applyUpd objs (kills get ks [])) r.s := upd_at hgr _
        have hgsh : (look (applyUpd objs (kills get ks [])) SHG).g = (get SHG).g := by rw [q6, hgs]; rfl
        refine ⟨.dead, _, _, undef, w.setCells b ((loc r.s r.j).off + (ix.toNat * t0.w + off)) (ev y).cells.toList, loc.set r.s r.j ⟨some b, (loc r.s r.j).off, (loc r.s r.j).cap, (Ss.set ix.toNat (S1 ++ blks loc ks ++ S3)).flatten⟩, F, hk, ?_, .inr ⟨rfl, rfl⟩, ?_, ?_, More.refl _ _ _, trivial⟩
        · simp only [execOp, ho, hxv, Sem.run_bind, hrun, Sem.run_pure, Result.andThen_ok]
        · simp only [Upd.same, applyUpd, hua, hg1, setNth_eq, ← hgsh]; exact key.1
        · simp only [Upd.same, applyUpd, hua, hg1, setNth_eq, ← hgsh]; exact q2.trans key.2
    · cases hk
  · rename_i _ _ r k i off j off2
    have hgr : get r.s = look objs r.s := hgx r.s (by simp [AV.slots])
    split at hk
    case h_2 => cases hk
    rename_i ol hnl
    split at hk
    case h_2 => cases hk
    rename_i hflat
    obtain ⟨hk1, z, e, t0, xs, hob, hgo⟩ := nlOf_some hnl hgr (hgx SHG (by simp [AV.slots]))
    rw [ob_get hgr, hob] at hk
    simp only at hk
    obtain ⟨hg, hj⟩ := ob_some hob (by simp)
    have hx' : Leaf objs loc F B w (.np r k i off j off2) (ev x) := hx
    rcases hx'.2 with h2 | ⟨_, hrs⟩
    · omega
    obtain ⟨h0, h1, hj0, e', u, b, bl, o2, n, c, ht, hb, hcell, hjn, hxv⟩ := RS.found hrs hob (by simp)
    have hix : i.toNat < xs.length := by omega
    have hok : LstOk F w (loc r.s r.j) z e t0 xs := h.obs _ _ _ _ hj
    have hok0 := hok
    unfold LstOk LstW at hok
    rw [hb] at hok
    obtain ⟨vs, fr, Ss, hheap, hzf, hth, hnc, hcm, hvs, hsub, hnd, hlen, hrows⟩ := hok
    have hiS : i.toNat < Ss.length := by omega
    obtain ⟨rs, hrl, hrc, hrr⟩ := hrows i.toNat _ _ (List.getElem?_eq_getElem hix) (List.getElem?_eq_getElem hiS)
    rw [rd_at hix] at hgo
    obtain ⟨g1, l, T1, T2, g2, g3, g4, g5⟩ := hrr.getO hgo
    rw [ht] at g1
    simp only [Option.some.injEq, Prod.mk.injEq] at g1
    obtain ⟨rfl, rfl⟩ := g1
    have hlt := Ty.olsTy_lt (t := t0) (off := off) (by rw [ht]; rfl)
    have hh : w.cell? ⟨b, (loc r.s r.j).off + i.toNat * t0.w + off, none⟩ = some (hdr l ol.ys.length) := by
      rw [cell_heap hheap, ← g2, ← hrc off hlt, List.getElem?_drop, Array.getElem?_toList]
      congr 1
      omega
    rw [hcell, Option.some.injEq] at hh
    simp only [hdr, Value.slice.injEq] at hh
    obtain ⟨e1, e2, e3⟩ := hh
    cases hlb : l.blk with
    | none => rw [hlb] at e1; simp at e1
    | some bl' =>
      rw [hlb] at e1
      simp only [Option.map_some, Option.some.injEq, Addr.mk.injEq, and_true] at e1
      obtain ⟨rfl, rfl⟩ := e1
      have hjy : j.toNat < ol.ys.length := by omega
      have hto := Ty.flat_hasO hflat
      obtain ⟨lsub, hold⟩ := (show LstOk F w l false ol.e ol.u ol.ys from g4).old hto
      rw [hlb] at hold
      obtain ⟨us, fr2, lh, lz, lth, lnc, lcm, lvs, lrows⟩ := hold
      obtain ⟨rs2, m1, m2, m3⟩ := lrows j.toNat hjy
      rw [rd_at hjy] at hk
      obtain ⟨yv, ks, hk, hput, hpl, hks⟩ := putRow_ok h hto hk m3 hc (fun s hs => hgy s (cells_slots hsure s hs))
      have hput := hput.flat (F' := F) hflat
      have hblall : bl ∈ (loc r.s r.j).sub := by
        rw [hsub, flatten_at hiS, g3]
        simp [LV.mem_blk hlb]
      have hbne : bl ≠ b := fun e => (List.nodup_cons.1 hnd).1 (e ▸ hblall)
      have hcl' : av.cells.length = (ev y).cells.size := by simpa using hc.len
      have hbound : l.off + (j.toNat * ol.u.w + off2) + (ev y).cells.size ≤ us.size := by
        have : (j.toNat + 1) * ol.u.w ≤ l.cap * ol.u.w := Nat.mul_le_mul_right _ (by omega)
        rw [Nat.add_mul] at this
        have hsl : (ev y).cells.toList.length = (ev y).cells.size := by simp
        omega
      have hxv : ev x = .pointer (some ⟨bl, l.off + (j.toNat * ol.u.w + off2), none⟩) := by rw [hxv, Nat.add_assoc]
      have hrun := run_store_plain (P := P) (o := l.off + (j.toNat * ol.u.w + off2)) hi hcs lh lth hbound hone
      obtain ⟨c1, c2, c3, c4, c5⟩ := setCells_rest bl (ev y).cells.toList (l.off + (j.toNat * ol.u.w + off2)) w
      have hnew := setCells_heap bl (ev y).cells.toList (l.off + (j.toNat * ol.u.w + off2)) w us lh
      have st := Step.of_one h hj rfl (LV.mem_sub hblall) (fun k _ => c5 k) c1 c2 c3 (by omega)
      obtain ⟨a1, a2, a3, a4⟩ := h.own _ _ _ _ bl hj rfl (LV.mem_sub hblall)
      have hloc : loc.set r.s r.j (loc r.s r.j) = loc := by
        funext s j
        by_cases e : s = r.s ∧ j = r.j
        · rw [e.1, e.2, Loc.set_same]
        · rw [Loc.set_ne _ _ _ _ e]
      have hnd2 : (Ss.flatten).Nodup := by rw [← hsub]; exact (List.nodup_cons.1 hnd).2
      have hSat := flatten_at hiS
      have key := h.turn (F' := F) (l' := loc r.s r.j) (v' := r.v) (o' := .lst z e t0 (xs.set i.toNat (t0.putO xs[i.toNat] off ⟨ol.e, ol.u, ol.ys.set j.toNat yv⟩))) st hj (.inr ⟨rfl, ⟨rfl, by simp, rfl⟩, OSame.of_block fun q hq => c5 q (fun e => hbne (by rw [hb] at hq; cases hq; exact e.symm))⟩) (fun q hq _ => c5 q (fun e => by subst e; exact hq rfl (LV.mem_sub hblall))) (fun _ h => h) (fun _ h => .inl h) (fun ext => by
        have hsame : Same F w (w.setCells bl (l.off + (j.toNat * ol.u.w + off2)) (ev y).cells.toList) := ext.sameF
        have lnew : LstOk F (w.setCells bl (l.off + (j.toNat * ol.u.w + off2)) (ev y).cells.toList) l false ol.e ol.u (ol.ys.set j.toNat yv) := by
          refine LstOld.ok ⟨lsub, ?_⟩
          rw [hlb]
          refine ⟨_, fr2, hnew, lz, ?_, by simpa using lnc, lcm, ?_, ?_⟩
          · rw [List.size_toArray, setVals_len]; simpa using lth
          · rw [List.size_toArray, setVals_len]; simpa using lvs
          · rw [List.toList_toArray, setVals_splice (by simpa using hbound), splice_drop (by simpa using hbound)]
            have lrows' : RowsIn (IRep F (w.setCells bl (l.off + (j.toNat * ol.u.w + off2)) (ev y).cells.toList) ol.u) ol.u.w (us.toList.drop l.off) ol.ys := fun q hq => by
              obtain ⟨rs', p1, p2, p3⟩ := lrows q hq
              exact ⟨rs', p1, p2, p3.mono (fun _ h => h) hsame⟩
            exact rowsIn_set lrows' hjy hpl (by simp only [List.length_drop, Array.length_toList]; omega) m1 m2 (hput.mono (fun _ h => h) hsame)
        have hother : ∀ c ∈ Ss.flatten, c ∉ l.all → (w.setCells bl (l.off + (j.toNat * ol.u.w + off2)) (ev y).cells.toList).heap[c]? = w.heap[c]? := fun c _ hc' => c5 c (fun e => hc' (e ▸ LV.mem_blk hlb))
        simp only [ObOk, LstOk, LstW, hb]
        refine ⟨vs, fr, Ss, (c5 b (fun e => hbne e.symm)).trans hheap, hzf, hth, by simpa using hnc, hcm, hvs, hsub, hnd, by simpa using hlen, fun q x S0 hx hS => ?_⟩
        rw [hSat, g3] at hnd2
        by_cases e : q = i.toNat
        · subst e
          rw [List.getElem?_set_self hix, Option.some.injEq] at hx
          rw [List.getElem?_eq_getElem hiS, Option.some.injEq] at hS
          subst hx hS
          refine ⟨rs, hrl, hrc, ?_⟩
          rw [g3]
          refine g5 F _ l _ (fun _ h => h) hsame (fun c hc' => ?_) rfl (by simp) lnew
          refine hother c (by rw [hSat, g3]; simp only [List.mem_append] at hc' ⊢; rcases hc' with hc' | hc' <;> simp [hc']) (fun hcl => ?_)
          have h3 := nodup_mid hnd2
          exact h3 c hcl (by simp only [List.mem_append] at hc' ⊢; rcases hc' with hc' | hc' <;> simp [hc'])
        · rw [List.getElem?_set_ne (fun e' => e e'.symm)] at hx
          obtain ⟨rs', p1, p2, p3⟩ := hrows q x S0 hx hS
          refine ⟨rs', p1, p2, p3.mono (fun _ h => h) hsame fun c hc' => hother c (List.mem_flatten.2 ⟨S0, List.mem_of_getElem? hS, hc'⟩) fun hcl => ?_⟩
          have h3 := nodup_mid hnd2
          refine h3 c hcl ?_
          have hq : q < Ss.length := (List.getElem?_eq_some_iff.1 hS).1
          rw [List.getElem?_eq_getElem hq, Option.some.injEq] at hS
          subst hS
          have hin : c ∈ (Ss.take i.toNat).flatten ∨ c ∈ (Ss.drop (i.toNat + 1)).flatten := by
            by_cases hqi : q < i.toNat
            · exact .inl (List.mem_flatten.2 ⟨Ss[q], List.mem_of_getElem? (i := q) (by rw [List.getElem?_take_of_lt hqi]; exact List.getElem?_eq_getElem hq), hc'⟩)
            · refine .inr (List.mem_flatten.2 ⟨Ss[q], List.mem_of_getElem? (i := q - (i.toNat + 1)) (by rw [List.getElem?_drop, show i.toNat + 1 + (q - (i.toNat + 1)) = q by omega]; exact List.getElem?_eq_getElem hq), hc'⟩)
          rcases hin with hin | hin <;> simp [hin]) (fun _ q hq => by
        obtain ⟨p1, p2, p3, p4⟩ := h.own _ _ _ _ q hj rfl hq
        exact ⟨p1, p2, by omega, p4, .inl ⟨rfl, hq⟩⟩)
      rw [hloc] at key
      rw [rd_at hix] at hk
      refine ⟨.dead, _, _, undef, w.setCells bl (l.off + (j.toNat * ol.u.w + off2)) (ev y).cells.toList, loc, F, hk, ?_, .inr ⟨rfl, rfl⟩, ?_, ?_, More.refl _ _ _, trivial⟩
      · simp only [execOp, ho, hxv, Sem.run_bind, hrun, Sem.run_pure, Result.andThen_ok]
      · simp only [Upd.same, applyUpd, Upd.at, hgr, hg, setNth_eq]; exact key.1
      · simp only [Upd.same, applyUpd, Upd.at, hgr, hg, setNth_eq]; exact key.2
  · cases hk
omit [Names] in
theorem Ty.hasQ_pos : ∀ {t : Ty}, t.hasQ = true → 1 ≤ t.w
  | .olq _ _, _ => by simp [Ty.w]
  | .pair a b, h => by
    simp only [Ty.hasQ, Bool.or_eq_true] at h
    simp only [Ty.w]
    rcases h with h | h
    · have := Ty.hasQ_pos h; omega
    · have := Ty.hasQ_pos h; omega
  | .int _, h => by simp [Ty.hasQ] at h
  | .bool, h => by simp [Ty.hasQ] at h
  | .str, h => by simp [Ty.hasQ] at h
  | .list _, h => by simp [Ty.hasQ] at h
  | .unit, h => by simp [Ty.hasQ] at h
  | .nm, h => by simp [Ty.hasQ] at h
  | .ols _ _, h => by simp [Ty.hasQ] at h
def LeftOb (F : Nat → Prop) (w : World) (p : Nat × Ob) (l : LV) : Prop := ∃ e t xs, p = (0, .lst false e t xs) ∧ LstOk F w l false e t xs
theorem rowLeave_ok {d g : Nat} : ∀ {t : Ty} {x : t.den} {cs : List Value} {S0 : List Nat} {j : Nat} {K : List AV → List (Nat × Ob) → Option ρ} {res : ρ}, TRep F w t x cs S0 → rowLeave d g t x j K = some res →
    ∃ (avs : List AV) (os : List (Nat × Ob)) (ls : List LV), K avs os = some res ∧ os.length = ls.length ∧ S0 = ls.flatMap LV.all ∧ TRep F w t (t.left x) cs [] ∧
      (∀ (i : Nat) (p : Nat × Ob) (l : LV), os[i]? = some p → ls[i]? = some l → LeftOb F w p l) ∧
      ∀ (objs' : Upd) (loc' : Loc) (B : Nat → Prop), g = (look objs' d).g → (∀ (i : Nat) (p : Nat × Ob), os[i]? = some p → (look objs' d).os[j + i]? = some p) → (∀ (i : Nat) (l : LV), ls[i]? = some l → loc' d (j + i) = l) → Leafs objs' loc' F B w avs cs
  | .int k, x, cs, S0, j, K, res, h, hk => by
    obtain ⟨h, rfl⟩ := h
    cases h
    exact ⟨_, _, [], hk, rfl, rfl, ⟨rfl, rfl⟩, fun i p l hp => by simp at hp, fun _ _ _ _ _ _ => ⟨rfl, rfl, trivial⟩⟩
  | .bool, x, cs, S0, j, K, res, h, hk => by
    obtain ⟨h, rfl⟩ := h
    cases h
    exact ⟨_, _, [], hk, rfl, rfl, ⟨rfl, rfl⟩, fun i p l hp => by simp at hp, fun _ _ _ _ _ _ => ⟨rfl, rfl, trivial⟩⟩
  | .str, x, cs, S0, j, K, res, h, hk => by
    obtain ⟨h, rfl⟩ := h
    cases h
    exact ⟨_, _, [], hk, rfl, rfl, ⟨rfl, rfl⟩, fun i p l hp => by simp at hp, fun _ _ _ _ _ _ => ⟨rfl, rfl, trivial⟩⟩
  | .nm, x, cs, S0, j, K, res, h, hk => by
    obtain ⟨h, rfl⟩ := h
    cases h
    exact ⟨_, _, [], hk, rfl, rfl, ⟨rfl, rfl⟩, fun i p l hp => by simp at hp, fun _ _ _ _ _ _ => ⟨Names.one _, rfl, trivial⟩⟩
  | .unit, x, cs, S0, j, K, res, h, hk => by
    obtain ⟨h, rfl⟩ := h
    cases h
    exact ⟨_, _, [], hk, rfl, rfl, ⟨rfl, rfl⟩, fun i p l hp => by simp at hp, fun _ _ _ _ _ _ => trivial⟩
  | .list t, xs, cs, S0, j, K, res, h, hk => by
    obtain ⟨h, rfl⟩ := h
    have h' := h
    obtain ⟨a, n, c, rfl, _⟩ := h'
    exact ⟨_, _, [], hk, rfl, rfl, ⟨h, rfl⟩, fun i p l hp => by simp at hp, fun _ _ B _ _ _ => ⟨rfl, h.left (B := B) (bo := false), trivial⟩⟩
  | .ols _ _, _, _, _, _, _, _, _, hk => by simp [rowLeave] at hk
  | .olq e t, none, _, _, _, _, _, _, hk => by simp [rowLeave] at hk
  | .olq e t, some xs, cs, S0, j, K, res, h, hk => by
    obtain ⟨l, rfl, rfl, h⟩ := h
    refine ⟨_, _, [l], hk, rfl, by simp, ⟨⟨_, rfl, by simp [hdr, Value.oneCell']⟩, rfl⟩, fun i p l' hp hl' => ?_, fun objs' loc' B hg ho hl' => ⟨by simp [hdr, Value.oneCell'], ⟨by simp [hdr, Value.oneCell'], .inr ⟨hg, 0, .lst false e t xs, ho 0 _ rfl, .inr ⟨rfl, ?_⟩⟩⟩, trivial⟩⟩
    · cases i with
      | zero =>
        simp only [List.getElem?_cons_zero, Option.some.injEq] at hp hl'
        subst hp hl'
        exact ⟨e, t, xs, rfl, h⟩
      | succ i => simp at hp
    · have := hl' 0 l rfl
      simp only [Nat.add_zero] at this
      simp only [viewOk, this]
  | .pair a b, x, cs, S0, j, K, res, h, hk => by
    obtain ⟨c1, c2, S1, S2, rfl, rfl, h1, h2⟩ := h
    obtain ⟨avs1, os1, ls1, hk1, n1, e1, t1, o1, f1⟩ := rowLeave_ok h1 hk
    obtain ⟨avs2, os2, ls2, hk2, n2, e2, t2, o2, f2⟩ := rowLeave_ok h2 hk1
    refine ⟨_, _, ls1 ++ ls2, hk2, by simp [n1, n2], by rw [e1, e2, List.flatMap_append], ⟨c1, c2, [], [], rfl, rfl, t1, t2⟩, fun i p l hp hl => ?_, fun objs' loc' B hg ho hl => (f1 objs' loc' B hg (fun i p hp => ho i p ?_) fun i l hi => hl i l ?_).app (f2 objs' loc' B hg (fun i p hp => ?_) fun i l hi => ?_)⟩
    · by_cases hi : i < os1.length
      · rw [List.getElem?_append_left hi] at hp
        rw [List.getElem?_append_left (by omega)] at hl
        exact o1 i p l hp hl
      · rw [List.getElem?_append_right (by omega)] at hp
        rw [List.getElem?_append_right (by omega), ← n1] at hl
        exact o2 _ p l hp hl
    · rw [List.getElem?_append_left (List.getElem?_eq_some_iff.1 hp).1]; exact hp
    · rw [List.getElem?_append_left (List.getElem?_eq_some_iff.1 hi).1]; exact hi
    · have := ho (os1.length + i) p (by rw [List.getElem?_append_right (by omega), Nat.add_sub_cancel_left]; exact hp)
      rw [← Nat.add_assoc] at this
      exact this
    · have := hl (os1.length + i) l (by rw [List.getElem?_append_right (by omega), n1, Nat.add_sub_cancel_left]; exact hi)
      rw [← Nat.add_assoc] at this
      exact this
omit [Names] in
theorem flatMap_at {f : LV → List Nat} {ls : List LV} (h : (ls.flatMap f).Nodup) {i j : Nat} {a c : LV} {b : Nat} (hi : ls[i]? = some a) (hj : ls[j]? = some c) (ha : b ∈ f a) (hc : b ∈ f c) : i = j := by
  induction ls generalizing i j with
  | nil => simp at hi
  | cons l0 ls ih =>
    rw [List.flatMap_cons, List.nodup_append] at h
    obtain ⟨_, h2, h3⟩ := h
    cases i with
    | zero => cases j with
      | zero => rfl
      | succ j =>
        simp only [List.getElem?_cons_zero, Option.some.injEq] at hi
        subst hi
        simp only [List.getElem?_cons_succ] at hj
        exact absurd rfl (h3 b ha b (List.mem_flatMap.2 ⟨c, List.mem_of_getElem? hj, hc⟩))
    | succ i => cases j with
      | zero =>
        simp only [List.getElem?_cons_zero, Option.some.injEq] at hj
        subst hj
        simp only [List.getElem?_cons_succ] at hi
        exact absurd rfl (h3 b hc b (List.mem_flatMap.2 ⟨a, List.mem_of_getElem? hi, ha⟩))
      | succ j => exact congrArg (· + 1) (ih h2 (by simpa using hi) (by simpa using hj))
theorem good_leave {o : Oper} {t d : Nat} {x : Operand} {av : AV} {ev : Operand → Value} {K : AV → Upd → Option ρ} {K' : Option ρ} {res : ρ} {get : Get} (hT : TOk P T) (ho : o.op = .load t x) (h : SR base S B w0 objs loc F w)
    (hx : Val objs loc F B w av (ev x)) (hg : ∀ s ∈ AV.slots av, get s = look objs s) (hd : get d = look objs d) (hk : leaveK T get d t av K K' = some res) (hK : K' = some res → Good P base S B w0 objs loc F w o ev K res) : Good P base S B w0 objs loc F w o ev K res := by
  unfold leaveK at hk
  split at hk
  case h_2 => exact hK hk
  rename_i r ix
  rw [ob_get (hg r.s (by simp [AV.slots]))] at hk
  split at hk
  case h_2 => exact hK hk
  rename_i z e t0 xs hob
  split at hk
  case h_2 => exact hK hk
  rename_i hq
  split at hk
  case h_2 => cases hk
  rename_i hcond
  simp only [Bool.and_eq_true, Bool.not_eq_true', Bool.or_eq_false_iff] at hcond
  obtain ⟨hagg, hw, hrd, _⟩ := hcond
  have hw := beq_true.1 hw
  have hrd := beq_false.1 hrd
  obtain ⟨b, hb, h0, h1, hv⟩ := RS.found (show Leaf objs loc F B w (.ep r ix 0) (ev x) from hx).2 hob (by simp)
  obtain ⟨hgr, hj⟩ := ob_some hob (by simp)
  have hok : LstOk F w (loc r.s r.j) z e t0 xs := h.obs r.s r.j r.v _ hj
  have hix : ix.toNat < xs.length := by omega
  have hok' := hok
  unfold LstOk LstW at hok'
  rw [hb] at hok'
  obtain ⟨vs, fr, Ss, hheap, hzf, hth, hnc, hcm, hvs, hsub, hnd, hlen, hrows⟩ := hok'
  have hiS : ix.toNat < Ss.length := by omega
  obtain ⟨rs, hrl, hrc, htr⟩ := hrows ix.toNat _ _ (List.getElem?_eq_getElem hix) (List.getElem?_eq_getElem hiS)
  rw [rd_at hix] at hk
  obtain ⟨avs, os, ls, hkk, hn2, hS, hleft, hobs, hleafs⟩ := rowLeave_ok htr hk
  -- the world's step
  obtain ⟨dd, inf, hd', hrow, hi, hs⟩ := at_row (t := t) hT (by have := Ty.hasQ_pos hq; omega)
  have hrun := run_loadAt_mid (P := P) w b ((loc r.s r.j).off + ix.toNat * t0.w) t rs dd (fun j v hj' => by
    have hjl : j < t0.w := by have := (List.getElem?_eq_some_iff.1 hj').1; omega
    have := hrc j hjl
    rw [List.getElem?_drop, Array.getElem?_toList, ← Nat.add_assoc] at this
    rw [cell_heap hheap, this, hj']) hd' (by rw [hrow, hagg]) (by rw [hi, hrl, ← hw]; simp [hs])
  -- the list, its row having left
  have hSat := flatten_at hiS
  have hSet := flatten_set (X := []) hiS
  have hsubm : ∀ c, c ∈ (Ss.set ix.toNat []).flatten → c ∈ (loc r.s r.j).sub := fun c hc => by
    rw [hSet] at hc
    rw [hsub, hSat]
    simp only [List.append_nil, List.mem_append] at hc ⊢
    rcases hc with hc | hc <;> simp [hc]
  have hnd' := hnd
  rw [hsub, hSat] at hnd'
  have hfin : LstOk F w ⟨some b, (loc r.s r.j).off, (loc r.s r.j).cap, (Ss.set ix.toNat []).flatten⟩ z e t0 (xs.set ix.toNat (t0.left xs[ix.toNat])) := by
    refine ⟨vs, fr, Ss.set ix.toNat [], hheap, hzf, hth, by simpa using hnc, hcm, hvs, rfl, ?_, by simpa using hlen, fun q y S0 hy hS0 => ?_⟩
    · show (b :: (Ss.set ix.toNat []).flatten).Nodup
      rw [hSet]
      refine hnd'.sublist (List.Sublist.cons_cons _ (List.Sublist.append ?_ (List.Sublist.refl _)))
      rw [List.append_nil]
      exact List.sublist_append_left _ _
    · by_cases eq : q = ix.toNat
      · subst eq
        rw [List.getElem?_set_self hix, Option.some.injEq] at hy
        rw [List.getElem?_set_self hiS, Option.some.injEq] at hS0
        subst hy hS0
        exact ⟨rs, hrl, hrc, hleft⟩
      · rw [List.getElem?_set_ne (fun e' => eq e'.symm)] at hy hS0
        exact hrows q y S0 hy hS0
  have hown0 : ∀ c, c ∈ (loc r.s r.j).all → ¬ F c ∧ ¬ B c ∧ c < w.heap.size ∧ (base ≤ c ∨ c ∈ S) := fun c hc => h.own _ _ _ _ c hj rfl hc
  have hall' : ∀ c, c ∈ LV.all ⟨some b, (loc r.s r.j).off, (loc r.s r.j).cap, (Ss.set ix.toNat []).flatten⟩ → c ∈ (loc r.s r.j).all := fun c hc => by
    rcases LV.mem_all.1 hc with hc | hc
    · simp only [Option.some.injEq] at hc
      subst hc
      exact LV.mem_blk hb
    · exact LV.mem_sub (hsubm c hc)
  obtain ⟨q1, x1⟩ := h.turn (v' := r.v) (o' := .lst z e t0 (xs.set ix.toNat (t0.left xs[ix.toNat]))) (l' := ⟨some b, (loc r.s r.j).off, (loc r.s r.j).cap, (Ss.set ix.toNat []).flatten⟩) (F' := F) (Step.refl h) hj
    (.inr ⟨rfl, ⟨rfl, by simp, by simp [LV.core, hb]⟩, OKept.of_block fun _ _ => rfl⟩) (fun _ _ _ => rfl) (fun _ hc => hc) (fun _ hc => .inl hc) (fun _ => hfin)
    (fun _ c hc => by obtain ⟨a1, a2, a3, a4⟩ := hown0 c (hall' c hc); exact ⟨a1, a2, a3, a4, .inl ⟨rfl, hall' c hc⟩⟩)
  generalize hobjs1 : put objs r.s ⟨(look objs r.s).g, (look objs r.s).os.set r.j (r.v, .lst z e t0 (xs.set ix.toNat (t0.left xs[ix.toNat])))⟩ = objs1 at q1 x1
  have hl1 : ∀ s, look objs1 s = if r.s = s then ⟨(look objs r.s).g, (look objs r.s).os.set r.j (r.v, .lst z e t0 (xs.set ix.toNat (t0.left xs[ix.toNat])))⟩ else look objs s := fun s => by rw [← hobjs1]; exact look_put _ _ _ _
  -- the row's own lists
  have hmemS : ∀ (i : Nat) (l : LV) (c : Nat), ls[i]? = some l → c ∈ l.all → c ∈ Ss[ix.toNat] := fun i l c hl hc => by
    rw [hS]
    exact List.mem_flatMap.2 ⟨l, List.mem_of_getElem? hl, hc⟩
  have hSin : ∀ c, c ∈ Ss[ix.toNat] → c ∈ (loc r.s r.j).all := fun c hc => LV.mem_sub (by rw [hsub, hSat]; simp [hc])
  have hSnew : ∀ c, c ∈ Ss[ix.toNat] → c ∉ LV.all ⟨some b, (loc r.s r.j).off, (loc r.s r.j).cap, (Ss.set ix.toNat []).flatten⟩ := fun c hc hc2 => by
    obtain ⟨m1, m2⟩ := List.nodup_cons.1 hnd'
    rcases LV.mem_all.1 hc2 with hc2 | hc2
    · simp only [Option.some.injEq] at hc2
      subst hc2
      exact m1 (by simp [hc])
    · rw [hSet, List.append_nil] at hc2
      have := nodup_mid (A := (Ss.take ix.toNat).flatten) (T1 := []) (L := Ss[ix.toNat]) (T2 := []) (D := (Ss.drop (ix.toNat + 1)).flatten) (by simpa using m2) c hc
      exact this (by simpa using hc2)
  have hgd : (look objs1 d).g < (look objs d).g + 1 := by rw [hl1, if_neg hrd]; omega
  have hgetD : ∀ (i : Nat) (l : LV), ls[i]? = some l → ls.getD i LV.nil = l := fun i l hi => by simp [List.getD, hi]
  have hlsof : ∀ (i : Nat) (p : Nat × Ob), os[i]? = some p → ∃ l, ls[i]? = some l := fun i p hp => by
    have := (List.getElem?_eq_some_iff.1 hp).1
    exact ⟨_, List.getElem?_eq_getElem (by omega)⟩
  obtain ⟨q2, x2⟩ := q1.freshG (d := d) (g := (look objs d).g + 1) (os := os) (ls := fun i => ls.getD i LV.nil) (Step.refl q1) hgd (fun _ _ => rfl) (fun _ i v o' hio => by
      obtain ⟨l, hl⟩ := hlsof i _ hio
      rw [hgetD i l hl]
      obtain ⟨e', t', ys, hp, hok'⟩ := hobs i _ l hio hl
      injection hp with hp1 hp2
      subst hp2
      exact hok') (fun i v o' c hio _ hc => by
      obtain ⟨l, hl⟩ := hlsof i _ hio
      rw [hgetD i l hl] at hc
      have hcS := hmemS i l c hl hc
      obtain ⟨a1, a2, a3, a4⟩ := hown0 c (hSin c hcS)
      refine ⟨a1, a2, a3, a4, fun s1 j1 v1 o1 _ hs1 hlv hc1 => ?_⟩
      by_cases e1 : s1 = r.s ∧ j1 = r.j
      · obtain ⟨rfl, rfl⟩ := e1
        rw [Loc.set_same] at hc1
        exact hSnew c hcS hc1
      · rw [Loc.set_ne _ _ _ _ e1] at hc1
        rw [hl1] at hs1
        have hs1' : (look objs s1).os[j1]? = some (v1, o1) := by
          split at hs1
          · rename_i es
            subst es
            rw [List.getElem?_set_ne (fun e' => e1 ⟨rfl, e'.symm⟩)] at hs1
            exact hs1
          · exact hs1
        exact e1 (h.apart _ _ _ _ _ _ _ _ c hs1' hj hlv rfl hc1 (hSin c hcS))) (fun i v o' i' v' o'' c hio hio' _ _ hc hc' => by
      obtain ⟨l, hl⟩ := hlsof i _ hio
      obtain ⟨l', hl'⟩ := hlsof i' _ hio'
      rw [hgetD i l hl] at hc
      rw [hgetD i' l' hl'] at hc'
      have hnS : (ls.flatMap LV.all).Nodup := by
        rw [← hS]
        exact (List.nodup_cons.1 hnd').2.sublist (by rw [List.append_assoc]; exact (List.sublist_append_left _ _).trans (List.sublist_append_right _ _))
      exact flatMap_at hnS hl hl' hc hc')
  have hup : applyUpd objs ((d, ⟨(get d).g + 1, os⟩) :: Upd.same get [] r (.lst z e t0 (xs.set ix.toNat (t0.left xs[ix.toNat])))) = put objs1 d ⟨(look objs d).g + 1, os⟩ := by
    simp only [Upd.same, applyUpd, Upd.at, hg r.s (by simp [AV.slots] : r.s ∈ AV.slots (.ep r ix 0)), hd, setNth_eq]
    rw [← hobjs1, hgr]
  refine ⟨_, _, _, .agg rs.toArray, w, _, F, hkk, ?_, .inl rfl, by rw [hup]; exact q2, by rw [hup]; exact x1.trans x2, More.refl _ _ _, ?_⟩
  · simp only [execOp, ho, Sem.run_bind, hv, Nat.add_zero, hrun, Sem.run_pure, Result.andThen_ok]
  · rw [hup]
    refine ⟨rs.toArray, rfl, ?_⟩
    have hl2 : look (put objs1 d ⟨(look objs d).g + 1, os⟩) d = ⟨(look objs d).g + 1, os⟩ := by rw [look_put, if_pos rfl]
    refine hleafs _ _ B (by rw [hl2, hd]) (fun i p hp => by rw [hl2, Nat.zero_add]; exact hp) (fun i l hl => ?_)
    rw [Nat.zero_add, Loc.slot_same]
    exact hgetD i l hl
end
end Go.Eng
end

section
namespace Go.Eng
variable [Names]
section
variable {P : Program} {T : TT} {base : Nat} {S : List Nat} {B F : Nat → Prop} {w0 : World} {objs : Upd} {loc : Loc} {w : World} {ρ : Type}
theorem rows_cells {t : Ty} (hpos : 0 < t.w) {b o : Nat} {xs : List t.den} (hr : RowsAt (IRep F w t) w t.w b o xs) : ∃ news : List Value, news.length = xs.length * t.w ∧ (∀ j u, news[j]? = some u → w.cell? ⟨b, o + j, none⟩ = some u) ∧ (∀ u ∈ news, u.oneCell' = true) ∧
    RowsIn (IRep F w t) t.w news xs := by
  have key : ∀ j, j < xs.length * t.w → ∃ u, w.cell? ⟨b, o + j, none⟩ = some u ∧ u.oneCell' = true := by
    intro j hj
    have hd : j / t.w < xs.length := Nat.div_lt_of_lt_mul (by rw [Nat.mul_comm]; exact hj)
    obtain ⟨rs, h1, h2, h3⟩ := hr (j / t.w) hd
    have hm : j % t.w < rs.length := by rw [h1]; exact Nat.mod_lt _ hpos
    refine ⟨rs[j % t.w], ?_, h3.one _ (List.getElem_mem hm)⟩
    have := h2 (j % t.w) _ (List.getElem?_eq_getElem hm)
    rw [Nat.add_assoc, Nat.mul_comm, Nat.div_add_mod] at this
    exact this
  have hget : ∀ j, ((List.range (xs.length * t.w)).map fun j => (w.cell? ⟨b, o + j, none⟩).getD undef)[j]? = if j < xs.length * t.w then w.cell? ⟨b, o + j, none⟩ else none := by
    intro j
    rw [List.getElem?_map]
    by_cases hj : j < xs.length * t.w
    · rw [if_pos hj, List.getElem?_range hj]
      obtain ⟨u, hu, _⟩ := key j hj
      simp [hu]
    · rw [if_neg hj, List.getElem?_eq_none (by simp; omega)]
      rfl
  refine ⟨(List.range (xs.length * t.w)).map fun j => (w.cell? ⟨b, o + j, none⟩).getD undef, by simp, fun j u hj => ?_, fun u hu => ?_, fun i hi => ?_⟩
  · rw [hget] at hj
    split at hj
    · exact hj
    · cases hj
  · obtain ⟨j, hj, rfl⟩ := List.mem_map.1 hu
    obtain ⟨u, hu, h1⟩ := key j (by simpa using hj)
    simpa [hu] using h1
  · obtain ⟨rs, h1, h2, h3⟩ := hr i hi
    refine ⟨rs, h1, fun j hj => ?_, h3⟩
    have hij : i * t.w + j < xs.length * t.w := by
      calc i * t.w + j < i * t.w + t.w := by omega
        _ = (i + 1) * t.w := by rw [Nat.add_mul, Nat.one_mul]
        _ ≤ xs.length * t.w := Nat.mul_le_mul_right _ hi
    rw [hget, if_pos hij, List.getElem?_eq_getElem (by omega), ← Nat.add_assoc]
    exact h2 j _ (List.getElem?_eq_getElem (by omega))
omit [Names] in
theorem RowsIn.app {α : Type} {R : α → List Value → Prop} {width : Nat} {vs us : List Value} {xs ys : List α} (h : RowsIn R width vs xs) (k : RowsIn R width us ys) (hl : vs.length = xs.length * width) : RowsIn R width (vs ++ us) (xs ++ ys) := by
  intro i hi
  rw [List.length_append] at hi
  by_cases hx : i < xs.length
  · obtain ⟨rs, h1, h2, h3⟩ := h i hx
    refine ⟨rs, h1, fun j hj => ?_, by rw [List.getElem_append_left hx]; exact h3⟩
    have hij : i * width + j < xs.length * width := by
      calc i * width + j < i * width + width := by omega
        _ = (i + 1) * width := by rw [Nat.add_mul, Nat.one_mul]
        _ ≤ xs.length * width := Nat.mul_le_mul_right _ hx
    rw [List.getElem?_append_left (by omega)]
    exact h2 j hj
  · obtain ⟨rs, h1, h2, h3⟩ := k (i - xs.length) (by omega)
    refine ⟨rs, h1, fun j hj => ?_, by rw [List.getElem_append_right (by omega)]; exact h3⟩
    have : i * width = xs.length * width + (i - xs.length) * width := by rw [← Nat.add_mul]; congr 1; omega
    rw [List.getElem?_append_right (by omega), ← h2 j hj, hl]
    congr 1
    omega
omit [Names] in
theorem RowsIn.take {α : Type} {R : α → List Value → Prop} {width n : Nat} {vs : List Value} {xs : List α} (h : RowsIn R width vs xs) (hn : xs.length = n) : RowsIn R width (vs.take (n * width)) xs := by
  intro i hi
  obtain ⟨rs, h1, h2, h3⟩ := h i hi
  refine ⟨rs, h1, fun j hj => ?_, h3⟩
  have hij : i * width + j < n * width := by
    calc i * width + j < i * width + width := by omega
      _ = (i + 1) * width := by rw [Nat.add_mul, Nat.one_mul]
      _ ≤ n * width := Nat.mul_le_mul_right _ (by omega)
  rw [List.getElem?_take_of_lt hij]
  exact h2 j hj
omit [Names] in
theorem RowsIn.untake {α : Type} {R : α → List Value → Prop} {width n : Nat} {vs : List Value} {xs : List α} (h : RowsIn R width (vs.take (n * width)) xs) (hn : xs.length = n) : RowsIn R width vs xs := by
  intro i hi
  obtain ⟨rs, h1, h2, h3⟩ := h i hi
  refine ⟨rs, h1, fun j hj => ?_, h3⟩
  have hij : i * width + j < n * width := by
    calc i * width + j < i * width + width := by omega
      _ = (i + 1) * width := by rw [Nat.add_mul, Nat.one_mul]
      _ ≤ n * width := Nat.mul_le_mul_right _ (by omega)
  rw [← h2 j hj, List.getElem?_take_of_lt hij]
omit [Names] in
theorem RowsIn.mono {α : Type} {R R' : α → List Value → Prop} {width : Nat} {vs : List Value} {xs : List α} (h : RowsIn R width vs xs) (hR : ∀ x rs, R x rs → R' x rs) : RowsIn R' width vs xs := fun i hi => by
  obtain ⟨rs, h1, h2, h3⟩ := h i hi
  exact ⟨rs, h1, h2, hR _ _ h3⟩
omit [Names] in
theorem run_first {size n : Nat} {a : Addr} {c : Nat} {xs : List Value} (hl : xs.length = n * size) (hc : ∀ j u, xs[j]? = some u → w.cell? (a.add j) = some u) : (Builtin.firstCells size n (.slice (some a) n c)).run P w = .ok xs.toArray w :=
  run_firstCells_some (P := P) w size n a n c xs hl hc
omit [Names] in
theorem rowsIn_over {α : Type} {R : α → List Value → Prop} {width hi : Nat} {vs us : List Value} {xs ys : List α} (h : RowsIn R width vs xs) (k : RowsIn R width us ys) (hhi : hi ≤ xs.length) (hlen : hi * width + us.length ≤ vs.length) (hul : us.length = ys.length * width) :
    RowsIn R width (splice vs (hi * width) us) (List.take hi xs ++ (ys ++ List.drop (hi + ys.length) xs)) := by
  intro i hi'
  simp only [List.length_append, List.length_take, List.length_drop] at hi'
  by_cases h1 : i < hi
  · obtain ⟨rs, a1, a2, a3⟩ := h i (by omega)
    refine ⟨rs, a1, fun j hj => ?_, ?_⟩
    · have : (i + 1) * width ≤ hi * width := Nat.mul_le_mul_right _ h1
      rw [Nat.add_mul] at this
      rw [splice_get _ hlen, if_pos (by omega), a2 j hj]
    · rw [List.getElem_append_left (by simp; omega), List.getElem_take]
      exact a3
  · by_cases h2 : i < hi + ys.length
    · obtain ⟨rs, a1, a2, a3⟩ := k (i - hi) (by omega)
      refine ⟨rs, a1, fun j hj => ?_, ?_⟩
      · have e1 : i * width = hi * width + (i - hi) * width := by rw [← Nat.add_mul]; congr 1; omega
        have e2 : (i - hi + 1) * width ≤ ys.length * width := Nat.mul_le_mul_right _ (by omega)
        rw [Nat.add_mul] at e2
        rw [splice_get _ hlen, if_neg (by omega), if_pos (by omega), ← a2 j hj]
        congr 1
        omega
      · rw [List.getElem_append_right (by simp; omega), List.getElem_append_left (by simp; omega)]
        have : ∀ m (hm : m < ys.length), m = i - hi → R ys[m] rs := fun m hm e => by subst e; exact a3
        exact this _ _ (by simp only [List.length_take]; omega)
    · obtain ⟨rs, a1, a2, a3⟩ := h i (by omega)
      refine ⟨rs, a1, fun j hj => ?_, ?_⟩
      · have e1 : (hi + ys.length) * width ≤ i * width := Nat.mul_le_mul_right _ (by omega)
        rw [Nat.add_mul] at e1
        rw [splice_get _ hlen, if_neg (by omega), if_neg (by omega), a2 j hj]
      · rw [List.getElem_append_right (by simp; omega), List.getElem_append_right (by simp; omega), List.getElem_drop]
        have : ∀ m (hm : m < xs.length), m = i → R xs[m] rs := fun m hm e => by subst e; exact a3
        refine this _ _ ?_
        simp only [List.length_take]
        omega
omit [Names] in
theorem run_sw (b o : Nat) {news : List Value} {cur : Array Value} {e : TypeId} {fr : Nat × Nat} (hb : w.heap[b]? = some (.cells cur e fr)) (hth : Thaw fr cur.size) (hle : o + news.length ≤ cur.size) (h1 : ∀ u ∈ news, u.oneCell' = true) :
    (storeCells ⟨b, o, none⟩ news).run P w = .ok () (w.setCells b o news) := by
  have hst := run_storeCells_cells (P := P) b o news 0 w (fun j hj => by
    rw [cell_heap hb, Array.getElem?_eq_getElem (by omega)]; rfl) (fun j hj => by
    simp only [World.frozen?, hb]
    rcases hth with rfl | hth
    · simp
    · simp
      omega) h1
  simpa only [Nat.add_zero] using hst
def AppSrc (P : Program) (F : Nat → Prop) (w : World) (et : Ty) (tx : Nat) (sv : Value) (ys : List et.den) : Prop := ∃ news, Go.Src P et.w tx sv ys.length news w ∧ RowsIn (IRep F w et) et.w news ys
theorem appSrc_slice {et : Ty} {tx e' : Nat} {ys : List et.den} {a : Option Addr} {m c : Nat} (hk : P.underlying tx = some (.slice e')) (hpos : 0 < et.w) (hm : ys.length = m) (hr : 0 < m → ∃ b o, a = some ⟨b, o, none⟩ ∧ b < w.heap.size ∧ RowsAt (IRep F w et) w et.w b o ys) : AppSrc P F w et tx (.slice a m c) ys := by
  subst hm
  by_cases h0 : 0 < ys.length
  · obtain ⟨b, o, rfl, hlt, hr⟩ := hr h0
    obtain ⟨news, g1, g2, g3, g4⟩ := rows_cells hpos hr
    exact ⟨news, Go.Src.ofSlice w hk _ _ _ news g1 (fun j u hj => by rw [Addr.add_mid]; exact g2 j u hj) g3, g4⟩
  · have hy : ys = [] := List.eq_nil_of_length_eq_zero (by omega)
    subst hy
    refine ⟨[], ?_, fun i hi => by simp at hi⟩
    cases a with
    | none => exact Go.Src.ofNil w hk c
    | some a => exact Go.Src.ofSlice w hk a 0 c [] (by simp) (fun j u hj => by simp at hj) (by simp)
theorem appSrc_str {tx : Nat} {s : ByteArray} (hk : P.underlying tx = some .string) : AppSrc P F w (.int .u8) tx (.string s) (bytesOf s) := by
  have hl : (bytesOf s).length = s.size := by simp only [bytesOf, List.length_map, Array.length_toList]; rfl
  refine ⟨byteCells s, by rw [hl]; exact Go.Src.ofString w hk s, fun i hi => ⟨[.int .u8 (bytesOf s)[i]], rfl, fun j hj => ?_, rfl⟩⟩
  have hj : j = 0 := by simp only [Ty.w] at hj; omega
  subst hj
  simp only [Ty.w, Nat.mul_one, Nat.add_zero, byteCells, bytesOf, List.getElem?_map, List.getElem_map, List.getElem?_cons_zero]
  have hi' : i < s.data.toList.length := by rw [hl] at hi; exact hi
  rw [List.getElem?_eq_getElem hi']
  rfl
theorem run_app {t tx ty e n : Nat} {et : Ty} {inf : TypeInfo} {z v sv : Value} {zf : Bool} {l : LV} {xs ys : List et.den} (hu : P.underlying t = some (.slice e)) (hi : P.info? e = some inf) (hsz : inf.size = et.w) (hto : et.hasO = false) (hpos : 0 < et.w) (hby : inf.bytes ≤ 512) (hz : inf.zero = some z) (hzs : z.cells.size = et.w)
    (hv : v = hdr l n) (hn : xs.length = n) (hok : LstOk F w l zf e et xs) (hcap : n + ys.length ≤ capMax) (hsv : AppSrc P F w et tx sv ys) (hF : ∀ b, F b → b < w.heap.size ∧ l.blk ≠ some b) :
    ∃ l' w', (Builtin.append_ #[t, tx] ty #[v, sv]).run P w = .ok (hdr l' (n + ys.length)) w' ∧ LstOk F w' l' zf e et (xs ++ ys) ∧ w.grownBy w' l.blk ∧ (l'.blk = l.blk ∨ l'.blk = some w.heap.size) ∧ ∀ b, l'.blk = some b → b < w'.heap.size := by
  obtain ⟨news, hs, g4⟩ := hsv
  obtain ⟨m, hm⟩ : ∃ m, ys.length = m := ⟨_, rfl⟩
  rw [hm, ← hsz] at hs
  have hself : w.grownBy w l.blk := ⟨rfl, rfl, rfl, Nat.le_refl _, fun _ _ _ => rfl⟩
  have hb : (n + m) * inf.bytes ≤ 140737488355328 := by
    calc (n + m) * inf.bytes ≤ 274877906944 * 512 := Nat.mul_le_mul (by simp only [capMax] at hcap; omega) hby
      _ ≤ 140737488355328 := by decide
  have h63 : n + m ≤ maxLen := by simp only [capMax] at hcap; simp only [maxLen]; omega
  have hok0 := hok
  obtain ⟨hsub, hok⟩ := hok.old hto
  have hlt0 : ∀ b, l.blk = some b → b < w.heap.size := fun b hbl => by
    rw [hbl] at hok
    obtain ⟨vs, fr, hh, _⟩ := hok
    exact (Array.getElem?_eq_some_iff.1 hh).1
  by_cases h0 : 0 < m
  case neg =>
    have hm0 : m = 0 := by omega
    subst hm0
    have hy : ys = [] := List.eq_nil_of_length_eq_zero hm
    subst hy
    have hnc : n ≤ l.cap := by rw [← hn]; exact LstOk.cap_le hok0
    refine ⟨l, w, ?_, by simpa using hok0, hself, .inl rfl, hlt0⟩
    have hn0 : news = [] := List.eq_nil_of_length_eq_zero (by rw [hs.newsLen, Nat.zero_mul])
    subst hn0
    rw [hv]
    exact run_append_nothing w t tx ty e inf hu hi _ n l.cap hnc sv hs
  have g1 : news.length = ys.length * et.w := by rw [hs.newsLen, hm, hsz]
  have g3 := hs.one
  have hnl := hs.newsLen
  -- what the growing arm leaves
  have grown : ∀ (old : Nat) (olds : List Value), olds.length = n * et.w → RowsIn (IRep F w et) et.w olds xs → n + m ≤ grownCap w (n + m) old e →
      LstOk F (w.drew.alloc (.cells ((olds ++ news).toArray ++ Builtin.zeroCells z.cells (grownCap w (n + m) old e - (n + m))) e)) ⟨some w.heap.size, 0, grownCap w (n + m) old e, []⟩ zf e et (xs ++ ys) ∧
      w.grownBy (w.drew.alloc (.cells ((olds ++ news).toArray ++ Builtin.zeroCells z.cells (grownCap w (n + m) old e - (n + m))) e)) l.blk := by
    intro old olds hol hro hge
    have hsame : Same F w (w.drew.alloc (.cells ((olds ++ news).toArray ++ Builtin.zeroCells z.cells (grownCap w (n + m) old e - (n + m))) e)) := fun b hb => alloc_old w.drew _ b (hF b hb).1
    have hcm : grownCap w (n + m) old e ≤ maxLen := grownCap_le_maxLen w (n + m) old e h63
    refine ⟨LstOld.ok ⟨rfl, _, (0, 0), alloc_new w.drew _, fun _ => rfl, .inl rfl, by rw [List.length_append, hn, hm]; exact hge, hcm, .inr ?_, ?_⟩, ⟨rfl, rfl, rfl, by simp, fun k hk _ => alloc_old w.drew _ k hk⟩⟩
    · simp only [Array.size_append, List.size_toArray, List.length_append, size_zeroCells, hzs, hol, hnl, hsz, ← Nat.add_mul, Nat.zero_add]
      congr 1
      omega
    · rw [List.drop_zero]
      have hap := hro.app g4 (by rw [hol, hn])
      have hap : RowsIn (IRep F w et) et.w (olds ++ news ++ (Builtin.zeroCells z.cells (grownCap w (n + m) old e - (n + m))).toList) (xs ++ ys) := fun i hi => by
        obtain ⟨rs, p1, p2, p3⟩ := hap i hi
        refine ⟨rs, p1, fun j hj => ?_, p3⟩
        rw [List.getElem?_append_left, p2 j hj]
        have : (i + 1) * et.w ≤ (xs ++ ys).length * et.w := Nat.mul_le_mul_right _ hi
        rw [Nat.add_mul, List.length_append, hn, hm] at this
        rw [List.length_append, hol, hnl, hsz, ← Nat.add_mul]
        omega
      have := hap.mono fun x rs hh => hh.mono (fun _ hb => hb) hsame
      simpa only [Array.toList_append] using this
  subst hv
  cases hbl : l.blk with
  | none =>
    rw [hbl] at hok
    obtain ⟨rfl, hc⟩ := hok
    have hn0 : n = 0 := by simpa using hn.symm
    subst hn0
    have hr := run_append_grow_src (P := P) w t tx ty e inf z hu hi hz none 0 0 [] (run_firstCells_none w.drew inf.size 0 0 0) sv m news hs (by omega) (by simp only [maxLen] at h63; omega) (growslice_fits (by omega) hb)
    obtain ⟨k1, k2⟩ := grown 0 [] (by simp) (fun i hi => by simp at hi) (grownCap_ge w _ 0 e)
    simp only [Nat.zero_add, List.nil_append] at k1 k2 hr ⊢
    rw [hbl] at k2
    refine ⟨_, _, ?_, k1, k2, .inr rfl, fun q hq => by cases hq; simp⟩
    rw [show hdr l 0 = .slice none 0 0 by simp [hdr, hbl, hc], hm]
    exact hr
  | some g =>
    rw [hbl] at hok
    obtain ⟨vs, fr, hh, hzf, hth, hxc, hcm, hvs, hrows⟩ := hok
    by_cases hroom : n + m ≤ l.cap
    · have hvs' : vs.size = l.off + l.cap * et.w := by rcases hvs with h | h <;> omega
      have hfit : n * et.w + news.length ≤ l.cap * et.w := by rw [hnl, hsz, ← Nat.add_mul]; exact Nat.mul_le_mul_right _ hroom
      have hst := run_sw (P := P) (w := w) g (l.off + n * et.w) (news := news) hh hth (by omega) g3
      have hrun : (Builtin.append_ #[t, tx] ty #[hdr l n, sv]).run P w = .ok (hdr l (n + m)) (w.setCells g (l.off + n * et.w) news) := by
        have hst' : (storeCells ((⟨g, l.off, none⟩ : Addr).add (n * inf.size)) news).run P w = .ok () (w.setCells g (l.off + n * et.w) news) := by rw [hsz, add_plain]; exact hst
        rcases hs.kind with ⟨e', hk⟩ | hk <;> simp [Builtin.append_, run_underlying hu, run_underlying hk, sizeOf, typeInfo, hi, hs.len, hroom, hs.cells, hdr, hbl, hst']
      obtain ⟨c1, c2, c3, c4, c5⟩ := setCells_rest g news (l.off + n * et.w) w
      have hnew := setCells_heap g news (l.off + n * et.w) w vs hh
      have hsame : Same F w (w.setCells g (l.off + n * et.w) news) := fun b hb => c5 b (fun e => (hF b hb).2 (by rw [e, hbl]))
      refine ⟨l, _, by rw [hm]; exact hrun, LstOld.ok ⟨hsub, ?_⟩, ⟨c1, c2, c3, by omega, fun k _ hk => c5 k (fun e => hk (by rw [e]))⟩, .inl hbl, fun q hq => by rw [c4]; exact hlt0 q hq⟩
      rw [hbl]
      refine ⟨_, fr, hnew, hzf, ?_, by rw [List.length_append, hn, hm]; exact hroom, hcm, ?_, ?_⟩
      · rw [List.size_toArray, setVals_len]; simpa using hth
      · rw [List.size_toArray, setVals_len]; simpa using hvs
      · have hlen : l.off + n * et.w + news.length ≤ vs.toList.length := by rw [Array.length_toList (xs := vs), hvs', Nat.add_assoc]; exact Nat.add_le_add_left hfit _
        rw [List.toList_toArray, setVals_splice hlen, splice_drop hlen]
        have hrows' : RowsIn (IRep F (w.setCells g (l.off + n * et.w) news) et) et.w (vs.toList.drop l.off) xs := hrows.mono fun x rs hx => hx.mono (fun _ hb => hb) hsame
        have g4' : RowsIn (IRep F (w.setCells g (l.off + n * et.w) news) et) et.w news ys := g4.mono fun x rs hx => hx.mono (fun _ hb => hb) hsame
        have := rowsIn_over (hi := n) hrows' g4' (Nat.le_of_eq hn.symm) (by rw [List.length_drop, Array.length_toList (xs := vs), hvs', Nat.add_sub_cancel_left]; exact hfit) g1
        rw [List.take_of_length_le (l := xs) (Nat.le_of_eq hn), List.drop_eq_nil_of_le (as := xs) (by rw [hn]; exact Nat.le_add_right _ _), List.append_nil] at this
        exact this
    · obtain ⟨olds, o1, o2, o3⟩ : ∃ olds : List Value, olds.length = n * et.w ∧ (∀ j u, olds[j]? = some u → w.cell? ((⟨g, l.off, none⟩ : Addr).add j) = some u) ∧ RowsIn (IRep F w et) et.w olds xs := by
        by_cases hc0 : l.cap = 0
        · have hn0 : n = 0 := by omega
          subst hn0
          have : xs = [] := List.eq_nil_of_length_eq_zero hn
          subst this
          exact ⟨[], by simp, fun j u hj => by simp at hj, fun i hi => by simp at hi⟩
        · have hvs' : vs.size = l.off + l.cap * et.w := hvs.resolve_left hc0
          have hle : n * et.w ≤ l.cap * et.w := Nat.mul_le_mul_right _ (by omega)
          refine ⟨(vs.toList.drop l.off).take (n * et.w), by rw [List.length_take, List.length_drop, Array.length_toList]; omega, fun j u hj => ?_, hrows.take hn⟩
          rw [List.getElem?_take] at hj
          split at hj
          · rw [List.getElem?_drop, Array.getElem?_toList] at hj
            rw [Addr.add_mid, cell_heap hh]
            exact hj
          · cases hj
      have hr := run_append_grow_src (P := P) w t tx ty e inf z hu hi hz (some ⟨g, l.off, none⟩) n l.cap olds (run_firstCells_some w.drew inf.size n _ n l.cap olds (by rw [o1, hsz]) (by simpa using o2)) sv m news hs (by omega) (by simp only [maxLen] at h63; omega) (growslice_fits (by omega) hb)
      obtain ⟨k1, k2⟩ := grown l.cap olds o1 o3 (grownCap_ge w _ l.cap e)
      rw [hbl] at k2
      refine ⟨_, _, ?_, k1, k2, .inr rfl, fun q hq => by cases hq; simp⟩
      rw [show hdr l n = .slice (some ⟨g, l.off, none⟩) n l.cap by simp [hdr, hbl], hm]
      exact hr
omit [Names] in
theorem loc_same (loc : Loc) (s j : Nat) : loc.set s j (loc s j) = loc := by
  funext s' j'
  by_cases e : s' = s ∧ j' = j
  · rw [e.1, e.2, Loc.set_same]
  · rw [Loc.set_ne _ _ _ _ e]
theorem good_append {o : Oper} {as : Array Operand} {ts : Array TypeId} {t tx d e : Nat} {ty : Ty} {s x : AV} {eA : Operand → AV} {ev : Operand → Value} {K : AV → Upd → Option ρ} {res : ρ} {get : Get} (hT : TOk P T) (ho : o.op = .call ⟨.builtin .append, as, ts⟩) (h : SR base S B w0 objs loc F w)
    (hx : ∀ y ∈ as, Val objs loc F B w (eA y) (ev y)) (has : as.toList.map eA = [s, x]) (hts : ts.toList = [t, tx]) (hkind : (T.at t).kind = .slice e ty) (hgs : ∀ q ∈ AV.slots s, get q = look objs q) (hgx : ∀ q ∈ AV.slots x, get q = look objs q) (hd : get d = look objs d)
    (hto : ty.hasO = false) (hns : appOk x t tx (T.at tx).kind = true) (hk : rowsOf get ty x (fun ys => appendK get d e ty capMax s ys K) = some res) : Good P base S B w0 objs loc F w o ev K res := by
  have hts' : ts = #[t, tx] := by apply Array.ext'; simpa using hts
  subst hts'
  obtain ⟨so, xo, rfl, rfl, rfl⟩ : ∃ a b, as = #[a, b] ∧ eA a = s ∧ eA b = x := by
    cases hl : as.toList with
    | nil => rw [hl] at has; simp at has
    | cons a l =>
      cases l with
      | nil => rw [hl] at has; simp at has
      | cons b l =>
        cases l with
        | nil => rw [hl] at has; simp at has; exact ⟨a, b, by apply Array.ext'; simpa using hl, has.1, has.2⟩
        | cons _ _ => rw [hl] at has; simp at has
  have hs := hx so (by simp)
  have hxv := hx xo (by simp)
  obtain ⟨hu, inf, z, hie, hsz, hpos, hbytes, hz, hzs, _⟩ := (hT t).slice e ty hkind
  obtain ⟨ys, hk, hr⟩ := rowsOf_ok h hto hk hxv hgx
  have hsv : AppSrc P F w ty tx (ev xo) ys := by
    unfold appOk at hns
    rcases hr with ⟨a, n, c, hcv, hne, hl, hnc, hrow⟩ | ⟨s, he, hcv, e1, e2⟩
    · have ht : t = tx := by
        split at hns
        · rename_i z he _; exact absurd he (hne z)
        · cases hns
        · exact beq_true.1 hns
      rw [hcv]
      exact appSrc_slice (by rw [← ht]; exact hu) hpos hl hrow
    · rw [he] at hns
      cases hkk : (T.at tx).kind with
      | str =>
        subst e1
        subst e2
        rw [hcv]
        exact appSrc_str ((hT tx).str hkk)
      | _ => simp [hkk] at hns
  have run : ∀ {v' w'}, (Builtin.append_ #[t, tx] o.type #[ev so, ev xo]).run P w = .ok v' w' → (execOp ev o).run P w = .ok (.value v') w' := by
    intro v' w' hr
    rw [run_builtin ho]
    simp [builtin, hr]
  unfold appendK at hk
  split at hk
  · rename_i hsn
    rw [hsn] at hs
    have hs : ev so = .slice none 0 0 := hs
    split at hk
    case isFalse => cases hk
    rename_i hcap
    obtain ⟨l', w', k1, k2, k4, k5, k6⟩ := run_app (P := P) (F := F) (w := w) (ty := o.type) (v := ev so) (n := 0) (zf := false) (l := LV.nil) (xs := ([] : List ty.den)) (ys := ys) hu hie hsz hto hpos hbytes hz hzs (by rw [hs]; rfl) rfl (LstOld.ok ⟨rfl, rfl, rfl⟩) (by simpa using hcap) hsv (fun b hb => ⟨h.fro b hb, by simp [LV.nil]⟩)
    simp only [newOb] at hk
    rw [List.nil_append] at k2
    rw [Nat.zero_add] at k1
    have olds : ∀ b, b < w.heap.size → w'.heap[b]? = w.heap[b]? := fun b hb => k4.block b hb (by simp [LV.nil])
    have st := Step.of_olds h olds k4.os k4.tape k4.output k4.size
    have key := h.fresh (d := d) (g := (look objs d).g + 1) (os := [(0, .lst false e ty ys)]) (ls := fun _ => l') st (by omega) olds (fun _ j v o' hj => by
      cases j with
      | zero => simp only [List.getElem?_cons_zero, Option.some.injEq, Prod.mk.injEq] at hj; obtain ⟨rfl, rfl⟩ := hj; exact k2
      | succ j => simp at hj) (fun j v o' b hj _ hb => by
        have hb := LV.blk_of (k2.old hto).1 hb
        have := k6 b hb
        rcases k5 with k5 | k5
        · rw [k5] at hb; cases hb
        · rw [k5] at hb; cases hb; omega) (fun j v o' j' v' o'' b hj hj' _ _ _ _ => by
        cases j with
        | zero => cases j' with
          | zero => rfl
          | succ j' => simp at hj'
        | succ j => simp at hj)
    rw [hd] at hk
    refine ⟨_, _, _, _, w', _, F, hk, run k1, .inl rfl, key.1, key.2, More.refl _ _ _, ⟨rfl, ?_⟩⟩
    refine .inr ⟨?_, 0, .lst false e ty ys, ?_, .inr ⟨rfl, ?_⟩⟩
    · simp [applyUpd, look_put]
    · simp [applyUpd, look_put]
    · simp only [viewOk, Loc.slot, if_true]
  · rename_i _ r hsr
    rw [hsr] at hs hgs
    have hgr : get r.s = look objs r.s := hgs r.s (by simp [AV.slots])
    rw [ob_get hgr] at hk
    split at hk
    case h_2 => cases hk
    rename_i zf e' t' xs hob
    split at hk
    case isFalse => cases hk
    rename_i ht
    subst ht
    split at hk
    case h_2 => cases hk
    rename_i he
    have he := beq_true.1 he
    subst he
    split at hk
    case isFalse => cases hk
    rename_i hcap
    obtain ⟨hg, hj⟩ := ob_some hob (by simp)
    have hv : ev so = hdr (loc r.s r.j) xs.length := RS.found (hs : Leaf objs loc F B w (.ol r .whole) (ev so)).2 hob (by simp)
    have hok : LstOk F w (loc r.s r.j) zf e' t' xs := h.obs _ _ _ _ hj
    have hFn : ∀ b, F b → (loc r.s r.j).blk ≠ some b := fun b hb e => (h.own _ _ _ _ b hj rfl (LV.mem_blk e)).1 hb
    have hBn : ∀ b, B b → (loc r.s r.j).blk ≠ some b := fun b hb e => (h.own _ _ _ _ b hj rfl (LV.mem_blk e)).2.1 hb
    obtain ⟨l', w', k1, k2, k4, k5, k6⟩ := run_app (P := P) (ty := o.type) (v := ev so) (xs := xs) hu hie hsz hto hpos hbytes hz hzs hv rfl hok hcap hsv (fun b hb => ⟨h.fro b hb, hFn b hb⟩)
    have hsame : Same F w w' := fun b hb => k4.block b (h.fro b hb) (fun e => hFn b hb e.symm)
    have st : Step base S w0 B F w w' := ⟨hsame, fun b hb => k4.block b (Nat.lt_of_lt_of_le (h.bor b hb).1 h.size.2) (fun e => hBn b hb e.symm), k4.os, k4.tape, k4.output, k4.size, fun b hb hS => k4.block b (Nat.lt_of_lt_of_le hb h.size.2) (fun e => by
      rcases (h.own _ _ _ _ b hj rfl (LV.mem_blk e.symm)).2.2.2 with h1 | h1
      · omega
      · exact hS h1)⟩
    have key := h.turn (F' := F) (l' := l') (v' := r.v + 1) (o' := .lst zf e' t' (xs ++ ys)) st hj (.inl (by omega)) (fun b hb hlt => k4.block b hlt (fun e => hb rfl (LV.mem_blk e.symm))) (fun _ h => h) (fun _ h => .inl h) (fun _ => k2) (fun _ b hb => by
      have hb := LV.blk_of (k2.old hto).1 hb
      have hlt := k6 b hb
      rcases k5 with k5 | k5
      · rw [hb] at k5
        obtain ⟨a1, a2, a3, a4⟩ := h.own _ _ _ _ b hj rfl (LV.mem_blk k5.symm)
        exact ⟨a1, a2, hlt, a4, .inl ⟨rfl, LV.mem_blk k5.symm⟩⟩
      · rw [hb] at k5
        cases k5
        refine ⟨fun hF => absurd (h.fro _ hF) (by omega), fun hB => absurd (h.bor _ hB).1 (by have := h.size.2; omega), hlt, .inl h.size.2, .inr (Nat.le_refl _)⟩)
    refine ⟨_, _, _, _, w', loc.set r.s r.j l', F, hk, run k1, .inl rfl, ?_, ?_, More.refl _ _ _, ⟨rfl, ?_⟩⟩
    · simp only [Upd.next, applyUpd, Upd.at, hgr, hg, setNth_eq]; exact key.1
    · simp only [Upd.next, applyUpd, Upd.at, hgr, hg, setNth_eq]; exact key.2
    · refine .inr ⟨?_, r.v + 1, .lst zf e' t' (xs ++ ys), ?_, .inr ⟨rfl, ?_⟩⟩
      · simp [Upd.next, applyUpd, look_put]
      · have hjl : r.j < (look objs r.s).os.length := (List.getElem?_eq_some_iff.1 hj).1
        simp [Upd.next, applyUpd, look_put, Upd.at, hgr, setNth_eq, hjl]
      · simp only [viewOk, Loc.set_same, List.length_append]
  · rename_i _ r lo hi hsr
    rw [hsr] at hs hgs
    have hgr : get r.s = look objs r.s := hgs r.s (by simp [AV.slots])
    rw [ob_get hgr] at hk
    split at hk
    case h_2 => cases hk
    rename_i zf e' t' xs hob
    split at hk
    case isFalse => cases hk
    rename_i ht
    subst ht
    split at hk
    case h_2 => cases hk
    rename_i he
    have he := beq_true.1 he
    subst he
    split at hk
    case isFalse => cases hk
    rename_i hcap
    obtain ⟨hcx, hcap⟩ := hcap
    obtain ⟨hg, hj⟩ := ob_some hob (by simp)
    obtain ⟨v0, v1, v2, v3, oo, hv, hv4⟩ := RS.found (hs : Leaf objs loc F B w (.ol r (.sub lo hi)) (ev so)).2 hob (by simp)
    have hlh : lo.toNat + (hi - lo).toNat = hi.toNat := by omega
    have hok : LstOk F w (loc r.s r.j) zf e' t' xs := h.obs _ _ _ _ hj
    have hxc := hok.cap_le
    have hFn : ∀ b, F b → (loc r.s r.j).blk ≠ some b := fun b hb e => (h.own _ _ _ _ b hj rfl (LV.mem_blk e)).1 hb
    obtain ⟨hsub, hok⟩ := hok.old hto
    -- the part that is appended to, as an object of its own
    obtain ⟨l1, xs1, hl1, hx1, hok1, hb1⟩ : ∃ (l1 : LV) (xs1 : List t'.den), ev so = hdr l1 (hi - lo).toNat ∧ xs1.length = (hi - lo).toNat ∧ LstOk F w l1 zf e' t' xs1 ∧ l1.blk = (loc r.s r.j).blk ∧ l1.cap = (loc r.s r.j).cap - lo.toNat := by
      refine ⟨⟨(loc r.s r.j).blk, oo, (loc r.s r.j).cap - lo.toNat, []⟩, (xs.drop lo.toNat).take (hi - lo).toNat, hv, by rw [List.length_take, List.length_drop]; omega, LstOld.ok ⟨rfl, ?_⟩, rfl, rfl⟩
      cases hb : (loc r.s r.j).blk with
      | none =>
        rw [hb] at hok
        obtain ⟨rfl, hc⟩ := hok
        exact ⟨by simp, by show (loc r.s r.j).cap - _ = 0; omega⟩
      | some b =>
        rw [hb] at hok
        obtain ⟨vs, fr, hh, hzf, hth, hnc, hcm, hvs, hrows⟩ := hok
        refine ⟨vs, fr, hh, hzf, hth, by rw [List.length_take, List.length_drop]; show _ ≤ (loc r.s r.j).cap - _; omega, Nat.le_trans (Nat.sub_le _ _) hcm, ?_, ?_⟩
        · by_cases hc : (loc r.s r.j).cap - lo.toNat = 0
          · exact .inl hc
          · refine .inr ?_
            show vs.size = oo + ((loc r.s r.j).cap - lo.toNat) * t'.w
            rw [hv4 hc, Nat.add_assoc, ← Nat.add_mul, Nat.add_sub_cancel' v3]
            rcases hvs with h | h
            · omega
            · exact h
        · intro i hi'
          rw [List.length_take, List.length_drop] at hi'
          have hc : (loc r.s r.j).cap - lo.toNat ≠ 0 := by omega
          obtain ⟨rs, p1, p2, p3⟩ := hrows (lo.toNat + i) (by omega)
          refine ⟨rs, p1, fun j hj => ?_, ?_⟩
          · rw [← p2 j hj, List.getElem?_drop, List.getElem?_drop]
            show vs.toList[oo + _]? = _
            rw [hv4 hc, Nat.add_mul]
            congr 1
            omega
          · rw [List.getElem_take, List.getElem_drop]; exact p3
    obtain ⟨hb1, hc1⟩ := hb1
    have hfit : (hi - lo).toNat + ys.length ≤ (loc r.s r.j).cap - lo.toNat := by omega
    -- it goes in place: the cells are written over
    obtain ⟨w', k1, k2⟩ : ∃ w', (Builtin.append_ #[t, tx] o.type #[ev so, ev xo]).run P w = .ok (hdr l1 ((hi - lo).toNat + ys.length)) w' ∧
        (w' = w ∧ ys = [] ∨ ∃ b news, (loc r.s r.j).blk = some b ∧ w' = w.setCells b ((loc r.s r.j).off + hi.toNat * t'.w) news ∧ news.length = ys.length * t'.w ∧ RowsIn (IRep F w t') t'.w news ys) := by
      obtain ⟨news, hsrc, g4⟩ := hsv
      rw [← hsz] at hsrc
      have hnl := hsrc.newsLen
      have g1 : news.length = ys.length * t'.w := by rw [hnl, hsz]
      have g3 := hsrc.one
      by_cases h0 : 0 < ys.length
      · cases hb : (loc r.s r.j).blk with
        | none =>
          rw [hb] at hok
          obtain ⟨rfl, hc⟩ := hok
          omega
        | some b =>
          rw [hb] at hok
          obtain ⟨vs, fr, hh, hzf, hth, hnc, hcm, hvs, hrows⟩ := hok
          have hvs' : vs.size = (loc r.s r.j).off + (loc r.s r.j).cap * t'.w := by rcases hvs with h | h <;> omega
          have hoo := hv4 (by omega)
          have hle : hi.toNat * t'.w + news.length ≤ (loc r.s r.j).cap * t'.w := by rw [hnl, hsz, ← Nat.add_mul]; exact Nat.mul_le_mul_right _ (by omega)
          have hst := run_sw (P := P) (w := w) b ((loc r.s r.j).off + hi.toNat * t'.w) (news := news) hh hth (by omega) g3
          have hpos2 : oo + (hi - lo).toNat * t'.w = (loc r.s r.j).off + hi.toNat * t'.w := by
            rw [hoo, Nat.add_assoc, ← Nat.add_mul]
            rw [hlh]
          rw [← hpos2, ← hsz, ← add_plain] at hst
          refine ⟨_, ?_, .inr ⟨b, news, rfl, rfl, g1, g4⟩⟩
          have hl1b : l1.blk = some b := by rw [hb1, hb]
          have hroom : (hi - lo).toNat + ys.length ≤ (loc r.s r.j).cap - lo.toNat := by omega
          have hl1v : hdr l1 ((hi - lo).toNat + ys.length) = .slice (some ⟨b, oo, none⟩) ((hi - lo).toNat + ys.length) ((loc r.s r.j).cap - lo.toNat) := by
            have := hl1.symm.trans hv
            simp only [hdr, hl1b, hb, Option.map_some, Value.slice.injEq, Option.some.injEq, Addr.mk.injEq, true_and, and_true] at this
            simp only [hdr, hl1b, Option.map_some, this.1, hc1]
          rw [hl1v, hv, hb]
          rw [hpos2.symm, ← hsz]
          simp only [Option.map_some]
          rcases hsrc.kind with ⟨e', hk'⟩ | hk' <;> simp [Builtin.append_, run_underlying hu, run_underlying hk', sizeOf, typeInfo, hie, hsrc.len, hroom, hsrc.cells, hst]
      · have hy : ys = [] := List.eq_nil_of_length_eq_zero (by omega)
        subst hy
        refine ⟨w, ?_, .inl ⟨rfl, rfl⟩⟩
        rw [hl1]
        have hle1 : (hi - lo).toNat ≤ l1.cap := by rw [hc1]; omega
        have hn0 : news = [] := List.eq_nil_of_length_eq_zero (by rw [hnl]; simp)
        subst hn0
        exact run_append_nothing w t tx o.type _ inf hu hie _ _ l1.cap hle1 _ hsrc
    have hlen2 : (List.take hi.toNat xs ++ (ys ++ List.drop (hi.toNat + ys.length) xs)).length = xs.length := by
      simp only [List.length_append, List.length_take, List.length_drop]
      omega
    -- the whole object behind it
    have hall : (∀ b, b < w.heap.size → (loc r.s r.j).blk ≠ some b → w'.heap[b]? = w.heap[b]?) ∧ w'.os = w.os ∧ w'.tape = w.tape ∧ w'.output = w.output ∧ w.heap.size = w'.heap.size ∧
        LstOk F w' (loc r.s r.j) zf e' t' (List.take hi.toNat xs ++ (ys ++ List.drop (hi.toNat + ys.length) xs)) := by
      rcases k2 with ⟨rfl, rfl⟩ | ⟨b, news, hb, rfl, hnl, hnr⟩
      · refine ⟨fun _ _ _ => rfl, rfl, rfl, rfl, rfl, ?_⟩
        rw [List.length_nil, Nat.add_zero, List.nil_append, List.take_append_drop]
        exact LstOld.ok ⟨hsub, hok⟩
      · rw [hb] at hok
        obtain ⟨vs, fr, hh, hzf, hth, hnc, hcm, hvs, hrows⟩ := hok
        obtain ⟨c1, c2, c3, c4, c5⟩ := setCells_rest b news ((loc r.s r.j).off + hi.toNat * t'.w) w
        have hnew := setCells_heap b news ((loc r.s r.j).off + hi.toNat * t'.w) w vs hh
        have hsame : Same F w (w.setCells b ((loc r.s r.j).off + hi.toNat * t'.w) news) := fun q hq => c5 q (fun e => hFn q hq (by rw [e]; exact hb))
        refine ⟨fun q _ hq => c5 q (fun e => hq (by rw [e]; exact hb)), c1, c2, c3, c4.symm, LstOld.ok ⟨hsub, ?_⟩⟩
        rw [hb]
        refine ⟨_, fr, hnew, hzf, ?_, by rw [hlen2]; exact hnc, hcm, ?_, ?_⟩
        · rw [List.size_toArray, setVals_len]; simpa using hth
        · rw [List.size_toArray, setVals_len]; simpa using hvs
        · have hrows' : RowsIn (IRep F (w.setCells b ((loc r.s r.j).off + hi.toNat * t'.w) news) t') t'.w (vs.toList.drop (loc r.s r.j).off) xs := hrows.mono fun x rs hx => hx.mono (fun _ hb => hb) hsame
          have hnr' : RowsIn (IRep F (w.setCells b ((loc r.s r.j).off + hi.toNat * t'.w) news) t') t'.w news ys := hnr.mono fun x rs hx => hx.mono (fun _ hb => hb) hsame
          by_cases hc0 : (loc r.s r.j).cap = 0
          · have hx0 : xs = [] := List.eq_nil_of_length_eq_zero (by omega)
            have hy0 : ys = [] := List.eq_nil_of_length_eq_zero (by omega)
            subst hx0 hy0
            intro i hi'
            simp at hi'
          · have hvs' : vs.size = (loc r.s r.j).off + (loc r.s r.j).cap * t'.w := hvs.resolve_left hc0
            have hle : hi.toNat * t'.w + news.length ≤ (loc r.s r.j).cap * t'.w := by rw [hnl, ← Nat.add_mul]; exact Nat.mul_le_mul_right _ (by omega)
            have hlen : (loc r.s r.j).off + hi.toNat * t'.w + news.length ≤ vs.toList.length := by rw [Array.length_toList (xs := vs), hvs', Nat.add_assoc]; exact Nat.add_le_add_left hle _
            rw [List.toList_toArray, setVals_splice hlen, splice_drop hlen]
            exact rowsIn_over (hi := hi.toNat) hrows' hnr' (by omega) (by rw [List.length_drop, Array.length_toList (xs := vs), hvs', Nat.add_sub_cancel_left]; exact hle) hnl
    obtain ⟨q1, q2, q3, q4, q5, q6⟩ := hall
    have hBn : ∀ b, B b → (loc r.s r.j).blk ≠ some b := fun b hb e => (h.own _ _ _ _ b hj rfl (LV.mem_blk e)).2.1 hb
    have st : Step base S w0 B F w w' := ⟨fun b hb => q1 b (h.fro b hb) (hFn b hb), fun b hb => q1 b (Nat.lt_of_lt_of_le (h.bor b hb).1 h.size.2) (hBn b hb), q2, q3, q4, by omega, fun b hb hS => q1 b (Nat.lt_of_lt_of_le hb h.size.2) (fun e => by
      rcases (h.own _ _ _ _ b hj rfl (LV.mem_blk e)).2.2.2 with h1 | h1
      · omega
      · exact hS h1)⟩
    have key := h.turn (F' := F) (l' := loc r.s r.j) (v' := r.v) (o' := .lst zf e' t' (List.take hi.toNat xs ++ (ys ++ List.drop (hi.toNat + ys.length) xs))) st hj (.inr ⟨rfl, ⟨rfl, hlen2.symm, rfl⟩, OSame.flat hto⟩) (fun b hb hlt => q1 b hlt (fun e => hb rfl (LV.mem_blk e))) (fun _ h => h) (fun _ h => .inl h) (fun _ => q6) (fun _ b hb => by
      obtain ⟨a1, a2, a3, a4⟩ := h.own _ _ _ _ b hj rfl hb
      exact ⟨a1, a2, by omega, a4, .inl ⟨rfl, hb⟩⟩)
    rw [loc_same] at key
    refine ⟨_, _, _, _, w', loc, F, hk, run k1, .inl rfl, ?_, ?_, More.refl _ _ _, ⟨rfl, ?_⟩⟩
    · simp only [Upd.same, applyUpd, Upd.at, hgr, hg, setNth_eq]; exact key.1
    · simp only [Upd.same, applyUpd, Upd.at, hgr, hg, setNth_eq]; exact key.2
    · refine .inr ⟨?_, r.v, .lst zf e' t' (List.take hi.toNat xs ++ (ys ++ List.drop (hi.toNat + ys.length) xs)), ?_, .inr ⟨rfl, ?_⟩⟩
      · simp [Upd.same, applyUpd, look_put, hg]
      · have hjl : r.j < (look objs r.s).os.length := (List.getElem?_eq_some_iff.1 hj).1
        simp [Upd.same, applyUpd, look_put, Upd.at, hgr, setNth_eq, hjl]
      · show viewOk (loc r.s r.j) t'.w (List.take hi.toNat xs ++ (ys ++ List.drop (hi.toNat + ys.length) xs)).length _ _
        rw [hlen2]
        have hl1v := hl1.symm.trans hv
        refine ⟨v0, by omega, by omega, v3, oo, ?_, hv4⟩
        simp only [hdr, Value.slice.injEq] at hl1v ⊢
        refine ⟨hl1v.1, by omega, hl1v.2.2⟩
  · cases hk
omit [Names] in
theorem rowsIn_fill {α : Type} {R : α → List Value → Prop} {width lo n : Nat} {vs zs rs0 : List Value} {xs : List α} {y : α} (h : RowsIn R width vs xs) (hlo : lo + n ≤ xs.length) (hlen : lo * width + zs.length ≤ vs.length) (hzl : zs.length = n * width) (hrl : rs0.length = width)
    (hz : ∀ i j, i < n → j < width → zs[i * width + j]? = rs0[j]?) (hy : R y rs0) : RowsIn R width (splice vs (lo * width) zs) (List.take lo xs ++ (List.replicate n y ++ List.drop (lo + n) xs)) := by
  intro i hi
  simp only [List.length_append, List.length_take, List.length_replicate, List.length_drop] at hi
  have hix : i < xs.length := by omega
  by_cases h1 : i < lo
  · obtain ⟨rs, a1, a2, a3⟩ := h i hix
    refine ⟨rs, a1, fun j hj => ?_, ?_⟩
    · have : (i + 1) * width ≤ lo * width := Nat.mul_le_mul_right _ h1
      rw [Nat.add_mul] at this
      rw [splice_get _ hlen, if_pos (by omega), a2 j hj]
    · rw [List.getElem_append_left (by simp; omega), List.getElem_take]
      exact a3
  · by_cases h2 : i < lo + n
    · refine ⟨rs0, hrl, fun j hj => ?_, ?_⟩
      · have e1 : i * width = lo * width + (i - lo) * width := by rw [← Nat.add_mul]; congr 1; omega
        have e2 : (i - lo + 1) * width ≤ n * width := Nat.mul_le_mul_right _ (by omega)
        rw [Nat.add_mul] at e2
        rw [splice_get _ hlen, if_neg (by omega), if_pos (by omega), ← hz (i - lo) j (by omega) hj]
        congr 1
        omega
      · rw [List.getElem_append_right (by simp; omega), List.getElem_append_left (by simp; omega), List.getElem_replicate]
        exact hy
    · obtain ⟨rs, a1, a2, a3⟩ := h i hix
      refine ⟨rs, a1, fun j hj => ?_, ?_⟩
      · have e1 : (lo + n) * width ≤ i * width := Nat.mul_le_mul_right _ (by omega)
        rw [Nat.add_mul] at e1
        rw [splice_get _ hlen, if_neg (by omega), if_neg (by omega), a2 j hj]
      · rw [List.getElem_append_right (by simp; omega), List.getElem_append_right (by simp; omega), List.getElem_drop]
        have : ∀ k (hk : k < xs.length), k = i → R xs[k] rs := fun k hk e => by subst e; exact a3
        refine this _ _ ?_
        simp only [List.length_take, List.length_replicate]
        omega
theorem good_clear {o : Oper} {as : Array Operand} {ts : Array TypeId} {t e : Nat} {ty : Ty} {x : AV} {eA : Operand → AV} {ev : Operand → Value} {K : AV → Upd → Option ρ} {res : ρ} {get : Get} (hT : TOk P T) (ho : o.op = .call ⟨.builtin .clear, as, ts⟩) (h : SR base S B w0 objs loc F w)
    (hx : ∀ y ∈ as, Val objs loc F B w (eA y) (ev y)) (has : as.toList.map eA = [x]) (hts : ts.toList = [t]) (hkind : (T.at t).kind = .slice e ty) (hgx : ∀ q ∈ AV.slots x, get q = look objs q)
    (hk : clearK T get e ty x K = some res) : Good P base S B w0 objs loc F w o ev K res := by
  have hts' : ts = #[t] := by apply Array.ext'; simpa using hts
  subst hts'
  obtain ⟨xo, rfl, rfl⟩ : ∃ a, as = #[a] ∧ eA a = x := by
    cases hl : as.toList with
    | nil => rw [hl] at has; simp at has
    | cons a l =>
      cases l with
      | nil => rw [hl] at has; exact ⟨a, by apply Array.ext'; simpa using hl, by simpa using has⟩
      | cons _ _ => rw [hl] at has; simp at has
  have hxo := hx xo (by simp)
  unfold clearK at hk
  split at hk
  case h_2 => cases hk
  rename_i r lo hi hex
  rw [hex] at hxo hgx
  have hgr : get r.s = look objs r.s := hgx r.s (by simp [AV.slots])
  rw [ob_get hgr] at hk
  split at hk
  case h_2 => cases hk
  rename_i z e' t' xs hob
  split at hk
  case isFalse => cases hk
  rename_i ht
  obtain ⟨ht, hto⟩ := ht
  subst ht
  obtain ⟨hu, inf, zv, hie, hsz, hpos, hbytes, hz, hzs, _⟩ := (hT t).slice e t' hkind
  unfold zeroRow at hk
  split at hk
  case h_1 => cases hk
  rename_i _ z0 zs0 hz0
  obtain ⟨inf', z', hi', hz', hzz⟩ := (hT e).zero (by rw [hz0]; simp)
  rw [hie] at hi'
  cases hi'
  rw [hz] at hz'
  cases hz'
  rw [hz0] at hzz
  obtain ⟨y, ks, hk, h1, h2⟩ := toRow_ok h hto hk (zeros_leafs hzz) (fun s hs => by rw [zeros_slots hzz] at hs; cases hs)
  split at hk
  case h_2 => cases hk
  obtain ⟨hg, hj⟩ := ob_some hob (by simp)
  obtain ⟨v0, v1, v2, v3, oo, hev, hae⟩ := RS.found (show Leaf objs loc F B w (.ol r (.sub lo hi)) (ev xo) from hxo).2 hob (by simp)
  have hok := h.obs _ _ _ _ hj
  obtain ⟨hsub, hok⟩ := (show LstOk F w (loc r.s r.j) z e' t' xs from hok).old hto
  have hloc : loc.set r.s r.j (loc r.s r.j) = loc := by
    funext s j
    by_cases e : s = r.s ∧ j = r.j
    · rw [e.1, e.2, Loc.set_same]
    · rw [Loc.set_ne _ _ _ _ e]
  have hzero : ∀ w : World, (zeroValue e).run P w = .ok zv w := fun w => by simp [zeroValue, typeInfo, hie, hz]
  have fin : ∀ w', (Builtin.clear_ #[t] o.type #[ev xo]).run P w = .ok (.tuple #[]) w' → (execOp ev o).run P w = .ok (.value (.tuple #[])) w' := by
    intro w' hr
    rw [run_builtin ho]
    simp [builtin, hr]
  cases hb : (loc r.s r.j).blk with
  | none =>
    rw [hb] at hok hev
    obtain ⟨rfl, hc⟩ := hok
    have hlo : lo = 0 := by simp at v2; omega
    have hhi : hi = 0 := by simp at v2; omega
    subst hlo hhi
    have hrun : (Builtin.clear_ #[t] o.type #[ev xo]).run P w = .ok (.tuple #[]) w := by
      rw [hev]
      simp [Builtin.clear_, run_underlying hu]
    have st := Step.of_olds (w' := w) h (fun _ _ => rfl) rfl rfl rfl (Nat.le_refl _)
    have key := h.turn (F' := F) (l' := loc r.s r.j) (v' := r.v) (o' := .lst z e' t' []) st hj (.inr ⟨rfl, ⟨rfl, rfl, rfl⟩, OSame.flat hto⟩) (fun _ _ _ => rfl) (fun _ h => h) (fun _ h => .inl h) (fun _ => by
      refine LstOld.ok ⟨hsub, ?_⟩; rw [hb]; exact ⟨rfl, hc⟩) (fun _ k hk => by have hk := LV.blk_of hsub hk; rw [hb] at hk; cases hk)
    rw [hloc] at key
    refine ⟨.tup [], _, _, .tuple #[], w, loc, F, hk, fin _ hrun, .inl rfl, ?_, ?_, More.refl _ _ _, ⟨#[], rfl, trivial⟩⟩
    · simp only [Upd.same, applyUpd, Upd.at, hgr, hg, setNth_eq, Int.sub_self, Int.toNat_zero, List.take_nil, List.drop_nil, List.replicate_zero, List.append_nil]; exact key.1
    · simp only [Upd.same, applyUpd, Upd.at, hgr, hg, setNth_eq, Int.sub_self, Int.toNat_zero, List.take_nil, List.drop_nil, List.replicate_zero, List.append_nil]; exact key.2
  | some b =>
    rw [hb] at hok hev
    by_cases hn : (hi - lo).toNat = 0
    · have hrun : (Builtin.clear_ #[t] o.type #[ev xo]).run P w = .ok (.tuple #[]) w := by
        rw [hev, hn]
        simp [Builtin.clear_, run_underlying hu]
      have hxs : List.take lo.toNat xs ++ (List.replicate (hi - lo).toNat y ++ List.drop hi.toNat xs) = xs := by
        rw [hn, show hi.toNat = lo.toNat by omega, List.replicate_zero, List.nil_append, List.take_append_drop]
      have st := Step.of_olds (w' := w) h (fun _ _ => rfl) rfl rfl rfl (Nat.le_refl _)
      have key := h.turn (F' := F) (l' := loc r.s r.j) (v' := r.v) (o' := .lst z e' t' xs) st hj (.inr ⟨rfl, ⟨rfl, rfl, rfl⟩, OSame.flat hto⟩) (fun _ _ _ => rfl) (fun _ h => h) (fun _ h => .inl h) (fun _ => by
        refine LstOld.ok ⟨hsub, ?_⟩; rw [hb]; exact hok) (fun _ k hk => by
        obtain ⟨a1, a2, a3, a4⟩ := h.own _ _ _ _ k hj rfl hk
        exact ⟨a1, a2, a3, a4, .inl ⟨rfl, hk⟩⟩)
      rw [hloc] at key
      refine ⟨.tup [], _, _, .tuple #[], w, loc, F, hk, fin _ hrun, .inl rfl, ?_, ?_, More.refl _ _ _, ⟨#[], rfl, trivial⟩⟩
      · simp only [Upd.same, applyUpd, Upd.at, hgr, hg, setNth_eq, hxs]; exact key.1
      · simp only [Upd.same, applyUpd, Upd.at, hgr, hg, setNth_eq, hxs]; exact key.2
    obtain ⟨vs, fr, hheap, hzf, hth, hnc, hcm, hvs, hrows⟩ := hok
    have hvs' : vs.size = (loc r.s r.j).off + (loc r.s r.j).cap * t'.w := by rcases hvs with h | h <;> omega
    have hoo := hae (by omega)
    subst hoo
    have hzcl : (Builtin.zeroCells zv.cells (hi - lo).toNat).toList.length = (hi - lo).toNat * t'.w := by simp [Builtin.zeroCells, hzs]
    have hln : lo.toNat + (hi - lo).toNat ≤ xs.length := by omega
    have hle : lo.toNat * t'.w + (Builtin.zeroCells zv.cells (hi - lo).toNat).toList.length ≤ (loc r.s r.j).cap * t'.w := by
      rw [hzcl, ← Nat.add_mul]
      exact Nat.mul_le_mul_right _ (by omega)
    have hlen : (loc r.s r.j).off + lo.toNat * t'.w + (Builtin.zeroCells zv.cells (hi - lo).toNat).toList.length ≤ vs.toList.length := by
      rw [Array.length_toList (xs := vs), hvs', Nat.add_assoc]
      exact Nat.add_le_add_left hle _
    have hsz1 : ∀ v ∈ (Builtin.zeroCells zv.cells (hi - lo).toNat).toList, v.oneCell' = true := by
      intro v hv
      have hone := h1.one
      simp only [Builtin.zeroCells, Array.toList_map, Array.toList_range, List.mem_map, List.mem_range] at hv
      obtain ⟨i, hi', rfl⟩ := hv
      have hp : 0 < zv.cells.size := by rw [hzs]; exact hpos
      have hm := Nat.mod_lt i hp
      rw [getElem!_pos zv.cells (i % zv.cells.size) hm]
      exact hone _ (by simp)
    have hrun : (Builtin.clear_ #[t] o.type #[ev xo]).run P w = .ok (.tuple #[]) (w.setCells b ((loc r.s r.j).off + lo.toNat * t'.w) (Builtin.zeroCells zv.cells (hi - lo).toNat).toList) := by
      rw [hev]
      obtain ⟨m, hm⟩ : ∃ m, (hi - lo).toNat = m + 1 := ⟨(hi - lo).toNat - 1, by omega⟩
      have hst := run_sw (P := P) (w := w) b ((loc r.s r.j).off + lo.toNat * t'.w) (news := (Builtin.zeroCells zv.cells (hi - lo).toNat).toList) hheap hth (by rw [← Array.length_toList (xs := vs)]; exact hlen) hsz1
      rw [hm] at hst ⊢
      simp [Builtin.clear_, run_underlying hu, hzero, hst]
    obtain ⟨c1, c2, c3, c4, c5⟩ := setCells_rest b (Builtin.zeroCells zv.cells (hi - lo).toNat).toList ((loc r.s r.j).off + lo.toNat * t'.w) w
    have hnew := setCells_heap b (Builtin.zeroCells zv.cells (hi - lo).toNat).toList ((loc r.s r.j).off + lo.toNat * t'.w) w vs hheap
    have st := Step.of_one h hj rfl (LV.mem_blk hb) (fun k _ => c5 k) c1 c2 c3 (by omega)
    obtain ⟨a1, a2, a3, a4⟩ := h.own _ _ _ _ b hj rfl (LV.mem_blk hb)
    have hxl : (List.take lo.toNat xs ++ (List.replicate (hi - lo).toNat y ++ List.drop hi.toNat xs)).length = xs.length := by
      simp only [List.length_append, List.length_take, List.length_replicate, List.length_drop]
      omega
    have hhi : hi.toNat = lo.toNat + (hi - lo).toNat := by omega
    have key := h.turn (F' := F) (l' := loc r.s r.j) (v' := r.v) (o' := .lst z e' t' (List.take lo.toNat xs ++ (List.replicate (hi - lo).toNat y ++ List.drop hi.toNat xs))) st hj (.inr ⟨rfl, ⟨rfl, hxl.symm, rfl⟩, OSame.flat hto⟩) (fun k hk _ => c5 k (fun e => by subst e; exact hk rfl (LV.mem_blk hb))) (fun _ h => h) (fun _ h => .inl h) (fun ext => by
      have hsame : Same F w (w.setCells b ((loc r.s r.j).off + lo.toNat * t'.w) (Builtin.zeroCells zv.cells (hi - lo).toNat).toList) := ext.sameF
      refine LstOld.ok ?_
      simp only [LstOld, hb]
      refine ⟨hsub, _, fr, hnew, hzf, ?_, by rw [hxl]; exact hnc, hcm, ?_, ?_⟩
      · rw [List.size_toArray, setVals_len]; simpa using hth
      · rw [List.size_toArray, setVals_len]; simpa using hvs
      · rw [List.toList_toArray, setVals_splice hlen, splice_drop hlen, hhi]
        have hrows' : RowsIn (IRep F (w.setCells b ((loc r.s r.j).off + lo.toNat * t'.w) (Builtin.zeroCells zv.cells (hi - lo).toNat).toList) t') t'.w (vs.toList.drop (loc r.s r.j).off) xs := hrows.mono fun x rs hx => hx.mono (fun _ hb => hb) hsame
        have h1' : IRep F w t' y zv.cells.toList := h1.mono (fun b hb => hb.elim id (fun ⟨r, hr, _⟩ => by simp at hr)) (fun _ _ => rfl)
        refine rowsIn_fill hrows' hln (by rw [List.length_drop, Array.length_toList (xs := vs), hvs', Nat.add_sub_cancel_left]; exact hle) hzcl (by simpa using hzs) (fun i j hi' hj' => ?_) (h1'.mono (fun _ hb => hb) hsame)
        have hij : i * t'.w + j < (hi - lo).toNat * t'.w := by
          calc i * t'.w + j < i * t'.w + t'.w := by omega
            _ = (i + 1) * t'.w := by rw [Nat.add_mul, Nat.one_mul]
            _ ≤ (hi - lo).toNat * t'.w := Nat.mul_le_mul_right _ hi'
        have hmod : (i * t'.w + j) % zv.cells.size = j := by rw [hzs, Nat.mul_comm, Nat.mul_add_mod, Nat.mod_eq_of_lt hj']
        have hjz : j < zv.cells.size := by rw [hzs]; exact hj'
        simp only [Builtin.zeroCells, Array.toList_map, Array.toList_range, List.getElem?_map]
        rw [List.getElem?_range (by rw [hzs]; exact hij)]
        simp only [Option.map_some]
        rw [hmod, getElem!_pos zv.cells j hjz]
        simp [hjz]) (fun _ k hk => by
      have hk := LV.blk_of hsub hk
      rw [hb] at hk
      cases hk
      exact ⟨a1, a2, by omega, a4, .inl ⟨rfl, LV.mem_blk hb⟩⟩)
    rw [hloc] at key
    refine ⟨.tup [], _, _, .tuple #[], _, loc, F, hk, fin _ hrun, .inl rfl, ?_, ?_, More.refl _ _ _, ⟨#[], rfl, trivial⟩⟩
    · simp only [Upd.same, applyUpd, Upd.at, hgr, hg, setNth_eq]; exact key.1
    · simp only [Upd.same, applyUpd, Upd.at, hgr, hg, setNth_eq]; exact key.2
omit [Names] in
theorem RowsT.app {α : Type} {R : α → List Value → List Nat → Prop} {width : Nat} {vs us : List Value} {xs ys : List α} {Ss Ys : List (List Nat)} (h : RowsT R width vs xs Ss) (k : RowsT R width us ys Ys) (hl : vs.length = xs.length * width) : RowsT R width (vs ++ us) (xs ++ ys) (Ss ++ Ys) := by
  refine ⟨by rw [List.length_append, List.length_append, h.1, k.1], fun i x S0 hx hS => ?_⟩
  have hlen := h.1
  by_cases hlt : i < xs.length
  · rw [List.getElem?_append_left hlt] at hx
    rw [List.getElem?_append_left (by omega)] at hS
    obtain ⟨rs, h1, h2, h3⟩ := h.2 i x S0 hx hS
    refine ⟨rs, h1, fun j hj => ?_, h3⟩
    have hij : i * width + j < xs.length * width := by
      calc i * width + j < i * width + width := by omega
        _ = (i + 1) * width := by rw [Nat.add_mul, Nat.one_mul]
        _ ≤ xs.length * width := Nat.mul_le_mul_right _ hlt
    rw [List.getElem?_append_left (by omega)]
    exact h2 j hj
  · rw [List.getElem?_append_right (by omega)] at hx
    rw [List.getElem?_append_right (by omega), hlen] at hS
    obtain ⟨rs, h1, h2, h3⟩ := k.2 _ x S0 hx hS
    refine ⟨rs, h1, fun j hj => ?_, h3⟩
    have : i * width = xs.length * width + (i - xs.length) * width := by rw [← Nat.add_mul]; congr 1; omega
    rw [List.getElem?_append_right (by omega), ← h2 j hj, hl]
    congr 1
    omega
omit [Names] in
theorem RowsT.cells {α : Type} {R : α → List Value → List Nat → Prop} {width : Nat} {vs vs' : List Value} {xs : List α} {Ss : List (List Nat)} (h : RowsT R width vs xs Ss) (he : ∀ k, k < xs.length * width → vs'[k]? = vs[k]?) : RowsT R width vs' xs Ss := by
  refine ⟨h.1, fun i x S0 hx hS => ?_⟩
  obtain ⟨rs, h1, h2, h3⟩ := h.2 i x S0 hx hS
  have hi := (List.getElem?_eq_some_iff.1 hx).1
  refine ⟨rs, h1, fun j hj => ?_, h3⟩
  rw [he _ ?_]
  · exact h2 j hj
  · calc i * width + j < i * width + width := by omega
      _ = (i + 1) * width := by rw [Nat.add_mul, Nat.one_mul]
      _ ≤ xs.length * width := Nat.mul_le_mul_right _ hi
theorem run_appT {t tx ty e n : Nat} {et : Ty} {inf : TypeInfo} {z v sv : Value} {zf : Bool} {l : LV} {xs ys : List et.den} {Ys : List (List Nat)} {news : List Value} (hu : P.underlying t = some (.slice e)) (hi : P.info? e = some inf) (hsz : inf.size = et.w) (hpos : 0 < et.w) (hby : inf.bytes ≤ 512) (hz : inf.zero = some z) (hzs : z.cells.size = et.w)
    (hv : v = hdr l n) (hn : xs.length = n) (hok : LstOk F w l zf e et xs) (hcap : n + ys.length ≤ capMax) (hs : Go.Src P et.w tx sv ys.length news w) (g4 : RowsT (TRep F w et) et.w news ys Ys) (hF : ∀ b, F b → b < w.heap.size ∧ l.blk ≠ some b)
    (hl : ∀ b ∈ l.all, b < w.heap.size) (hY : ∀ b ∈ Ys.flatten, b < w.heap.size ∧ b ∉ l.all) (hYn : Ys.flatten.Nodup) :
    ∃ l' w', (Builtin.append_ #[t, tx] ty #[v, sv]).run P w = .ok (hdr l' (n + ys.length)) w' ∧ LstOk F w' l' zf e et (xs ++ ys) ∧ w.grownBy w' l.blk ∧ (l'.blk = l.blk ∨ l'.blk = some w.heap.size ∧ w'.heap.size = w.heap.size + 1) ∧ l'.sub = l.sub ++ Ys.flatten := by
  obtain ⟨m, hm⟩ : ∃ m, ys.length = m := ⟨_, rfl⟩
  rw [hm, ← hsz] at hs
  have hself : w.grownBy w l.blk := ⟨rfl, rfl, rfl, Nat.le_refl _, fun _ _ _ => rfl⟩
  have hb : (n + m) * inf.bytes ≤ 140737488355328 := by
    calc (n + m) * inf.bytes ≤ 274877906944 * 512 := Nat.mul_le_mul (by simp only [capMax] at hcap; omega) hby
      _ ≤ 140737488355328 := by decide
  have h63 : n + m ≤ maxLen := by simp only [capMax] at hcap; simp only [maxLen]; omega
  have hok0 := hok
  have hlnd := hok.nodup
  unfold LstOk LstW at hok
  by_cases h0 : 0 < m
  case neg =>
    have hm0 : m = 0 := by omega
    subst hm0
    have hy : ys = [] := List.eq_nil_of_length_eq_zero hm
    subst hy
    have hY0 : Ys = [] := List.eq_nil_of_length_eq_zero (by rw [g4.1]; rfl)
    subst hY0
    have hnc : n ≤ l.cap := by rw [← hn]; exact LstOk.cap_le hok0
    refine ⟨l, w, ?_, by simpa using hok0, hself, .inl rfl, by simp⟩
    have hn0 : news = [] := List.eq_nil_of_length_eq_zero (by rw [hs.newsLen, Nat.zero_mul])
    subst hn0
    rw [hv]
    exact run_append_nothing w t tx ty e inf hu hi _ n l.cap hnc sv hs
  have g1 : news.length = ys.length * et.w := by rw [hs.newsLen, hm, hsz]
  have g3 := hs.one
  have hnl := hs.newsLen
  -- the rows behind a step that touches neither the frozen nor what they own
  have turn : ∀ {w' : World} {vs : List Value} {rows : List et.den} {Ss : List (List Nat)}, Same F w w' → (∀ b ∈ Ss.flatten, w'.heap[b]? = w.heap[b]?) → RowsT (TRep F w et) et.w vs rows Ss → RowsT (TRep F w' et) et.w vs rows Ss := fun hsame hbl hr =>
    hr.mono fun x rs S0 hS hx => hx.mono (fun _ h => h) hsame fun b hb => hbl b (List.mem_flatten.2 ⟨S0, hS, hb⟩)
  -- what the growing arm leaves
  have grown : ∀ (old : Nat) (olds : List Value) (Ss : List (List Nat)), olds.length = n * et.w → l.sub = Ss.flatten → RowsT (TRep F w et) et.w olds xs Ss → n + m ≤ grownCap w (n + m) old e →
      LstOk F (w.drew.alloc (.cells ((olds ++ news).toArray ++ Builtin.zeroCells z.cells (grownCap w (n + m) old e - (n + m))) e)) ⟨some w.heap.size, 0, grownCap w (n + m) old e, l.sub ++ Ys.flatten⟩ zf e et (xs ++ ys) ∧
      w.grownBy (w.drew.alloc (.cells ((olds ++ news).toArray ++ Builtin.zeroCells z.cells (grownCap w (n + m) old e - (n + m))) e)) l.blk := by
    intro old olds Ss hol hsub hro hge
    have hsame : Same F w (w.drew.alloc (.cells ((olds ++ news).toArray ++ Builtin.zeroCells z.cells (grownCap w (n + m) old e - (n + m))) e)) := fun b hb => alloc_old w.drew _ b (hF b hb).1
    have hcm : grownCap w (n + m) old e ≤ maxLen := grownCap_le_maxLen w (n + m) old e h63
    refine ⟨⟨_, (0, 0), Ss ++ Ys, alloc_new w.drew _, fun _ => rfl, .inl rfl, by rw [List.length_append, hn, hm]; exact hge, hcm, .inr ?_, by rw [List.flatten_append, hsub], ?_, ?_⟩, ⟨rfl, rfl, rfl, by simp, fun k hk _ => alloc_old w.drew _ k hk⟩⟩
    · simp only [Array.size_append, List.size_toArray, List.length_append, size_zeroCells, hzs, hol, hnl, hsz, ← Nat.add_mul, Nat.zero_add]
      congr 1
      omega
    · refine List.nodup_cons.2 ⟨fun hc => ?_, List.nodup_append.2 ⟨(List.nodup_append.1 hlnd).2.1, hYn, fun a ha c hc e => ?_⟩⟩
      · rcases List.mem_append.1 hc with hc | hc
        · exact Nat.lt_irrefl _ (hl _ (LV.mem_sub hc))
        · exact Nat.lt_irrefl _ (hY _ hc).1
      · subst e
        exact (hY a hc).2 (LV.mem_sub ha)
    · rw [show (⟨some w.heap.size, 0, grownCap w (n + m) old e, l.sub ++ Ys.flatten⟩ : LV).off = 0 from rfl, List.drop_zero]
      refine turn hsame (fun b hb => alloc_old w.drew _ b ?_) (RowsT.cells (hro.app g4 (by rw [hol, hn])) fun k hk => ?_)
      · rw [List.flatten_append, ← hsub] at hb
        rcases List.mem_append.1 hb with hb | hb
        · exact hl b (LV.mem_sub hb)
        · exact (hY b hb).1
      · rw [Array.toList_append, List.getElem?_append_left]
        rw [List.length_append, hn, hm] at hk
        simp only [List.length_append, hol, hnl, hsz, ← Nat.add_mul]
        exact hk
  subst hv
  cases hbl : l.blk with
  | none =>
    rw [hbl] at hok
    obtain ⟨rfl, hc, hsub⟩ := hok
    have hn0 : n = 0 := by simpa using hn.symm
    subst hn0
    have hr := run_append_grow_src (P := P) w t tx ty e inf z hu hi hz none 0 0 [] (run_firstCells_none w.drew inf.size 0 0 0) sv m news hs (by omega) (by simp only [maxLen] at h63; omega) (growslice_fits (by omega) hb)
    obtain ⟨k1, k2⟩ := grown 0 [] [] (by simp) (by rw [hsub]; rfl) ⟨rfl, fun i x S0 hx => by simp at hx⟩ (grownCap_ge w _ 0 e)
    simp only [Nat.zero_add, List.nil_append] at k1 k2 hr ⊢
    rw [hbl] at k2
    refine ⟨_, _, ?_, k1, k2, .inr ⟨rfl, by simp⟩, rfl⟩
    rw [show hdr l 0 = .slice none 0 0 by simp [hdr, hbl, hc], hm]
    exact hr
  | some g =>
    rw [hbl] at hok
    obtain ⟨vs, fr, Ss, hh, hzf, hth, hxc, hcm, hvs, hsub, hnd, hrows⟩ := hok
    by_cases hroom : n + m ≤ l.cap
    · have hvs' : vs.size = l.off + l.cap * et.w := by rcases hvs with h | h <;> omega
      have hfit : n * et.w + news.length ≤ l.cap * et.w := by rw [hnl, hsz, ← Nat.add_mul]; exact Nat.mul_le_mul_right _ hroom
      have hst := run_sw (P := P) (w := w) g (l.off + n * et.w) (news := news) hh hth (by omega) g3
      have hrun : (Builtin.append_ #[t, tx] ty #[hdr l n, sv]).run P w = .ok (hdr l (n + m)) (w.setCells g (l.off + n * et.w) news) := by
        have hst' : (storeCells ((⟨g, l.off, none⟩ : Addr).add (n * inf.size)) news).run P w = .ok () (w.setCells g (l.off + n * et.w) news) := by rw [hsz, add_plain]; exact hst
        rcases hs.kind with ⟨e', hk⟩ | hk <;> simp [Builtin.append_, run_underlying hu, run_underlying hk, sizeOf, typeInfo, hi, hs.len, hroom, hs.cells, hdr, hbl, hst']
      obtain ⟨c1, c2, c3, c4, c5⟩ := setCells_rest g news (l.off + n * et.w) w
      have hnew := setCells_heap g news (l.off + n * et.w) w vs hh
      have hsame : Same F w (w.setCells g (l.off + n * et.w) news) := fun b hb => c5 b (fun e => (hF b hb).2 (by rw [e, hbl]))
      have hgY : ∀ b ∈ Ys.flatten, b ≠ g := fun b hb e => (hY b hb).2 (e ▸ LV.mem_blk hbl)
      have hgS : ∀ b ∈ l.sub, b ≠ g := fun b hb e => (List.nodup_cons.1 hnd).1 (e ▸ hb)
      refine ⟨⟨some g, l.off, l.cap, l.sub ++ Ys.flatten⟩, _, by rw [hm]; simpa [hdr, hbl] using hrun, ⟨_, fr, Ss ++ Ys, hnew, hzf, ?_, by rw [List.length_append, hn, hm]; exact hroom, hcm, ?_, by rw [List.flatten_append, hsub], ?_, ?_⟩, ⟨c1, c2, c3, by omega, fun k _ hk => c5 k (fun e => hk (by rw [e]))⟩, .inl rfl, rfl⟩
      · rw [List.size_toArray, setVals_len]; simpa using hth
      · rw [List.size_toArray, setVals_len]; simpa using hvs
      · refine List.nodup_cons.2 ⟨fun hc => ?_, List.nodup_append.2 ⟨(List.nodup_cons.1 hnd).2, hYn, fun a ha c hc e => ?_⟩⟩
        · rcases List.mem_append.1 hc with hc | hc
          · exact hgS _ hc rfl
          · exact hgY _ hc rfl
        · subst e
          exact (hY a hc).2 (LV.mem_sub ha)
      · have hlen : l.off + n * et.w + news.length ≤ vs.toList.length := by rw [Array.length_toList (xs := vs), hvs', Nat.add_assoc]; exact Nat.add_le_add_left hfit _
        rw [List.toList_toArray, setVals_splice hlen]
        show RowsT _ _ ((splice vs.toList (l.off + n * et.w) news).drop l.off) _ _
        rw [splice_drop hlen]
        have hlen2 : n * et.w + news.length ≤ (vs.toList.drop l.off).length := by rw [List.length_drop, Array.length_toList (xs := vs), hvs', Nat.add_sub_cancel_left]; exact hfit
        have r1 : RowsT (TRep F w et) et.w ((vs.toList.drop l.off).take (n * et.w)) xs Ss := RowsT.cells hrows fun k hk => by rw [List.getElem?_take_of_lt (by rw [hn] at hk; exact hk)]
        refine turn hsame (fun b hb => ?_) (RowsT.cells (r1.app g4 (by rw [List.length_take, hn]; omega)) fun k hk => ?_)
        · rw [List.flatten_append, ← hsub] at hb
          rcases List.mem_append.1 hb with hb | hb
          · exact c5 b (hgS b hb)
          · exact c5 b (hgY b hb)
        · rw [List.length_append, hn, hm, Nat.add_mul] at hk
          unfold splice
          rw [List.getElem?_append_left]
          rw [List.length_append, List.length_take, hnl, hsz]
          omega
    · obtain ⟨olds, o1, o2, o3⟩ : ∃ olds : List Value, olds.length = n * et.w ∧ (∀ j u, olds[j]? = some u → w.cell? ((⟨g, l.off, none⟩ : Addr).add j) = some u) ∧ RowsT (TRep F w et) et.w olds xs Ss := by
        by_cases hc0 : l.cap = 0
        · have hn0 : n = 0 := by omega
          subst hn0
          have : xs = [] := List.eq_nil_of_length_eq_zero hn
          subst this
          exact ⟨[], by simp, fun j u hj => by simp at hj, ⟨hrows.1, fun i x S0 hx => by simp at hx⟩⟩
        · have hvs' : vs.size = l.off + l.cap * et.w := hvs.resolve_left hc0
          have hle : n * et.w ≤ l.cap * et.w := Nat.mul_le_mul_right _ (by omega)
          refine ⟨(vs.toList.drop l.off).take (n * et.w), by rw [List.length_take, List.length_drop, Array.length_toList]; omega, fun j u hj => ?_, RowsT.cells hrows fun k hk => by rw [List.getElem?_take_of_lt (by rw [hn] at hk; exact hk)]⟩
          rw [List.getElem?_take] at hj
          split at hj
          · rw [List.getElem?_drop, Array.getElem?_toList] at hj
            rw [Addr.add_mid, cell_heap hh]
            exact hj
          · cases hj
      have hr := run_append_grow_src (P := P) w t tx ty e inf z hu hi hz (some ⟨g, l.off, none⟩) n l.cap olds (run_firstCells_some w.drew inf.size n _ n l.cap olds (by rw [o1, hsz]) (by simpa using o2)) sv m news hs (by omega) (by simp only [maxLen] at h63; omega) (growslice_fits (by omega) hb)
      obtain ⟨k1, k2⟩ := grown l.cap olds Ss o1 hsub o3 (grownCap_ge w _ l.cap e)
      rw [hbl] at k2
      refine ⟨_, _, ?_, k1, k2, .inr ⟨rfl, by simp⟩, rfl⟩
      rw [show hdr l n = .slice (some ⟨g, l.off, none⟩) n l.cap by simp [hdr, hbl], hm]
      exact hr
theorem lst_tail {l : LV} {z : Bool} {e : Nat} {t : Ty} {xs : List t.den} {lo : Int} {v : Value} (hok : LstOk F w l z e t xs) (hv : viewOk l t.w xs.length (.sub lo (xs.length : Int)) v) :
    ∃ l' : LV, v = hdr l' (List.drop lo.toNat xs).length ∧ LstOk F w l' z e t (List.drop lo.toNat xs) ∧ l'.blk = l.blk ∧ (∀ b ∈ l'.sub, b ∈ l.sub) := by
  have hxc := hok.cap_le
  obtain ⟨v0, v1, v2, v3, oo, hv, hv4⟩ := hv
  have hlen : (List.drop lo.toNat xs).length = ((xs.length : Int) - lo).toNat := by rw [List.length_drop]; omega
  unfold LstOk LstW at hok
  cases hb : l.blk with
  | none =>
    rw [hb] at hok
    obtain ⟨rfl, hc, hsub⟩ := hok
    refine ⟨⟨none, oo, l.cap - lo.toNat, []⟩, ?_, ⟨by simp, by show l.cap - _ = 0; omega, rfl⟩, rfl, by simp⟩
    rw [hv, hlen]; simp [hdr, hb]
  | some b =>
    rw [hb] at hok
    obtain ⟨vs, fr, Ss, hh, hzf, hth, hnc, hcm, hvs, hsub, hnd, hlenS, hrows⟩ := hok
    have hsubset : (Ss.drop lo.toNat).flatten.Sublist l.sub := by
      rw [hsub]
      conv => rhs; rw [← List.take_append_drop lo.toNat Ss, List.flatten_append]
      exact List.sublist_append_right _ _
    refine ⟨⟨some b, oo, l.cap - lo.toNat, (Ss.drop lo.toNat).flatten⟩, ?_, ⟨vs, fr, Ss.drop lo.toNat, hh, hzf, hth, by rw [hlen]; show _ ≤ l.cap - _; omega, Nat.le_trans (Nat.sub_le _ _) hcm, ?_, rfl, hnd.sublist (List.Sublist.cons_cons _ hsubset), by simp only [List.length_drop]; omega, fun i x S0 hx hS => ?_⟩, rfl, fun c hc => hsubset.subset hc⟩
    · rw [hv, hlen, hb]; rfl
    · by_cases hc : l.cap - lo.toNat = 0
      · exact .inl hc
      · refine .inr ?_
        show vs.size = oo + (l.cap - lo.toNat) * t.w
        rw [hv4 hc, Nat.add_assoc, ← Nat.add_mul, Nat.add_sub_cancel' v3]
        rcases hvs with h | h
        · omega
        · exact h
    · have hi' := (List.getElem?_eq_some_iff.1 hx).1
      rw [List.length_drop] at hi'
      have hc : l.cap - lo.toNat ≠ 0 := by omega
      rw [List.getElem?_drop] at hx hS
      obtain ⟨rs, p1, p2, p3⟩ := hrows (lo.toNat + i) x S0 hx hS
      refine ⟨rs, p1, fun j hj => ?_, p3⟩
      rw [← p2 j hj, List.getElem?_drop, List.getElem?_drop]
      show vs.toList[oo + _]? = _
      rw [hv4 hc, Nat.add_mul]
      congr 1
      omega
theorem good_appendT {o : Oper} {as : Array Operand} {ts : Array TypeId} {t tx d e : Nat} {ty : Ty} {s x : AV} {eA : Operand → AV} {ev : Operand → Value} {K : AV → Upd → Option ρ} {res : ρ} {get : Get} (hT : TOk P T) (ho : o.op = .call ⟨.builtin .append, as, ts⟩) (h : SR base S B w0 objs loc F w)
    (hx : ∀ y ∈ as, Val objs loc F B w (eA y) (ev y)) (has : as.toList.map eA = [s, x]) (hts : ts.toList = [t, tx]) (hkind : (T.at t).kind = .slice e ty) (hgs : ∀ q ∈ AV.slots s, get q = look objs q) (hgx : ∀ q ∈ AV.slots x, get q = look objs q) (hd : get d = look objs d)
    (hns : appOk x t tx (T.at tx).kind = true) (hk : appendT get d e ty capMax s x K = some res) : Good P base S B w0 objs loc F w o ev K res := by
  have hts' : ts = #[t, tx] := by apply Array.ext'; simpa using hts
  subst hts'
  obtain ⟨so, xo, rfl, rfl, rfl⟩ : ∃ a b, as = #[a, b] ∧ eA a = s ∧ eA b = x := by
    cases hl : as.toList with
    | nil => rw [hl] at has; simp at has
    | cons a l =>
      cases l with
      | nil => rw [hl] at has; simp at has
      | cons b l =>
        cases l with
        | nil => rw [hl] at has; simp at has; exact ⟨a, b, by apply Array.ext'; simpa using hl, has.1, has.2⟩
        | cons _ _ => rw [hl] at has; simp at has
  have hs := hx so (by simp)
  have hxv := hx xo (by simp)
  obtain ⟨hu, inf, z, hie, hsz, hpos, hbytes, hz, hzs, _⟩ := (hT t).slice e ty hkind
  have run : ∀ {v' w'}, (Builtin.append_ #[t, tx] o.type #[ev so, ev xo]).run P w = .ok v' w' → (execOp ev o).run P w = .ok (.value v') w' := by
    intro v' w' hr
    rw [run_builtin ho]
    simp [builtin, hr]
  unfold appendT at hk
  split at hk
  case h_2 => cases hk
  rename_i r' hxr
  rw [hxr] at hxv hgx hns
  have hgr' : get r'.s = look objs r'.s := hgx r'.s (by simp [AV.slots])
  rw [ob_get hgr'] at hk
  split at hk
  case h_2 => cases hk
  rename_i e2 t2 ys hob2
  split at hk
  case isFalse => cases hk
  rename_i ht2
  subst ht2
  split at hk
  case h_2 => cases hk
  rename_i he2
  have he2 := beq_true.1 he2
  subst he2
  -- the source
  have htx : t = tx := by
    unfold appOk at hns
    exact beq_true.1 hns
  subst htx
  obtain ⟨hg2, hj2⟩ := ob_some hob2 (by simp)
  have hok2 : LstOk F w (loc r'.s r'.j) false e2 t2 ys := h.obs _ _ _ _ hj2
  have hv2 : ev xo = hdr (loc r'.s r'.j) ys.length := RS.found (hxv : Leaf objs loc F B w (.ol r' .whole) (ev xo)).2 hob2 (by simp)
  obtain ⟨news, Ys, hsrc, g4, hYsub⟩ : ∃ news Ys, Go.Src P t2.w t (ev xo) ys.length news w ∧ RowsT (TRep F w t2) t2.w news ys Ys ∧ Ys.flatten = (loc r'.s r'.j).sub := by
    have hok3 := hok2
    unfold LstOk LstW at hok3
    cases hb : (loc r'.s r'.j).blk with
    | none =>
      rw [hb] at hok3
      obtain ⟨rfl, hc, hsub⟩ := hok3
      refine ⟨[], [], ?_, ⟨rfl, fun i x S0 hx => by simp at hx⟩, by rw [hsub]; rfl⟩
      rw [hv2]
      simp only [hdr, hb, hc, Option.map_none, List.length_nil]
      exact Go.Src.ofNil w hu 0
    | some b =>
      rw [hb] at hok3
      obtain ⟨vs, fr, Ss, hh, _, _, hnc, _, hvs, hsub, _, hlenS, hrows⟩ := hok3
      by_cases h0 : ys.length = 0
      · have hy : ys = [] := List.eq_nil_of_length_eq_zero h0
        subst hy
        refine ⟨[], Ss, ?_, ⟨hlenS, fun i x S0 hx => by simp at hx⟩, hsub.symm⟩
        rw [hv2]
        simp only [hdr, hb, Option.map_some, List.length_nil]
        exact Go.Src.ofSlice w hu _ 0 _ [] (by simp) (fun j u hj => by simp at hj) (by simp)
      · have hvs' : vs.size = (loc r'.s r'.j).off + (loc r'.s r'.j).cap * t2.w := hvs.resolve_left (by omega)
        have hle : ys.length * t2.w ≤ (loc r'.s r'.j).cap * t2.w := Nat.mul_le_mul_right _ (by omega)
        have r1 : RowsT (TRep F w t2) t2.w ((vs.toList.drop (loc r'.s r'.j).off).take (ys.length * t2.w)) ys Ss := RowsT.cells ⟨hlenS, hrows⟩ fun k hk => by rw [List.getElem?_take_of_lt hk]
        refine ⟨_, Ss, ?_, r1, hsub.symm⟩
        rw [hv2]
        simp only [hdr, hb, Option.map_some]
        refine Go.Src.ofSlice w hu _ _ _ _ (by rw [List.length_take, List.length_drop, Array.length_toList (xs := vs)]; omega) (fun j u hj => ?_) (fun u hu' => ?_)
        · rw [List.getElem?_take] at hj
          split at hj
          · rw [List.getElem?_drop, Array.getElem?_toList] at hj
            rw [Addr.add_mid, cell_heap hh]
            exact hj
          · cases hj
        · obtain ⟨k, hk, rfl⟩ := List.getElem_of_mem hu'
          rw [List.length_take, List.length_drop, Array.length_toList (xs := vs)] at hk
          have hk' : k < ys.length * t2.w := by omega
          have hd : k / t2.w < ys.length := Nat.div_lt_of_lt_mul (by rw [Nat.mul_comm]; exact hk')
          obtain ⟨rs, p1, p2, p3⟩ := r1.2 (k / t2.w) _ _ (List.getElem?_eq_getElem hd) (List.getElem?_eq_getElem (by omega))
          have hmm : k % t2.w < t2.w := Nat.mod_lt _ hpos
          have := p2 (k % t2.w) hmm
          rw [Nat.div_add_mod' k t2.w] at this
          rw [List.getElem?_eq_getElem (by rw [List.length_take, List.length_drop, Array.length_toList (xs := vs)]; omega), List.getElem?_eq_getElem (by omega), Option.some.injEq] at this
          rw [this]
          exact p3.one _ (List.getElem_mem _)
  have hYn : Ys.flatten.Nodup := by rw [hYsub]; exact (List.nodup_append.1 hok2.nodup).2.1
  obtain ⟨q1, q2, q3, q4, q5, q6⟩ := kills_gone (get := get) [r'] [] h (Ext.refl _ _ _ _ _) (by simp only [List.mem_singleton, forall_eq]; show isLst (Get.ob (look objs) r') = true; rw [hob2]; rfl) rfl (by simpa using hgr')
  have hYnb : ∀ b ∈ Ys.flatten, b ∈ blks loc [r'] := fun b hb => by
    simp only [blks, List.flatMap_cons, List.flatMap_nil, List.append_nil]
    exact LV.mem_sub (by rw [← hYsub]; exact hb)
  -- an object of the rest: it turns, and takes over the rows
  have fin : ∀ (r : Ref) (zf : Bool) (xs0 xs1 : List t2.den) (l1 : LV), Get.ob (look objs) r = .lst zf e2 t2 xs0 → get r.s = look objs r.s → Ref.among r [r'] = false → ev so = hdr l1 xs1.length → LstOk F w l1 zf e2 t2 xs1 → l1.blk = (loc r.s r.j).blk → (∀ b ∈ l1.sub, b ∈ (loc r.s r.j).sub) → xs1.length + ys.length ≤ capMax →
      K (.ol ⟨r.s, r.j, r.g, r.v + 1⟩ .whole) (Upd.next get (kills get [r'] []) r (.lst zf e2 t2 (xs1 ++ ys))) = some res → Good P base S B w0 objs loc F w o ev K res := by
    intro r zf xs0 xs1 l1 hob hgr hne hv hok hl1b hl1s hcap hk
    have hob1 := (q3 r hne).trans (show Get.ob (look (applyUpd objs [])) r = _ from hob)
    obtain ⟨hg1, hj1⟩ := ob_some hob1 (by simp)
    have hl1 : ∀ b ∈ l1.all, b ∈ (loc r.s r.j).all := fun b hb => by
      rcases LV.mem_all.1 hb with hb | hb
      · exact LV.mem_blk (by rw [← hl1b]; exact hb)
      · exact LV.mem_sub (hl1s b hb)
    have hown := fun b (hb : b ∈ (loc r.s r.j).all) => q1.own _ _ _ _ b hj1 rfl hb
    have hFn : ∀ b, F b → l1.blk ≠ some b := fun b hb e => (hown b (hl1 b (LV.mem_blk e))).1 hb
    have hBn : ∀ b, B b → l1.blk ≠ some b := fun b hb e => (hown b (hl1 b (LV.mem_blk e))).2.1 hb
    obtain ⟨l', w', k1, k2, k4, k5, k6⟩ := run_appT (P := P) (ty := o.type) (v := ev so) (xs := xs1) hu hie hsz hpos hbytes hz hzs hv rfl hok hcap hsrc g4 (fun b hb => ⟨h.fro b hb, hFn b hb⟩) (fun b hb => (hown b (hl1 b hb)).2.2.1) (fun b hb => by
      obtain ⟨a1, a2, a3, a4, a5⟩ := q4 b (hYnb b hb)
      exact ⟨a3, fun hc => a5 _ _ _ _ hj1 rfl (hl1 b hc)⟩) hYn
    have hsame : Same F w w' := fun b hb => k4.block b (h.fro b hb) (fun e => hFn b hb e.symm)
    have st : Step base S w0 B F w w' := ⟨hsame, fun b hb => k4.block b (Nat.lt_of_lt_of_le (h.bor b hb).1 h.size.2) (fun e => hBn b hb e.symm), k4.os, k4.tape, k4.output, k4.size, fun b hb hS => k4.block b (Nat.lt_of_lt_of_le hb h.size.2) (fun e => by
      rcases (hown b (hl1 b (LV.mem_blk e.symm))).2.2.2 with h1 | h1
      · omega
      · exact hS h1)⟩
    have hjl : r.j < (look (applyUpd objs (kills get [r'] [])) r.s).os.length := (List.getElem?_eq_some_iff.1 hj1).1
    obtain ⟨hgen, hget⟩ := put_facts (objs := applyUpd objs (kills get [r'] [])) (s := r.s) (e0 := (r.v + 1, Ob.lst zf e2 t2 (xs1 ++ ys))) hjl
    have key := q1.turnG (F' := F) (l' := l') (v' := r.v + 1) (o' := .lst zf e2 t2 (xs1 ++ ys)) st (fun s' => Nat.le_of_eq (hgen s').symm) (fun s' j' e he hne => by rw [hget, if_neg hne] at he; exact he) (fun e he => by rw [hget, if_pos ⟨rfl, rfl⟩] at he; exact (Option.some.inj he).symm)
      (fun _ => by rw [hget, if_pos ⟨rfl, rfl⟩]) (fun s' j' e _ he hne => by rw [hget, if_neg hne]; exact he) hj1 (.inl (by omega)) (fun b hb hlt => k4.block b hlt (fun e => hb rfl (hl1 b (LV.mem_blk e.symm)))) (fun _ h => h) (fun _ h => .inl h) (fun _ => k2) (fun _ b hb => by
        rcases LV.mem_all.1 hb with hb | hb
        · rcases k5 with k5 | ⟨k5, k7⟩
          · rw [hb] at k5
            have hb' := hl1 b (LV.mem_blk k5.symm)
            obtain ⟨a1, a2, a3, a4⟩ := hown b hb'
            exact ⟨a1, a2, Nat.lt_of_lt_of_le a3 k4.size, a4, q1.nobody hj1 (.inl ⟨rfl, hb'⟩)⟩
          · rw [hb] at k5
            cases k5
            obtain ⟨a1, a2, a3, a4, a5⟩ := q1.newBlk (w' := w') (b := w.heap.size) (Nat.le_refl _) (by omega)
            exact ⟨a1, a2, a3, a4, fun s1 j1 v1 o1 h1 l1 b1 => absurd b1 (a5 s1 j1 v1 o1 h1 l1)⟩
        · rw [k6] at hb
          rcases List.mem_append.1 hb with hb | hb
          · have hb' := hl1 b (LV.mem_sub hb)
            obtain ⟨a1, a2, a3, a4⟩ := hown b hb'
            exact ⟨a1, a2, Nat.lt_of_lt_of_le a3 k4.size, a4, q1.nobody hj1 (.inl ⟨rfl, hb'⟩)⟩
          · obtain ⟨a1, a2, a3, a4, a5⟩ := q4 b (hYnb b hb)
            exact ⟨a1, a2, Nat.lt_of_lt_of_le a3 k4.size, a4, fun s1 j1 v1 o1 h1 l1 b1 => absurd b1 (a5 s1 j1 v1 o1 h1 l1)⟩)
    have hua : Upd.at get (kills get [r'] []) r.s = look (applyUpd objs (kills get [r'] [])) r.s := upd_at hgr _
    refine ⟨_, _, _, _, w', loc.set r.s r.j l', F, hk, run k1, .inl rfl, ?_, ?_, More.refl _ _ _, ⟨rfl, ?_⟩⟩
    · simp only [Upd.next, applyUpd, hua, hg1, setNth_eq]; exact key.1
    · simp only [Upd.next, applyUpd, hua, hg1, setNth_eq]; exact q2.trans key.2
    · refine .inr ⟨?_, r.v + 1, .lst zf e2 t2 (xs1 ++ ys), ?_, .inr ⟨rfl, ?_⟩⟩
      · simp [Upd.next, applyUpd, look_put]
      · simp [Upd.next, applyUpd, look_put, hua, setNth_eq, hjl]
      · simp only [viewOk, Loc.set_same, List.length_append]
  have among : ∀ {r : Ref}, (!(r.is r')) = true → Ref.among r [r'] = false := fun {r} hh => by
    simp only [Ref.among, Bool.or_false]
    simpa using hh
  split at hk
  · rename_i hsn
    rw [hsn] at hs
    have hs : ev so = .slice none 0 0 := hs
    split at hk
    case isFalse => cases hk
    rename_i hcap
    obtain ⟨l', w', k1, k2, k4, k5, k6⟩ := run_appT (P := P) (F := F) (w := w) (ty := o.type) (v := ev so) (n := 0) (zf := false) (l := LV.nil) (xs := ([] : List t2.den)) (ys := ys) hu hie hsz hpos hbytes hz hzs (by rw [hs]; rfl) rfl (LstOld.ok ⟨rfl, rfl, rfl⟩) (by simpa using hcap) hsrc g4 (fun b hb => ⟨h.fro b hb, by simp [LV.nil]⟩) (by simp [LV.nil, LV.all]) (fun b hb => ⟨(q4 b (hYnb b hb)).2.2.1, by simp [LV.nil, LV.all]⟩) hYn
    simp only [newOb] at hk
    rw [List.nil_append] at k2
    rw [Nat.zero_add] at k1
    have olds : ∀ b, b < w.heap.size → w'.heap[b]? = w.heap[b]? := fun b hb => k4.block b hb (by simp [LV.nil])
    have st := Step.of_olds q1 olds k4.os k4.tape k4.output k4.size
    have hgd : (look (applyUpd objs (kills get [r'] [])) d).g = (get d).g := by rw [q6, hd]; rfl
    have key := q1.freshG (d := d) (g := (get d).g + 1) (os := [(0, .lst false e2 t2 ys)]) (ls := fun _ => l') st (by omega) olds (fun _ j v o' hj => by
      cases j with
      | zero => simp only [List.getElem?_cons_zero, Option.some.injEq, Prod.mk.injEq] at hj; obtain ⟨rfl, rfl⟩ := hj; exact k2
      | succ j => simp at hj) (fun j v o' b hj _ hb => by
        rcases LV.mem_all.1 hb with hb | hb
        · rcases k5 with k5 | ⟨k5, k7⟩
          · rw [k5] at hb; cases hb
          · rw [k5] at hb
            cases hb
            obtain ⟨a1, a2, a3, a4, a5⟩ := q1.newBlk (w' := w') (b := w.heap.size) (Nat.le_refl _) (by omega)
            exact ⟨a1, a2, a3, a4, fun s1 j1 v1 o1 _ => a5 s1 j1 v1 o1⟩
        · rw [k6] at hb
          simp only [LV.nil, List.nil_append] at hb
          obtain ⟨a1, a2, a3, a4, a5⟩ := q4 b (hYnb b hb)
          exact ⟨a1, a2, Nat.lt_of_lt_of_le a3 k4.size, a4, fun s1 j1 v1 o1 _ => a5 s1 j1 v1 o1⟩) (fun j v o' j' v' o'' b hj hj' _ _ _ _ => by
        cases j with
        | zero => cases j' with
          | zero => rfl
          | succ j' => simp at hj'
        | succ j => simp at hj)
    refine ⟨_, _, _, _, w', _, F, hk, run k1, .inl rfl, key.1, q2.trans key.2, More.refl _ _ _, ⟨rfl, ?_⟩⟩
    refine .inr ⟨?_, 0, .lst false e2 t2 ys, ?_, .inr ⟨rfl, ?_⟩⟩
    · simp [applyUpd, look_put]
    · simp [applyUpd, look_put]
    · simp only [viewOk, Loc.slot, if_true]
  · rename_i r hsr
    rw [hsr] at hs hgs
    have hgr : get r.s = look objs r.s := hgs r.s (by simp [AV.slots])
    rw [ob_get hgr] at hk
    split at hk
    case h_2 => cases hk
    rename_i zf e' t' xs hob
    split at hk
    case isFalse => cases hk
    rename_i ht
    subst ht
    split at hk
    case h_2 => cases hk
    rename_i he
    simp only [Bool.and_eq_true] at he
    have he1 := beq_true.1 he.1
    subst he1
    split at hk
    case isFalse => cases hk
    rename_i hcap
    have hv : ev so = hdr (loc r.s r.j) xs.length := RS.found (hs : Leaf objs loc F B w (.ol r .whole) (ev so)).2 hob (by simp)
    exact fin r zf xs xs (loc r.s r.j) hob hgr (among he.2) hv (h.obs _ _ _ _ (ob_some hob (by simp)).2) rfl (fun _ h => h) hcap hk
  · rename_i r lo hi hsr
    rw [hsr] at hs hgs
    have hgr : get r.s = look objs r.s := hgs r.s (by simp [AV.slots])
    rw [ob_get hgr] at hk
    split at hk
    case h_2 => cases hk
    rename_i zf e' t' xs hob
    split at hk
    case isFalse => cases hk
    rename_i ht
    subst ht
    split at hk
    case h_2 => cases hk
    rename_i he
    simp only [Bool.and_eq_true] at he
    have he1 := beq_true.1 he.1
    subst he1
    split at hk
    case isFalse => cases hk
    rename_i hcap
    obtain ⟨hhi, hcap⟩ := hcap
    subst hhi
    have hv := RS.found (hs : Leaf objs loc F B w (.ol r (.sub lo (xs.length : Int))) (ev so)).2 hob (by simp)
    obtain ⟨l1, p1, p2, p3, p4⟩ := lst_tail (h.obs _ _ _ _ (ob_some hob (by simp)).2) hv
    exact fin r zf xs (List.drop lo.toNat xs) l1 hob hgr (among he.2) p1 p2 p3 p4 (by rw [List.length_drop]; omega) hk
  · cases hk
end
end Go.Eng
end

section
namespace Go.Eng
variable [Names]
section
variable {P : Program} {T : TT} {base : Nat} {S : List Nat} {B F : Nat → Prop} {w0 : World} {objs : Upd} {loc : Loc} {w : World} {ρ : Type}
theorem leaf_of_leafy {a : AV} {v : Value} (h : Val objs loc F B w a v) (hl : a.leafy = true) : v.oneCell' = true ∧ Leaf objs loc F B w a v := by
  have one : ∀ {a : AV} {v : Value}, Leaf objs loc F B w a v → a ≠ .dead → v.oneCell' = true ∧ Leaf objs loc F B w a v := fun h hd => ⟨h.one hd, h⟩
  cases a with
  | dead => simp [AV.leafy] at hl
  | tup _ => simp [AV.leafy] at hl
  | agg _ => simp [AV.leafy] at hl
  | fn f cs =>
    cases cs with
    | cons _ _ => simp [AV.leafy] at hl
    | nil =>
      obtain ⟨vs, rfl, hl⟩ := h
      have : vs.toList = [] := by cases hvs : vs.toList with | nil => rfl | cons _ _ => rw [hvs] at hl; exact hl.elim
      have : vs = #[] := by simpa using this
      subst this
      exact ⟨rfl, rfl, rfl⟩
  | int k n => exact one (a := .int k n) h (by simp)
  | bool b => exact one (a := .bool b) h (by simp)
  | str s => exact one (a := .str s) h (by simp)
  | nils => exact one (a := .nils) h (by simp)
  | nilp => exact one (a := .nilp) h (by simp)
  | il b t xs => exact one (a := .il b t xs) h (by simp)
  | ol r vw => exact one (a := .ol r vw) h (by simp)
  | ptr r off => exact one (a := .ptr r off) h (by simp)
  | ep r i off => exact one (a := .ep r i off) h (by simp)
  | ip b t xs i off => exact one (a := .ip b t xs i off) h (by simp)
  | nm n => exact one (a := .nm n) h (by simp)
  | nl r k i off => exact one (a := .nl r k i off) h (by simp)
  | np r k i off j o2 => exact one (a := .np r k i off j o2) h (by simp)
theorem leafs_of_leafy {eA : Operand → AV} {ev : Operand → Value} : ∀ {xs : List Operand}, (∀ x ∈ xs, Val objs loc F B w (eA x) (ev x)) → (xs.map eA).all AV.leafy = true → Leafs objs loc F B w (xs.map eA) (xs.map ev)
  | [], _, _ => trivial
  | x :: xs, h, hl => by
    simp only [List.map_cons, List.all_cons, Bool.and_eq_true] at hl
    obtain ⟨h1, h2⟩ := leaf_of_leafy (h x (by simp)) hl.1
    exact ⟨h1, h2, leafs_of_leafy (fun y hy => h y (List.mem_cons_of_mem _ hy)) hl.2⟩
theorem good_func {o : Oper} {f : Nat} {fs cs : Array Operand} {eA : Operand → AV} {ev : Operand → Value} {K : AV → Upd → Option ρ} {res : ρ} (ho : o.op = .makeFunc (.func f) fs cs) (h : SR base S B w0 objs loc F w)
    (hx : ∀ x ∈ cs, Val objs loc F B w (eA x) (ev x)) (hk : funcK f fs.toList (cs.toList.map eA) K = some res) : Good P base S B w0 objs loc F w o ev K res := by
  unfold funcK at hk
  split at hk
  · rename_i hfs hall
    have hfs : fs = #[] := by apply Array.ext'; simpa using hfs
    subst hfs
    refine Good.pure (cv := .func (.func f) #[] (cs.map ev)) h hk (by simp [execOp, ho, Instr.makeFunc]) ⟨_, rfl, ?_⟩
    rw [Array.toList_map]
    exact leafs_of_leafy (fun x hm => hx x (by simpa using hm)) hall
  · cases hk
theorem good_bin {o : Oper} {op : BinOp} {t u : TypeId} {x y : Operand} {ax ay : AV} {ev : Operand → Value} {K : AV → Upd → Option ρ} {res : ρ} (hT : TOk P T) (ho : o.op = .binOp op t x y u) (h : SR base S B w0 objs loc F w)
    (hx : Val objs loc F B w ax (ev x)) (hy : Val objs loc F B w ay (ev y)) (hk : binK T op t ax ay K = some res) : Good P base S B w0 objs loc F w o ev K res := by
  unfold binK at hk
  split at hk
  · split at hk
    · exact good_shift ho h hx hy hk
    · exact good_shift ho h hx hy hk
    · rename_i n1 n2
      split at hk
      · rename_i e
        subst e
        exact good_bin_int ho h hx hy ⟨n1, n2⟩ hk
      · cases hk
  · exact good_bin_str ho h hx hy hk
  · exact good_bin_bool hT ho h hx hy hk
  · exact good_bin_agg hT ho h hx hy hk
  · cases hk
omit [Names] in
theorem viaT_false {z : List AV} {s : AV} {b : Bool} (h : viaT z s b = false) : b = false := by
  unfold viaT at h
  split at h
  · cases h
  · exact h
theorem good_builtin {o : Oper} {b : Builtin} {as : Array Operand} {ts : Array TypeId} {d : Nat} {eA : Operand → AV} {ev : Operand → Value} {K : AV → Upd → Option ρ} {res : ρ} {get : Get} (hT : TOk P T) (ho : o.op = .call ⟨.builtin b, as, ts⟩) (h : SR base S B w0 objs loc F w)
    (hx : ∀ y ∈ as, Val objs loc F B w (eA y) (ev y)) (hg : ∀ y ∈ as, ∀ s ∈ AV.slots (eA y), get s = look objs s) (hd : get d = look objs d) (hk : builtinK T get d b (as.toList.map eA) ts.toList K = some res) : Good P base S B w0 objs loc F w o ev K res := by
  have hgm : ∀ v ∈ as.toList.map eA, ∀ s ∈ AV.slots v, get s = look objs s := fun v hv s hs => by
    obtain ⟨y, hy, rfl⟩ := List.mem_map.1 hv
    exact hg y (by simpa using hy) s hs
  unfold builtinK at hk
  split at hk
  · split at hk
    · rename_i has hts
      split at hk
      · rename_i n hl
        exact good_len hT ho h hx has hts (hgm _ (by rw [has]; simp)) hl hk
      · cases hk
    · cases hk
  · split at hk
    · rename_i s x t t' has hts
      split at hk
      · rename_i e ty hkind
        split at hk
        · rename_i happ
          split at hk
          · rename_i hto
            exact good_append hT ho h hx has hts hkind (hgm _ (by rw [has]; simp)) (hgm _ (by rw [has]; simp)) hd (viaT_false hto) happ hk
          · exact good_appendT hT ho h hx has hts hkind (hgm _ (by rw [has]; simp)) (hgm _ (by rw [has]; simp)) hd happ hk
        · cases hk
      · cases hk
    · cases hk
  · split at hk
    · rename_i k a k' b has
      split at hk
      · rename_i e
        subst e
        exact good_minmax (mx := false) ho h hx has hk
      · cases hk
    · cases hk
  · split at hk
    · rename_i k a k' b has
      split at hk
      · rename_i e
        subst e
        exact good_minmax (mx := true) ho h hx has hk
      · cases hk
    · cases hk
  · split at hk
    · rename_i x t has hts
      split at hk
      · rename_i e ty hkind
        exact good_clear hT ho h hx has hts hkind (hgm _ (by rw [has]; simp)) hk
      · cases hk
    · cases hk
  · cases hk
theorem op_good {call : CallF ρ} {o : Oper} {d : Nat} {eA : Operand → AV} {ev : Operand → Value} {K : AV → Upd → Option ρ} {res : ρ} {get : Get} (hT : TOk P T) (h : SR base S B w0 objs loc F w) (hcall : isCall o.op = false)
    (hx : ∀ x ∈ o.op.operands, Val objs loc F B w (eA x) (ev x)) (hg : ∀ x ∈ o.op.operands, ∀ s ∈ AV.slots (eA x), get s = look objs s) (hd : get d = look objs d) (hk : opK T call eA get d o.op K = some res) : Good P base S B w0 objs loc F w o ev K res := by
  unfold opK at hk
  split at hk
  case h_1 => rename_i ho; rw [ho] at hx; exact good_move (.inl ho) h hk (hx _ (by simp [Op.operands]))
  case h_2 => rename_i ho; rw [ho] at hx; exact good_move (.inr ho) h hk (hx _ (by simp [Op.operands]))
  case h_3 => rename_i ho; rw [ho] at hx; exact good_pickK ho h (hx _ (by simp [Op.operands])) (hx _ (by simp [Op.operands])) (hx _ (by simp [Op.operands])) hk
  case h_4 => rename_i ho; exact good_alloc hT ho h hd hk
  case h_5 => rename_i ho; rw [ho] at hx; exact good_box ho h hd (hx _ (by simp [Op.operands])) hk
  case h_6 =>
    rename_i ho; rw [ho] at hx
    exact good_struct hT ho h (fun p hp => hx _ (by simp only [Op.operands]; simp; exact ⟨_, hp⟩)) hk
  case h_7 =>
    rename_i ho; rw [ho] at hx hg
    exact good_lit hT ho h hd (fun p hp => hx _ (by simp only [Op.operands]; simp; exact ⟨_, hp⟩)) (fun p hp => hg _ (by simp only [Op.operands]; simp; exact ⟨_, hp⟩)) hk
  case h_8 => rename_i ho; rw [ho] at hx hg; exact good_leave hT ho h (hx _ (by simp [Op.operands])) (hg _ (by simp [Op.operands])) hd hk fun hk => good_load hT ho h (hx _ (by simp [Op.operands])) (hg _ (by simp [Op.operands])) hk
  case h_9 =>
    rename_i ho; rw [ho] at hx hg
    split at hk
    · rename_i hs
      simp only [Bool.and_eq_true, Nat.ble_eq] at hs
      exact good_store hT ho h (hx _ (by simp [Op.operands])) (hx _ (by simp [Op.operands])) (hg _ (by simp [Op.operands])) (hg _ (by simp [Op.operands])) hs.1 (beq_true.1 hs.2.1) hs.2.2 hk
    · cases hk
  case h_10 => rename_i ho; rw [ho] at hx hg; exact good_nil ho h (hx _ (by simp [Op.operands])) (hg _ (by simp [Op.operands])) hk
  case h_11 => rename_i ho; rw [ho] at hx; exact good_bin hT ho h (hx _ (by simp [Op.operands])) (hx _ (by simp [Op.operands])) hk
  case h_12 => rename_i ho; rw [ho] at hx; exact good_un ho h (hx _ (by simp [Op.operands])) hk
  case h_13 => rename_i ho; rw [ho] at hx hg; exact good_conv hT ho h hd (hx _ (by simp [Op.operands])) (hg _ (by simp [Op.operands])) hk
  case h_14 => rename_i ho; rw [ho] at hx; exact good_func ho h (fun x hm => hx _ (by simp [Op.operands]; exact .inr hm)) hk
  case h_15 => rename_i ho; rw [ho] at hx; exact good_make hT ho h hd (hx _ (by simp [Op.operands])) (hx _ (by simp [Op.operands])) hk
  case h_16 =>
    rename_i ho; rw [ho] at hx hg
    exact good_cut hT ho h (hx _ (by simp [Op.operands])) (fun y e => by subst e; exact hx _ (by simp [Op.operands])) (fun y e => by subst e; exact hx _ (by simp [Op.operands])) (hg _ (by simp [Op.operands])) hk
  case h_17 => rename_i ho; rw [ho] at hx hg; exact good_fieldAddr hT ho h (hx _ (by simp [Op.operands])) (hg _ (by simp [Op.operands])) hk
  case h_18 => rename_i ho; rw [ho] at hx; exact good_field hT ho h (hx _ (by simp [Op.operands])) hk
  case h_19 => rename_i ho; rw [ho] at hx hg; exact good_idxAddr hT ho h (hx _ (by simp [Op.operands])) (hx _ (by simp [Op.operands])) (hg _ (by simp [Op.operands])) hk
  case h_20 => rename_i ho; rw [ho] at hx; exact good_idx hT ho h (hx _ (by simp [Op.operands])) (hx _ (by simp [Op.operands])) hk
  case h_21 => rename_i ho; rw [ho] at hx; exact good_extract ho h (hx _ (by simp [Op.operands])) hk
  case h_22 =>
    rename_i ho; rw [ho] at hx hg
    exact good_builtin hT ho h (fun y hy => hx _ (by simp [Op.operands, Call.operands]; exact hy)) (fun y hy => hg _ (by simp [Op.operands, Call.operands]; exact hy)) hd hk
  case h_23 => rename_i ho; rw [ho] at hcall; simp [isCall] at hcall
  case h_24 =>
    rename_i ho; rw [ho] at hx hg
    exact good_cut3 hT ho h (hx _ (by simp [Op.operands])) (hx _ (by simp [Op.operands])) (hx _ (by simp [Op.operands])) (hx _ (by simp [Op.operands])) (hg _ (by simp [Op.operands])) hk
  case h_25 => cases hk
end
end Go.Eng
end

section
namespace Go.Eng
variable [Names]
section
variable {ρ : Type}
def pr {α β : Type} (a : α) (b : β) : Option (α × β) := some (a, b)
def Nat2 {α β ρ : Type} (r : Option (α × β)) (K : α → β → Option ρ) : Option ρ := r.bind fun p => K p.1 p.2
def Nat1 {α ρ : Type} (r : Option α) (K : α → Option ρ) : Option ρ := r.bind K
omit [Names] in
theorem imm_nat (get : Get) (t : Ty) (v : AV) (K : t.den → List Ref → Option ρ) : imm get t v K = Nat2 (imm get t v pr) K := by
  cases t with
  | unit => cases v <;> rfl
  | pair a b => cases v <;> rfl
  | int k =>
    cases v <;> try rfl
    simp only [imm]
    split <;> rfl
  | bool => cases v <;> rfl
  | str => cases v <;> rfl
  | nm => cases v <;> rfl
  | list t =>
    cases v <;> try rfl
    · rename_i b t' xs
      cases b with
      | true => rfl
      | false => simp only [imm]; split <;> rfl
    · rename_i r vw
      simp only [imm]
      cases get.ob r with
      | gone => rfl
      | box => rfl
      | lst z e t' xs => dsimp only; split <;> rfl
  | ols e t =>
    cases v <;> try rfl
    rename_i r vw
    cases vw with
    | sub => rfl
    | whole =>
      simp only [imm]
      cases get.ob r with
      | gone => rfl
      | box => rfl
      | lst z e' t' xs =>
        cases z with
        | true => rfl
        | false => dsimp only; split <;> (try split) <;> rfl
  | olq e t => cases v <;> rfl
omit [Names] in
theorem toRow_nat (get : Get) : ∀ (t : Ty) {ρ : Type} (cs : List AV) (K : t.den → List Ref → Option ρ), toRow get t cs K = Nat2 (toRow get t cs pr) K
  | .unit, _, cs, K => by cases cs <;> rfl
  | .pair a b, ρ, cs, K => by
    simp only [toRow]
    have e1 := toRow_nat get a (cs.take a.w) (fun x ks => toRow get b (cs.drop a.w) fun y ks' => K (x, y) (ks ++ ks'))
    have e2 := toRow_nat get a (cs.take a.w) (fun x ks => toRow get b (cs.drop a.w) fun y ks' => pr ((x, y) : a.den × b.den) (ks ++ ks'))
    rw [e1, e2]
    cases toRow get a (cs.take a.w) pr with
    | none => rfl
    | some p =>
      simp only [Nat2, Option.bind_some]
      have e1 := toRow_nat get b (cs.drop a.w) (fun y ks' => K (p.1, y) (p.2 ++ ks'))
      have e2 := toRow_nat get b (cs.drop a.w) (fun y ks' => pr ((p.1, y) : a.den × b.den) (p.2 ++ ks'))
      rw [e1, e2]
      cases toRow get b (cs.drop a.w) pr with
      | none => rfl
      | some q => rfl
  | .int k, _, cs, K => by
    cases cs with
    | nil => rfl
    | cons v cs => cases cs with
      | nil => exact imm_nat get _ v K
      | cons _ _ => rfl
  | .bool, _, cs, K => by
    cases cs with
    | nil => rfl
    | cons v cs => cases cs with
      | nil => exact imm_nat get _ v K
      | cons _ _ => rfl
  | .str, _, cs, K => by
    cases cs with
    | nil => rfl
    | cons v cs => cases cs with
      | nil => exact imm_nat get _ v K
      | cons _ _ => rfl
  | .list t, _, cs, K => by
    cases cs with
    | nil => rfl
    | cons v cs => cases cs with
      | nil => exact imm_nat get _ v K
      | cons _ _ => rfl
  | .nm, _, cs, K => by
    cases cs with
    | nil => rfl
    | cons v cs => cases cs with
      | nil => exact imm_nat get _ v K
      | cons _ _ => rfl
  | .olq _ _, _, cs, K => by
    cases cs with
    | nil => rfl
    | cons v cs => cases cs <;> rfl
  | .ols _ _, _, cs, K => by
    cases cs with
    | nil => rfl
    | cons v cs => cases cs with
      | nil => exact imm_nat get _ v K
      | cons _ _ => rfl
omit [Names] in
theorem putRow_nat (get : Get) : ∀ (t : Ty) {ρ : Type} (x : t.den) (off : Nat) (cs : List AV) (K : t.den → List Ref → Option ρ), putRow get t x off cs K = Nat2 (putRow get t x off cs pr) K
  | .pair a b, _, x, off, cs, K => by
    simp only [putRow]
    split
    · exact toRow_nat get (.pair a b) cs K
    · split
      · have e1 := putRow_nat get a x.1 off cs (fun y ks => K (y, x.2) ks)
        have e2 := putRow_nat get a x.1 off cs (fun y ks => pr ((y, x.2) : a.den × b.den) ks)
        rw [e1, e2]
        cases putRow get a x.1 off cs pr <;> rfl
      · have e1 := putRow_nat get b x.2 (off - a.w) cs (fun y ks => K (x.1, y) ks)
        have e2 := putRow_nat get b x.2 (off - a.w) cs (fun y ks => pr ((x.1, y) : a.den × b.den) ks)
        rw [e1, e2]
        cases putRow get b x.2 (off - a.w) cs pr <;> rfl
  | .int k, _, x, off, cs, K => by cases off with | zero => exact toRow_nat get (.int k) cs K | succ n => rfl
  | .bool, _, x, off, cs, K => by cases off with | zero => exact toRow_nat get .bool cs K | succ n => rfl
  | .str, _, x, off, cs, K => by cases off with | zero => exact toRow_nat get .str cs K | succ n => rfl
  | .list t, _, x, off, cs, K => by cases off with | zero => exact toRow_nat get (.list t) cs K | succ n => rfl
  | .unit, _, x, off, cs, K => by cases off with | zero => exact toRow_nat get .unit cs K | succ n => rfl
  | .nm, _, x, off, cs, K => by cases off with | zero => exact toRow_nat get .nm cs K | succ n => rfl
  | .olq e t, _, x, off, cs, K => by cases off with | zero => exact toRow_nat get (.olq e t) cs K | succ n => rfl
  | .ols e t, _, x, off, cs, K => by cases off with | zero => exact toRow_nat get (.ols e t) cs K | succ n => rfl
omit [Names] in
theorem toRows_nat (get : Get) (t : Ty) : ∀ (vs : List AV) {ρ : Type} (K : List t.den → List Ref → Option ρ), toRows get t vs K = Nat2 (toRows get t vs pr) K
  | [], _, _ => rfl
  | v :: vs, _, K => by
    simp only [toRows]
    split
    · have e1 := toRow_nat get t v.cells (fun x ks => toRows get t vs fun xs ks' => K (x :: xs) (ks ++ ks'))
      have e2 := toRow_nat get t v.cells (fun x ks => toRows get t vs fun xs ks' => pr (x :: xs) (ks ++ ks'))
      rw [e1, e2]
      cases toRow get t v.cells pr with
      | none => rfl
      | some p =>
        simp only [Nat2, Option.bind_some]
        have e1 := toRows_nat get t vs (fun xs ks' => K (p.1 :: xs) (p.2 ++ ks'))
        have e2 := toRows_nat get t vs (fun xs ks' => pr (p.1 :: xs) (p.2 ++ ks'))
        rw [e1, e2]
        cases toRows get t vs pr <;> rfl
    · rfl
omit [Names] in
theorem dif_nat {α : Type} {t t' : Ty} (xs : List t'.den) (f : List t.den → List t.den) (K : List t.den → Option ρ) : (if h : t' = t then K (f (h ▸ xs)) else none) = Nat1 (if h : t' = t then some (f (h ▸ xs)) else none) K := by
  by_cases h : t' = t
  · rw [dif_pos h, dif_pos h]; rfl
  · rw [dif_neg h, dif_neg h]; rfl
omit [Names] in
theorem rowsOf_nat (get : Get) (t : Ty) (v : AV) (K : List t.den → Option ρ) : rowsOf get t v K = Nat1 (rowsOf get t v some) K := by
  cases v with
  | il b t' xs =>
    simp only [rowsOf]
    cases (!b || t.flat) with
    | false => rfl
    | true => exact dif_nat (α := Unit) xs (fun x => x) K
  | ol r vw =>
    simp only [rowsOf]
    cases get.ob r with
    | gone => rfl
    | box => rfl
    | lst z e t' xs => exact dif_nat (α := Unit) xs (fun x => view x vw) K
  | str s =>
    simp only [rowsOf]
    by_cases h : t = .int .u8
    · rw [dif_pos h, dif_pos h]; rfl
    · rw [dif_neg h, dif_neg h]; rfl
  | _ => rfl
omit [Names] in
theorem appendK_nat (get : Get) (d e : Nat) (t : Ty) (cap : Nat) (s : AV) (ys : List t.den) (K : AV → Upd → Option ρ) : appendK get d e t cap s ys K = Nat2 (appendK get d e t cap s ys pr) K := by
  cases s with
  | nils =>
    simp only [appendK]
    split <;> rfl
  | ol r vw =>
    cases vw with
    | sub lo hi =>
      simp only [appendK]
      cases get.ob r with
      | gone => rfl
      | box => rfl
      | lst z e' t' xs =>
        dsimp only
        by_cases h : t' = t
        · rw [dif_pos h, dif_pos h]
          split
          · split <;> rfl
          · rfl
        · rw [dif_neg h, dif_neg h]; rfl
    | whole =>
      simp only [appendK]
      cases get.ob r with
      | gone => rfl
      | box => rfl
      | lst z e' t' xs =>
        dsimp only
        by_cases h : t' = t
        · rw [dif_pos h, dif_pos h]
          split
          · split <;> rfl
          · rfl
        · rw [dif_neg h, dif_neg h]; rfl
  | _ => rfl
omit [Names] in
theorem boxInts_nat (k : IntKind) : ∀ {ρ : Type} (cs : List AV) (K : List Int → Option ρ), boxInts k cs K = Nat1 (boxInts k cs some) K
  | _, [], _ => rfl
  | _, c :: cs, K => by
    cases c <;> try rfl
    simp only [boxInts]
    split
    · refine (boxInts_nat k cs _).trans (Eq.trans ?_ (congrArg (fun r => Nat1 r K) (boxInts_nat k cs _)).symm)
      cases boxInts k cs some <;> rfl
    · rfl
omit [Names] in
theorem loadK_nat (T : TT) (get : Get) (t : Nat) (a : AV) (K : AV → Option ρ) : loadK T get t a K = Nat1 (loadK T get t a some) K := by
  unfold loadK
  dsimp only
  split
  case h_2 =>
    split
    case h_2 =>
      split
      · refine (boxInts_nat _ _ _).trans (Eq.trans ?_ (congrArg (fun r => Nat1 r K) (boxInts_nat _ _ _)).symm)
        cases boxInts _ _ some with
        | none => rfl
        | some xs => simp only [Nat1, Option.bind_some]; split <;> rfl
      · rfl
    all_goals (repeat' split) <;> rfl
  all_goals (repeat' split) <;> rfl
omit [Names] in
theorem rowLeave_nat (d g : Nat) : ∀ (t : Ty) {ρ : Type} (x : t.den) (j : Nat) (K : List AV → List (Nat × Ob) → Option ρ), rowLeave d g t x j K = Nat2 (rowLeave d g t x j pr) K
  | .olq e t, _, x, j, K => by cases x <;> rfl
  | .pair a b, ρ, x, j, K => by
    simp only [rowLeave]
    have e1 := rowLeave_nat d g a x.1 j (fun cs os => rowLeave d g b x.2 (j + os.length) fun cs' os' => K (cs ++ cs') (os ++ os'))
    have e2 := rowLeave_nat d g a x.1 j (fun cs os => rowLeave d g b x.2 (j + os.length) fun cs' os' => pr (cs ++ cs') (os ++ os'))
    rw [e1, e2]
    cases rowLeave d g a x.1 j pr with
    | none => rfl
    | some p =>
      simp only [Nat2, Option.bind_some]
      have e3 := rowLeave_nat d g b x.2 (j + p.2.length) (fun cs' os' => K (p.1 ++ cs') (p.2 ++ os'))
      have e4 := rowLeave_nat d g b x.2 (j + p.2.length) (fun cs' os' => pr (p.1 ++ cs') (p.2 ++ os'))
      rw [e3, e4]
      cases rowLeave d g b x.2 (j + p.2.length) pr <;> rfl
  | .int _, _, _, _, _ => rfl
  | .bool, _, _, _, _ => rfl
  | .str, _, _, _, _ => rfl
  | .list _, _, _, _, _ => rfl
  | .nm, _, _, _, _ => rfl
  | .unit, _, _, _, _ => rfl
  | .ols _ _, _, _, _, _ => rfl
omit [Names] in
theorem leaveK_nat (T : TT) (get : Get) (d t : Nat) (a : AV) (K : AV → Upd → Option ρ) {K' : Option ρ} {K'' : Option (AV × Upd)} (h : K' = Nat2 K'' K) : leaveK T get d t a K K' = Nat2 (leaveK T get d t a pr K'') K := by
  unfold leaveK
  split
  · split
    · split
      · split
        · refine (rowLeave_nat _ _ _ _ _ _).trans (Eq.trans ?_ (congrArg (fun r => Nat2 r K) (rowLeave_nat _ _ _ _ _ _)).symm)
          cases rowLeave _ _ _ _ _ pr <;> rfl
        · rfl
      · exact h
    · exact h
  · exact h
omit [Names] in
theorem storeK_nat (get : Get) (a v : AV) (K : Upd → Option ρ) : storeK get a v K = Nat1 (storeK get a v some) K := by
  unfold storeK
  split
  · (repeat' split) <;> rfl
  · split
    · rename_i r ix off _ z e t0 xs _
      split
      · refine (putRow_nat get t0 (Ty.rd xs ix) off v.cells _).trans (Eq.trans ?_ (congrArg (fun r => Nat1 r K) (putRow_nat get t0 (Ty.rd xs ix) off v.cells _)).symm)
        cases putRow get t0 (Ty.rd xs ix) off v.cells pr with
        | none => rfl
        | some p =>
          simp only [Nat2, Option.bind_some]
          split <;> rfl
      · split
        · refine (putRow_nat get t0 (Ty.rd xs ix) off v.cells _).trans (Eq.trans ?_ (congrArg (fun r => Nat1 r K) (putRow_nat get t0 (Ty.rd xs ix) off v.cells _)).symm)
          cases putRow get t0 (Ty.rd xs ix) off v.cells pr with
          | none => rfl
          | some p =>
            simp only [Nat2, Option.bind_some]
            split <;> rfl
        · rfl
    · rfl
  · split
    · rename_i o _
      split
      · refine (putRow_nat get _ _ _ v.cells _).trans (Eq.trans ?_ (congrArg (fun r => Nat1 r K) (putRow_nat get _ _ _ v.cells _)).symm)
        cases putRow get _ _ _ v.cells pr with
        | none => rfl
        | some p =>
          simp only [Nat2, Option.bind_some]
          split <;> rfl
      · rfl
    · rfl
  · rfl
omit [Names] in
theorem buildK_nat (T : TT) (offs : List (Nat × Nat)) : ∀ (ps : List (Nat × AV)) (cs : List AV) (K : List AV → Option ρ), buildK T offs cs ps K = Nat1 (buildK T offs cs ps some) K
  | [], _, _ => rfl
  | (i, v) :: r, cs, K => by
    simp only [buildK]
    split
    · split
      · split
        · exact buildK_nat T offs r _ K
        · rfl
      · rfl
    · rfl
omit [Names] in
theorem sliceIdx_nat (len bound : Int) (lo hi : Option AV) (K : Int → Int → Option ρ) : sliceIdx len bound lo hi K = Nat2 (sliceIdx len bound lo hi pr) K := by
  unfold sliceIdx
  split <;> (repeat' split) <;> rfl
omit [Names] in
theorem dif_nat2 {t t' : Ty} (xs : List t'.den) (f : List t.den → List t.den) (tk : Took) (K : List t.den → Took → Option ρ) : (if h : t' = t then K (f (h ▸ xs)) tk else none) = Nat2 (if h : t' = t then pr (f (h ▸ xs)) tk else none) K := by
  by_cases h : t' = t
  · rw [dif_pos h, dif_pos h]; rfl
  · rw [dif_neg h, dif_neg h]; rfl
omit [Names] in
theorem pack_nat (get : Get) (p : Pat) : ∀ {ρ : Type} (vs : List AV) (K : p.den → Took → Option ρ), pack get p vs K = Nat2 (pack get p vs pr) K := by
  induction p with
  | any =>
    intro ρ vs K
    match vs with
    | [] => rfl
    | [v] => rfl
    | _ :: _ :: _ => rfl
  | int k =>
    intro ρ vs K
    match vs with
    | [] => rfl
    | [v] =>
      cases v <;> try rfl
      rename_i k' n
      simp only [pack]
      by_cases h : k' = k
      · rw [if_pos h, if_pos h]; rfl
      · rw [if_neg h, if_neg h]; rfl
    | v :: _ :: _ => cases v <;> rfl
  | bool =>
    intro ρ vs K
    match vs with
    | [] => rfl
    | [v] => cases v <;> rfl
    | v :: _ :: _ => cases v <;> rfl
  | nils =>
    intro ρ vs K
    match vs with
    | [] => rfl
    | [v] => cases v <;> rfl
    | v :: _ :: _ => cases v <;> rfl
  | str =>
    intro ρ vs K
    match vs with
    | [] => rfl
    | [v] => cases v <;> rfl
    | v :: _ :: _ => cases v <;> rfl
  | il b t =>
    intro ρ vs K
    match vs with
    | [] => rfl
    | [v] =>
      cases v <;> try rfl
      · rename_i b' t' xs
        simp only [pack]
        cases (b' && !b) with
        | true => rfl
        | false => exact dif_nat2 xs (fun x => x) _ K
      · rename_i r vw
        simp only [pack]
        cases get.ob r with
        | gone => rfl
        | box => rfl
        | lst z e t' xs => dsimp only; split <;> (try split) <;> (try split) <;> rfl
      · cases b with
        | false => rfl
        | true => simp only [pack]; split <;> (try split) <;> (try split) <;> rfl
    | v :: _ :: _ => cases v <;> rfl
  | nm =>
    intro ρ vs K
    match vs with
    | [] => rfl
    | [v] => cases v <;> rfl
    | v :: _ :: _ => cases v <;> rfl
  | own z e t =>
    intro ρ vs K
    match vs with
    | [] => cases z <;> rfl
    | [v] =>
      cases v <;> try (cases z <;> rfl)
      rename_i r vw
      cases vw with
      | sub lo hi =>
        cases z <;>
        · simp only [pack]
          cases get.ob r with
          | gone => rfl
          | box => rfl
          | lst z' e' t' xs =>
            dsimp only
            by_cases h : t' = t ∧ t.hasO = false
            · rw [dif_pos h, dif_pos h]
              split <;> rfl
            · rw [dif_neg h, dif_neg h]; rfl
      | whole =>
        cases z <;>
        · simp only [pack]
          cases get.ob r with
          | gone => rfl
          | box => rfl
          | lst z' e' t' xs =>
            dsimp only
            by_cases h : t' = t
            · rw [dif_pos h, dif_pos h]; split <;> rfl
            · rw [dif_neg h, dif_neg h]
              by_cases h2 : t'.q = t
              · rw [dif_pos h2, dif_pos h2]; split <;> rfl
              · rw [dif_neg h2, dif_neg h2]; rfl
    | v :: _ :: _ => cases v <;> cases z <;> first | rfl | (rename_i vw; cases vw <;> rfl)
  | «mut» z e t =>
    intro ρ vs K
    match vs with
    | [] => cases z <;> rfl
    | [v] =>
      cases v <;> try (cases z <;> rfl)
      rename_i r vw
      cases vw with
      | sub lo hi => cases z <;> rfl
      | whole =>
        cases z <;>
        · simp only [pack]
          cases get.ob r with
          | gone => rfl
          | box => rfl
          | lst z' e' t' xs =>
            dsimp only
            by_cases h : t' = t
            · rw [dif_pos h, dif_pos h]; split <;> rfl
            · rw [dif_neg h, dif_neg h]; rfl
    | v :: _ :: _ => cases v <;> cases z <;> first | rfl | (rename_i vw; cases vw <;> rfl)
  | nil =>
    intro ρ vs K
    match vs with
    | [] => rfl
    | _ :: _ => rfl
  | ptr po p ih =>
    intro ρ vs K
    match vs with
    | [] => rfl
    | [v] =>
      cases v <;> try rfl
      rename_i r off
      simp only [pack]
      cases Nat.beq off po with
      | false => rfl
      | true =>
        dsimp only
        cases get.ob r with
        | gone => rfl
        | lst => rfl
        | box cs =>
          refine (ih cs _).trans (Eq.trans ?_ (congrArg (fun r => Nat2 r K) (ih cs _)).symm)
          cases pack get p cs pr <;> rfl
    | v :: _ :: _ => cases v <;> rfl
  | agg p ih =>
    intro ρ vs K
    match vs with
    | [] => rfl
    | [v] => cases v <;> first | rfl | exact ih _ K
    | v :: _ :: _ => cases v <;> rfl
  | mag p ih =>
    intro ρ vs K
    match vs with
    | [] => rfl
    | [v] => cases v <;> first | rfl | exact ih _ K
    | v :: _ :: _ => cases v <;> rfl
  | tup p ih =>
    intro ρ vs K
    match vs with
    | [] => rfl
    | [v] => cases v <;> first | rfl | exact ih _ K
    | v :: _ :: _ => cases v <;> rfl
  | fn f p ih =>
    intro ρ vs K
    match vs with
    | [] => rfl
    | [v] =>
      cases v <;> try rfl
      simp only [pack]
      split
      · exact ih _ K
      · rfl
    | v :: _ :: _ => cases v <;> rfl
  | cons a b iha ihb =>
    intro ρ vs K
    match vs with
    | [] => rfl
    | v :: vs =>
      simp only [pack]
      refine (iha [v] _).trans (Eq.trans ?_ (congrArg (fun r => Nat2 r K) (iha [v] _)).symm)
      cases pack get a [v] pr with
      | none => rfl
      | some p =>
        simp only [Nat2, Option.bind_some]
        refine (ihb vs _).trans (Eq.trans ?_ (congrArg (fun r => Nat2 r K) (ihb vs _)).symm)
        cases pack get b vs pr <;> rfl
omit [Names] in
theorem callN_nat (es : List Entry) (f : Nat) (args : List AV) (get : Get) (d : Nat) (K : AV → Upd → Option ρ) : callN es f args get d K = Nat2 (callN es f args get d pr) K := by
  unfold callN
  cases findE f (keyOf args) es with
  | none => rfl
  | some e =>
    dsimp only
    refine (pack_nat get e.ps args _).trans (Eq.trans ?_ (congrArg (fun r => Nat2 r K) (pack_nat get e.ps args _)).symm)
    cases pack get e.ps args pr with
    | none => rfl
    | some p =>
      simp only [Nat2, Option.bind_some]
      split
      · rfl
      · cases e.F p.1 with
        | none => rfl
        | some r => simp only [Option.bind_some]; split <;> rfl
omit [Names] in
theorem callK_nat (es : List Entry) (f : Nat) (args : List AV) (get : Get) (d : Nat) (K : AV → Upd → Option ρ) : callK es f args get d K = Nat2 (callK es f args get d pr) K := by
  have plain := fun args => callN_nat es f args get d K
  cases args with
  | nil => exact plain _
  | cons a rest =>
    cases a <;> try exact plain _
    rename_i r k i off
    simp only [callK]
    cases findE f (keyOf (.nl r k i off :: rest)) es with
    | none => rfl
    | some e =>
      dsimp only
      cases e.ps.mut1 with
      | false => exact plain _
      | true =>
        dsimp only
        cases nlOf get r k i off with
        | none => rfl
        | some o =>
          dsimp only
          cases get.ob r with
          | gone => rfl
          | box => rfl
          | lst z e0 t xs =>
            dsimp only
            split
            · refine (callN_nat es f _ _ d _).trans (Eq.trans ?_ (congrArg (fun r => Nat2 r K) (callN_nat es f _ _ d _)).symm)
              cases callN es f _ _ d pr with
              | none => rfl
              | some p =>
                simp only [Nat2, Option.bind_some]
                split
                · split <;> rfl
                · rfl
            · rfl
omit [Names] in
theorem litK_nat (get : Get) (d : Nat) (k : TK) (n : Nat) (vs : Option (List AV)) (K : AV → Upd → Option ρ) : litK get d k n vs K = Nat2 (litK get d k n vs pr) K := by
  unfold litK
  split
  · split
    · refine (toRows_nat get _ _ _).trans (Eq.trans ?_ (congrArg (fun r => Nat2 r K) (toRows_nat get _ _ _)).symm)
      cases toRows get _ _ pr with
      | none => rfl
      | some p =>
        simp only [Nat2, Option.bind_some]
        split <;> rfl
    · rfl
  · rfl
omit [Names] in
theorem convK_nat (get : Get) (d sw : Nat) (src dst : TK) (x : AV) (K : AV → Upd → Option ρ) : convK get d sw src dst x K = Nat2 (convK get d sw src dst x pr) K := by
  unfold convK
  split
  · (repeat' split) <;> rfl
  · (repeat' split) <;> rfl
  · split
    · (repeat' split) <;> rfl
    · split
      · split
        · rfl
        · refine (rowsOf_nat get (.int .u8) _ _).trans (Eq.trans ?_ (congrArg (fun r => Nat2 r K) (rowsOf_nat get (.int .u8) _ _)).symm)
          cases rowsOf get (.int .u8) _ some <;> rfl
      · rfl
    · rfl
  · rfl
omit [Names] in
theorem makeK_nat (T : TT) (get : Get) (d : Nat) (k : TK) (n m : AV) (K : AV → Upd → Option ρ) : makeK T get d k n m K = Nat2 (makeK T get d k n m pr) K := by
  unfold makeK
  split
  · split
    · split
      · split
        · unfold zeroRow
          split
          · rfl
          · refine (toRow_nat get _ _ _).trans (Eq.trans ?_ (congrArg (fun r => Nat2 r K) (toRow_nat get _ _ _)).symm)
            cases toRow get _ _ pr with
            | none => rfl
            | some p =>
              simp only [Nat2, Option.bind_some]
              split <;> rfl
        · rfl
      · rfl
    · rfl
  · rfl
omit [Names] in
theorem cutK_nat (get : Get) (k : TK) (x : AV) (lo hi : Option AV) (K : AV → Upd → Option ρ) : cutK get k x lo hi K = Nat2 (cutK get k x lo hi pr) K := by
  have go : ∀ (len bound : Int) (f : Int → Int → AV), sliceIdx len bound lo hi (fun l h => K (f l h) []) = Nat2 (sliceIdx len bound lo hi (fun l h => pr (f l h) ([] : Upd))) K := by
    intro len bound f
    refine (sliceIdx_nat len bound lo hi _).trans (Eq.trans ?_ (congrArg (fun r => Nat2 r K) (sliceIdx_nat len bound lo hi _)).symm)
    cases sliceIdx len bound lo hi pr <;> rfl
  unfold cutK
  split
  · exact go _ _ _
  · exact go _ _ _
  · split
    · exact go _ _ _
    · rfl
  · split
    · split
      · exact go _ _ _
      · rfl
    · rfl
  · split
    · split
      · exact go _ _ _
      · rfl
    · rfl
  · rfl
omit [Names] in
theorem binK_nat (T : TT) (op : BinOp) (t : Nat) (x y : AV) (K : AV → Upd → Option ρ) : binK T op t x y K = Nat2 (binK T op t x y pr) K := by
  unfold binK
  split
  · split
    · unfold shiftBin; (repeat' split) <;> rfl
    · unfold shiftBin; (repeat' split) <;> rfl
    · split
      · unfold intBin; (repeat' split) <;> rfl
      · rfl
  · unfold strBin; (repeat' split) <;> rfl
  · unfold boolK; (repeat' split) <;> rfl
  · unfold aggK; (repeat' split) <;> rfl
  · rfl
omit [Names] in
theorem clearK_nat (T : TT) (get : Get) (e : Nat) (ty : Ty) (x : AV) (K : AV → Upd → Option ρ) : clearK T get e ty x K = Nat2 (clearK T get e ty x pr) K := by
  unfold clearK
  split
  · split
    · rename_i z e' t' xs _
      by_cases h : t' = ty ∧ ty.hasO = false
      · rw [dif_pos h, dif_pos h]
        unfold zeroRow
        split
        · rfl
        · refine (toRow_nat get _ _ _).trans (Eq.trans ?_ (congrArg (fun r => Nat2 r K) (toRow_nat get _ _ _)).symm)
          cases toRow get _ _ pr with
          | none => rfl
          | some p =>
            simp only [Nat2, Option.bind_some]
            split <;> rfl
      · rw [dif_neg h, dif_neg h]; rfl
    · rfl
  · rfl
omit [Names] in
theorem appendT_nat (get : Get) (d e : Nat) (t : Ty) (cap : Nat) (s x : AV) (K : AV → Upd → Option ρ) : appendT get d e t cap s x K = Nat2 (appendT get d e t cap s x pr) K := by
  cases x with
  | ol r' vw =>
    cases vw with
    | sub => rfl
    | whole =>
      simp only [appendT]
      cases get.ob r' with
      | gone => rfl
      | box => rfl
      | lst z2 e2 t2 ys =>
        cases z2 with
        | true => rfl
        | false =>
          dsimp only
          by_cases h2 : t2 = t
          · rw [dif_pos h2, dif_pos h2]
            cases Nat.beq e2 e with
            | false => rfl
            | true =>
              dsimp only
              cases s with
              | nils => dsimp only; split <;> rfl
              | ol r vw =>
                cases vw with
                | whole =>
                  dsimp only
                  cases get.ob r with
                  | gone => rfl
                  | box => rfl
                  | lst z e' t' xs =>
                    dsimp only
                    by_cases h : t' = t
                    · rw [dif_pos h, dif_pos h]
                      split
                      · split <;> rfl
                      · rfl
                    · rw [dif_neg h, dif_neg h]; rfl
                | sub lo hi =>
                  dsimp only
                  cases get.ob r with
                  | gone => rfl
                  | box => rfl
                  | lst z e' t' xs =>
                    dsimp only
                    by_cases h : t' = t
                    · rw [dif_pos h, dif_pos h]
                      split
                      · split <;> rfl
                      · rfl
                    · rw [dif_neg h, dif_neg h]; rfl
              | _ => rfl
          · rw [dif_neg h2, dif_neg h2]; rfl
  | _ => rfl
omit [Names] in
theorem builtinK_nat (T : TT) (get : Get) (d : Nat) (b : Builtin) (xs : List AV) (ts : List Nat) (K : AV → Upd → Option ρ) : builtinK T get d b xs ts K = Nat2 (builtinK T get d b xs ts pr) K := by
  unfold builtinK
  split
  · (repeat' split) <;> rfl
  · split
    · split
      · split
        · split
          · refine (rowsOf_nat get _ _ _).trans (Eq.trans ?_ (congrArg (fun r => Nat2 r K) (rowsOf_nat get _ _ _)).symm)
            cases rowsOf get _ _ some with
            | none => rfl
            | some p => exact appendK_nat _ _ _ _ _ _ _ K
          · exact appendT_nat _ _ _ _ _ _ _ K
        · rfl
      · rfl
    · rfl
  · (repeat' split) <;> rfl
  · (repeat' split) <;> rfl
  · split
    · split
      · exact clearK_nat _ _ _ _ _ K
      · rfl
    · rfl
  · rfl
omit [Names] in
theorem opK_nat (T : TT) (es : List Entry) (ev : Operand → AV) (get : Get) (d : Nat) (o : Op) (K : AV → Upd → Option ρ) : opK T (callK es) ev get d o K = Nat2 (opK T (callK es) ev get d o pr) K := by
  unfold opK
  split
  case h_3 => unfold pickK; (repeat' split) <;> rfl
  case h_4 => unfold allocK; (repeat' split) <;> rfl
  case h_5 => unfold boxK; (repeat' split) <;> rfl
  case h_6 =>
    unfold structK
    split
    · split
      · refine (buildK_nat T _ _ _ _).trans (Eq.trans ?_ (congrArg (fun r => Nat2 r K) (buildK_nat T _ _ _ _)).symm)
        cases buildK T _ _ _ some <;> rfl
      · rfl
    · split
      · rfl
      · refine (buildK_nat T _ _ _ _).trans (Eq.trans ?_ (congrArg (fun r => Nat2 r K) (buildK_nat T _ _ _ _)).symm)
        cases buildK T _ _ _ some <;> rfl
  case h_7 => exact litK_nat _ _ _ _ _ K
  case h_8 =>
    refine leaveK_nat _ _ _ _ _ _ ?_
    refine (loadK_nat T get _ _ _).trans (Eq.trans ?_ (congrArg (fun r => Nat2 r K) (loadK_nat T get _ _ _)).symm)
    cases loadK T get _ _ some <;> rfl
  case h_9 =>
    split
    · refine (storeK_nat get _ _ _).trans (Eq.trans ?_ (congrArg (fun r => Nat2 r K) (storeK_nat get _ _ _)).symm)
      cases storeK get _ _ some <;> rfl
    · rfl
  case h_10 => unfold nilK; (repeat' split) <;> rfl
  case h_11 => exact binK_nat _ _ _ _ _ K
  case h_12 => unfold unK; (repeat' split) <;> rfl
  case h_13 => exact convK_nat _ _ _ _ _ _ K
  case h_14 => unfold funcK; (repeat' split) <;> rfl
  case h_15 => exact makeK_nat _ _ _ _ _ _ K
  case h_16 => exact cutK_nat _ _ _ _ _ K
  case h_17 => unfold fieldAddrK; (repeat' split) <;> rfl
  case h_18 => unfold fieldK; (repeat' split) <;> rfl
  case h_19 => unfold idxAddrK; (repeat' split) <;> rfl
  case h_20 => unfold idxK; (repeat' split) <;> rfl
  case h_21 => unfold extractK; (repeat' split) <;> rfl
  case h_22 => exact builtinK_nat _ _ _ _ _ _ K
  case h_23 =>
    unfold callVK
    split
    · exact callK_nat _ _ _ _ _ K
    · rfl
  case h_24 => unfold cut3K; (repeat' split) <;> rfl
  all_goals rfl
end
end Go.Eng
end

section
namespace Go.Eng
variable [Names]
def Pat.one : Pat → Bool
  | .any | .int _ | .bool | .str | .nils | .nm | .il _ _ | .own _ _ _ | .mut _ _ _ | .ptr _ _ => true
  | _ => false
def Pat.cells : Pat → Bool
  | .nil => true
  | .cons a b => a.one && b.cells
  | _ => false
def Pat.single : Pat → Bool
  | .nil | .cons _ _ | .tup _ => false
  | _ => true
def Pat.vals : Pat → Bool
  | .nil => true
  | .cons a b => a.single && b.vals
  | _ => false
def Pat.ok : Pat → Bool
  | .ptr _ p => p.cells && (p.ok && true)
  | .agg p | .mag p | .fn _ p => p.cells && p.ok
  | .tup p => p.vals && p.ok
  | .cons a b => a.ok && b.ok
  | _ => true
def Rep (F B : Nat → Prop) (w : World) : (p : Pat) → p.den → List Value → List Nat → Prop
  | .any, _, vs, S => (∃ v, vs = [v]) ∧ S = []
  | .int k, n, vs, S => vs = [.int k n] ∧ S = []
  | .bool, b, vs, S => vs = [.bool b] ∧ S = []
  | .str, s, vs, S => vs = [.string s] ∧ S = []
  | .nils, _, vs, S => vs = [.slice none 0 0] ∧ S = []
  | .nm, n, vs, S => vs = [Names.nu n] ∧ S = []
  | .il b t, xs, vs, S => IRep (fun x => F x ∨ (b = true ∧ B x)) w (.list t) xs vs ∧ S = []
  | .own z e t, xs, vs, S => ∃ l : LV, vs = [hdr l xs.length] ∧ S = l.all ∧ LstOk F w l z e t xs
  | .mut z e t, xs, vs, S => ∃ l : LV, vs = [hdr l xs.length] ∧ S = l.all ∧ LstOk F w l z e t xs
  | .ptr o p, x, vs, S => ∃ b cs e fr S', vs = [.pointer (some ⟨b, o, none⟩)] ∧ S = b :: S' ∧ w.heap[b]? = some (.cells cs e fr) ∧ Thaw fr cs.size ∧ (∀ v ∈ cs.toList, v.oneCell' = true) ∧ Rep F B w p x cs.toList S'
  | .agg p, x, vs, S => ∃ cs : Array Value, vs = [.agg cs] ∧ (∀ v ∈ cs.toList, v.oneCell' = true) ∧ Rep F B w p x cs.toList S
  | .mag p, x, vs, S => ∃ cs : Array Value, vs = [.agg cs] ∧ (∀ v ∈ cs.toList, v.oneCell' = true) ∧ Rep F B w p x cs.toList S
  | .tup p, x, vs, S => ∃ cs : Array Value, vs = [.tuple cs] ∧ Rep F B w p x cs.toList S
  | .fn f p, x, vs, S => ∃ cs : Array Value, vs = [.func (.func f) #[] cs] ∧ (∀ v ∈ cs.toList, v.oneCell' = true) ∧ Rep F B w p x cs.toList S
  | .nil, _, vs, S => vs = [] ∧ S = []
  | .cons a b, x, vs, S => ∃ v vs' S1 S2, vs = v :: vs' ∧ S = S1 ++ S2 ∧ Rep F B w a x.1 [v] S1 ∧ Rep F B w b x.2 vs' S2
section
variable {base : Nat} {S : List Nat} {B F B' F' : Nat → Prop} {w0 : World} {objs : Upd} {loc : Loc} {w w' : World} {ρ : Type}
theorem Rep.mono (hF : ∀ b, F b → F' b) (hB : ∀ b, B b → B' b) (hsF : Same F w w') (hsB : Same B w w') : ∀ {p : Pat} {x : p.den} {vs : List Value} {Sx : List Nat}, (∀ b ∈ Sx, w'.heap[b]? = w.heap[b]?) → Rep F B w p x vs Sx → Rep F' B' w' p x vs Sx
  | .any, _, _, _, _, h => h
  | .int _, _, _, _, _, h => h
  | .bool, _, _, _, _, h => h
  | .str, _, _, _, _, h => h
  | .nils, _, _, _, _, h => h
  | .nm, _, _, _, _, h => h
  | .il b t, xs, _, _, _, h => ⟨h.1.mono (fun c hc => hc.imp (hF c) fun ⟨e, hc⟩ => ⟨e, hB c hc⟩) (fun c hc => hc.elim (hsF c) fun hc => hsB c hc.2), h.2⟩
  | .own z e t, xs, _, _, hS, h => by
    obtain ⟨l, rfl, rfl, h⟩ := h
    exact ⟨l, rfl, rfl, h.mono hF hsF fun b hb => hS b hb⟩
  | .mut z e t, xs, _, _, hS, h => by
    obtain ⟨l, rfl, rfl, h⟩ := h
    exact ⟨l, rfl, rfl, h.mono hF hsF fun b hb => hS b hb⟩
  | .ptr _ p, x, _, _, hS, h => by
    obtain ⟨b, cs, e, fr, S', rfl, rfl, h1, h2, h3, h4⟩ := h
    exact ⟨b, cs, e, fr, S', rfl, rfl, (hS b (by simp)).trans h1, h2, h3, Rep.mono hF hB hsF hsB (fun c hc => hS c (by simp [hc])) h4⟩
  | .agg p, x, _, _, hS, h => by
    obtain ⟨cs, rfl, h3, h4⟩ := h
    exact ⟨cs, rfl, h3, Rep.mono hF hB hsF hsB hS h4⟩
  | .mag p, x, _, _, hS, h => by
    obtain ⟨cs, rfl, h3, h4⟩ := h
    exact ⟨cs, rfl, h3, Rep.mono hF hB hsF hsB hS h4⟩
  | .tup p, x, _, _, hS, h => by
    obtain ⟨cs, rfl, h4⟩ := h
    exact ⟨cs, rfl, Rep.mono hF hB hsF hsB hS h4⟩
  | .fn f p, x, _, _, hS, h => by
    obtain ⟨cs, rfl, h3, h4⟩ := h
    exact ⟨cs, rfl, h3, Rep.mono hF hB hsF hsB hS h4⟩
  | .nil, _, _, _, _, h => h
  | .cons a b, x, _, _, hS, h => by
    obtain ⟨v, vs', S1, S2, rfl, rfl, h1, h2⟩ := h
    exact ⟨v, vs', S1, S2, rfl, rfl, Rep.mono hF hB hsF hsB (fun c hc => hS c (by simp [hc])) h1, Rep.mono hF hB hsF hsB (fun c hc => hS c (by simp [hc])) h2⟩
def Vals (objs : Upd) (loc : Loc) (F B : Nat → Prop) (w : World) : List AV → List Value → Prop
  | [], [] => True
  | a :: as, v :: vs => Val objs loc F B w a v ∧ Vals objs loc F B w as vs
  | _, _ => False
theorem Leafs.vals : ∀ {as : List AV} {vs : List Value}, Leafs objs loc F B w as vs → Vals objs loc F B w as vs
  | [], [], _ => trivial
  | _ :: _, _ :: _, h => ⟨leaf_val h.2.1, Leafs.vals h.2.2⟩
  | [], _ :: _, h => h.elim
  | _ :: _, [], h => h.elim
theorem Val1s.vals : ∀ {as : List AV} {vs : List Value}, Val1s objs loc F B w as vs → Vals objs loc F B w as vs
  | [], [], _ => trivial
  | _ :: _, _ :: _, h => ⟨val1_val h.1, Val1s.vals h.2⟩
  | [], _ :: _, h => h.elim
  | _ :: _, [], h => h.elim
def BK (B : Nat → Prop) (loc : Loc) (ks : List Ref) : Nat → Prop := FK B loc ks
structure TookOk (objs : Upd) (get : Get) (t : Took) : Prop where
  owns : ∀ r ∈ t.owns, live (Get.ob (look objs) r) = true ∧ get r.s = look objs r.s
  imms : ∀ r ∈ t.imms, isLst (Get.ob (look objs) r) = true ∧ get r.s = look objs r.s
  bors : ∀ r ∈ t.bors, isLst (Get.ob (look objs) r) = true
omit [Names] in
theorem TookOk.none (objs : Upd) (get : Get) : TookOk objs get Took.none := ⟨by simp [Took.none], by simp [Took.none], by simp [Took.none]⟩
omit [Names] in
theorem TookOk.and {get : Get} {a b : Took} (h : TookOk objs get a) (k : TookOk objs get b) : TookOk objs get (a.and b) :=
  ⟨fun r hr => (List.mem_append.1 hr).elim (h.owns r) (k.owns r), fun r hr => (List.mem_append.1 hr).elim (h.imms r) (k.imms r), fun r hr => (List.mem_append.1 hr).elim (h.bors r) (k.bors r)⟩
omit [Names] in
theorem none_ob {get : Get} {r : Ref} (h : get r.s = Slot.none) : Get.ob get r = .gone := by
  unfold Get.ob
  rw [h]
  simp only [Slot.none, nth]
  split
  · split <;> rfl
  · rfl
omit [Names] in
theorem seen {get : Get} {r : Ref} (hR : ∀ s, get s = look objs s ∨ get s = Slot.none) (h : Get.ob get r ≠ .gone) : get r.s = look objs r.s :=
  (hR r.s).resolve_right fun e => h (none_ob e)
theorem LstOk.weak {l : LV} {z z' : Bool} {e : Nat} {t : Ty} {xs : List t.den} (h : LstOk F w l z' e t xs) (hz : z = true ∨ z' = false) : LstOk F w l z e t xs := by
  unfold LstOk LstW at h ⊢
  cases hlb : l.blk with
  | none => rw [hlb] at h; exact h
  | some b =>
    rw [hlb] at h
    obtain ⟨vs, fr, Ss, h1, h2, h3⟩ := h
    exact ⟨vs, fr, Ss, h1, fun hz' => h2 (by rcases hz with hz | hz; rw [hz'] at hz; cases hz; exact hz), h3⟩
theorem pack_list {get : Get} (h : SR base S B w0 objs loc F w) (hR : ∀ s, get s = look objs s ∨ get s = Slot.none) {z : Bool} {e : Nat} {t : Ty} {v : AV} {cv : Value} {K : List t.den → Took → Option ρ} {res : ρ}
    (hv : Val objs loc F B w v cv) (hk : ((z = false ∧ v = .nils ∧ K [] .none = some res) ∨ ∃ r, v = .ol r .whole ∧ (match get.ob r with
      | .lst z' e' t' xs => if h : t' = t then (match Nat.beq e' e && (z || !z') with
        | true => K (h ▸ xs) ⟨[r], [], []⟩
        | false => none) else none
      | _ => none) = some res)) :
    ∃ x tk Sx, K x tk = some res ∧ (∃ l : LV, [cv] = [hdr l x.length] ∧ Sx = l.all ∧ LstOk (FK F loc tk.imms) w l z e t x) ∧ Sx = blks loc tk.owns ∧ TookOk objs get tk := by
  rcases hk with ⟨rfl, rfl, hk⟩ | ⟨r, rfl, hk⟩
  · have hv : cv = .slice none 0 0 := hv
    exact ⟨[], .none, [], hk, ⟨LV.nil, by rw [hv]; rfl, rfl, LstOld.ok ⟨rfl, rfl, rfl⟩⟩, rfl, TookOk.none _ _⟩
  · split at hk
    case h_2 => cases hk
    rename_i z' e' t' xs hob
    have hseen := seen (r := r) hR (by rw [hob]; simp)
    rw [ob_get hseen] at hob
    split at hk
    case isFalse => cases hk
    rename_i et
    subst et
    split at hk
    case h_2 => cases hk
    rename_i hb
    simp only [Bool.and_eq_true, Bool.or_eq_true, Bool.not_eq_true'] at hb
    have he := beq_true.1 hb.1
    subst he
    obtain ⟨hg, hj⟩ := ob_some hob (by simp)
    have hcv : cv = hdr (loc r.s r.j) xs.length := RS.found (show Leaf objs loc F B w (.ol r .whole) cv from hv).2 hob (by simp)
    refine ⟨xs, _, (loc r.s r.j).all, hk, ⟨loc r.s r.j, by rw [hcv], rfl, ?_⟩, by simp [blks], ⟨fun r' hr' => ?_, by simp, by simp⟩⟩
    · have hl : LstOk F w (loc r.s r.j) z' e' t' xs := h.obs _ _ _ _ hj
      rw [FK.nil]
      exact hl.weak (by rcases hb.2 with hb | hb; exact .inl hb; exact .inr hb)
    · simp at hr'
      subst hr'
      exact ⟨by rw [hob]; rfl, hseen⟩
omit [Names] in
theorem Ty.q_w : ∀ t : Ty, t.q.w = t.w
  | .pair a b => by simp only [Ty.q, Ty.w, q_w a, q_w b]
  | .ols _ _ => rfl | .olq _ _ => rfl | .list _ => rfl | .int _ => rfl | .bool => rfl | .str => rfl | .unit => rfl | .nm => rfl
theorem TRep.toq : ∀ {t : Ty} {x : t.den} {cs : List Value} {S0 : List Nat}, TRep F w t x cs S0 → TRep F w t.q (t.toq x) cs S0
  | .int _, _, _, _, h => h
  | .bool, _, _, _, h => h
  | .str, _, _, _, h => h
  | .unit, _, _, _, h => h
  | .nm, _, _, _, h => h
  | .list _, _, _, _, h => h
  | .olq _ _, _, _, _, h => h
  | .ols _ _, _, _, _, h => h
  | .pair a b, _, _, _, h => by
    obtain ⟨c, d, S1, S2, rfl, rfl, h1, h2⟩ := h
    exact ⟨c, d, S1, S2, rfl, rfl, h1.toq, h2.toq⟩
theorem LstOk.toq {l : LV} {z : Bool} {e : Nat} {t : Ty} {xs : List t.den} (h : LstOk F w l z e t xs) : LstOk F w l z e t.q (xs.map t.toq) := by
  unfold LstOk LstW at h ⊢
  rw [Ty.q_w]
  cases hb : l.blk with
  | none => rw [hb] at h; exact ⟨by rw [h.1]; rfl, h.2⟩
  | some b =>
    rw [hb] at h
    obtain ⟨vs, fr, Ss, h1, h2, h3, h4, h5, h6, h7, h8, h9, h10⟩ := h
    refine ⟨vs, fr, Ss, h1, h2, h3, by simpa using h4, h5, h6, h7, h8, by simpa using h9, fun i x S hx hS => ?_⟩
    rw [List.getElem?_map] at hx
    cases hy : xs[i]? with
    | none => rw [hy] at hx; cases hx
    | some y =>
      rw [hy] at hx
      injection hx with hx
      subst hx
      obtain ⟨rs, k1, k2, k3⟩ := h10 i y S hy hS
      exact ⟨rs, k1, k2, k3.toq⟩
theorem pack_listQ {get : Get} (h : SR base S B w0 objs loc F w) (hR : ∀ s, get s = look objs s ∨ get s = Slot.none) {z : Bool} {e : Nat} {t : Ty} {v : AV} {cv : Value} {K : List t.den → Took → Option ρ} {res : ρ}
    (hv : Val objs loc F B w v cv) (hk : ((z = false ∧ v = .nils ∧ K [] .none = some res) ∨ ∃ r, v = .ol r .whole ∧ (match get.ob r with
      | .lst z' e' t' xs => if h : t' = t then (match Nat.beq e' e && (z || !z') with
        | true => K (h ▸ xs) ⟨[r], [], []⟩
        | false => none) else if h : t'.q = t then (match Nat.beq e' e && (z || !z') with
        | true => K (h ▸ xs.map t'.toq) ⟨[r], [], []⟩
        | false => none) else none
      | _ => none) = some res)) :
    ∃ x tk Sx, K x tk = some res ∧ (∃ l : LV, [cv] = [hdr l x.length] ∧ Sx = l.all ∧ LstOk (FK F loc tk.imms) w l z e t x) ∧ Sx = blks loc tk.owns ∧ TookOk objs get tk := by
  rcases hk with ⟨rfl, rfl, hk⟩ | ⟨r, rfl, hk⟩
  · exact pack_list h hR hv (.inl ⟨rfl, rfl, hk⟩)
  · cases hob : get.ob r with
    | gone => rw [hob] at hk; cases hk
    | box cs => rw [hob] at hk; cases hk
    | lst z' e' t' xs =>
      rw [hob] at hk
      dsimp only at hk
      by_cases et : t' = t
      · rw [dif_pos et] at hk
        exact pack_list h hR hv (.inr ⟨r, rfl, by rw [hob]; dsimp only; rw [dif_pos et]; exact hk⟩)
      · rw [dif_neg et] at hk
        have hseen := seen (r := r) hR (by rw [hob]; simp)
        rw [ob_get hseen] at hob
        split at hk
        case isFalse => cases hk
        rename_i eq
        subst eq
        split at hk
        case h_2 => cases hk
        rename_i hb
        simp only [Bool.and_eq_true, Bool.or_eq_true, Bool.not_eq_true'] at hb
        have he := beq_true.1 hb.1
        subst he
        obtain ⟨hg, hj⟩ := ob_some hob (by simp)
        have hcv : cv = hdr (loc r.s r.j) xs.length := RS.found (show Leaf objs loc F B w (.ol r .whole) cv from hv).2 hob (by simp)
        refine ⟨xs.map t'.toq, _, (loc r.s r.j).all, hk, ⟨loc r.s r.j, by rw [hcv, List.length_map], rfl, ?_⟩, by simp [blks], ⟨fun r' hr' => ?_, by simp, by simp⟩⟩
        · have hl : LstOk F w (loc r.s r.j) z' e' t' xs := h.obs _ _ _ _ hj
          rw [FK.nil]
          exact hl.toq.weak (by rcases hb.2 with hb | hb; exact .inl hb; exact .inr hb)
        · simp at hr'
          subst hr'
          exact ⟨by rw [hob]; rfl, hseen⟩
theorem lst_sub {l : LV} {z : Bool} {e : Nat} {t : Ty} {xs : List t.den} {lo hi : Int} {v : Value} (hok : LstOk F w l z e t xs) (hv : viewOk l t.w xs.length (.sub lo hi) v) :
    ∃ l' : LV, v = hdr l' (hi - lo).toNat ∧ (List.drop lo.toNat (List.take hi.toNat xs)).length = (hi - lo).toNat ∧ LstOk F w l' z e t (List.drop lo.toNat (List.take hi.toNat xs)) ∧ l'.blk = l.blk ∧ l'.sub.Sublist l.sub := by
  have hxc := hok.cap_le
  obtain ⟨v0, v1, v2, v3, oo, hv, hv4⟩ := hv
  have hlen : (List.drop lo.toNat (List.take hi.toNat xs)).length = (hi - lo).toNat := by rw [List.length_drop, List.length_take]; omega
  unfold LstOk LstW at hok
  cases hb : l.blk with
  | none =>
    rw [hb] at hok
    obtain ⟨rfl, hc, hsub⟩ := hok
    refine ⟨⟨none, oo, l.cap - lo.toNat, []⟩, by rw [hv, hb]; rfl, hlen, ⟨by simp, by show l.cap - _ = 0; omega, rfl⟩, rfl, by rw [hsub]; exact List.Sublist.refl _⟩
  | some b =>
    rw [hb] at hok
    obtain ⟨vs, fr, Ss, hh, hzf, hth, hnc, hcm, hvs, hsub, hnd, hlenS, hrows⟩ := hok
    have hsubset : (List.drop lo.toNat (List.take hi.toNat Ss)).flatten.Sublist l.sub := by
      rw [hsub]
      have h1 : (List.drop lo.toNat (List.take hi.toNat Ss)).flatten.Sublist (List.take hi.toNat Ss).flatten := by
        conv => rhs; rw [← List.take_append_drop lo.toNat (List.take hi.toNat Ss), List.flatten_append]
        exact List.sublist_append_right _ _
      refine h1.trans ?_
      conv => rhs; rw [← List.take_append_drop hi.toNat Ss, List.flatten_append]
      exact List.sublist_append_left _ _
    refine ⟨⟨some b, oo, l.cap - lo.toNat, (List.drop lo.toNat (List.take hi.toNat Ss)).flatten⟩, by rw [hv, hb]; rfl, hlen, ⟨vs, fr, _, hh, hzf, hth, by rw [hlen]; show _ ≤ l.cap - _; omega, Nat.le_trans (Nat.sub_le _ _) hcm, ?_, rfl, hnd.sublist (List.Sublist.cons_cons _ hsubset), by rw [hlen, List.length_drop, List.length_take]; omega, fun i x S0 hx hS => ?_⟩, rfl, hsubset⟩
    · by_cases hc : l.cap - lo.toNat = 0
      · exact .inl hc
      · refine .inr ?_
        show vs.size = oo + (l.cap - lo.toNat) * t.w
        rw [hv4 hc, Nat.add_assoc, ← Nat.add_mul, Nat.add_sub_cancel' v3]
        rcases hvs with h | h
        · omega
        · exact h
    · have hi' := (List.getElem?_eq_some_iff.1 hx).1
      rw [hlen] at hi'
      have hc : l.cap - lo.toNat ≠ 0 := by omega
      rw [List.getElem?_drop, List.getElem?_take, if_pos (by omega)] at hx hS
      obtain ⟨rs, p1, p2, p3⟩ := hrows (lo.toNat + i) x S0 hx hS
      refine ⟨rs, p1, fun j hj => ?_, p3⟩
      rw [← p2 j hj, List.getElem?_drop, List.getElem?_drop]
      show vs.toList[oo + _]? = _
      rw [hv4 hc, Nat.add_mul]
      congr 1
      omega
theorem pack_pre {get : Get} (h : SR base S B w0 objs loc F w) (hR : ∀ s, get s = look objs s ∨ get s = Slot.none) {z : Bool} {e : Nat} {t : Ty} {r : Ref} {lo hi : Int} {cv : Value} {K : List t.den → Took → Option ρ} {res : ρ}
    (hv : Val objs loc F B w (.ol r (.sub lo hi)) cv) (hk : (match get.ob r with
      | .lst z' e' t' xs => if h : t' = t ∧ t.hasO = false then (match Nat.beq e' e && (z || !z') with
        | true => K (List.drop lo.toNat (List.take hi.toNat (h.1 ▸ xs))) ⟨[r], [], []⟩
        | false => none) else none
      | _ => none) = some res) :
    ∃ x tk Sx, K x tk = some res ∧ (∃ l : LV, [cv] = [hdr l x.length] ∧ Sx = l.all ∧ LstOk (FK F loc tk.imms) w l z e t x) ∧ Sx = blks loc tk.owns ∧ TookOk objs get tk := by
  split at hk
  case h_2 => cases hk
  rename_i z' e' t' xs hob
  have hseen := seen (r := r) hR (by rw [hob]; simp)
  rw [ob_get hseen] at hob
  split at hk
  case isFalse => cases hk
  rename_i et
  obtain ⟨et, hto⟩ := et
  subst et
  split at hk
  case h_2 => cases hk
  rename_i hb
  simp only [Bool.and_eq_true, Bool.or_eq_true, Bool.not_eq_true'] at hb
  have he := beq_true.1 hb.1
  subst he
  obtain ⟨hg, hj⟩ := ob_some hob (by simp)
  have hvo : viewOk (loc r.s r.j) t'.w xs.length (.sub lo hi) cv := RS.found (show Leaf objs loc F B w (.ol r (.sub lo hi)) cv from hv).2 hob (by simp)
  have hl : LstOk F w (loc r.s r.j) z' e' t' xs := h.obs _ _ _ _ hj
  obtain ⟨l', k1, k2, k3, k4, _⟩ := lst_sub hl hvo
  have hall : l'.all = (loc r.s r.j).all := by rw [LV.all_of (k3.old hto).1, LV.all_of (hl.old hto).1, k4]
  refine ⟨_, _, (loc r.s r.j).all, hk, ⟨l', by rw [k1, k2], hall.symm, ?_⟩, by simp [blks], ⟨fun r' hr' => ?_, by simp, by simp⟩⟩
  · rw [FK.nil]
    exact k3.weak (by rcases hb.2 with hb | hb; exact .inl hb; exact .inr hb)
  · simp at hr'
    subst hr'
    exact ⟨by rw [hob]; rfl, hseen⟩
omit [Names] in
theorem cast_pair {A A' C C' : Type} (h1 : A = A') (h2 : C = C') (h : (A × C) = (A' × C')) (x : A × C) : cast h x = (cast h1 x.1, cast h2 x.2) := by
  subst h1 h2; rfl
omit [Names] in
theorem cast_list {A A' : Type} (h : A = A') (hl : List A = List A') (xs : List A) : cast hl xs = xs.map (cast h) := by
  subst h
  have : (cast rfl : A → A) = id := by funext x; rfl
  show xs = xs.map (cast rfl)
  rw [this, List.map_id]
omit [Names] in
theorem Ty.ers_map (t : Ty) (xs : List t.den) : t.ers xs = xs.map t.er := cast_list _ _ _
omit [Names] in
theorem Ty.er_pair (a b : Ty) (x : (Ty.pair a b).den) : (Ty.pair a b).er x = (a.er x.1, b.er x.2) := cast_pair _ _ _ _
theorem IRep.er : ∀ {t : Ty} {x : t.den} {cs : List Value}, IRep F w t x cs → IRep F w t.erase (t.er x) cs
  | .int _, _, _, h => h
  | .bool, _, _, h => h
  | .str, _, _, h => h
  | .unit, _, _, h => h
  | .nm, _, _, h => h
  | .ols _ _, _, _, h => h.elim
  | .list t, xs, _, h => by
    obtain ⟨a, n, c, rfl, h1, h2, h3⟩ := h
    have e : (Ty.list t).er xs = xs.map t.er := cast_list _ _ _
    rw [e]
    refine ⟨a, n, c, rfl, by simpa using h1, h2, fun hn => ?_⟩
    obtain ⟨b, o, rfl, hb, hlt, hr⟩ := h3 hn
    refine ⟨b, o, rfl, hb, hlt, fun i hi => ?_⟩
    obtain ⟨rs, k1, k2, k3⟩ := hr i (by simpa using hi)
    refine ⟨rs, by rw [k1, Ty.w_erase], fun j v hj => by rw [Ty.w_erase]; exact k2 j v hj, ?_⟩
    rw [List.getElem_map]
    exact k3.er
  | .pair a b, x, _, h => by
    obtain ⟨c, d, rfl, h1, h2⟩ := h
    rw [Ty.er_pair]
    exact ⟨c, d, rfl, h1.er, h2.er⟩
omit [Names] in
theorem view_get {α : Type} {xs : List α} {vw : View} {i : Nat} {x : α} (h : (view xs vw)[i]? = some x) : xs[vw.lo + i]? = some x := by
  cases vw with
  | whole => simpa [view, View.lo] using h
  | sub lo hi =>
    simp only [view, List.getElem?_drop, View.lo] at h ⊢
    rw [List.getElem?_take] at h
    split at h
    · exact h
    · cases h
theorem LstW.view_irep {t : Ty} (hrec : ∀ {x : t.den} {cs : List Value} {S0 : List Nat}, (∀ b ∈ S0, b < w.heap.size) → TRep F w t x cs S0 → IRep (fun b => F b ∨ b ∈ S0) w t.erase (t.er x) cs) {l : LV} {z : Bool} {e : Nat} {xs : List t.den} {vw : View} {v : Value}
    (h : LstW (TRep F w t) t.w w l z e xs) (hlt : ∀ b ∈ l.all, b < w.heap.size) (hv : viewOk l t.w xs.length vw v) : IRep (fun b => F b ∨ b ∈ l.all) w (.list t.erase) (view (t.ers xs) vw) [v] := by
  unfold LstW at h
  have hlen : ∀ ys : List t.erase.den, ys.length = xs.length → (vw = .whole → (view ys vw).length = xs.length) ∧ ∀ lo hi, vw = .sub lo hi → 0 ≤ lo → lo ≤ hi → hi ≤ (xs.length : Int) → (view ys vw).length = (hi - lo).toNat := fun ys hy => by
    refine ⟨fun e => by subst e; exact hy, fun lo hi e h0 h1 h2 => ?_⟩
    subst e
    simp only [view, List.length_drop, List.length_take]
    omega
  have hers : (t.ers xs).length = xs.length := by rw [Ty.ers_map]; simp
  obtain ⟨a, n, c, rfl, hn, hnc, hadr⟩ : ∃ a n c, v = .slice a n c ∧ (view (t.ers xs) vw).length = n ∧ n ≤ c ∧ (0 < n → ∃ b, l.blk = some b ∧ a = some ⟨b, l.off + vw.lo * t.w, none⟩ ∧ xs.length ≤ l.cap) := by
    cases hb : l.blk with
    | none =>
      rw [hb] at h
      obtain ⟨rfl, hc, hsub⟩ := h
      cases vw with
      | whole => exact ⟨none, 0, 0, by rw [hv]; simp [hdr, hb, hc], by simpa using (hlen _ hers).1 rfl, Nat.le_refl _, fun h => absurd h (by omega)⟩
      | sub lo hi =>
        obtain ⟨h0, h1, h2, h3, o, rfl, h4⟩ := hv
        simp only [List.length_nil] at h2
        refine ⟨_, _, _, rfl, (hlen _ hers).2 lo hi rfl h0 h1 (by simpa using h2), by omega, fun hn => by omega⟩
    | some b =>
      rw [hb] at h
      obtain ⟨vs, fr, Ss, hh, _, _, hcap, _⟩ := h
      cases vw with
      | whole => exact ⟨some ⟨b, l.off, none⟩, xs.length, l.cap, by rw [hv]; simp [hdr, hb], (hlen _ hers).1 rfl, hcap, fun _ => ⟨b, rfl, by simp [View.lo], hcap⟩⟩
      | sub lo hi =>
        obtain ⟨h0, h1, h2, h3, o, rfl, h4⟩ := hv
        refine ⟨_, _, _, rfl, (hlen _ hers).2 lo hi rfl h0 h1 h2, by omega, fun hn => ⟨b, rfl, ?_, hcap⟩⟩
        rw [h4 (by omega), hb]; rfl
  refine ⟨a, n, c, rfl, hn, hnc, fun hn0 => ?_⟩
  obtain ⟨b, hb, rfl, _⟩ := hadr hn0
  refine ⟨b, _, rfl, .inr (LV.mem_blk hb), hlt b (LV.mem_blk hb), fun i hi => ?_⟩
  have hget := view_get (List.getElem?_eq_getElem hi)
  obtain ⟨q, hq⟩ : ∃ q, (view (t.ers xs) vw)[i] = q := ⟨_, rfl⟩
  rw [hq] at hget ⊢
  rw [Ty.ers_map, List.getElem?_map] at hget
  obtain ⟨x, hx, hxe⟩ := Option.map_eq_some_iff.1 hget
  obtain ⟨hxi, rfl⟩ := List.getElem?_eq_some_iff.1 hx
  have h' : LstW (TRep F w t) t.w w l z e xs := by unfold LstW; exact h
  obtain ⟨rs, S0, r1, r2, r3, S1, S2, r4⟩ := LstOk.row (show LstOk F w l z e t xs from h') hb hxi
  refine ⟨rs, by rw [r1, Ty.w_erase], fun j v hj => ?_, ?_⟩
  · have := r2 j (by have := (List.getElem?_eq_some_iff.1 hj).1; omega)
    rw [hj] at this
    rw [← this, Ty.w_erase]
    congr 2
    rw [Nat.add_mul]
    omega
  · rw [← hxe]
    have hin : ∀ b ∈ S0, b ∈ l.sub := fun b hb => by rw [r4]; simp [hb]
    exact (hrec (fun b hb => hlt b (LV.mem_sub (hin b hb))) r3).mono (fun b hb => hb.imp id fun hb => LV.mem_sub (hin b hb)) (fun _ _ => rfl)
theorem TRep.irep : ∀ {t : Ty}, t.noq = true → ∀ {x : t.den} {cs : List Value} {S0 : List Nat}, (∀ b ∈ S0, b < w.heap.size) → TRep F w t x cs S0 → IRep (fun b => F b ∨ b ∈ S0) w t.erase (t.er x) cs
  | .int _, _, _, _, _, _, h => h.1
  | .bool, _, _, _, _, _, h => h.1
  | .str, _, _, _, _, _, h => h.1
  | .unit, _, _, _, _, _, h => h.1
  | .nm, _, _, _, _, _, h => h.1
  | .olq _ _, hq, _, _, _, _, _ => by simp [Ty.noq] at hq
  | .list t, _, _, _, _, _, h => (IRep.er h.1).mono (fun _ hb => .inl hb) (fun _ _ => rfl)
  | .pair a b, hq, x, _, _, hlt, h => by
    simp only [Ty.noq, Bool.and_eq_true] at hq
    obtain ⟨c, d, S1, S2, rfl, rfl, h1, h2⟩ := h
    rw [Ty.er_pair]
    exact ⟨c, d, rfl, (TRep.irep hq.1 (fun b hb => hlt b (List.mem_append_left _ hb)) h1).mono (fun b hb => hb.imp id (List.mem_append_left _)) (fun _ _ => rfl), (TRep.irep hq.2 (fun b hb => hlt b (List.mem_append_right _ hb)) h2).mono (fun b hb => hb.imp id (List.mem_append_right _)) (fun _ _ => rfl)⟩
  | .ols e t, hq, xs, _, _, hlt, h => by
    obtain ⟨l, rfl, rfl, hl⟩ := h
    exact LstW.view_irep (fun h1 h2 => TRep.irep (by simpa [Ty.noq] using hq) h1 h2) (vw := .whole) hl hlt rfl
theorem pack_ok {get : Get} (h : SR base S B w0 objs loc F w) (hR : ∀ s, get s = look objs s ∨ get s = Slot.none) (hSH : get SHG = look objs SHG) (p : Pat) : ∀ {ρ : Type} {avs : List AV} {vs : List Value} {K : p.den → Took → Option ρ} {res : ρ}, pack get p avs K = some res → Vals objs loc F B w avs vs →
    ∃ x tk Sx, K x tk = some res ∧ Rep (FK F loc tk.imms) (BK B loc tk.bors) w p x vs Sx ∧ Sx = blks loc tk.owns ∧ TookOk objs get tk := by
  have one : ∀ {avs : List AV} {vs : List Value} {a : AV}, avs = [a] → Vals objs loc F B w avs vs → ∃ v, vs = [v] ∧ Val objs loc F B w a v := by
    intro avs vs a e hv
    subst e
    match vs, hv with
    | [v], hv => exact ⟨v, rfl, hv.1⟩
    | [], hv => exact hv.elim
    | _ :: _ :: _, hv => exact hv.2.elim
  have single : ∀ {avs : List AV} {p : Pat} {ρ : Type} {K : p.den → Took → Option ρ} {res : ρ}, pack get p avs K = some res → p.one = true ∨ (∃ q, p = .agg q ∨ p = .mag q) ∨ (∃ q, p = .tup q) ∨ (∃ f q, p = .fn f q) → ∃ a, avs = [a] := by
    intro avs p ρ K res hk hp
    match avs with
    | [a] => exact ⟨a, rfl⟩
    | [] =>
      rcases hp with hp | ⟨q, rfl | rfl⟩ | ⟨q, rfl⟩ | ⟨f, q, rfl⟩
      · cases p <;> first | (simp [Pat.one] at hp; done) | (simp [pack] at hk; done) | (rename_i z _ _; cases z <;> simp [pack] at hk)
      · simp [pack] at hk
      · simp [pack] at hk
      · simp [pack] at hk
      · simp [pack] at hk
    | a :: _ :: _ =>
      rcases hp with hp | ⟨q, rfl | rfl⟩ | ⟨q, rfl⟩ | ⟨f, q, rfl⟩
      · cases p <;> first | (simp [Pat.one] at hp; done) | (simp [pack] at hk; done) | (rename_i z _ _; cases z <;> simp [pack] at hk)
      · simp [pack] at hk
      · simp [pack] at hk
      · simp [pack] at hk
      · simp [pack] at hk
  induction p with
  | any =>
    intro ρ avs vs K res hk hv
    obtain ⟨a, rfl⟩ := single hk (.inl rfl)
    obtain ⟨v, rfl, hv1⟩ := one rfl hv
    clear hv
    have hv := hv1
    clear hv1
    exact ⟨(), .none, [], hk, ⟨⟨v, rfl⟩, rfl⟩, rfl, TookOk.none _ _⟩
  | int k =>
    intro ρ avs vs K res hk hv
    obtain ⟨a, rfl⟩ := single hk (.inl rfl)
    obtain ⟨v, rfl, hv1⟩ := one rfl hv
    clear hv
    have hv := hv1
    clear hv1
    cases a <;> try (simp [pack] at hk; done)
    rename_i k' n
    simp only [pack] at hk
    split at hk
    · rename_i e
      subst e
      have hv : v = .int k' n := hv
      subst hv
      exact ⟨n, .none, [], hk, ⟨rfl, rfl⟩, rfl, TookOk.none _ _⟩
    · cases hk
  | bool =>
    intro ρ avs vs K res hk hv
    obtain ⟨a, rfl⟩ := single hk (.inl rfl)
    obtain ⟨v, rfl, hv1⟩ := one rfl hv
    clear hv
    have hv := hv1
    clear hv1
    cases a <;> try (simp [pack] at hk; done)
    rename_i b
    have hv : v = .bool b := hv
    subst hv
    exact ⟨b, .none, [], hk, ⟨rfl, rfl⟩, rfl, TookOk.none _ _⟩
  | nils =>
    intro ρ avs vs K res hk hv
    obtain ⟨a, rfl⟩ := single hk (.inl rfl)
    obtain ⟨v, rfl, hv1⟩ := one rfl hv
    clear hv
    have hv := hv1
    clear hv1
    cases a <;> try (simp [pack] at hk; done)
    have hv : v = .slice none 0 0 := hv
    subst hv
    exact ⟨(), .none, [], hk, ⟨rfl, rfl⟩, rfl, TookOk.none _ _⟩
  | str =>
    intro ρ avs vs K res hk hv
    obtain ⟨a, rfl⟩ := single hk (.inl rfl)
    obtain ⟨v, rfl, hv1⟩ := one rfl hv
    clear hv
    have hv := hv1
    clear hv1
    cases a <;> try (simp [pack] at hk; done)
    rename_i b
    have hv : v = .string b := hv
    subst hv
    exact ⟨b, .none, [], hk, ⟨rfl, rfl⟩, rfl, TookOk.none _ _⟩
  | il b t =>
    intro ρ avs vs K res hk hv
    obtain ⟨a, rfl⟩ := single hk (.inl rfl)
    obtain ⟨v, rfl, hv1⟩ := one rfl hv
    clear hv
    have hv := hv1
    clear hv1
    cases a <;> try (simp [pack] at hk; done)
    · have hv : v = .slice none 0 0 := hv
      subst hv
      exact ⟨[], .none, [], hk, ⟨⟨none, 0, 0, rfl, rfl, Nat.le_refl _, fun h => absurd h (by omega)⟩, rfl⟩, rfl, TookOk.none _ _⟩
    · rename_i b' t' xs
      simp only [pack] at hk
      split at hk
      · cases hk
      · rename_i hb
        split at hk
        · rename_i e
          subst e
          have hv : IRep (fun x => F x ∨ (b' = true ∧ B x)) w (.list t') xs [v] := hv
          refine ⟨xs, .none, [], hk, ⟨hv.mono (fun c hc => hc.imp (fun hc => .inl hc) fun ⟨e, hc⟩ => ⟨?_, .inl hc⟩) (fun _ _ => rfl), rfl⟩, rfl, TookOk.none _ _⟩
          rw [e] at hb
          simpa using hb
        · cases hk
    · rename_i r vw
      simp only [pack] at hk
      split at hk
      case h_2 => cases hk
      rename_i z e t' xs hob
      have hseen := seen (r := r) hR (by rw [hob]; simp)
      rw [ob_get hseen] at hob
      have hvv := RS.found (show Leaf objs loc F B w (.ol r vw) v from hv).2 hob (by simp)
      split at hk
      case isFalse =>
        split at hk
        case isFalse => cases hk
        rename_i et
        subst et
        split at hk
        case h_2 => cases hk
        rename_i hnq
        have hl : isLst (Get.ob (look objs) r) = true := by rw [hob]; rfl
        have hir := LstW.view_irep (fun h1 h2 => TRep.irep hnq h1 h2) (show LstW (TRep F w t') t'.w w (loc r.s r.j) z e xs from h.obs _ _ _ _ (ob_some hob (by simp)).2) (fun b hb => (h.own _ _ _ _ b (ob_some hob (by simp)).2 rfl hb).2.2.1) hvv
        refine ⟨_, _, [], hk, ⟨hir.mono (fun c hc => ?_) (fun _ _ => rfl), rfl⟩, ?_, ?_⟩
        · rcases hc with hc | hc
          · exact .inl (.inl hc)
          · cases b with
            | true => exact .inr ⟨rfl, .inr ⟨r, by simp [Took.view], hc⟩⟩
            | false => exact .inl (.inr ⟨r, by simp [Took.view], hc⟩)
        · cases b <;> rfl
        · cases b with
          | true => exact ⟨by simp [Took.view], by simp [Took.view], fun r' hr' => by simp [Took.view] at hr'; subst hr'; exact hl⟩
          | false => exact ⟨by simp [Took.view], fun r' hr' => by simp [Took.view] at hr'; subst hr'; exact ⟨hl, hseen⟩, by simp [Took.view]⟩
      rename_i et
      obtain ⟨et, hto⟩ := et
      subst et
      obtain ⟨a, n, c, rfl, h1, h2, h3⟩ := lst_view hto h hob hvv
      have hl : isLst (Get.ob (look objs) r) = true := by rw [hob]; rfl
      refine ⟨_, _, [], hk, ⟨⟨a, n, c, rfl, h1, h2, fun hn => ?_⟩, rfl⟩, ?_, ?_⟩
      · obtain ⟨bl, o, rfl, hb, hlt, hr⟩ := h3 hn
        refine ⟨bl, o, rfl, ?_, hlt, fun i hi => ?_⟩
        · cases b with
          | true => exact .inr ⟨rfl, .inr ⟨r, by simp [Took.view], LV.mem_blk hb⟩⟩
          | false => exact .inl (.inr ⟨r, by simp [Took.view], LV.mem_blk hb⟩)
        · obtain ⟨rs, k1, k2, k3⟩ := hr i hi
          exact ⟨rs, k1, k2, k3.mono (fun b hb => .inl (.inl hb)) (fun _ _ => rfl)⟩
      · cases b <;> rfl
      · cases b with
        | true => exact ⟨by simp [Took.view], by simp [Took.view], fun r' hr' => by simp [Took.view] at hr'; subst hr'; exact hl⟩
        | false => exact ⟨by simp [Took.view], fun r' hr' => by simp [Took.view] at hr'; subst hr'; exact ⟨hl, hseen⟩, by simp [Took.view]⟩
    · rename_i r k i off
      cases b with
      | false => simp [pack] at hk
      | true =>
        simp only [pack] at hk
        split at hk
        case h_2 => cases hk
        rename_i ol hnl
        have hgr : get r.s = look objs r.s := by
          refine (hR r.s).resolve_right fun e => ?_
          unfold nlOf at hnl
          rw [none_ob e] at hnl
          split at hnl <;> cases hnl
        split at hk
        case isFalse => cases hk
        rename_i et
        subst et
        split at hk
        case h_2 => cases hk
        rename_i hnq
        obtain ⟨_, z, e2, t2, xs, b2, l, hob, h0, h1, hgo, hot, hbl, hcell, hveq, hlw, S1, S2, hsub⟩ := nl_found h (show Leaf objs loc F B w (.nl r k i off) v from hv) (fun s hs => by
          simp only [AV.slots, List.mem_cons, List.not_mem_nil, or_false] at hs
          rcases hs with rfl | rfl
          · exact hgr
          · exact hSH) hnl
        have hin : ∀ c ∈ l.all, c ∈ (loc r.s r.j).all := fun c hc => LV.mem_sub (by rw [hsub]; simp [hc])
        have hir := LstW.view_irep (F := F) (fun h1 h2 => TRep.irep hnq h1 h2) (vw := .whole) (v := v) hlw (fun c hc => (h.own _ _ _ _ c (ob_some hob (by simp)).2 rfl (hin c hc)).2.2.1) hveq
        exact ⟨_, _, [], hk, ⟨hir.mono (fun c hc => hc.elim (fun hc => .inl (.inl hc)) fun hc => .inr ⟨rfl, .inr ⟨r, by simp [Took.view], hin c hc⟩⟩) (fun _ _ => rfl), rfl⟩, rfl, ⟨by simp [Took.view], by simp [Took.view], fun r' hr' => by simp [Took.view] at hr'; subst hr'; rw [hob]; rfl⟩⟩
  | nm =>
    intro ρ avs vs K res hk hv
    obtain ⟨a, rfl⟩ := single hk (.inl rfl)
    obtain ⟨v, rfl, hv1⟩ := one rfl hv
    clear hv
    have hv := hv1
    clear hv1
    cases a <;> try (simp [pack] at hk; done)
    · have hv : v = .slice none 0 0 := hv
      subst hv
      exact ⟨_, .none, [], hk, ⟨congrArg (fun v => [v]) Names.zero.symm, rfl⟩, rfl, TookOk.none _ _⟩
    rename_i n
    have hv : v = Names.nu n := hv
    subst hv
    exact ⟨n, .none, [], hk, ⟨rfl, rfl⟩, rfl, TookOk.none _ _⟩
  | own z e t =>
    intro ρ avs vs K res hk hv
    obtain ⟨a, rfl⟩ := single hk (.inl rfl)
    obtain ⟨v, rfl, hv1⟩ := one rfl hv
    clear hv
    have hv := hv1
    clear hv1
    by_cases hp : ∃ r lo hi, a = .ol r (.sub lo hi)
    · obtain ⟨r, lo, hi, rfl⟩ := hp
      exact pack_pre (K := K) h hR hv (by cases z <;> exact hk)
    refine (pack_listQ (K := K) h hR hv ?_)
    cases a with
    | nils => cases z with | true => simp [pack] at hk | false => exact .inl ⟨rfl, rfl, hk⟩
    | ol r vw =>
      cases vw with
      | sub lo hi => exact absurd ⟨_, _, _, rfl⟩ hp
      | whole => exact .inr ⟨r, rfl, by cases z <;> exact hk⟩
    | _ => cases z <;> simp [pack] at hk
  | «mut» z e t =>
    intro ρ avs vs K res hk hv
    obtain ⟨a, rfl⟩ := single hk (.inl rfl)
    obtain ⟨v, rfl, hv1⟩ := one rfl hv
    clear hv
    have hv := hv1
    clear hv1
    refine (pack_list (K := K) h hR hv ?_)
    cases a with
    | nils => cases z with | true => simp [pack] at hk | false => exact .inl ⟨rfl, rfl, hk⟩
    | ol r vw =>
      cases vw with
      | sub lo hi => cases z <;> simp [pack] at hk
      | whole => exact .inr ⟨r, rfl, by cases z <;> exact hk⟩
    | _ => cases z <;> simp [pack] at hk
  | nil =>
    intro ρ avs vs K res hk hv
    cases avs with
    | cons _ _ => simp [pack] at hk
    | nil =>
      cases vs with
      | cons _ _ => exact hv.elim
      | nil => exact ⟨(), .none, [], hk, ⟨rfl, rfl⟩, rfl, TookOk.none _ _⟩
  | ptr po p ih =>
    intro ρ avs vs K res hk hv
    obtain ⟨a, rfl⟩ := single hk (.inl rfl)
    obtain ⟨v, rfl, hv1⟩ := one rfl hv
    clear hv
    have hv := hv1
    clear hv1
    cases a <;> try (simp [pack] at hk; done)
    rename_i r off
    · simp only [pack] at hk
      split at hk
      case h_2 => cases hk
      rename_i hbo
      have hbo := beq_true.1 hbo
      subst hbo
      split at hk
      case h_2 => cases hk
      rename_i cs hob
      have hseen := seen (r := r) hR (by rw [hob]; simp)
      rw [ob_get hseen] at hob
      obtain ⟨b, hb, rfl⟩ := RS.found (show Leaf objs loc F B w (.ptr r off) v from hv).2 hob (by simp)
      obtain ⟨hg, hj⟩ := ob_some hob (by simp)
      obtain ⟨b', cv, e, fr, hb', hsub, hheap, hth, hlf⟩ := h.obs _ _ _ _ hj
      rw [hb] at hb'
      cases hb'
      obtain ⟨x, tk, Sx, hk, hrep, hS, htk⟩ := ih hk hlf.vals
      refine ⟨x, _, b :: Sx, hk, ⟨b, cv, e, fr, Sx, rfl, rfl, hheap, hth, hlf.one, hrep⟩, ?_, TookOk.and ⟨fun r' hr' => ?_, by simp, by simp⟩ htk⟩
      · rw [hS]
        simp [Took.and, blks, LV.all_of hsub, hb]
      · simp at hr'
        subst hr'
        exact ⟨by rw [hob]; rfl, hseen⟩
  | agg p ih =>
    intro ρ avs vs K res hk hv
    obtain ⟨a, rfl⟩ := single hk (.inr (.inl ⟨_, .inl rfl⟩))
    obtain ⟨v, rfl, hv1⟩ := one rfl hv
    clear hv
    have hv := hv1
    clear hv1
    cases a <;> try (simp [pack] at hk; done)
    obtain ⟨cv, rfl, hlf⟩ := val_agg hv
    obtain ⟨x, tk, Sx, hk, hrep, hS, htk⟩ := ih hk hlf.vals
    exact ⟨x, tk, Sx, hk, ⟨cv, rfl, hlf.one, hrep⟩, hS, htk⟩
  | mag p ih =>
    intro ρ avs vs K res hk hv
    obtain ⟨a, rfl⟩ := single hk (.inr (.inl ⟨_, .inr rfl⟩))
    obtain ⟨v, rfl, hv1⟩ := one rfl hv
    clear hv
    have hv := hv1
    clear hv1
    cases a <;> try (simp [pack] at hk; done)
    obtain ⟨cv, rfl, hlf⟩ := val_agg hv
    obtain ⟨x, tk, Sx, hk, hrep, hS, htk⟩ := ih hk hlf.vals
    exact ⟨x, tk, Sx, hk, ⟨cv, rfl, hlf.one, hrep⟩, hS, htk⟩
  | tup p ih =>
    intro ρ avs vs K res hk hv
    obtain ⟨a, rfl⟩ := single hk (.inr (.inr (.inl ⟨_, rfl⟩)))
    obtain ⟨v, rfl, hv1⟩ := one rfl hv
    clear hv
    have hv := hv1
    clear hv1
    cases a <;> try (simp [pack] at hk; done)
    obtain ⟨cv, rfl, hlf⟩ := hv
    obtain ⟨x, tk, Sx, hk, hrep, hS, htk⟩ := ih hk hlf.vals
    exact ⟨x, tk, Sx, hk, ⟨cv, rfl, hrep⟩, hS, htk⟩
  | fn f p ih =>
    intro ρ avs vs K res hk hv
    obtain ⟨a, rfl⟩ := single hk (.inr (.inr (.inr ⟨_, _, rfl⟩)))
    obtain ⟨v, rfl, hv1⟩ := one rfl hv
    clear hv
    have hv := hv1
    clear hv1
    cases a <;> try (simp [pack] at hk; done)
    rename_i f' cs
    simp only [pack] at hk
    split at hk
    case h_2 => cases hk
    rename_i hf
    have hf := beq_true.1 hf
    subst hf
    obtain ⟨cv, rfl, hlf⟩ := hv
    obtain ⟨x, tk, Sx, hk, hrep, hS, htk⟩ := ih hk hlf.vals
    exact ⟨x, tk, Sx, hk, ⟨cv, rfl, hlf.one, hrep⟩, hS, htk⟩
  | cons a b iha ihb =>
    intro ρ avs vs K res hk hv
    cases avs with
    | nil => simp [pack] at hk
    | cons av avs =>
      cases vs with
      | nil => exact hv.elim
      | cons v vs =>
        simp only [pack] at hk
        obtain ⟨x, tk, Sx, hk, hrep, hS, htk⟩ := iha hk (vs := [v]) ⟨hv.1, trivial⟩
        obtain ⟨y, tk', Sy, hk, hrep', hS', htk'⟩ := ihb hk hv.2
        refine ⟨(x, y), tk.and tk', Sx ++ Sy, hk, ⟨v, vs, Sx, Sy, rfl, rfl, ?_, ?_⟩, by rw [hS, hS']; exact (blks_append _ _ _).symm, htk.and htk'⟩
        · exact hrep.mono FK.left FK.left (fun _ _ => rfl) (fun _ _ => rfl) (fun _ _ => rfl)
        · exact hrep'.mono FK.right FK.right (fun _ _ => rfl) (fun _ _ => rfl) (fun _ _ => rfl)
end
end Go.Eng
end
