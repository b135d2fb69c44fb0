import Derived.Test.YtmanaalkgemjaaaGreatDoorEngB
import Derived.ChangeShapes
import Derived.ChangeArms
import Derived.ChangeReads
import Derived.ChangeOld
import Derived.SizedLaws
import Derived.Below
import Derived.RowKit
import Derived.Laws.StructEq
import Derived.Carry
import Derived.Handed
import Derived.Lib.Repeat
/- An interpreter of the program's code over plain values is sound: what it answers is what the call answers (part C). Conditions: none beyond each theorem's own. -/
set_option linter.unusedVariables false
section
namespace Go.Eng
variable [Names]
section
variable {base : Nat} {S : List Nat} {B F B' F' : Nat → Prop} {w0 : World} {objs : Upd} {loc : Loc} {w w' : World} {ρ : Type}
structure Sits (objs : Upd) (loc : Loc) (s g j : Nat) (os : List (Nat × Ob)) (ls : List LV) : Prop where
  gen : (look objs s).g = g
  place : ∀ (k : Nat) (e : Nat × Ob), os[k]? = some e → (look objs s).os[j + k]? = some e ∧ ls[k]? = some (loc s (j + k))
structure UOk (objs : Upd) (loc : Loc) (F B : Nat → Prop) (w : World) (p : Pat) (avs : List AV) (os : List (Nat × Ob)) (ls : List LV) (vs : List Value) : Prop where
  obs : ∀ (k : Nat) (v : Nat) (o : Ob) (l : LV), os[k]? = some (v, o) → ls[k]? = some l → ObOk objs loc F B w l o
  vals : Vals objs loc F B w avs vs
  leafs : (p.cells = true ∨ p.one = true) → (∀ v ∈ vs, v.oneCell' = true) → Leafs objs loc F B w avs vs
  val1s : (p.vals = true ∨ p.single = true) → Val1s objs loc F B w avs vs
theorem UOk.plain {p : Pat} {a : AV} {v : Value} (hl : Leaf objs loc F B w a v) : UOk objs loc F B w p [a] [] [] [v] :=
  ⟨fun k v o l h => by simp at h, ⟨leaf_val hl, trivial⟩, fun _ h1 => ⟨h1 v (by simp), hl, trivial⟩, fun _ => ⟨by
    have := leaf_val hl
    cases a <;> first | exact hl | exact this, trivial⟩⟩
omit [Names] in
theorem sits_ref {s g j : Nat} {os : List (Nat × Ob)} {ls : List LV} {e : Nat × Ob} {l : LV} (h : Sits objs loc s g j (e :: os) (l :: ls)) : (look objs s).g = g ∧ (look objs s).os[j]? = some e ∧ loc s j = l := by
  have := h.place 0 e rfl
  simp only [Nat.add_zero, List.getElem?_cons_zero, Option.some.injEq] at this
  exact ⟨h.gen, this.1, this.2.symm⟩
omit [Names] in
theorem Sits.tail {s g j : Nat} {ls : List LV} {e : Nat × Ob} {os : List (Nat × Ob)} {l : LV} (h : Sits objs loc s g j (e :: os) (l :: ls)) : Sits objs loc s g (j + 1) os ls :=
  ⟨h.gen, fun k e hk => by
    have := h.place (k + 1) e (by simpa using hk)
    rw [show j + (k + 1) = j + 1 + k by omega] at this
    simpa using this⟩
omit [Names] in
theorem Sits.left {s g j : Nat} {os os' : List (Nat × Ob)} {ls ls' : List LV} (h : Sits objs loc s g j (os ++ os') (ls ++ ls')) (hl : ls.length = os.length) : Sits objs loc s g j os ls :=
  ⟨h.gen, fun k e hk => by
    have hlt : k < os.length := (List.getElem?_eq_some_iff.1 hk).1
    have := h.place k e (by rw [List.getElem?_append_left hlt]; exact hk)
    rw [List.getElem?_append_left (by omega)] at this
    exact this⟩
omit [Names] in
theorem Sits.right {s g j : Nat} {os os' : List (Nat × Ob)} {ls ls' : List LV} (h : Sits objs loc s g j (os ++ os') (ls ++ ls')) (hl : ls.length = os.length) : Sits objs loc s g (j + os.length) os' ls' :=
  ⟨h.gen, fun k e hk => by
    have := h.place (os.length + k) e (by rw [List.getElem?_append_right (by omega)]; simpa using hk)
    rw [List.getElem?_append_right (by omega), hl] at this
    rw [Nat.add_assoc]
    simpa using this⟩
theorem unpack_ok (s g : Nat) (p : Pat) : ∀ {x : p.den} {vs : List Value} {Sx : List Nat} (j : Nat), p.ok = true → Rep F B w p x vs Sx → ∃ ls : List LV, ls.length = (unpack s g p x j).2.length ∧ ls.flatMap (·.all) = Sx ∧
    (∀ (k : Nat) (v : Nat) (o : Ob), (unpack s g p x j).2[k]? = some (v, o) → v = 0 ∧ live o = true) ∧ ∀ objs loc, Sits objs loc s g j (unpack s g p x j).2 ls → UOk objs loc F B w p (unpack s g p x j).1 (unpack s g p x j).2 ls vs := by
  induction p with
  | any =>
    intro x vs Sx j _ hr
    obtain ⟨⟨v, rfl⟩, rfl⟩ := hr
    exact ⟨[], rfl, rfl, fun k v o h => by simp [unpack] at h, fun objs loc _ => UOk.plain (a := .dead) trivial⟩
  | int k =>
    intro x vs Sx j _ hr
    obtain ⟨rfl, rfl⟩ := hr
    exact ⟨[], rfl, rfl, fun k v o h => by simp [unpack] at h, fun objs loc _ => UOk.plain (a := .int _ x) rfl⟩
  | bool =>
    intro x vs Sx j _ hr
    obtain ⟨rfl, rfl⟩ := hr
    exact ⟨[], rfl, rfl, fun k v o h => by simp [unpack] at h, fun objs loc _ => UOk.plain (a := .bool x) rfl⟩
  | nils =>
    intro x vs Sx j _ hr
    obtain ⟨rfl, rfl⟩ := hr
    exact ⟨[], rfl, rfl, fun k v o h => by simp [unpack] at h, fun objs loc _ => UOk.plain (a := .nils) rfl⟩
  | str =>
    intro x vs Sx j _ hr
    obtain ⟨rfl, rfl⟩ := hr
    exact ⟨[], rfl, rfl, fun k v o h => by simp [unpack] at h, fun objs loc _ => UOk.plain (a := .str x) rfl⟩
  | nm =>
    intro x vs Sx j _ hr
    obtain ⟨rfl, rfl⟩ := hr
    exact ⟨[], rfl, rfl, fun k v o h => by simp [unpack] at h, fun objs loc _ => UOk.plain (a := .nm x) rfl⟩
  | il b t =>
    intro x vs Sx j _ hr
    obtain ⟨hr, rfl⟩ := hr
    obtain ⟨v, rfl⟩ : ∃ v, vs = [v] := by obtain ⟨a, n, c, rfl, _⟩ := hr; exact ⟨_, rfl⟩
    exact ⟨[], rfl, rfl, fun k v o h => by simp [unpack] at h, fun objs loc _ => UOk.plain (a := .il b t x) hr⟩
  | own z e t =>
    intro x vs Sx j _ hr
    obtain ⟨l, rfl, rfl, hr⟩ := hr
    refine ⟨[l], rfl, by simp, fun k v o h => ?_, fun objs loc hs => ?_⟩
    · cases k with
      | zero => simp [unpack] at h; obtain ⟨rfl, rfl⟩ := h; exact ⟨rfl, rfl⟩
      | succ k => simp [unpack] at h
    · obtain ⟨h1, h2, h3⟩ := sits_ref hs
      have hl : Leaf objs loc F B w (.ol ⟨s, j, g, 0⟩ .whole) (hdr l x.length) := ⟨rfl, .inr ⟨h1.symm, 0, _, h2, .inr ⟨rfl, by simp only [viewOk, h3]⟩⟩⟩
      have := UOk.plain (p := .own z e t) hl
      refine ⟨fun k v o l' hk hl' => ?_, this.vals, this.leafs, this.val1s⟩
      cases k with
      | zero => simp [unpack] at hk; obtain ⟨rfl, rfl⟩ := hk; simp at hl'; subst hl'; exact hr
      | succ k => simp [unpack] at hk
  | «mut» z e t =>
    intro x vs Sx j _ hr
    obtain ⟨l, rfl, rfl, hr⟩ := hr
    refine ⟨[l], rfl, by simp, fun k v o h => ?_, fun objs loc hs => ?_⟩
    · cases k with
      | zero => simp [unpack] at h; obtain ⟨rfl, rfl⟩ := h; exact ⟨rfl, rfl⟩
      | succ k => simp [unpack] at h
    · obtain ⟨h1, h2, h3⟩ := sits_ref hs
      have hl : Leaf objs loc F B w (.ol ⟨s, j, g, 0⟩ .whole) (hdr l x.length) := ⟨rfl, .inr ⟨h1.symm, 0, _, h2, .inr ⟨rfl, by simp only [viewOk, h3]⟩⟩⟩
      have := UOk.plain (p := .mut z e t) hl
      refine ⟨fun k v o l' hk hl' => ?_, this.vals, this.leafs, this.val1s⟩
      cases k with
      | zero => simp [unpack] at hk; obtain ⟨rfl, rfl⟩ := hk; simp at hl'; subst hl'; exact hr
      | succ k => simp [unpack] at hk
  | ptr po p ih =>
    intro x vs Sx j hok hr
    simp only [Pat.ok, Bool.and_eq_true] at hok
    obtain ⟨b, cs, e, fr, S', rfl, rfl, h1, h2, h3, h4⟩ := hr
    obtain ⟨ls, k1, k2, k3, k4⟩ := ih (j + 1) hok.2.1 h4
    refine ⟨⟨some b, 0, 0, []⟩ :: ls, by simp [unpack, k1], by rw [List.flatMap_cons, k2]; rfl, fun k v o h => ?_, fun objs loc hs => ?_⟩
    · cases k with
      | zero => simp [unpack] at h; obtain ⟨rfl, rfl⟩ := h; exact ⟨rfl, rfl⟩
      | succ k => exact k3 k v o (by simpa [unpack] using h)
    · have hs : Sits objs loc s g j ((0, .box (unpack s g p x (j + 1)).1) :: (unpack s g p x (j + 1)).2) (⟨some b, 0, 0, []⟩ :: ls) := hs
      obtain ⟨g1, g2, g3⟩ := sits_ref hs
      have u := k4 objs loc hs.tail
      have hl : Leaf objs loc F B w (.ptr ⟨s, j, g, 0⟩ po) (.pointer (some ⟨b, po, none⟩)) := ⟨rfl, .inr ⟨g1.symm, 0, _, g2, .inr ⟨rfl, b, by rw [g3], rfl⟩⟩⟩
      have := UOk.plain (p := .ptr po p) hl
      refine ⟨fun k v o l' hk hl' => ?_, this.vals, this.leafs, this.val1s⟩
      cases k with
      | zero =>
        simp [unpack] at hk; obtain ⟨rfl, rfl⟩ := hk; simp at hl'; subst hl'
        exact ⟨b, cs, e, fr, rfl, rfl, h1, h2, u.leafs (.inl hok.1) h3⟩
      | succ k => exact u.obs k v o l' (by simpa [unpack] using hk) (by simpa using hl')
  | agg p ih =>
    intro x vs Sx j hok hr
    simp only [Pat.ok, Bool.and_eq_true] at hok
    obtain ⟨cs, rfl, h3, h4⟩ := hr
    obtain ⟨ls, k1, k2, k3, k4⟩ := ih j hok.2 h4
    refine ⟨ls, k1, k2, k3, fun objs loc hs => ?_⟩
    have u := k4 objs loc hs
    have hv : Val1 objs loc F B w (.agg (unpack s g p x j).1) (.agg cs) := ⟨cs, rfl, u.leafs (.inl hok.1) h3⟩
    exact ⟨u.obs, ⟨hv, trivial⟩, fun h _ => by simp [Pat.cells, Pat.one] at h, fun _ => ⟨hv, trivial⟩⟩
  | mag p ih =>
    intro x vs Sx j hok hr
    simp only [Pat.ok, Bool.and_eq_true] at hok
    obtain ⟨cs, rfl, h3, h4⟩ := hr
    obtain ⟨ls, k1, k2, k3, k4⟩ := ih j hok.2 h4
    refine ⟨ls, k1, k2, k3, fun objs loc hs => ?_⟩
    have u := k4 objs loc hs
    have hv : Val1 objs loc F B w (.agg (unpack s g p x j).1) (.agg cs) := ⟨cs, rfl, u.leafs (.inl hok.1) h3⟩
    exact ⟨u.obs, ⟨hv, trivial⟩, fun h _ => by simp [Pat.cells, Pat.one] at h, fun _ => ⟨hv, trivial⟩⟩
  | tup p ih =>
    intro x vs Sx j hok hr
    simp only [Pat.ok, Bool.and_eq_true] at hok
    obtain ⟨cs, rfl, h4⟩ := hr
    obtain ⟨ls, k1, k2, k3, k4⟩ := ih j hok.2 h4
    refine ⟨ls, k1, k2, k3, fun objs loc hs => ?_⟩
    have u := k4 objs loc hs
    exact ⟨u.obs, ⟨⟨cs, rfl, u.val1s (.inl hok.1)⟩, trivial⟩, fun h _ => by simp [Pat.cells, Pat.one] at h, fun h => by simp [Pat.vals, Pat.single] at h⟩
  | fn f p ih =>
    intro x vs Sx j hok hr
    simp only [Pat.ok, Bool.and_eq_true] at hok
    obtain ⟨cs, rfl, h3, h4⟩ := hr
    obtain ⟨ls, k1, k2, k3, k4⟩ := ih j hok.2 h4
    refine ⟨ls, k1, k2, k3, fun objs loc hs => ?_⟩
    have u := k4 objs loc hs
    have hv : Val1 objs loc F B w (.fn f (unpack s g p x j).1) (.func (.func f) #[] cs) := ⟨cs, rfl, u.leafs (.inl hok.1) h3⟩
    exact ⟨u.obs, ⟨hv, trivial⟩, fun h _ => by simp [Pat.cells, Pat.one] at h, fun _ => ⟨hv, trivial⟩⟩
  | nil =>
    intro x vs Sx j _ hr
    obtain ⟨rfl, rfl⟩ := hr
    exact ⟨[], rfl, rfl, fun k v o h => by simp [unpack] at h, fun objs loc _ => ⟨fun k v o l h => by simp [unpack] at h, trivial, fun _ _ => trivial, fun _ => trivial⟩⟩
  | cons a b iha ihb =>
    intro x vs Sx j hok hr
    simp only [Pat.ok, Bool.and_eq_true] at hok
    obtain ⟨v, vs', S1, S2, rfl, rfl, h1, h2⟩ := hr
    obtain ⟨ls, k1, k2, k3, k4⟩ := iha j hok.1 h1
    obtain ⟨ls', l1, l2, l3, l4⟩ := ihb (j + (unpack s g a x.1 j).2.length) hok.2 h2
    have e2 : (unpack s g (.cons a b) x j).2 = (unpack s g a x.1 j).2 ++ (unpack s g b x.2 (j + (unpack s g a x.1 j).2.length)).2 := rfl
    have e1 : (unpack s g (.cons a b) x j).1 = (unpack s g a x.1 j).1 ++ (unpack s g b x.2 (j + (unpack s g a x.1 j).2.length)).1 := rfl
    refine ⟨ls ++ ls', by rw [e2]; simp [k1, l1], by rw [List.flatMap_append, k2, l2], fun k v o h => ?_, fun objs loc hs => ?_⟩
    · rw [e2] at h
      by_cases hk : k < (unpack s g a x.1 j).2.length
      · rw [List.getElem?_append_left hk] at h; exact k3 k v o h
      · rw [List.getElem?_append_right (by omega)] at h; exact l3 _ v o h
    · rw [e2] at hs
      have u := k4 objs loc (hs.left k1)
      have u' := l4 objs loc (hs.right k1)
      rw [e1, e2]
      have one : ∀ {as : List AV}, Vals objs loc F B w as [v] → ∃ a, as = [a] := fun {as} h => by
        match as, h with
        | [a], _ => exact ⟨a, rfl⟩
        | [], h => exact h.elim
        | _ :: _ :: _, h => exact h.2.elim
      obtain ⟨av, hav⟩ := one u.vals
      have uv := u.vals
      have ul := u.leafs
      have u1 := u.val1s
      rw [hav] at uv ul u1 ⊢
      refine ⟨fun k v' o l hk hl => ?_, ⟨uv.1, u'.vals⟩, fun h h1 => ?_, fun h => ?_⟩
      · by_cases hk' : k < (unpack s g a x.1 j).2.length
        · rw [List.getElem?_append_left hk'] at hk
          rw [List.getElem?_append_left (by omega)] at hl
          exact u.obs k v' o l hk hl
        · rw [List.getElem?_append_right (by omega)] at hk
          rw [List.getElem?_append_right (by omega), k1] at hl
          exact u'.obs _ v' o l hk hl
      · simp only [Pat.cells, Pat.one, Bool.and_eq_true, Bool.false_eq_true, or_false] at h
        have := ul (.inr h.1) (fun v hv => h1 v (by simp at hv; subst hv; simp))
        exact ⟨this.1, this.2.1, u'.leafs (.inl h.2) fun v hv => h1 v (List.mem_cons_of_mem _ hv)⟩
      · simp only [Pat.vals, Pat.single, Bool.and_eq_true, Bool.false_eq_true, or_false] at h
        exact ⟨(u1 (.inr h.1)).1, u'.val1s (.inl h.2)⟩
end
end Go.Eng
end

section
namespace Go.Eng
variable [Names]
section
variable {base : Nat} {S : List Nat} {B F B' F' : Nat → Prop} {w0 : World} {objs : Upd} {loc : Loc} {w w' : World} {ρ : Type}
omit [Names] in
theorem live_ob {r : Ref} (h : live (Get.ob (look objs) r) = true) : ∃ o, Get.ob (look objs) r = o ∧ live o = true ∧ r.g = (look objs r.s).g ∧ (look objs r.s).os[r.j]? = some (r.v, o) := by
  cases ho : Get.ob (look objs) r with
  | gone => rw [ho] at h; simp [live] at h
  | box cs => exact ⟨_, rfl, rfl, ob_some ho (by simp)⟩
  | lst z e t xs => exact ⟨_, rfl, rfl, ob_some ho (by simp)⟩
omit [Names] in
theorem live_of_lst {o : Ob} (h : isLst o = true) : live o = true := by cases o <;> simp_all [isLst, live]
omit [Names] in
theorem off_iff : ∀ {rs os : List Ref}, Ref.off rs os = true ↔ ∀ r ∈ rs, Ref.among r os = false
  | [], _ => by simp [Ref.off]
  | r :: rs, os => by simp [Ref.off, off_iff (rs := rs)]
theorem same_block (h : SR base S B w0 objs loc F w) {r r' : Ref} {b : Nat} (h1 : live (Get.ob (look objs) r) = true) (h2 : live (Get.ob (look objs) r') = true) (hb : b ∈ (loc r.s r.j).all) (hb' : b ∈ (loc r'.s r'.j).all) : r.s = r'.s ∧ r.j = r'.j := by
  obtain ⟨o, _, l1, _, e1⟩ := live_ob h1
  obtain ⟨o', _, l2, _, e2⟩ := live_ob h2
  exact h.apart _ _ _ _ _ _ _ _ b e1 e2 l1 l2 hb hb'
omit [Names] in
theorem blks_mem {rs : List Ref} {b : Nat} : b ∈ blks loc rs ↔ ∃ r ∈ rs, b ∈ (loc r.s r.j).all := by simp [blks]
omit [Names] in
theorem LV.nodup_of {l : LV} (h : l.sub = []) : l.all.Nodup := by
  unfold LV.all
  rw [h, List.append_nil]
  cases l.blk <;> simp
theorem ObOk.nodup {l : LV} {o : Ob} (h : ObOk objs loc F B w l o) (hl : live o = true) : l.all.Nodup := by
  cases o with
  | gone => simp [live] at hl
  | box cs => obtain ⟨_, _, _, _, _, h, _⟩ := h; exact LV.nodup_of h
  | lst z e t xs => exact LstW.nodup h
theorem blks_nodup (h : SR base S B w0 objs loc F w) : ∀ {rs : List Ref}, (∀ r ∈ rs, live (Get.ob (look objs) r) = true) → Ref.apart rs = true → (blks loc rs).Nodup
  | [], _, _ => List.nodup_nil
  | r :: rs, hl, ha => by
    simp only [Ref.apart, Bool.and_eq_true, Bool.not_eq_true'] at ha
    have ih := blks_nodup h (fun r' hr' => hl r' (List.mem_cons_of_mem _ hr')) ha.2
    have e : blks loc (r :: rs) = (loc r.s r.j).all ++ blks loc rs := List.flatMap_cons ..
    rw [e]
    obtain ⟨o, _, l1, _, e1⟩ := live_ob (hl r (by simp))
    refine List.nodup_append.2 ⟨(h.obs _ _ _ _ e1).nodup l1, ih, fun b hb b' hm e => ?_⟩
    subst e
    obtain ⟨r', hr', hb'⟩ := blks_mem.1 hm
    have := same_block h (hl r (by simp)) (hl r' (List.mem_cons_of_mem _ hr')) hb hb'
    have : Ref.among r rs = true := among_iff.2 ⟨r', hr', this⟩
    rw [this] at ha
    exact absurd ha.1 (by simp)
theorem took_ok {get : Get} {t : Took} (h : SR base S B w0 objs loc F w) (ht : TookOk objs get t) (hok : t.ok = true) : (blks loc t.owns).Nodup ∧ ∀ b ∈ blks loc t.owns, ¬ FK F loc t.imms b ∧ ¬ BK B loc t.bors b ∧ b < w.heap.size ∧ (base ≤ b ∨ b ∈ S) := by
  simp only [Took.ok, Bool.and_eq_true] at hok
  refine ⟨blks_nodup h (fun r hr => (ht.owns r hr).1) hok.1, fun b hb => ?_⟩
  obtain ⟨r, hr, hb⟩ := blks_mem.1 hb
  obtain ⟨o, _, l1, _, e1⟩ := live_ob (ht.owns r hr).1
  obtain ⟨a1, a2, a3, a4⟩ := h.own _ _ _ _ b e1 l1 hb
  refine ⟨fun hF => ?_, fun hB => ?_, a3, a4⟩
  · rcases hF with hF | ⟨r', hr', hb'⟩
    · exact a1 hF
    · have := same_block h (live_of_lst (ht.imms r' hr').1) (ht.owns r hr).1 hb' hb
      have : Ref.among r' t.owns = true := among_iff.2 ⟨r, hr, this⟩
      rw [off_iff.1 hok.2.1 r' hr'] at this
      cases this
  · rcases hB with hB | ⟨r', hr', hb'⟩
    · exact a2 hB
    · have := same_block h (live_of_lst (ht.bors r' hr')) (ht.owns r hr).1 hb' hb
      have : Ref.among r' t.owns = true := among_iff.2 ⟨r, hr, this⟩
      rw [off_iff.1 hok.2.2 r' hr'] at this
      cases this
structure Frm (base : Nat) (S : List Nat) (B : Nat → Prop) (w0 : World) (F : Nat → Prop) (w : World) : Prop where
  fro : ∀ b, F b → b < w.heap.size
  bor : ∀ b, B b → b < base ∧ b ∉ S
  os : w.os = w0.os
  tape : w.tape = w0.tape
  output : w.output = w0.output
  size : base = w0.heap.size ∧ base ≤ w.heap.size
  block : ∀ b, b < base → b ∉ S → w.heap[b]? = w0.heap[b]?
  tab : ∀ b, Names.gb b → b < base ∧ b ∉ S
  gen0 : Names.gen w0
theorem SR.gen (h : SR base S B w0 objs loc F w) : Names.gen w := Names.keep w0 w (fun b hb => h.block b (h.tab b hb).1 (h.tab b hb).2) h.gen0
theorem SR.tabs (h : SR base S B w0 objs loc F w) {Sx : List Nat} (hS : ∀ b ∈ Sx, base ≤ b ∨ b ∈ S) : ∀ b, Names.gb b → b < w.heap.size ∧ b ∉ Sx := fun b hb =>
  ⟨Nat.lt_of_lt_of_le (h.tab b hb).1 h.size.2, fun hx => by
    rcases hS b hx with q | q
    · have := (h.tab b hb).1; omega
    · exact (h.tab b hb).2 q⟩
theorem SR.frm (h : SR base S B w0 objs loc F w) : Frm base S B w0 F w := ⟨h.fro, h.bor, h.os, h.tape, h.output, h.size, h.block, h.tab, h.gen0⟩
def Mine (base : Nat) (S : List Nat) (B F : Nat → Prop) (w : World) (Sx : List Nat) : Prop := Sx.Nodup ∧ ∀ b ∈ Sx, ¬ F b ∧ ¬ B b ∧ b < w.heap.size ∧ (base ≤ b ∨ b ∈ S)
structure Holds (base : Nat) (S : List Nat) (B : Nat → Prop) (w0 : World) (F : Nat → Prop) (w : World) (p : Pat) (x : p.den) (vs : List Value) : Prop where
  frm : Frm base S B w0 F w
  rep : ∃ Sx, Rep F B w p x vs Sx ∧ Mine base S B F w Sx
omit [Names] in
theorem flatMap_pos {α : Type} (f : α → List Nat) : ∀ {l : List α}, (l.flatMap f).Nodup → ∀ {i k : Nat} {a c : α} {b : Nat}, l[i]? = some a → l[k]? = some c → b ∈ f a → b ∈ f c → i = k
  | [], _, i, k, a, c, b, hi, _, _, _ => by simp at hi
  | x :: l, hn, i, k, a, c, b, hi, hk, ha, hc => by
    rw [List.flatMap_cons] at hn
    obtain ⟨_, tail, hd⟩ := List.nodup_append.1 hn
    have head : ∀ {m : Nat} {y : α}, l[m]? = some y → b ∈ f x → b ∈ f y → False := fun {m y} hm hx hy => hd b hx b (List.mem_flatMap.2 ⟨y, List.mem_of_getElem? hm, hy⟩) rfl
    cases i with
    | zero =>
      cases k with
      | zero => rfl
      | succ k =>
        simp only [List.getElem?_cons_zero, Option.some.injEq] at hi
        subst hi
        exact (head (by simpa using hk) ha hc).elim
    | succ i =>
      cases k with
      | zero =>
        simp only [List.getElem?_cons_zero, Option.some.injEq] at hk
        subst hk
        exact (head (by simpa using hi) hc ha).elim
      | succ k => exact congrArg (· + 1) (flatMap_pos f tail (i := i) (k := k) (by simpa using hi) (by simpa using hk) ha hc)
omit [Names] in
theorem look_one (n s : Nat) (x : Slot) : look [(n, x)] s = if n = s then x else .none := by rw [look_cons]; rfl
theorem unpack1_ok {p : Pat} {x : p.den} {vs : List Value} {Sx : List Nat} (n : Nat) (hok : p.ok = true) (h : Rep F B w p x vs Sx) (hnd : Sx.Nodup) : ∃ l : Nat → LV,
    (∀ j v o b, (unpack n 0 p x 0).2[j]? = some (v, o) → b ∈ (l j).all → b ∈ Sx) ∧
    (∀ j v o j' v' o' b, (unpack n 0 p x 0).2[j]? = some (v, o) → (unpack n 0 p x 0).2[j']? = some (v', o') → b ∈ (l j).all → b ∈ (l j').all → j = j') ∧
    ∀ (objs : Upd) (loc' : Loc), look objs n = ⟨0, (unpack n 0 p x 0).2⟩ → (∀ j, loc' n j = l j) → Vals objs loc' F B w (unpack n 0 p x 0).1 vs ∧ ∀ j v o, (unpack n 0 p x 0).2[j]? = some (v, o) → ObOk objs loc' F B w (l j) o := by
  obtain ⟨ls, h1, h2, h3, h4⟩ := unpack_ok n 0 p 0 hok h
  have hat : ∀ {j : Nat} {v : Nat} {o : Ob}, (unpack n 0 p x 0).2[j]? = some (v, o) → ls[j]? = some ((ls[j]?).getD LV.nil) := fun {j v o} hj => by
    have hlt : j < (unpack n 0 p x 0).2.length := (List.getElem?_eq_some_iff.1 hj).1
    rw [List.getElem?_eq_getElem (show j < ls.length by omega)]
    rfl
  refine ⟨fun j => (ls[j]?).getD LV.nil, fun j v o b hj hb => ?_, fun j v o j' v' o' b hj hj' hb hb' => ?_, fun objs loc' hl hloc => ?_⟩
  · rw [← h2]
    exact List.mem_flatMap.2 ⟨_, List.mem_of_getElem? (hat hj), hb⟩
  · exact flatMap_pos (·.all) (l := ls) (by rw [h2]; exact hnd) (hat hj) (hat hj') hb hb'
  · have hs : Sits objs loc' n 0 0 (unpack n 0 p x 0).2 ls := by
      refine ⟨by rw [hl], fun k e hk => ?_⟩
      rw [hl, Nat.zero_add]
      refine ⟨hk, ?_⟩
      rw [hloc]
      exact hat (v := e.1) (o := e.2) hk
    have u := h4 _ _ hs
    exact ⟨u.vals, fun j v o hj => u.obs j v o _ hj (hat hj)⟩
structure CutOk (F B : Nat → Prop) (w : World) (n : Nat) (avs : List AV) (u : Upd) (vs : List Value) (Sx : List Nat) (loc : Loc) : Prop where
  low : ∀ s, s < n → look u s = Slot.none
  mem : ∀ s j v o b, (look u s).os[j]? = some (v, o) → b ∈ (loc s j).all → b ∈ Sx
  apart : ∀ s j v o s' j' v' o' b, (look u s).os[j]? = some (v, o) → (look u s').os[j']? = some (v', o') → b ∈ (loc s j).all → b ∈ (loc s' j').all → s = s' ∧ j = j'
  ok : ∀ (objs : Upd) (loc' : Loc), (∀ s, n ≤ s → look objs s = look u s ∧ ∀ j, loc' s j = loc s j) → Vals objs loc' F B w avs vs ∧ ∀ s j v o, (look u s).os[j]? = some (v, o) → ObOk objs loc' F B w (loc s j) o
theorem CutOk.one {p : Pat} {x : p.den} {vs : List Value} {Sx : List Nat} (n : Nat) (hok : p.ok = true) (h : Rep F B w p x vs Sx) (hnd : Sx.Nodup) : ∃ loc, CutOk F B w n (unpack n 0 p x 0).1 [(n, ⟨0, (unpack n 0 p x 0).2⟩)] vs Sx loc := by
  obtain ⟨l, h1, h2, h3⟩ := unpack1_ok n hok h hnd
  have hat : ∀ {s j : Nat} {v : Nat} {o : Ob}, (look [(n, (⟨0, (unpack n 0 p x 0).2⟩ : Slot))] s).os[j]? = some (v, o) → s = n ∧ (unpack n 0 p x 0).2[j]? = some (v, o) := fun {s j v o} hj => by
    rw [look_one] at hj
    split at hj
    · rename_i e
      exact ⟨e.symm, hj⟩
    · simp [Slot.none] at hj
  refine ⟨fun _ j => l j, fun s hs => by rw [look_one, if_neg (by omega)], fun s j v o b hj hb => h1 j v o b (hat hj).2 hb, fun s j v o s' j' v' o' b hj hj' hb hb' => ?_, fun objs loc' hag => ?_⟩
  · obtain ⟨rfl, e1⟩ := hat hj
    obtain ⟨rfl, e2⟩ := hat hj'
    exact ⟨rfl, h2 _ _ _ _ _ _ _ e1 e2 hb hb'⟩
  · have hn := hag n (Nat.le_refl _)
    rw [look_one, if_pos rfl] at hn
    obtain ⟨k1, k2⟩ := h3 objs loc' hn.1 hn.2
    exact ⟨k1, fun s j v o hj => k2 j v o (hat hj).2⟩
theorem vals_app {objs : Upd} {loc : Loc} : ∀ {as bs : List AV} {vs us : List Value}, Vals objs loc F B w as vs → Vals objs loc F B w bs us → Vals objs loc F B w (as ++ bs) (vs ++ us)
  | [], _, [], _, _, h => h
  | _ :: _, _, _ :: _, _, h, k => ⟨h.1, vals_app h.2 k⟩
  | [], _, _ :: _, _, h, _ => h.elim
  | _ :: _, _, [], _, h, _ => h.elim
theorem unpackC_ok : ∀ (p : Pat) {x : p.den} {vs : List Value} {Sx : List Nat} (n : Nat), p.ok = true → Rep F B w p x vs Sx → Sx.Nodup → ∃ loc, CutOk F B w n (unpackC p x n).1 (unpackC p x n).2 vs Sx loc := by
  intro p
  induction p with
  | cons a b _ ihb =>
    intro x vs Sx n hok hr hnd
    simp only [Pat.ok, Bool.and_eq_true] at hok
    obtain ⟨v, vs', S1, S2, rfl, rfl, h1, h2⟩ := hr
    obtain ⟨d1, d2, d3⟩ := List.nodup_append.1 hnd
    obtain ⟨l, k1, k2, k3⟩ := unpack1_ok n hok.1 h1 d1
    obtain ⟨loc, g⟩ := ihb (n + 1) hok.2 h2 d2
    have e1 : (unpackC (.cons a b) x n).1 = (unpack n 0 a x.1 0).1 ++ (unpackC b x.2 (n + 1)).1 := rfl
    have e2 : (unpackC (.cons a b) x n).2 = (n, ⟨0, (unpack n 0 a x.1 0).2⟩) :: (unpackC b x.2 (n + 1)).2 := rfl
    rw [e1, e2]
    have hlk : ∀ s, look ((n, (⟨0, (unpack n 0 a x.1 0).2⟩ : Slot)) :: (unpackC b x.2 (n + 1)).2) s = if n = s then ⟨0, (unpack n 0 a x.1 0).2⟩ else look (unpackC b x.2 (n + 1)).2 s := fun s => look_cons _ _ _ _
    have hnone : look (unpackC b x.2 (n + 1)).2 n = Slot.none := g.low n (by omega)
    refine ⟨fun s j => if s = n then l j else loc s j, fun s hs => ?_, fun s j v o b' hj hb => ?_, fun s j v o s' j' v' o' b' hj hj' hb hb' => ?_, fun objs loc' hag => ?_⟩
    · rw [hlk, if_neg (by omega)]
      exact g.low s (by omega)
    · rw [hlk] at hj
      by_cases e : n = s
      · subst e
        rw [if_pos rfl] at hj hb
        exact List.mem_append_left _ (k1 _ _ _ _ hj hb)
      · rw [if_neg e] at hj
        rw [if_neg (fun q => e q.symm)] at hb
        exact List.mem_append_right _ (g.mem _ _ _ _ _ hj hb)
    · rw [hlk] at hj hj'
      by_cases e : n = s
      · subst e
        rw [if_pos rfl] at hj hb
        by_cases e' : n = s'
        · subst e'
          rw [if_pos rfl] at hj' hb'
          exact ⟨rfl, k2 _ _ _ _ _ _ _ hj hj' hb hb'⟩
        · rw [if_neg e'] at hj'
          rw [if_neg (fun q => e' q.symm)] at hb'
          exact absurd rfl (d3 _ (k1 _ _ _ _ hj hb) _ (g.mem _ _ _ _ _ hj' hb'))
      · rw [if_neg e] at hj
        rw [if_neg (fun q => e q.symm)] at hb
        by_cases e' : n = s'
        · subst e'
          rw [if_pos rfl] at hj' hb'
          exact absurd rfl (d3 _ (k1 _ _ _ _ hj' hb') _ (g.mem _ _ _ _ _ hj hb))
        · rw [if_neg e'] at hj'
          rw [if_neg (fun q => e' q.symm)] at hb'
          exact g.apart _ _ _ _ _ _ _ _ _ hj hj' hb hb'
    · have hn := hag n (Nat.le_refl _)
      rw [hlk, if_pos rfl] at hn
      obtain ⟨q1, q2⟩ := k3 objs loc' hn.1 (fun j => by rw [hn.2 j, if_pos rfl])
      obtain ⟨r1, r2⟩ := g.ok objs loc' (fun s hs => by
        have := hag s (by omega)
        rw [hlk, if_neg (by omega)] at this
        exact ⟨this.1, fun j => by rw [this.2 j, if_neg (by omega)]⟩)
      refine ⟨vals_app q1 r1, fun s j v o hj => ?_⟩
      rw [hlk] at hj
      by_cases e : n = s
      · subst e
        rw [if_pos rfl] at hj ⊢
        exact q2 j v o hj
      · rw [if_neg e] at hj
        rw [if_neg (fun q => e q.symm)]
        exact r2 s j v o hj
  | _ => intro x vs Sx n hok hr hnd; exact CutOk.one n hok hr hnd
theorem unpack_sr {p : Pat} {x : p.den} {vs : List Value} (n : Nat) (hok : p.ok = true) (h : Holds base S B w0 F w p x vs) :
    ∃ loc, SR base S B w0 (unpackC p x n).2 loc F w ∧ Vals (unpackC p x n).2 loc F B w (unpackC p x n).1 vs := by
  obtain ⟨hf, Sx, hrep, hnd, hmine⟩ := h
  obtain ⟨loc, g⟩ := unpackC_ok p n hok hrep hnd
  obtain ⟨h1, h2⟩ := g.ok _ loc (fun s _ => ⟨rfl, fun _ => rfl⟩)
  exact ⟨loc, ⟨fun s j v o hj => h2 s j v o hj, fun s j v o s' j' v' o' b hj hj' _ _ hb hb' => g.apart _ _ _ _ _ _ _ _ _ hj hj' hb hb', fun s j v o b hj _ hb => hmine b (g.mem _ _ _ _ _ hj hb), hf.fro, hf.bor, hf.os, hf.tape, hf.output, hf.size, hf.block, hf.tab, hf.gen0⟩, h1⟩
theorem FK_more (h : SR base S B w0 objs loc F w) {ks : List Ref} (hk : ∀ r ∈ ks, live (Get.ob (look objs) r) = true) : More base S F (FK F loc ks) ∧ ∀ b, FK F loc ks b → b < w.heap.size := by
  have key : ∀ r ∈ ks, ∀ b, b ∈ (loc r.s r.j).all → b < w.heap.size ∧ (base ≤ b ∨ b ∈ S) := fun r hr b hb => by
    obtain ⟨o, _, l1, _, e1⟩ := live_ob (hk r hr)
    exact (h.own _ _ _ _ b e1 l1 hb).2.2
  refine ⟨fun b hb => ?_, fun b hb => ?_⟩
  · rcases hb with hb | ⟨r, hr, hb⟩
    · exact .inl hb
    · exact .inr (key r hr b hb).2
  · rcases hb with hb | ⟨r, hr, hb⟩
    · exact h.fro b hb
    · exact (key r hr b hb).1
theorem pack_holds {p : Pat} {avs : List AV} {vs : List Value} {K : p.den → Option ρ} {res : ρ} (h : SR base S B w0 objs loc F w) (hk : pack (look objs) p avs (fun x t => match t.sole with | true => K x | false => none) = some res) (hv : Vals objs loc F B w avs vs) :
    ∃ x F', K x = some res ∧ Holds base S B w0 F' w p x vs ∧ (∀ b, F b → F' b) ∧ More base S F F' := by
  obtain ⟨x, t, Sx, hk, hrep, hS, ht⟩ := pack_ok h (fun s => .inl rfl) rfl p hk hv
  split at hk
  case h_2 => cases hk
  rename_i hsole
  simp only [Took.sole, Bool.and_eq_true, List.isEmpty_iff] at hsole
  obtain ⟨q1, q2⟩ := took_ok h ht hsole.1
  have hBK : BK B loc t.bors = B := by rw [hsole.2]; exact FK.nil
  rw [hBK] at hrep q2
  obtain ⟨m1, m2⟩ := FK_more h (fun r hr => live_of_lst (ht.imms r hr).1)
  refine ⟨x, FK F loc t.imms, hk, ⟨⟨m2, h.bor, h.os, h.tape, h.output, h.size, h.block, h.tab, h.gen0⟩, Sx, hrep, ?_⟩, fun b hb => .inl hb, m1⟩
  rw [hS]
  exact ⟨q1, q2⟩
end
end Go.Eng
end

section
namespace Go.Eng
variable [Names]
def RepOut (F B : Nat → Prop) (w : World) : (p : Pat) → p.out → List Value → List Nat → Prop
  | .mut z e t, xs, vs, S => ∃ l : LV, vs = [hdr l xs.length] ∧ S = l.all ∧ LstOk F w l z e t xs
  | .ptr o p, x, vs, S => Rep F B w (.ptr o p) x vs S
  | .fn f p, x, vs, S => ∃ cs : Array Value, vs = [.func (.func f) #[] cs] ∧ RepOut F B w p x cs.toList S
  | .mag p, x, vs, S => ∃ cs : Array Value, vs = [.agg cs] ∧ RepOut F B w p x cs.toList S
  | .cons a b, x, vs, S => ∃ v vs' S1 S2, vs = v :: vs' ∧ S = S1 ++ S2 ∧ RepOut F B w a x.1 [v] S1 ∧ RepOut F B w b x.2 vs' S2
  | .nm, _, _, S | .any, _, _, S | .int _, _, _, S | .bool, _, _, S | .str, _, _, S | .nils, _, _, S | .il _ _, _, _, S | .own _ _ _, _, _, S | .agg _, _, _, S | .tup _, _, _, S | .nil, _, _, S => S = []
section
variable {base : Nat} {S : List Nat} {B F B' F' : Nat → Prop} {w0 : World} {objs : Upd} {loc : Loc} {w w' : World} {ρ : Type}
omit [Names] in
theorem hdr_inj {l l' : LV} {n n' : Nat} (h : hdr l n = hdr l' n') : (l.blk = l'.blk ∧ l.cap = l'.cap ∧ (l.blk ≠ none → l.off = l'.off)) ∧ n = n' := by
  obtain ⟨b, o, c, u⟩ := l
  obtain ⟨b', o', c', u'⟩ := l'
  simp only [hdr, Value.slice.injEq] at h
  obtain ⟨h1, h2, h3⟩ := h
  refine ⟨⟨?_, h3, ?_⟩, h2⟩
  · cases b <;> cases b' <;> simp_all
  · cases b <;> cases b' <;> simp_all
theorem LstOk.of_hdr {F : Nat → Prop} {w : World} {l : LV} {z : Bool} {e : Nat} {t : Ty} {xs : List t.den} (h : LstOk F w l z e t xs) {o : Nat} (ho : l.blk ≠ none → l.off = o) : LstOk F w ⟨l.blk, o, l.cap, l.sub⟩ z e t xs := by
  obtain ⟨b, o', c, u⟩ := l
  dsimp only at ho ⊢
  cases b with
  | none => exact h
  | some b =>
    have := ho (by simp)
    subst this
    exact h
structure BOk (objs : Upd) (loc : Loc) (F' B' : Nat → Prop) (w' : World) (d g j : Nat) (owns : List Ref) (ns : List (Ref × Ob)) (os : List (Nat × Ob)) (nls ls : List LV) (S2 : List Nat) : Prop where
  nlen : nls.length = ns.length
  len : ls.length = os.length
  perm : ((nls ++ ls).flatMap (·.all)).Perm S2
  sub : (ns.map (·.1)).Sublist owns
  fresh : ∀ (k : Nat) (v : Nat) (o : Ob), os[k]? = some (v, o) → v = 0 ∧ live o = true
  comp : ∀ (i : Nat) (n : Ref × Ob) (l : LV), ns[i]? = some n → nls[i]? = some l → live n.2 = true ∧ Compat (loc n.1.s n.1.j) l (Get.ob (look objs) n.1) n.2
  obs : ∀ objs' loc', Sits objs' loc' d g j os ls → (∀ (i : Nat) (n : Ref × Ob) (l : LV), ns[i]? = some n → nls[i]? = some l → ObOk objs' loc' F' B' w' l n.2) ∧ ∀ (k : Nat) (v : Nat) (o : Ob) (l : LV), os[k]? = some (v, o) → ls[k]? = some l → ObOk objs' loc' F' B' w' l o
theorem BOk.nil {d g j : Nat} {owns : List Ref} : BOk objs loc F' B' w' d g j owns [] [] [] [] [] :=
  ⟨rfl, rfl, by simp, by simp, fun k v o h => by simp at h, fun i n l h => by simp at h, fun _ _ _ => ⟨fun i n l h => by simp at h, fun k v o l h => by simp at h⟩⟩
omit [Names] in
theorem one_get {α : Type} {a b : α} {i : Nat} (h : [a][i]? = some b) : i = 0 ∧ a = b := by
  cases i with
  | zero => simp at h; exact ⟨rfl, h⟩
  | succ i => simp at h
theorem back_ok {get : Get} (h : SR base S B w0 objs loc F w) (hR : ∀ s, get s = look objs s ∨ get s = Slot.none) (d g : Nat) (p : Pat) : ∀ {avs : List AV} {vs : List Value} {x : p.den} {t : Took} {out : p.out} {S2 : List Nat} (j : Nat), p.ok = true →
    pack get p avs pr = some (x, t) → Vals objs loc F B w avs vs → RepOut F' B' w' p out vs S2 → ∃ nls ls, BOk objs loc F' B' w' d g j t.owns (back d g p avs out j).1 (back d g p avs out j).2 nls ls S2 := by
  have one : ∀ {avs : List AV} {vs : List Value} {a : AV}, avs = [a] → Vals objs loc F B w avs vs → ∃ v, vs = [v] ∧ Val objs loc F B w a v := by
    intro avs vs a e hv
    subst e
    match vs, hv with
    | [v], hv => exact ⟨v, rfl, hv.1⟩
    | [], hv => exact hv.elim
    | _ :: _ :: _, hv => exact hv.2.elim
  have found : ∀ {r : Ref}, Get.ob get r ≠ .gone → Get.ob get r = Get.ob (look objs) r := fun hne => ob_get (seen hR hne)
  induction p with
  | «mut» z e ty =>
    intro avs vs x t out S2 j _ hk hv hr
    match avs, hk, hv with
    | [], hk, _ => cases z <;> simp [pack] at hk
    | _ :: _ :: _, hk, _ => cases z <;> simp [pack] at hk
    | [a], hk, hv =>
      obtain ⟨v, rfl, hv1⟩ := one rfl hv
      clear hv
      have hv := hv1
      clear hv1
      obtain ⟨l, e1, rfl, hl⟩ := hr
      cases a with
      | nils =>
        have hv : v = .slice none 0 0 := hv
        have : l.blk = none := by
          rw [hv] at e1
          simp only [hdr, List.cons.injEq, Value.slice.injEq] at e1
          cases hb : l.blk with
          | none => rfl
          | some b => rw [hb] at e1; simp at e1
        have hall : l.all = [] := by
          unfold LstOk LstW at hl
          rw [this] at hl
          unfold LV.all
          rw [this, hl.2.2]
          rfl
        rw [hall]
        exact ⟨[], [], BOk.nil⟩
      | ol r vw =>
        cases vw with
        | sub lo hi => cases z <;> simp [pack] at hk
        | whole =>
          have hk' : (match get.ob r with
            | .lst z' e' t' xs => if h : t' = ty then (match Nat.beq e' e && (z || !z') with
              | true => pr (h ▸ xs) ⟨[r], [], []⟩
              | false => none) else none
            | _ => none) = some (x, t) := by cases z <;> exact hk
          split at hk'
          case h_2 => cases hk'
          rename_i z' e' t' xs hob
          have hob' := (found (r := r) (by rw [hob]; simp)).symm.trans hob
          split at hk'
          case isFalse => cases hk'
          rename_i et
          subst et
          split at hk'
          case h_2 => cases hk'
          injection hk' with hk'
          injection hk' with hx ht
          subst ht
          have hcv : v = hdr (loc r.s r.j) xs.length := RS.found (show Leaf objs loc F B w (.ol r .whole) v from hv).2 hob' (by simp)
          rw [hcv] at e1
          simp only [List.cons.injEq, and_true] at e1
          obtain ⟨⟨e2, e4, e5⟩, e3⟩ := hdr_inj e1
          have hcore : (loc r.s r.j).core = (⟨l.blk, (loc r.s r.j).off, l.cap, l.sub⟩ : LV).core := by simp [LV.core, e2, e4]
          refine ⟨[⟨l.blk, (loc r.s r.j).off, l.cap, l.sub⟩], [], rfl, rfl, ?_, by simp [back], fun k v o h => by simp [back] at h, fun i n l' hn hl' => ?_, fun objs' loc' _ => ⟨fun i n l' hn hl' => ?_, fun k v o l h => by simp [back] at h⟩⟩
          · simp only [List.append_nil, List.flatMap_cons, List.flatMap_nil]
            exact List.Perm.refl _
          · obtain ⟨_, rfl⟩ := one_get hn
            obtain ⟨_, rfl⟩ := one_get hl'
            exact ⟨rfl, by rw [hob']; exact ⟨rfl, e3, hcore⟩⟩
          · obtain ⟨_, rfl⟩ := one_get hn
            obtain ⟨_, rfl⟩ := one_get hl'
            exact hl.of_hdr fun hne => (e5 (by rw [e2]; exact hne)).symm
      | _ => cases z <;> simp [pack] at hk
  | ptr po p ih =>
    intro avs vs x t out S2 j hok hk hv hr
    simp only [Pat.ok, Bool.and_eq_true] at hok
    match avs, hk, hv with
    | [], hk, _ => simp [pack] at hk
    | _ :: _ :: _, hk, _ => simp [pack] at hk
    | [a], hk, hv =>
      obtain ⟨v, rfl, hv1⟩ := one rfl hv
      clear hv
      have hv := hv1
      clear hv1
      obtain ⟨b, cs, e, fr, S', e1, rfl, h1, h2, h3, h4⟩ := hr
      cases a <;> try (simp [pack] at hk; done)
      rename_i r off
      · simp only [pack] at hk
        split at hk
        case h_2 => cases hk
        rename_i hoff
        have hoff := Nat.eq_of_beq_eq_true hoff
        subst hoff
        split at hk
        case h_2 => cases hk
        rename_i ocs hob
        have hob' := (found (r := r) (by rw [hob]; simp)).symm.trans hob
        rw [pack_nat] at hk
        cases hp : pack get p ocs pr with
        | none => rw [hp] at hk; cases hk
        | some q =>
          rw [hp] at hk
          simp only [Nat2, Option.bind_some, pr, Option.some.injEq, Prod.mk.injEq] at hk
          obtain ⟨rfl, rfl⟩ := hk
          obtain ⟨b', hb, e2⟩ := RS.found (show Leaf objs loc F B w (.ptr r off) v from hv).2 hob' (by simp)
          rw [e2] at e1
          simp only [List.cons.injEq, Value.pointer.injEq, Option.some.injEq, Addr.mk.injEq, and_true] at e1
          subst e1
          have hsb : (loc r.s r.j).sub = [] := by
            obtain ⟨_, _, _, _, _, hs, _⟩ := h.obs _ _ _ _ (ob_some hob' (by simp)).2
            exact hs
          obtain ⟨ls, k1, k2, k3, k4⟩ := unpack_ok d g p j hok.2.1 h4
          refine ⟨[loc r.s r.j], ls, rfl, k1, ?_, by simp [back, Took.and], k3, fun i n l hn hl => ?_, fun objs' loc' hs => ?_⟩
          · simp only [List.singleton_append, List.flatMap_cons, k2]
            rw [LV.all_of hsb, hb]
            exact List.Perm.refl _
          · obtain ⟨_, rfl⟩ := one_get hn
            obtain ⟨_, rfl⟩ := one_get hl
            exact ⟨rfl, by rw [hob']; rfl⟩
          · have u := k4 objs' loc' hs
            refine ⟨fun i n l hn hl => ?_, u.obs⟩
            obtain ⟨_, rfl⟩ := one_get hn
            obtain ⟨_, rfl⟩ := one_get hl
            exact ⟨b', cs, e, fr, hb, hsb, h1, h2, u.leafs (.inl hok.1) h3⟩
  | fn f p ih =>
    intro avs vs x t out S2 j hok hk hv hr
    simp only [Pat.ok, Bool.and_eq_true] at hok
    match avs, hk, hv with
    | [], hk, _ => simp [pack] at hk
    | _ :: _ :: _, hk, _ => simp [pack] at hk
    | [a], hk, hv =>
      obtain ⟨v, rfl, hv1⟩ := one rfl hv
      clear hv
      have hv := hv1
      clear hv1
      obtain ⟨cs, e1, hr⟩ := hr
      cases a <;> try (simp [pack] at hk; done)
      rename_i f' acs
      simp only [pack] at hk
      split at hk
      case h_2 => cases hk
      obtain ⟨cv, rfl, hlf⟩ := hv
      simp only [List.cons.injEq, Value.func.injEq, true_and, and_true] at e1
      obtain ⟨_, rfl⟩ := e1
      exact ih j hok.2 hk hlf.vals hr
  | mag p ih =>
    intro avs vs x t out S2 j hok hk hv hr
    simp only [Pat.ok, Bool.and_eq_true] at hok
    match avs, hk, hv with
    | [], hk, _ => simp [pack] at hk
    | _ :: _ :: _, hk, _ => simp [pack] at hk
    | [a], hk, hv =>
      obtain ⟨v, rfl, hv1⟩ := one rfl hv
      clear hv
      have hv := hv1
      clear hv1
      obtain ⟨cs, e1, hr⟩ := hr
      cases a <;> try (simp [pack] at hk; done)
      rename_i acs
      simp only [pack] at hk
      obtain ⟨cv, rfl, hlf⟩ := val_agg hv
      simp only [List.cons.injEq, Value.agg.injEq, and_true] at e1
      subst e1
      exact ih j hok.2 hk hlf.vals hr
  | cons a b iha ihb =>
    intro avs vs x t out S2 j hok hk hv hr
    simp only [Pat.ok, Bool.and_eq_true] at hok
    obtain ⟨v, vs', S1, S2, rfl, rfl, h1, h2⟩ := hr
    cases avs with
    | nil => simp [pack] at hk
    | cons av avs =>
      simp only [pack] at hk
      rw [pack_nat] at hk
      cases hp : pack get a [av] pr with
      | none => rw [hp] at hk; cases hk
      | some q =>
        rw [hp] at hk
        simp only [Nat2, Option.bind_some] at hk
        rw [pack_nat] at hk
        cases hp' : pack get b avs pr with
        | none => rw [hp'] at hk; cases hk
        | some q' =>
          rw [hp'] at hk
          simp only [Nat2, Option.bind_some, pr, Option.some.injEq, Prod.mk.injEq] at hk
          obtain ⟨rfl, rfl⟩ := hk
          obtain ⟨nls, ls, k⟩ := iha (vs := [v]) j hok.1 hp ⟨hv.1, trivial⟩ h1
          obtain ⟨nls', ls', k'⟩ := ihb (j + (back d g a [av] out.1 j).2.length) hok.2 hp' hv.2 h2
          have e1 : (back d g (.cons a b) (av :: avs) out j).1 = (back d g a [av] out.1 j).1 ++ (back d g b avs out.2 (j + (back d g a [av] out.1 j).2.length)).1 := rfl
          have e2 : (back d g (.cons a b) (av :: avs) out j).2 = (back d g a [av] out.1 j).2 ++ (back d g b avs out.2 (j + (back d g a [av] out.1 j).2.length)).2 := rfl
          refine ⟨nls ++ nls', ls ++ ls', ?_⟩
          rw [e1, e2]
          have hnl := k.nlen
          have both : ∀ {Q : (Ref × Ob) → LV → Prop}, (∀ (i : Nat) (n : Ref × Ob) (l : LV), (back d g a [av] out.1 j).1[i]? = some n → nls[i]? = some l → Q n l) → (∀ (i : Nat) (n : Ref × Ob) (l : LV), (back d g b avs out.2 (j + (back d g a [av] out.1 j).2.length)).1[i]? = some n → nls'[i]? = some l → Q n l) →
              ∀ (i : Nat) (n : Ref × Ob) (l : LV), ((back d g a [av] out.1 j).1 ++ (back d g b avs out.2 (j + (back d g a [av] out.1 j).2.length)).1)[i]? = some n → (nls ++ nls')[i]? = some l → Q n l := fun q1 q2 i n l hn hl => by
            by_cases hlt : i < (back d g a [av] out.1 j).1.length
            · rw [List.getElem?_append_left hlt] at hn
              rw [List.getElem?_append_left (by omega)] at hl
              exact q1 i n l hn hl
            · rw [List.getElem?_append_right (by omega)] at hn
              rw [List.getElem?_append_right (by omega), hnl] at hl
              exact q2 _ n l hn hl
          refine ⟨by simp [k.nlen, k'.nlen], by simp [k.len, k'.len], ?_, ?_, fun i v o hi => ?_, both k.comp k'.comp, fun objs' loc' hs => ?_⟩
          · have := k.perm.append k'.perm
            simp only [List.flatMap_append, List.append_assoc] at this ⊢
            refine List.Perm.trans ?_ this
            refine List.Perm.append_left _ ?_
            rw [← List.append_assoc, ← List.append_assoc]
            exact List.Perm.append_right _ List.perm_append_comm
          · rw [List.map_append]
            exact k.sub.append k'.sub
          · by_cases hlt : i < (back d g a [av] out.1 j).2.length
            · rw [List.getElem?_append_left hlt] at hi; exact k.fresh i v o hi
            · rw [List.getElem?_append_right (by omega)] at hi; exact k'.fresh _ v o hi
          · have q := k.obs objs' loc' (hs.left k.len)
            have q' := k'.obs objs' loc' (hs.right k.len)
            refine ⟨both q.1 q'.1, fun i v o l hi hl => ?_⟩
            have hkl := k.len
            by_cases hlt : i < (back d g a [av] out.1 j).2.length
            · rw [List.getElem?_append_left hlt] at hi
              rw [List.getElem?_append_left (by omega)] at hl
              exact q.2 i v o l hi hl
            · rw [List.getElem?_append_right (by omega)] at hi
              rw [List.getElem?_append_right (by omega), hkl] at hl
              exact q'.2 _ v o l hi hl
  | own z e ty =>
    intro avs vs x t out S2 j _ hk hv hr
    cases hr
    exact ⟨[], [], by unfold back; exact BOk.nil⟩
  | any => intro avs vs x t out S2 j _ hk hv hr; cases hr; exact ⟨[], [], by unfold back; exact BOk.nil⟩
  | nm => intro avs vs x t out S2 j _ hk hv hr; cases hr; exact ⟨[], [], by unfold back; exact BOk.nil⟩
  | int k => intro avs vs x t out S2 j _ hk hv hr; cases hr; exact ⟨[], [], by unfold back; exact BOk.nil⟩
  | bool => intro avs vs x t out S2 j _ hk hv hr; cases hr; exact ⟨[], [], by unfold back; exact BOk.nil⟩
  | nils => intro avs vs x t out S2 j _ hk hv hr; cases hr; exact ⟨[], [], by unfold back; exact BOk.nil⟩
  | str => intro avs vs x t out S2 j _ hk hv hr; cases hr; exact ⟨[], [], by unfold back; exact BOk.nil⟩
  | il b ty => intro avs vs x t out S2 j _ hk hv hr; cases hr; exact ⟨[], [], by unfold back; exact BOk.nil⟩
  | agg p _ => intro avs vs x t out S2 j _ hk hv hr; cases hr; exact ⟨[], [], by unfold back; exact BOk.nil⟩
  | tup p _ => intro avs vs x t out S2 j _ hk hv hr; cases hr; exact ⟨[], [], by unfold back; exact BOk.nil⟩
  | nil => intro avs vs x t out S2 j _ hk hv hr; cases hr; exact ⟨[], [], by unfold back; exact BOk.nil⟩
end
end Go.Eng
end

section
namespace Go.Eng
variable [Names]
structure Post (rs ps : Pat) (r : rs.den × ps.out) (args : List Value) (Sx : List Nat) (F B : Nat → Prop) (w : World) (F' : Nat → Prop) (S1 S2 : List Nat) (v : Value) (w' : World) : Prop where
  os : w'.os = w.os
  tape : w'.tape = w.tape
  output : w'.output = w.output
  size : w.heap.size ≤ w'.heap.size
  block : ∀ b, b < w.heap.size → b ∉ Sx → w'.heap[b]? = w.heap[b]?
  fro : ∀ b, F b → F' b
  more : ∀ b, F' b → F b ∨ w.heap.size ≤ b ∨ b ∈ Sx
  lt : ∀ b, F' b → b < w'.heap.size
  rep : Rep F' B w' rs r.1 [v] S1
  out : RepOut F' B w' ps r.2 args S2
  nodup : (S1 ++ S2).Nodup
  mine : ∀ b ∈ S1 ++ S2, ¬ F' b ∧ ¬ B b ∧ b < w'.heap.size ∧ (w.heap.size ≤ b ∨ b ∈ Sx)
def Does (P : Program) (f : Nat) (args : Array Value) (w : World) (R : Value → World → Prop) : Prop :=
  (∃ g as, (callFunc f args).run P w = .ok (.enter g as) w ∧ Calls P g as w fun e w' => ∃ v, e = .returned v ∧ R v w') ∨ ∃ v w', (callFunc f args).run P w = .ok (.value v) w' ∧ R v w'
structure EntryOk (P : Program) (e : Entry) : Prop where
  okp : e.ps.ok = true
  okr : e.rs.ok = true
  run : ∀ x r, e.F x = some r → ∀ (w : World) (args : Array Value) (Sx : List Nat) (F B : Nat → Prop), Rep F B w e.ps x args.toList Sx → Sx.Nodup → (∀ b ∈ Sx, ¬ F b ∧ ¬ B b ∧ b < w.heap.size) → (∀ b, F b → b < w.heap.size) → (∀ b, B b → b < w.heap.size) → (∀ b, Names.gb b → b < w.heap.size ∧ b ∉ Sx) → Names.gen w →
    Does P e.f args w fun v w' => ∃ F' S1 S2, Post e.rs e.ps r args.toList Sx F B w F' S1 S2 v w'
section
variable {P : Program} {T : TT} {base : Nat} {S : List Nat} {B F B' F' : Nat → Prop} {w0 : World} {objs : Upd} {loc : Loc} {w w' : World} {ρ : Type}
theorem Rep.nb : ∀ {p : Pat} {x : p.den} {vs : List Value} {Sx : List Nat}, p.nb = true → Rep F B w p x vs Sx → Rep F B' w p x vs Sx
  | .any, _, _, _, _, h => h
  | .int _, _, _, _, _, h => h
  | .bool, _, _, _, _, h => h
  | .str, _, _, _, _, h => h
  | .nils, _, _, _, _, h => h
  | .nm, _, _, _, _, h => h
  | .il b t, xs, _, _, hn, h => by
    have : b = false := by simpa [Pat.nb] using hn
    subst this
    exact ⟨h.1.mono (fun c hc => hc.imp id fun hc => by simp at hc) (fun _ _ => rfl), h.2⟩
  | .own z e t, xs, _, _, _, h => h
  | .mut z e t, xs, _, _, _, h => h
  | .ptr po p, x, _, _, hn, h => by
    obtain ⟨b, cs, e, fr, S', rfl, rfl, h1, h2, h3, h4⟩ := h
    exact ⟨b, cs, e, fr, S', rfl, rfl, h1, h2, h3, Rep.nb hn h4⟩
  | .agg p, x, _, _, hn, h => by
    obtain ⟨cs, rfl, h3, h4⟩ := h
    exact ⟨cs, rfl, h3, Rep.nb hn h4⟩
  | .mag p, x, _, _, hn, h => by
    obtain ⟨cs, rfl, h3, h4⟩ := h
    exact ⟨cs, rfl, h3, Rep.nb hn h4⟩
  | .tup p, x, _, _, hn, h => by
    obtain ⟨cs, rfl, h4⟩ := h
    exact ⟨cs, rfl, Rep.nb hn h4⟩
  | .fn f p, x, _, _, hn, h => by
    obtain ⟨cs, rfl, h3, h4⟩ := h
    exact ⟨cs, rfl, h3, Rep.nb hn h4⟩
  | .nil, _, _, _, _, h => h
  | .cons a b, x, _, _, hn, h => by
    simp only [Pat.nb, Bool.and_eq_true] at hn
    obtain ⟨v, vs', S1, S2, rfl, rfl, h1, h2⟩ := h
    exact ⟨v, vs', S1, S2, rfl, rfl, Rep.nb hn.1 h1, Rep.nb hn.2 h2⟩
theorem RepOut.mono (hF : ∀ b, F b → F' b) (hB : ∀ b, B b → B' b) : ∀ {p : Pat} {x : p.out} {vs : List Value} {Sx : List Nat}, RepOut F B w p x vs Sx → RepOut F' B' w p x vs Sx
  | .any, _, _, _, h => h
  | .int _, _, _, _, h => h
  | .bool, _, _, _, h => h
  | .str, _, _, _, h => h
  | .nils, _, _, _, h => h
  | .nm, _, _, _, h => h
  | .il b t, xs, _, _, h => h
  | .own z e t, xs, _, _, h => h
  | .mut z e t, xs, _, _, h => by
    obtain ⟨l, rfl, rfl, h⟩ := h
    exact ⟨l, rfl, rfl, h.mono hF (fun _ _ => rfl) fun _ _ => rfl⟩
  | .ptr po p, x, _, _, h => Rep.mono (p := .ptr po p) hF hB (fun _ _ => rfl) (fun _ _ => rfl) (fun _ _ => rfl) h
  | .agg p, x, _, _, h => h
  | .tup p, x, _, _, h => h
  | .fn f p, x, _, _, h => by
    obtain ⟨cs, rfl, h4⟩ := h
    exact ⟨cs, rfl, RepOut.mono hF hB h4⟩
  | .mag p, x, _, _, h => by
    obtain ⟨cs, rfl, h4⟩ := h
    exact ⟨cs, rfl, RepOut.mono hF hB h4⟩
  | .nil, _, _, _, h => h
  | .cons a b, x, _, _, h => by
    obtain ⟨v, vs', S1, S2, rfl, rfl, h1, h2⟩ := h
    exact ⟨v, vs', S1, S2, rfl, rfl, RepOut.mono hF hB h1, RepOut.mono hF hB h2⟩
theorem RepOut.nb : ∀ {p : Pat} {x : p.out} {vs : List Value} {Sx : List Nat}, p.nbo = true → RepOut F B w p x vs Sx → RepOut F B' w p x vs Sx
  | .any, _, _, _, _, h => h
  | .int _, _, _, _, _, h => h
  | .bool, _, _, _, _, h => h
  | .str, _, _, _, _, h => h
  | .nils, _, _, _, _, h => h
  | .nm, _, _, _, _, h => h
  | .il b t, xs, _, _, _, h => h
  | .own z e t, xs, _, _, _, h => h
  | .mut z e t, xs, _, _, _, h => h
  | .ptr po p, x, _, _, hn, h => by
    exact Rep.nb (p := .ptr po p) hn h
  | .agg p, x, _, _, hn, h => h
  | .tup p, x, _, _, hn, h => h
  | .fn f p, x, _, _, hn, h => by
    obtain ⟨cs, rfl, h4⟩ := h
    exact ⟨cs, rfl, RepOut.nb (p := p) hn h4⟩
  | .mag p, x, _, _, hn, h => by
    obtain ⟨cs, rfl, h4⟩ := h
    exact ⟨cs, rfl, RepOut.nb (p := p) hn h4⟩
  | .nil, _, _, _, _, h => h
  | .cons a b, x, _, _, hn, h => by
    simp only [Pat.nbo, Bool.and_eq_true] at hn
    obtain ⟨v, vs', S1, S2, rfl, rfl, h1, h2⟩ := h
    exact ⟨v, vs', S1, S2, rfl, rfl, RepOut.nb hn.1 h1, RepOut.nb hn.2 h2⟩
def Ref.at (r : Ref) (s j : Nat) : Prop := r.s = s ∧ r.j = j
omit [Names] in
theorem next_look {get : Get} {u : Upd} {r : Ref} {x : Nat} {o : Ob} (hg : get r.s = look objs r.s) (hgen : r.g = (look objs r.s).g) (hu : ∀ s, (look (applyUpd objs u) s).g = (look objs s).g) (u1 : Upd) (hu1 : u1 = (r.s, ⟨r.g, setNth (Upd.at get u r.s).os r.j (x, o)⟩) :: u) :
    (∀ s, (look (applyUpd objs u1) s).g = (look objs s).g) ∧ (∀ s j, ¬ r.at s j → (look (applyUpd objs u1) s).os[j]? = (look (applyUpd objs u) s).os[j]?) ∧
    (∀ e, (look (applyUpd objs u) r.s).os[r.j]? = some e → (look (applyUpd objs u1) r.s).os[r.j]? = some (x, o)) := by
  have hl : ∀ s, look (applyUpd objs u1) s = if r.s = s then ⟨r.g, (look (applyUpd objs u) r.s).os.set r.j (x, o)⟩ else look (applyUpd objs u) s := by
    intro s
    rw [hu1]
    show look (put (applyUpd objs u) r.s _) s = _
    rw [look_put, upd_at hg, setNth_eq]
  refine ⟨fun s => ?_, fun s j hn => ?_, fun e he => ?_⟩
  · rw [hl]
    split
    · rename_i e; rw [← e]; exact hgen
    · exact hu s
  · rw [hl]
    split
    · rename_i e
      subst e
      exact List.getElem?_set_ne (fun e => hn ⟨rfl, e⟩)
    · rfl
  · rw [hl, if_pos rfl]
    exact List.getElem?_set_self (List.getElem?_eq_some_iff.1 he).1
omit [Names] in
theorem kills_look {get : Get} : ∀ (ks : List Ref) (u : Upd), (∀ r ∈ ks, get r.s = look objs r.s ∧ r.g = (look objs r.s).g) → (∀ s, (look (applyUpd objs u) s).g = (look objs s).g) →
    (∀ s, (look (applyUpd objs (kills get ks u)) s).g = (look objs s).g) ∧ (∀ s j, (∀ r ∈ ks, ¬ r.at s j) → (look (applyUpd objs (kills get ks u)) s).os[j]? = (look (applyUpd objs u) s).os[j]?) ∧
    (∀ s j e, (∃ r ∈ ks, r.at s j) → (look (applyUpd objs u) s).os[j]? = some e → ∃ r ∈ ks, r.at s j ∧ (look (applyUpd objs (kills get ks u)) s).os[j]? = some (r.v + 1, .gone))
  | [], _, _, hu => ⟨hu, fun _ _ _ => rfl, fun s j e h => by simp at h⟩
  | r :: ks, u, hk, hu => by
    obtain ⟨a1, a2, a3⟩ := next_look (x := r.v + 1) (o := .gone) (hk r (by simp)).1 (hk r (by simp)).2 hu _ rfl
    obtain ⟨b1, b2, b3⟩ := kills_look ks _ (fun r' hr' => hk r' (List.mem_cons_of_mem _ hr')) a1
    refine ⟨b1, fun s j hn => ?_, fun s j e he hu' => ?_⟩
    · exact (b2 s j fun r' hr' => hn r' (List.mem_cons_of_mem _ hr')).trans (a2 s j (hn r (by simp)))
    · have hin : ∃ e', (look (applyUpd objs (Upd.next get u r .gone)) s).os[j]? = some e' := by
        by_cases hr : r.at s j
        · obtain ⟨rfl, rfl⟩ := hr
          exact ⟨_, a3 e hu'⟩
        · exact ⟨e, (a2 s j hr).trans hu'⟩
      obtain ⟨e', he'⟩ := hin
      by_cases hks : ∃ r' ∈ ks, r'.at s j
      · obtain ⟨r', h1, h2, h3⟩ := b3 s j e' hks he'
        exact ⟨r', List.mem_cons_of_mem _ h1, h2, h3⟩
      · obtain ⟨r', h1, h2⟩ := he
        rcases List.mem_cons.1 h1 with rfl | h1
        · refine ⟨r', by simp, h2, ?_⟩
          have h3 := b2 s j (fun r'' h'' hh => hks ⟨r'', h'', hh⟩)
          obtain ⟨rfl, rfl⟩ := h2
          exact h3.trans (a3 e hu')
        · exact absurd ⟨r', h1, h2⟩ hks
omit [Names] in
theorem sames_look {get : Get} : ∀ (ns : List (Ref × Ob)) (u : Upd), (∀ n ∈ ns, get n.1.s = look objs n.1.s ∧ n.1.g = (look objs n.1.s).g) → (∀ s, (look (applyUpd objs u) s).g = (look objs s).g) → Ref.apart (ns.map (·.1)) = true →
    (∀ s, (look (applyUpd objs (sames get ns u)) s).g = (look objs s).g) ∧ (∀ s j, (∀ n ∈ ns, ¬ n.1.at s j) → (look (applyUpd objs (sames get ns u)) s).os[j]? = (look (applyUpd objs u) s).os[j]?) ∧
    (∀ n ∈ ns, ∀ e, (look (applyUpd objs u) n.1.s).os[n.1.j]? = some e → (look (applyUpd objs (sames get ns u)) n.1.s).os[n.1.j]? = some (n.1.v, n.2))
  | [], _, _, hu, _ => ⟨hu, fun _ _ _ => rfl, by simp⟩
  | (r, o) :: ns, u, hk, hu, ha => by
    obtain ⟨a1, a2, a3⟩ := next_look (x := r.v) (o := o) (hk (r, o) (by simp)).1 (hk (r, o) (by simp)).2 hu _ rfl
    simp only [List.map_cons, Ref.apart, Bool.and_eq_true, Bool.not_eq_true'] at ha
    obtain ⟨b1, b2, b3⟩ := sames_look ns _ (fun n hn => hk n (List.mem_cons_of_mem _ hn)) a1 ha.2
    have hnot : ∀ n ∈ ns, ¬ n.1.at r.s r.j := fun n hn hh => by
      have : Ref.among r (ns.map (·.1)) = true := among_iff.2 ⟨n.1, List.mem_map.2 ⟨n, hn, rfl⟩, hh.1.symm, hh.2.symm⟩
      rw [this] at ha
      exact absurd ha.1 (by simp)
    refine ⟨b1, fun s j hn => ?_, fun n hn e he => ?_⟩
    · exact (b2 s j fun n hn' => hn n (List.mem_cons_of_mem _ hn')).trans (a2 s j (hn (r, o) (by simp)))
    · rcases List.mem_cons.1 hn with rfl | hn
      · exact (b2 _ _ hnot).trans (a3 e he)
      · refine b3 n hn e ((a2 n.1.s n.1.j fun hh => hnot n hn ⟨hh.1.symm, hh.2.symm⟩).trans he)
omit [Names] in
theorem apart_sub : ∀ {l l' : List Ref}, l.Sublist l' → Ref.apart l' = true → Ref.apart l = true
  | _, _, .slnil, h => h
  | _, _, .cons a s, h => by
    simp only [Ref.apart, Bool.and_eq_true] at h
    exact apart_sub s h.2
  | _, _, .cons_cons a s, h => by
    simp only [Ref.apart, Bool.and_eq_true, Bool.not_eq_true'] at h ⊢
    refine ⟨?_, apart_sub s h.2⟩
    cases hh : Ref.among a _ with
    | false => rfl
    | true =>
      obtain ⟨b, hb, e⟩ := among_iff.1 hh
      have : Ref.among a _ = true := among_iff.2 ⟨b, s.subset hb, e⟩
      rw [this] at h
      exact absurd h.1 (by simp)
end
end Go.Eng
end

section
namespace Go.Eng
variable [Names]
section
variable {P : Program} {T : TT} {base : Nat} {S : List Nat} {B F B' F' : Nat → Prop} {w0 : World} {objs : Upd} {loc : Loc} {w w' : World} {ρ : Type}
theorem pack_held {get : Get} (h : SR base S B w0 objs loc F w) (hR : ∀ s, get s = look objs s ∨ get s = Slot.none) (hSH : get SHG = look objs SHG) {p : Pat} {avs : List AV} {vs : List Value} {x : p.den} {t : Took} (hp : pack get p avs pr = some (x, t)) (hv : Vals objs loc F B w avs vs) :
    Rep (FK F loc t.imms) (BK B loc t.bors) w p x vs (blks loc t.owns) ∧ TookOk objs get t := by
  obtain ⟨x', t', Sx, hk, hrep, hS, ht⟩ := pack_ok h hR hSH p hp hv
  simp only [pr, Option.some.injEq, Prod.mk.injEq] at hk
  obtain ⟨rfl, rfl⟩ := hk
  subst hS
  exact ⟨hrep, ht⟩
def locN : List (Ref × Ob) → List LV → Nat → Nat → Option LV
  | n :: ns, l :: ls, s, j => if n.1.s = s ∧ n.1.j = j then some l else locN ns ls s j
  | _, _, _, _ => none
omit [Names] in
theorem locN_some : ∀ {ns : List (Ref × Ob)} {ls : List LV} {i : Nat} {n : Ref × Ob} {l : LV}, Ref.apart (ns.map (·.1)) = true → ns[i]? = some n → ls[i]? = some l → locN ns ls n.1.s n.1.j = some l
  | [], _, _, _, _, _, h, _ => by simp at h
  | _ :: _, [], _, _, _, _, _, h => by simp at h
  | m :: ns, l' :: ls, 0, n, l, _, h, k => by
    simp at h k
    subst h k
    simp [locN]
  | m :: ns, l' :: ls, i + 1, n, l, ha, h, k => by
    simp only [List.map_cons, Ref.apart, Bool.and_eq_true, Bool.not_eq_true'] at ha
    have hn : n ∈ ns := List.mem_of_getElem? (i := i) (by simpa using h)
    simp only [locN]
    rw [if_neg (fun e => ?_)]
    · exact locN_some ha.2 (by simpa using h) (by simpa using k)
    · have : Ref.among m.1 (ns.map (·.1)) = true := among_iff.2 ⟨n.1, List.mem_map.2 ⟨n, hn, rfl⟩, e.1, e.2⟩
      rw [this] at ha
      exact absurd ha.1 (by simp)
omit [Names] in
theorem locN_none : ∀ {ns : List (Ref × Ob)} {ls : List LV} {s j : Nat}, (∀ n ∈ ns, ¬ n.1.at s j) → locN ns ls s j = none
  | [], _, _, _, _ => rfl
  | _ :: _, [], _, _, _ => rfl
  | m :: ns, l :: ls, s, j, h => by
    simp only [locN]
    rw [if_neg (show ¬(m.1.s = s ∧ m.1.j = j) from h m (by simp))]
    exact locN_none fun n hn => h n (List.mem_cons_of_mem _ hn)
omit [Names] in
theorem kills_keys {get : Get} : ∀ (ks : List Ref) (u : Upd), (∀ p ∈ u, p ∈ kills get ks u) ∧ ∀ r ∈ ks, ∃ x, (r.s, x) ∈ kills get ks u
  | [], _ => ⟨fun _ h => h, by simp⟩
  | r :: ks, u => by
    obtain ⟨h1, h2⟩ := kills_keys (get := get) ks (Upd.next get u r .gone)
    refine ⟨fun p hp => h1 p (List.mem_cons_of_mem _ hp), fun r' hr' => ?_⟩
    rcases List.mem_cons.1 hr' with rfl | hr'
    · exact ⟨_, h1 _ (List.mem_cons_self)⟩
    · exact h2 r' hr'
omit [Names] in
theorem sames_keys {get : Get} : ∀ (ns : List (Ref × Ob)) (u : Upd), ∀ p ∈ u, p ∈ sames get ns u
  | [], _, _, h => h
  | (r, o) :: ns, u, p, h => sames_keys ns _ p (List.mem_cons_of_mem _ h)
theorem after_ok {get : Get} (h : SR base S B w0 objs loc F w) (hR : ∀ s, get s = look objs s ∨ get s = Slot.none) {d : Nat} (hd : get d = look objs d) {rs ps : Pat} (okp : ps.ok = true) (okr : rs.ok = true) {avs : List AV} {vs : List Value} {x : ps.den} {t : Took}
    (hp : pack get ps avs pr = some (x, t)) (hv : Vals objs loc F B w avs vs) (ht : TookOk objs get t) (hok : t.ok = true) (hnb : (ps.nbo = true ∧ rs.nb = true) ∨ t.bors = []) {r : rs.den × ps.out} {v : Value} {S1 S2 : List Nat} (hpost : Post rs ps r vs (blks loc t.owns) (FK F loc t.imms) (BK B loc t.bors) w F' S1 S2 v w')
    {g : Nat} (hg : g = (get d).g + 1) {ns : List (Ref × Ob)} {os : List (Nat × Ob)} (hns : ns = (back d g ps avs r.2 0).1) (hos : os = (back d g ps avs r.2 0).2) {rv : List AV} {os' : List (Nat × Ob)} (hrv : rv = (unpack d g rs r.1 os.length).1) (hos' : os' = (unpack d g rs r.1 os.length).2)
    {u : Upd} (hSH : get SHG = look objs SHG) (hu : (ns.any (fun n => treeOb n.2) = false ∧ u = (d, ⟨g, os ++ os'⟩) :: sames get ns (kills get (t.owns ++ t.imms) [])) ∨ (d ≠ SHG ∧ u = (SHG, ⟨(get SHG).g + 1, []⟩) :: (d, ⟨g, os ++ os'⟩) :: sames get ns (kills get (t.owns ++ t.imms) []))) :
    ∃ loc', SR base S B w0 (applyUpd objs u) loc' F' w' ∧ Ext B objs loc F w (applyUpd objs u) loc' F' w' ∧ More base S F F' ∧ Val (applyUpd objs u) loc' F' B w' (nth .dead rv 0) v ∧
      (∀ b, b < w.heap.size → ¬ F b → (∀ s j v o, (look objs s).os[j]? = some (v, o) → live o = true → b ∉ (loc s j).all) → w'.heap[b]? = w.heap[b]? ∧ ¬ F' b ∧ ∀ s j v o, (look (applyUpd objs u) s).os[j]? = some (v, o) → live o = true → b ∉ (loc' s j).all) ∧
      ∀ s j v o, (look objs s).os[j]? = some (v, o) → live o = true → (∀ x, (s, x) ∉ u) → loc' s j = loc s j ∧ ∀ c ∈ (loc s j).all, w'.heap[c]? = w.heap[c]? := by
  have gk : ∀ r ∈ t.owns ++ t.imms, live (Get.ob (look objs) r) = true ∧ get r.s = look objs r.s := fun r hr => by
    rcases List.mem_append.1 hr with hr | hr
    · exact ht.owns r hr
    · exact ⟨live_of_lst (ht.imms r hr).1, (ht.imms r hr).2⟩
  have gk' : ∀ r ∈ t.owns ++ t.imms, get r.s = look objs r.s ∧ r.g = (look objs r.s).g := fun r hr => by
    obtain ⟨o, _, _, e1, _⟩ := live_ob (gk r hr).1
    exact ⟨(gk r hr).2, e1⟩
  have gold : ∀ r ∈ t.owns ++ t.imms, ∃ o, Get.ob (look objs) r = o ∧ live o = true ∧ (look objs r.s).os[r.j]? = some (r.v, o) := fun r hr => by
    obtain ⟨o, e0, e1, _, e2⟩ := live_ob (gk r hr).1
    exact ⟨o, e0, e1, e2⟩
  have hout : RepOut F' B w' ps r.2 vs S2 := by
    rcases hnb with hnb | hnb
    · exact RepOut.nb hnb.1 hpost.out
    · refine RepOut.mono (fun _ h => h) (fun b hb => ?_) hpost.out
      rcases hb with hb | ⟨r', hr', _⟩
      · exact hb
      · rw [hnb] at hr'; simp at hr'
  obtain ⟨nls, ls, hb⟩ := back_ok h hR d g ps (F' := F') (B' := B) (w' := w') 0 okp hp hv hout
  rw [← hns, ← hos] at hb
  have hrepr : Rep F' B w' rs r.1 [v] S1 := by
    rcases hnb with hnb | hnb
    · exact Rep.nb hnb.2 hpost.rep
    · refine Rep.mono (fun _ h => h) (fun b hb => ?_) (fun _ _ => rfl) (fun _ _ => rfl) (fun _ _ => rfl) hpost.rep
      rcases hb with hb | ⟨r', hr', _⟩
      · exact hb
      · rw [hnb] at hr'; simp at hr'
  obtain ⟨ls', k1, k2, k3, k4⟩ := unpack_ok (F := F') (B := B) (w := w') d g rs os.length okr hrepr
  rw [← hos'] at k1 k3
  simp only [← hos', ← hrv] at k4
  have hsubn : ∀ n ∈ ns, n.1 ∈ t.owns := fun n hn => hb.sub.subset (List.mem_map.2 ⟨n, hn, rfl⟩)
  have hok' := hok
  simp only [Took.ok, Bool.and_eq_true] at hok'
  obtain ⟨kl1, kl2, kl3⟩ := kills_look (objs := objs) (t.owns ++ t.imms) [] gk' (fun _ => rfl)
  obtain ⟨sl1, sl2, sl3⟩ := sames_look (objs := objs) ns (kills get (t.owns ++ t.imms) []) (fun n hn => gk' n.1 (List.mem_append_left _ (hsubn n hn))) kl1 (apart_sub hb.sub hok'.1)
  obtain ⟨m1, m2⟩ := took_ok h ht hok
  obtain ⟨tb, htb0, htb1, hlook0⟩ : ∃ tb : Bool, (tb = false → ns.any (fun n => treeOb n.2) = false) ∧ (tb = true → d ≠ SHG) ∧ ∀ s, look (applyUpd objs u) s = if tb = true ∧ SHG = s then ⟨(look objs SHG).g + 1, []⟩ else if d = s then ⟨g, os ++ os'⟩ else look (applyUpd objs (sames get ns (kills get (t.owns ++ t.imms) []))) s := by
    rcases hu with ⟨h1, h2⟩ | ⟨h1, h2⟩
    · refine ⟨false, fun _ => h1, fun h => by simp at h, fun s => ?_⟩
      rw [if_neg (fun h => by simp at h), h2]
      exact look_put _ _ _ _
    · refine ⟨true, fun h => by simp at h, fun _ => h1, fun s => ?_⟩
      rw [h2, hSH]
      show look (put (put _ _ _) _ _) s = _
      rw [look_put, look_put]
      simp
  have hlookd : look (applyUpd objs u) d = ⟨g, os ++ os'⟩ := by
    rw [hlook0, if_neg (fun h => htb1 h.1 h.2.symm), if_pos rfl]
  have hlookg : tb = true → look (applyUpd objs u) SHG = ⟨(look objs SHG).g + 1, []⟩ := fun h => by rw [hlook0, if_pos ⟨h, rfl⟩]
  have hlook : ∀ s, d ≠ s → ¬(tb = true ∧ SHG = s) → look (applyUpd objs u) s = look (applyUpd objs (sames get ns (kills get (t.owns ++ t.imms) []))) s := fun s h1 h2 => by rw [hlook0, if_neg h2, if_neg h1]
  -- what became of an old entry
  have old : ∀ s j, s ≠ d → (∃ n ∈ ns, n.1.at s j ∧ (look (applyUpd objs u) s).os[j]? = some (n.1.v, n.2)) ∨ (∃ r ∈ t.owns ++ t.imms, r.at s j ∧ (look (applyUpd objs u) s).os[j]? = some (r.v + 1, .gone)) ∨
      ((∀ r ∈ t.owns ++ t.imms, ¬ r.at s j) ∧ (look (applyUpd objs u) s).os[j]? = (look objs s).os[j]?) ∨ (tb = true ∧ SHG = s) := by
    intro s j hs
    by_cases htg : tb = true ∧ SHG = s
    · exact .inr (.inr (.inr htg))
    rw [hlook s (Ne.symm hs) htg]
    by_cases hn : ∃ n ∈ ns, n.1.at s j
    · obtain ⟨n, hn, hat⟩ := hn
      obtain ⟨o, _, _, e2⟩ := gold n.1 (List.mem_append_left _ (hsubn n hn))
      obtain ⟨rfl, rfl⟩ := hat
      obtain ⟨r', _, _, e3⟩ := kl3 n.1.s n.1.j _ ⟨n.1, List.mem_append_left _ (hsubn n hn), rfl, rfl⟩ e2
      exact .inl ⟨n, hn, ⟨rfl, rfl⟩, sl3 n hn _ e3⟩
    · rw [sl2 s j (fun n hn' hat => hn ⟨n, hn', hat⟩)]
      by_cases hr : ∃ r ∈ t.owns ++ t.imms, r.at s j
      · obtain ⟨r, hr, hat⟩ := hr
        obtain ⟨o, _, _, e2⟩ := gold r hr
        obtain ⟨rfl, rfl⟩ := hat
        obtain ⟨r', h1, h2, e3⟩ := kl3 r.s r.j _ ⟨r, hr, rfl, rfl⟩ e2
        exact .inr (.inl ⟨r', h1, h2, e3⟩)
      · exact .inr (.inr (.inl ⟨fun r hr' hat => hr ⟨r, hr', hat⟩, kl2 s j fun r hr' hat => hr ⟨r, hr', hat⟩⟩))
  let loc' : Loc := fun s j => if s = d then ((ls ++ ls')[j]?).getD LV.nil else (locN ns nls s j).getD (loc s j)
  have hl1 := hb.len
  have hnl := hb.nlen
  have hap := apart_sub hb.sub hok'.1
  have hloc : ∀ s j, s ≠ d → (∀ r ∈ t.owns ++ t.imms, ¬ r.at s j) → loc' s j = loc s j := fun s j hs hno => by
    simp [loc', hs, locN_none (ns := ns) (ls := nls) (s := s) (j := j) fun n hn => hno n.1 (List.mem_append_left _ (hsubn n hn))]
  have hlocn : ∀ {i : Nat} {n : Ref × Ob} {l : LV}, ns[i]? = some n → nls[i]? = some l → n.1.s ≠ d → loc' n.1.s n.1.j = l := fun {i n l} h1 h2 hs => by
    simp [loc', hs, locN_some hap h1 h2]
  have hnlat : ∀ {i : Nat}, i < ns.length → ∃ l, nls[i]? = some l := fun {i} hi => ⟨nls[i]'(by omega), List.getElem?_eq_getElem _⟩
  have hdloc : ∀ k, k < (ls ++ ls').length → (ls ++ ls')[k]? = some (loc' d k) := fun k hk => by simp [loc', List.getElem?_eq_getElem hk]
  have hsits : Sits (applyUpd objs u) loc' d g 0 (os ++ os') (ls ++ ls') := by
    refine ⟨by rw [hlookd], fun k e hk => ?_⟩
    rw [hlookd, Nat.zero_add]
    have hlt := (List.getElem?_eq_some_iff.1 hk).1
    exact ⟨hk, hdloc k (by rw [List.length_append] at hlt ⊢; omega)⟩
  have q1 := hb.obs _ loc' (hsits.left hl1)
  have q2 := k4 _ loc' (by have := hsits.right hl1; rw [Nat.zero_add] at this; exact this)
  have cls : ∀ s j v o, (look (applyUpd objs u) s).os[j]? = some (v, o) → live o = true →
      (s ≠ d ∧ (look objs s).os[j]? = some (v, o) ∧ (∀ r ∈ t.owns ++ t.imms, ¬ r.at s j) ∧ loc' s j = loc s j) ∨
      (∃ i, (nls ++ (ls ++ ls'))[i]? = some (loc' s j) ∧ ObOk (applyUpd objs u) loc' F' B w' (loc' s j) o ∧ ((∃ n, ns[i]? = some n ∧ n.1.at s j) ∨ (ns.length ≤ i ∧ s = d ∧ j = i - ns.length))) := by
    intro s j v o hj hl
    by_cases hs : s = d
    · subst hs
      rw [hlookd] at hj
      have hlt := (List.getElem?_eq_some_iff.1 hj).1
      have hlt' : j < (ls ++ ls').length := by rw [List.length_append] at hlt ⊢; omega
      refine .inr ⟨ns.length + j, ?_, ?_, .inr ⟨by omega, rfl, by omega⟩⟩
      · rw [List.getElem?_append_right (by omega), hnl, Nat.add_sub_cancel_left]
        exact hdloc j hlt'
      · by_cases hjo : j < os.length
        · rw [List.getElem?_append_left hjo] at hj
          refine q1.2 j v o _ hj ?_
          have := hdloc j hlt'
          rw [List.getElem?_append_left (by omega)] at this
          exact this
        · rw [List.getElem?_append_right (by omega)] at hj
          refine q2.obs _ v o _ hj ?_
          have := hdloc j hlt'
          rw [List.getElem?_append_right (by omega), hl1] at this
          exact this
    · rcases old s j hs with ⟨n, hn, hat, e⟩ | ⟨r, hr, hat, e⟩ | ⟨h1, e⟩ | ⟨h1, h2⟩
      · rw [hj] at e
        injection e with e
        injection e with e1 e2
        subst e2
        obtain ⟨i, hi, rfl⟩ := List.getElem_of_mem hn
        obtain ⟨rfl, rfl⟩ := hat
        obtain ⟨l, hl0⟩ := hnlat hi
        have hni : ns[i]? = some ns[i] := List.getElem?_eq_getElem hi
        refine .inr ⟨i, ?_, ?_, .inl ⟨ns[i], by simp [hi], rfl, rfl⟩⟩
        · rw [List.getElem?_append_left (by omega), hlocn hni hl0 hs]
          exact hl0
        · rw [hlocn hni hl0 hs]
          exact q1.1 i _ l hni hl0
      · rw [hj] at e
        injection e with e
        injection e with e1 e2
        subst e2
        simp [live] at hl
      · exact .inl ⟨hs, by rw [← e]; exact hj, h1, hloc _ _ hs h1⟩
      · rw [← h2, hlookg h1] at hj
        simp at hj
  have hnd : ((nls ++ (ls ++ ls')).flatMap (·.all)).Nodup ∧ ∀ b ∈ (nls ++ (ls ++ ls')).flatMap (·.all), b ∈ S1 ++ S2 := by
    have hperm : ((nls ++ (ls ++ ls')).flatMap (·.all)).Perm (S1 ++ S2) := by
      rw [← List.append_assoc, List.flatMap_append, k2]
      exact (hb.perm.append_right S1).trans List.perm_append_comm
    exact ⟨hperm.nodup_iff.2 hpost.nodup, fun b hb => hperm.mem_iff.1 hb⟩
  have clsU : ∀ s j v o b, (look objs s).os[j]? = some (v, o) → live o = true → (∀ r ∈ t.owns ++ t.imms, ¬ r.at s j) → b ∈ (loc s j).all → b < w.heap.size ∧ b ∉ blks loc t.owns ∧ ¬ FK F loc t.imms b ∧ ¬ B b ∧ (base ≤ b ∨ b ∈ S) := by
    intro s j v o b hj hl hno hbk
    obtain ⟨a1, a2, a3, a4⟩ := h.own _ _ _ _ b hj hl hbk
    refine ⟨a3, fun hm => ?_, fun hF => ?_, a2, a4⟩
    · obtain ⟨r, hr, hb'⟩ := blks_mem.1 hm
      obtain ⟨o', _, l', e'⟩ := gold r (List.mem_append_left _ hr)
      have := h.apart _ _ _ _ _ _ _ _ b e' hj l' hl hb' hbk
      exact hno r (List.mem_append_left _ hr) this
    · rcases hF with hF | ⟨r, hr, hb'⟩
      · exact a1 hF
      · obtain ⟨o', _, l', e'⟩ := gold r (List.mem_append_right _ hr)
        have := h.apart _ _ _ _ _ _ _ _ b e' hj l' hl hb' hbk
        exact hno r (List.mem_append_right _ hr) this
  have clsN : ∀ {i : Nat} {l : LV} {b : Nat}, (nls ++ (ls ++ ls'))[i]? = some l → b ∈ l.all → ¬ F' b ∧ ¬ B b ∧ b < w'.heap.size ∧ (w.heap.size ≤ b ∨ b ∈ blks loc t.owns) := fun {i l b} hi hbk => by
    obtain ⟨a1, a2, a3, a4⟩ := hpost.mine b (hnd.2 b (List.mem_flatMap.2 ⟨l, List.mem_of_getElem? hi, hbk⟩))
    exact ⟨a1, fun hB => a2 (.inl hB), a3, a4⟩
  have hFsame : Same F w w' := fun b hb => hpost.block b (h.fro b hb) fun hm => (m2 b hm).1 (.inl hb)
  have hBlt : ∀ b, B b → b < w.heap.size := fun b hb => Nat.lt_of_lt_of_le (h.bor b hb).1 h.size.2
  have hBsame : Same B w w' := fun b hb => hpost.block b (hBlt b hb) fun hm => (m2 b hm).2.1 (.inl hb)
  have ext : Ext B objs loc F w (applyUpd objs u) loc' F' w' := by
    have hgs : ∀ s, (look objs s).g ≤ (look (applyUpd objs u) s).g := fun s => by
      by_cases e : d = s
      · subst e; rw [hlookd, hg, hd]; show _ ≤ (look objs d).g + 1; omega
      · by_cases e2 : tb = true ∧ SHG = s
        · obtain ⟨e2, e3⟩ := e2
          rw [← e3, hlookg e2]; exact Nat.le_succ _
        · rw [hlook s e e2, sl1]; exact Nat.le_refl _
    have hsd : ∀ s, (look objs s).g = (look (applyUpd objs u) s).g → s ≠ d ∧ ¬(tb = true ∧ SHG = s) := fun s hgg => by
      refine ⟨fun e => ?_, fun e => ?_⟩
      · subst e
        rw [hlookd, hg, hd] at hgg
        simp only at hgg
        omega
      · rw [← e.2, hlookg e.1] at hgg
        simp only at hgg
        omega
    refine ⟨fun b hb => hpost.fro b (.inl hb), hFsame, hBsame, hpost.size, hgs, fun s j v o hgg hj => ?_, fun hGG s j v o o1 hgg hj hj1 hl1' => ?_⟩
    · obtain ⟨hs, hst⟩ := hsd s hgg
      rcases old s j hs with ⟨n, hn, hat, e⟩ | ⟨r, hr, hat, e⟩ | ⟨h1, e⟩ | h1
      · obtain ⟨o', e0, _, e2⟩ := gold n.1 (List.mem_append_left _ (hsubn n hn))
        obtain ⟨rfl, rfl⟩ := hat
        rw [hj] at e2
        injection e2 with e2
        injection e2 with e2 e3
        subst e3
        refine ⟨_, _, e, by omega, fun _ => ?_⟩
        obtain ⟨i, hi, rfl⟩ := List.getElem_of_mem hn
        obtain ⟨l, hl0⟩ := hnlat hi
        have hni : ns[i]? = some ns[i] := List.getElem?_eq_getElem hi
        rw [hlocn hni hl0 hs]
        have := (hb.comp i _ l hni hl0).2
        rw [e0] at this
        exact this
      · obtain ⟨o', _, _, e2⟩ := gold r hr
        obtain ⟨rfl, rfl⟩ := hat
        rw [hj] at e2
        injection e2 with e2
        injection e2 with e2 e3
        exact ⟨_, _, e, by omega, fun _ => by omega⟩
      · exact ⟨v, o, e.trans hj, Nat.le_refl _, fun _ => by rw [hloc _ _ hs h1]; exact Compat.refl _ _⟩
      · exact absurd h1 hst
    · obtain ⟨hs, hst⟩ := hsd s hgg
      have htf : tb = false := by
        cases htb : tb with
        | false => rfl
        | true => exact absurd ⟨htb, rfl⟩ (hsd SHG hGG).2
      rcases old s j hs with ⟨n, hn, hat, e⟩ | ⟨r, hr, hat, e⟩ | ⟨h1, e⟩ | h1
      · obtain ⟨o', e0, _, e2⟩ := gold n.1 (List.mem_append_left _ (hsubn n hn))
        obtain ⟨rfl, rfl⟩ := hat
        rw [hj] at e2
        injection e2 with e2
        injection e2 with e2 e3
        subst e3
        rw [hj1] at e
        injection e with e
        injection e with e4 e5
        subst e5
        have hfl := htb0 htf
        rw [List.any_eq_false] at hfl
        have hnf := hfl n hn
        obtain ⟨i, hi, rfl⟩ := List.getElem_of_mem hn
        obtain ⟨l, hl0⟩ := hnlat hi
        have hcomp := (hb.comp i _ l (List.getElem?_eq_getElem hi) hl0).2
        rw [e0] at hcomp
        cases o with
        | gone => trivial
        | box => trivial
        | lst z e t xs =>
          cases ho1 : ns[i].2 with
          | gone => rw [ho1] at hl1'; simp [live] at hl1'
          | box => rw [ho1] at hcomp; simp [Compat] at hcomp
          | lst z' e' t' xs' =>
            rw [ho1] at hcomp hnf
            obtain ⟨rfl, _⟩ := hcomp
            exact OSame.flat (by simpa [treeOb] using hnf)
      · rw [hj1] at e
        injection e with e
        injection e with e4 e5
        rw [e5] at hl1'
        simp [live] at hl1'
      · cases hl0 : live o with
        | false => cases o <;> simp [live] at hl0; trivial
        | true => exact OKept.of_block fun b hbk => hpost.block b (clsU s j v o b hj hl0 h1 (LV.mem_blk hbk)).1 (clsU s j v o b hj hl0 h1 (LV.mem_blk hbk)).2.1
      · exact absurd h1 hst
  have st : Step base S w0 B F w w' := ⟨hFsame, hBsame, hpost.os, hpost.tape, hpost.output, hpost.size, fun b hb hS => hpost.block b (Nat.lt_of_lt_of_le hb h.size.2) fun hm => by
    rcases (m2 b hm).2.2.2 with h1 | h1
    · omega
    · exact hS h1⟩
  refine ⟨loc', h.frame st ?_ ?_ ?_ hpost.lt, ext, fun b hb => ?_, ?_, fun b hb hF0 hno => ?_, fun s j v o hj hl hnu => ?_⟩
  · intro s j v o hj
    cases hl : live o with
    | false => cases o <;> simp [live] at hl; trivial
    | true =>
      rcases cls s j v o hj hl with ⟨hs, hj', hno, hlc⟩ | ⟨i, h1, h2, _⟩
      · rw [hlc]
        refine (h.obs s j v o hj').ext ext fun b hbk => ?_
        obtain ⟨a1, a2, _⟩ := clsU s j v o b hj' hl hno hbk
        exact hpost.block b a1 a2
      · exact h2
  · intro s j v o s2 j2 v2 o2 b hj hj2 hl hl2 hbk hbk2
    rcases cls s j v o hj hl with ⟨hs, hj', hno, hlc⟩ | ⟨i, h1, h2, h3⟩
    · rw [hlc] at hbk
      obtain ⟨a1, a2, _⟩ := clsU s j v o b hj' hl hno hbk
      rcases cls s2 j2 v2 o2 hj2 hl2 with ⟨hs2, hj2', hno2, hlc2⟩ | ⟨i2, g1, g2, g3⟩
      · rw [hlc2] at hbk2
        exact h.apart _ _ _ _ _ _ _ _ b hj' hj2' hl hl2 hbk hbk2
      · rcases (clsN g1 hbk2).2.2.2 with q | q
        · omega
        · exact absurd q a2
    · rcases cls s2 j2 v2 o2 hj2 hl2 with ⟨hs2, hj2', hno2, hlc2⟩ | ⟨i2, g1, g2, g3⟩
      · rw [hlc2] at hbk2
        obtain ⟨a1, a2, _⟩ := clsU s2 j2 v2 o2 b hj2' hl2 hno2 hbk2
        rcases (clsN h1 hbk).2.2.2 with q | q
        · omega
        · exact absurd q a2
      · have hi := flatMap_pos (·.all) hnd.1 h1 g1 hbk hbk2
        subst hi
        rcases h3 with ⟨n, hn, hat⟩ | ⟨hle, rfl, rfl⟩
        · rcases g3 with ⟨n2, hn2, hat2⟩ | ⟨hle2, _, _⟩
          · rw [hn] at hn2
            cases hn2
            exact ⟨hat.1.symm.trans hat2.1, hat.2.symm.trans hat2.2⟩
          · have := (List.getElem?_eq_some_iff.1 hn).1
            omega
        · rcases g3 with ⟨n2, hn2, hat2⟩ | ⟨hle2, rfl, rfl⟩
          · have := (List.getElem?_eq_some_iff.1 hn2).1
            omega
          · exact ⟨rfl, rfl⟩
  · intro s j v o b hj hl hbk
    rcases cls s j v o hj hl with ⟨hs, hj', hno, hlc⟩ | ⟨i, h1, h2, h3⟩
    · rw [hlc] at hbk
      obtain ⟨a1, a2, a3, a4, a5⟩ := clsU s j v o b hj' hl hno hbk
      refine ⟨fun hF => ?_, a4, Nat.lt_of_lt_of_le a1 hpost.size, a5⟩
      rcases hpost.more b hF with q | q | q
      · exact a3 q
      · omega
      · exact a2 q
    · obtain ⟨a1, a2, a3, a4⟩ := clsN h1 hbk
      refine ⟨a1, a2, a3, ?_⟩
      rcases a4 with a4 | a4
      · exact .inl (Nat.le_trans h.size.2 a4)
      · exact (m2 b a4).2.2.2
  · rcases hpost.more b hb with q | q | q
    · exact (FK_more h (fun r hr => live_of_lst (ht.imms r hr).1)).1 b q
    · exact .inr (.inl (Nat.le_trans h.size.2 q))
    · exact .inr (m2 b q).2.2.2
  · have hvv := q2.vals
    match hrv' : rv, hvv with
    | [a], hvv => exact hvv.1
    | [], hvv => exact hvv.elim
    | _ :: _ :: _, hvv => exact hvv.2.elim
  · have hnb : b ∉ blks loc t.owns := fun hm => by
      obtain ⟨r, hr, hb'⟩ := blks_mem.1 hm
      obtain ⟨o', _, l', e'⟩ := gold r (List.mem_append_left _ hr)
      exact hno _ _ _ _ e' l' hb'
    have hnF : ¬ FK F loc t.imms b := fun hF => by
      rcases hF with hF | ⟨r, hr, hb'⟩
      · exact hF0 hF
      · obtain ⟨o', _, l', e'⟩ := gold r (List.mem_append_right _ hr)
        exact hno _ _ _ _ e' l' hb'
    refine ⟨hpost.block b hb hnb, fun hF => ?_, fun s j v o hj hl hbk => ?_⟩
    · rcases hpost.more b hF with q | q | q
      · exact hnF q
      · omega
      · exact hnb q
    · rcases cls s j v o hj hl with ⟨hs, hj', hno', hlc⟩ | ⟨i, h1, h2, h3⟩
      · rw [hlc] at hbk
        exact hno _ _ _ _ hj' hl hbk
      · rcases (clsN h1 hbk).2.2.2 with q | q
        · omega
        · exact hnb q
  · have hin : ∀ p ∈ sames get ns (kills get (t.owns ++ t.imms) []), p ∈ u := fun p hp => by
      rcases hu with ⟨_, h2⟩ | ⟨_, h2⟩ <;> (rw [h2]; simp [hp])
    have hsd : s ≠ d := fun e => by
      subst e
      rcases hu with ⟨_, h2⟩ | ⟨_, h2⟩
      · exact hnu _ (by rw [h2]; exact List.mem_cons_self)
      · exact hnu _ (by rw [h2]; exact List.mem_cons_of_mem _ List.mem_cons_self)
    have hno : ∀ r ∈ t.owns ++ t.imms, ¬ r.at s j := fun r hr hat => by
      obtain ⟨x, hx⟩ := (kills_keys (get := get) (t.owns ++ t.imms) []).2 r hr
      have := hin _ (sames_keys ns _ _ hx)
      rw [hat.1] at this
      exact hnu x this
    refine ⟨hloc s j hsd hno, fun c hc => ?_⟩
    obtain ⟨a1, a2, _⟩ := clsU s j v o c hj hl hno hc
    exact hpost.block c a1 a2
end
end Go.Eng
end

section
namespace Go.Eng
variable [Names]
section
variable {P : Program} {T : TT} {base : Nat} {S : List Nat} {B F B' F' : Nat → Prop} {w0 : World} {objs : Upd} {loc : Loc} {w w' : World} {ρ : Type}
def Goes (P : Program) (base : Nat) (S : List Nat) (B : Nat → Prop) (w0 : World) (objs : Upd) (loc : Loc) (F : Nat → Prop) (w : World) (o : Oper) (a : Act) (v : AV) (u : Upd) : Prop :=
  ∀ (next : Act → World → Prop) (Q : Exit → Act → World → Prop), (∀ cv w' loc' F', SR base S B w0 (applyUpd objs u) loc' F' w' → Ext B objs loc F w (applyUpd objs u) loc' F' w' → More base S F F' → Val (applyUpd objs u) loc' F' B w' v cv → next (a.put o.dst cv) w') → o.wp P a w next Q
theorem Good.goes {o : Oper} {a : Act} {v : AV} {u : Upd} (h : Good P base S B w0 objs loc F w o a.eval pr (v, u)) : Goes P base S B w0 objs loc F w o a v u := by
  obtain ⟨v', u', n, cv, w', loc', F', hk, hr, hn, h1, h2, h3, h4⟩ := h
  simp only [pr, Option.some.injEq, Prod.mk.injEq] at hk
  obtain ⟨rfl, rfl⟩ := hk
  intro next Q hnext
  unfold Oper.wp
  rw [hr]
  rcases hn with rfl | ⟨rfl, rfl⟩
  · exact hnext _ _ _ _ h1 h2 h3 h4
  · exact hnext _ _ _ _ h1 h2 h3 h4
omit [Names] in
theorem findE_ok {f key : Nat} {e : Entry} : ∀ {es : List Entry}, findE f key es = some e → e ∈ es ∧ e.f = f
  | [], h => by simp [findE] at h
  | e' :: es, h => by
    simp only [findE] at h
    split at h
    · rename_i hb
      simp only [Bool.and_eq_true] at hb
      injection h with h
      subst h
      exact ⟨by simp, beq_true.1 hb.1⟩
    · obtain ⟨h1, h2⟩ := findE_ok h
      exact ⟨List.mem_cons_of_mem _ h1, h2⟩
theorem Vals.app : ∀ {as bs : List AV} {vs us : List Value}, Vals objs loc F B w as vs → Vals objs loc F B w bs us → Vals objs loc F B w (as ++ bs) (vs ++ us)
  | [], _, [], _, _, k => k
  | _ :: _, _, _ :: _, _, h, k => ⟨h.1, h.2.app k⟩
  | [], _, _ :: _, _, h, _ => h.elim
  | _ :: _, _, [], _, h, _ => h.elim
theorem Vals.of_map {eA : Operand → AV} {ev : Operand → Value} : ∀ {xs : List Operand}, (∀ x ∈ xs, Val objs loc F B w (eA x) (ev x)) → Vals objs loc F B w (xs.map eA) (xs.map ev)
  | [], _ => trivial
  | x :: xs, h => ⟨h x (by simp), Vals.of_map fun y hy => h y (List.mem_cons_of_mem _ hy)⟩
def Free (F : Nat → Prop) (objs : Upd) (loc : Loc) (w : World) (F' : Nat → Prop) (objs' : Upd) (loc' : Loc) (w' : World) : Prop :=
  ∀ b, b < w.heap.size → ¬ F b → (∀ s j v o, (look objs s).os[j]? = some (v, o) → live o = true → b ∉ (loc s j).all) → w'.heap[b]? = w.heap[b]? ∧ ¬ F' b ∧ ∀ s j v o, (look objs' s).os[j]? = some (v, o) → live o = true → b ∉ (loc' s j).all
def Kept (objs : Upd) (loc : Loc) (w : World) (u : Upd) (loc' : Loc) (w' : World) : Prop :=
  ∀ s j v o, (look objs s).os[j]? = some (v, o) → live o = true → (∀ x, (s, x) ∉ u) → loc' s j = loc s j ∧ ∀ c ∈ (loc s j).all, w'.heap[c]? = w.heap[c]?
theorem call_does {es : List Entry} {f0 : Nat} {args : List AV} {cargs : Array Value} {d : Nat} {v : AV} {u : Upd} {get : Get} (hes : ∀ e ∈ es, EntryOk P e) (h : SR base S B w0 objs loc F w) (hR : ∀ s, get s = look objs s ∨ get s = Slot.none) (hSH : get SHG = look objs SHG) (hd : get d = look objs d)
    (hvals : Vals objs loc F B w args cargs.toList) (hk : callN es f0 args get d pr = some (v, u)) : Does P f0 cargs w fun cv w' => ∃ loc' F', SR base S B w0 (applyUpd objs u) loc' F' w' ∧ Ext B objs loc F w (applyUpd objs u) loc' F' w' ∧ More base S F F' ∧ Val (applyUpd objs u) loc' F' B w' v cv ∧ Free F objs loc w F' (applyUpd objs u) loc' w' ∧ Kept objs loc w u loc' w' := by
  unfold callN at hk
  split at hk
  · cases hk
  rename_i e he
  obtain ⟨hmem, rfl⟩ := findE_ok he
  have hok := hes e hmem
  rw [pack_nat] at hk
  cases hp : pack get e.ps args pr with
  | none => rw [hp] at hk; cases hk
  | some q =>
    obtain ⟨x, t⟩ := q
    rw [hp] at hk
    simp only [Nat2, Option.bind_some] at hk
    split at hk
    · cases hk
    rename_i htok
    simp only [Bool.and_eq_true, Bool.or_eq_true, List.isEmpty_iff] at htok
    obtain ⟨htok, hnb⟩ := htok
    cases hF : e.F x with
    | none => rw [hF] at hk; cases hk
    | some r =>
      rw [hF] at hk
      simp only [Option.bind_some] at hk
      obtain ⟨rfl, hu⟩ : nth .dead (unpack d ((get d).g + 1) e.rs r.1 (back d ((get d).g + 1) e.ps args r.2 0).2.length).1 0 = v ∧
          (((back d ((get d).g + 1) e.ps args r.2 0).1.any (fun n => treeOb n.2) = false ∧ u = (d, ⟨(get d).g + 1, (back d ((get d).g + 1) e.ps args r.2 0).2 ++ (unpack d ((get d).g + 1) e.rs r.1 (back d ((get d).g + 1) e.ps args r.2 0).2.length).2⟩) :: sames get (back d ((get d).g + 1) e.ps args r.2 0).1 (kills get (t.owns ++ t.imms) [])) ∨
          (d ≠ SHG ∧ u = (SHG, ⟨(get SHG).g + 1, []⟩) :: (d, ⟨(get d).g + 1, (back d ((get d).g + 1) e.ps args r.2 0).2 ++ (unpack d ((get d).g + 1) e.rs r.1 (back d ((get d).g + 1) e.ps args r.2 0).2.length).2⟩) :: sames get (back d ((get d).g + 1) e.ps args r.2 0).1 (kills get (t.owns ++ t.imms) []))) := by
        split at hk
        · rename_i hany
          simp only [pr, Option.some.injEq, Prod.mk.injEq] at hk
          exact ⟨hk.1, .inl ⟨hany, hk.2.symm⟩⟩
        · rename_i hany hdg
          simp only [pr, Option.some.injEq, Prod.mk.injEq] at hk
          exact ⟨hk.1, .inr ⟨beq_false.1 hdg, hk.2.symm⟩⟩
        · cases hk
      obtain ⟨hrep, htook⟩ := pack_held h hR hSH hp hvals
      obtain ⟨q1, q2⟩ := took_ok h htook htok
      have hdoes := hok.run x r hF w cargs (blks loc t.owns) (FK F loc t.imms) (BK B loc t.bors) hrep q1 (fun b hb => ⟨(q2 b hb).1, (q2 b hb).2.1, (q2 b hb).2.2.1⟩)
        (FK_more h (fun r hr => live_of_lst (htook.imms r hr).1)).2 (fun b hb => by
          rcases hb with hb | ⟨r', hr', hb'⟩
          · exact Nat.lt_of_lt_of_le (h.bor b hb).1 h.size.2
          · obtain ⟨o', _, l', _, e'⟩ := live_ob (live_of_lst (htook.bors r' hr'))
            exact (h.own _ _ _ _ b e' l' hb').2.2.1) (h.tabs fun b hb => (q2 b hb).2.2.2) h.gen
      have fin : ∀ cv w', (∃ F' S1 S2, Post e.rs e.ps r cargs.toList (blks loc t.owns) (FK F loc t.imms) (BK B loc t.bors) w F' S1 S2 cv w') →
          ∃ loc' F', SR base S B w0 (applyUpd objs u) loc' F' w' ∧ Ext B objs loc F w (applyUpd objs u) loc' F' w' ∧ More base S F F' ∧ Val (applyUpd objs u) loc' F' B w' (nth .dead (unpack d ((get d).g + 1) e.rs r.1 (back d ((get d).g + 1) e.ps args r.2 0).2.length).1 0) cv ∧ Free F objs loc w F' (applyUpd objs u) loc' w' ∧ Kept objs loc w u loc' w' := by
        intro cv w' hpost
        obtain ⟨F', S1, S2, hpost⟩ := hpost
        obtain ⟨loc', k1, k2, k3, k4, k5, k6⟩ := after_ok h hR hd hok.okp hok.okr hp hvals htook htok hnb hpost rfl rfl rfl rfl rfl hSH hu
        exact ⟨loc', F', k1, k2, k3, k4, k5, k6⟩
      rcases hdoes with ⟨g, as', hc, hcalls⟩ | ⟨cv, w', hc, hpost⟩
      · exact .inl ⟨g, as', hc, hcalls.mono fun e w'' hh => by
          obtain ⟨cv, rfl, hpost⟩ := hh
          exact ⟨cv, rfl, fin cv w'' hpost⟩⟩
      · exact .inr ⟨cv, w', hc, fin cv w' hpost⟩
theorem does_goes {o : Oper} {f : Operand} {as : Array Operand} {ts : Array TypeId} {a : Act} {v : AV} {u : Upd} {f0 : Nat} {cv : Array Value} {R : Value → World → Prop} (ho : o.op = .call ⟨.value f, as, ts⟩) (hcv : a.eval f = .func (.func f0) #[] cv)
    (hdoes : Does P f0 (as.map a.eval ++ cv) w R) (hfin : ∀ cv' w', R cv' w' → ∃ loc' F', SR base S B w0 (applyUpd objs u) loc' F' w' ∧ Ext B objs loc F w (applyUpd objs u) loc' F' w' ∧ More base S F F' ∧ Val (applyUpd objs u) loc' F' B w' v cv') : Goes P base S B w0 objs loc F w o a v u := by
  intro next Q hnext
  have fin : ∀ cv' w', R cv' w' → next (a.put o.dst cv') w' := fun cv' w' hr => by
    obtain ⟨loc', F', k1, k2, k3, k4⟩ := hfin cv' w' hr
    exact hnext _ _ _ _ k1 k2 k3 k4
  have hrun : ∀ n w', (callFunc f0 (as.map a.eval ++ cv)).run P w = .ok n w' → (execOp a.eval o).run P w = .ok n w' := by
    intro n w' hr
    have hres : (resolve a.eval ⟨.value f, as, ts⟩ o.type).run P w = .ok { target := .fn (.func f0) cv, args := #[] ++ as.map a.eval } w := by
      simp only [resolve, hcv, Deferred.ofValue]
      rfl
    simp only [execOp, ho, Sem.run_bind, hres, Result.andThen_ok, invoke]
    rw [Array.empty_append]
    exact hr
  unfold Oper.wp
  rcases hdoes with ⟨g, as', hc, hcalls⟩ | ⟨v, w', hc, hpost⟩
  · rw [hrun _ _ hc, Oper.upon_enter]
    refine hcalls.mono fun e w'' hh => ?_
    obtain ⟨v, rfl, hpost⟩ := hh
    exact fin v w'' hpost
  · rw [hrun _ _ hc]
    exact fin v w' hpost
omit [Names] in
theorem Does.mono {f : Nat} {args : Array Value} {R R' : Value → World → Prop} (h : Does P f args w R) (hR : ∀ v w', R v w' → R' v w') : Does P f args w R' := by
  rcases h with ⟨g, as', hc, hcalls⟩ | ⟨v, w', hc, hpost⟩
  · exact .inl ⟨g, as', hc, hcalls.mono fun e w'' hh => by
      obtain ⟨v, rfl, hp⟩ := hh
      exact ⟨v, rfl, hR _ _ hp⟩⟩
  · exact .inr ⟨v, w', hc, hR _ _ hpost⟩
theorem Vals.ext {objs' : Upd} {loc'' : Loc} (x : Ext B objs loc F w objs' loc'' F' w') : ∀ {as : List AV} {vs : List Value}, Vals objs loc F B w as vs → Vals objs' loc'' F' B w' as vs
  | [], [], _ => trivial
  | _ :: _, _ :: _, h => ⟨h.1.ext x, h.2.ext x⟩
  | [], _ :: _, h => h.elim
  | _ :: _, [], h => h.elim
omit [Names] in
theorem applyUpd_or (X : Upd) : ∀ (u : Upd) (s : Nat), ((∀ x, (s, x) ∉ u) ∧ ∀ Y, look (applyUpd Y u) s = look Y s) ∨ ∃ x, (s, x) ∈ u ∧ ∀ Y, look (applyUpd Y u) s = x
  | [], s => .inl ⟨by simp, fun _ => rfl⟩
  | (s', x) :: u, s => by
    by_cases e : s' = s
    · subst e
      refine .inr ⟨x, by simp, fun Y => ?_⟩
      show look (put (applyUpd Y u) s' x) s' = x
      rw [look_put, if_pos rfl]
    · rcases applyUpd_or X u s with ⟨hn, h⟩ | ⟨y, hy, h⟩
      · refine .inl ⟨fun y hy => ?_, fun Y => ?_⟩
        · rcases List.mem_cons.1 hy with hy | hy
          · injection hy with h1 h2; exact e h1.symm
          · exact hn y hy
        show look (put (applyUpd Y u) s' x) s = _
        rw [look_put, if_neg e]
        exact h Y
      · refine .inr ⟨y, List.mem_cons_of_mem _ hy, fun Y => ?_⟩
        show look (put (applyUpd Y u) s' x) s = _
        rw [look_put, if_neg e]
        exact h Y
theorem detach_does {es : List Entry} {f0 : Nat} {r : Ref} {k : Nat} {i : Int} {off : Nat} {rest : List AV} {cargs : Array Value} {d : Nat} {v : AV} {uf : Upd} {get : Get} {ol : OL} {z : Bool} {e : Nat} {t : Ty} {xs : List t.den} (hes : ∀ e ∈ es, EntryOk P e) (h : SR base S B w0 objs loc F w) (hR : ∀ s, get s = look objs s ∨ get s = Slot.none) (hSH : get SHG = look objs SHG) (hSN : get SHN = look objs SHN) (hd : get d = look objs d)
    (hvals : Vals objs loc F B w (.nl r k i off :: rest) cargs.toList) (hnl : nlOf get r k i off = some ol) (hobg : get.ob r = .lst z e t xs) (hchk : (Nat.beq r.s d || (Nat.beq r.s SHN || (Nat.beq d SHN || Nat.beq r.s SHG))) = false)
    (hk : callN es f0 (.ol ⟨SHN, 0, (get SHN).g + 1, 0⟩ .whole :: rest) (detach get r ol) d (fun v u =>
      (match v, Upd.at (detach get r ol) u SHN with
      | .int kk n, ⟨g', [(v', .lst false e' u' ys')]⟩ => (match (Nat.beq g' ((get SHN).g + 1) && Nat.beq v' 0) && ((Nat.beq e' ol.e && decide (u' = ol.u)) && (Nat.beq (Upd.at (detach get r ol) u r.s).g r.g && u.all (fun p => p.2.os.all (fun q => !isBox q.2)))) with
        | true => pr (AV.int kk n) (((r.s, ⟨r.g, setNth (Upd.at (detach get r ol) u r.s).os r.j (r.v, .lst z e t (xs.set i.toNat (t.putO (Ty.rd xs i) off ⟨e', u', ys'⟩)))⟩) :: (SHN, ⟨(get SHN).g + 2, []⟩) :: u) : Upd)
        | false => none)
      | _, _ => none)) = some (v, uf)) :
    Does P f0 cargs w fun cv w' => ∃ loc' F', SR base S B w0 (applyUpd objs uf) loc' F' w' ∧ Ext B objs loc F w (applyUpd objs uf) loc' F' w' ∧ More base S F F' ∧ Val (applyUpd objs uf) loc' F' B w' v cv := by
  simp only [Bool.or_eq_false_iff] at hchk
  obtain ⟨hrd, hrN, hdN, hrG⟩ := hchk
  have hrd := beq_false.1 hrd
  have hrN := beq_false.1 hrN
  have hdN := beq_false.1 hdN
  have hrG := beq_false.1 hrG
  have hgr : get r.s = look objs r.s := seen (r := r) hR (by rw [hobg]; simp)
  have hob : Get.ob (look objs) r = .lst z e t xs := by rw [← ob_get hgr]; exact hobg
  obtain ⟨hg, hj⟩ := ob_some hob (by simp)
  rw [callN_nat] at hk
  cases hcn : callN es f0 (.ol ⟨SHN, 0, (get SHN).g + 1, 0⟩ .whole :: rest) (detach get r ol) d pr with
  | none => rw [hcn] at hk; cases hk
  | some q =>
  obtain ⟨v1, u1⟩ := q
  rw [hcn] at hk
  simp only [Nat2, Option.bind_some] at hk
  split at hk
  case h_2 => cases hk
  rename_i _ _ kk n g' v' e' u' ys' hat
  split at hk
  case h_2 => cases hk
  rename_i hall
  simp only [Bool.and_eq_true, decide_eq_true_eq] at hall
  obtain ⟨⟨hg', hv'⟩, ⟨he', hu'⟩, hgx, hclean⟩ := hall
  have hg' := beq_true.1 hg'
  have hv' := beq_true.1 hv'
  have he' := beq_true.1 he'
  have hgx := beq_true.1 hgx
  subst hg' hv' he' hu'
  simp only [pr, Option.some.injEq, Prod.mk.injEq] at hk
  obtain ⟨rfl, rfl⟩ := hk
  -- the row
  obtain ⟨v0, crest, hcv⟩ : ∃ v0 crest, cargs.toList = v0 :: crest := by
    match hc : cargs.toList, hvals with
    | [], hvals => exact hvals.elim
    | v0 :: crest, _ => exact ⟨v0, crest, rfl⟩
  rw [hcv] at hvals
  obtain ⟨hv0, hvr⟩ := hvals
  have hleaf : Leaf objs loc F B w (.nl r k i off) v0 := hv0
  have hSHslots : ∀ s ∈ AV.slots (.nl r k i off), get s = look objs s := fun s hs => by
    simp only [AV.slots, List.mem_cons, List.not_mem_nil, or_false] at hs
    rcases hs with rfl | rfl
    · exact hgr
    · exact hSH
  obtain ⟨hk1, _, _, _, _, hob2, hgo⟩ := nlOf_some hnl hgr hSH
  rw [hob] at hob2
  cases hob2
  rcases hleaf.2 with h2 | ⟨_, hrs⟩
  · omega
  obtain ⟨h0, h1, hot, b, hb, hcell⟩ := RS.found hrs hob (by simp)
  have hix : i.toNat < xs.length := by omega
  have hok : LstOk F w (loc r.s r.j) z e t xs := h.obs _ _ _ _ hj
  unfold LstOk LstW at hok
  rw [hb] at hok
  obtain ⟨vs, fr, Ss, hheap, hzf, hth, hnc, hcm, hvs, hsub, hnd, hlen, hrows⟩ := hok
  have hiS : i.toNat < Ss.length := by omega
  obtain ⟨rs, hrl, hrc, hrr⟩ := hrows i.toNat _ _ (List.getElem?_eq_getElem hix) (List.getElem?_eq_getElem hiS)
  rw [rd_at hix] at hgo ⊢
  obtain ⟨g1, l, T1, T2, g2, g3, g4, g5⟩ := hrr.getO hgo
  have hv0l : v0 = hdr l ol.ys.length := by
    have : w.cell? ⟨b, (loc r.s r.j).off + i.toNat * t.w + off, none⟩ = some (hdr l ol.ys.length) := by
      rw [cell_heap hheap, ← g2, ← hrc off (Ty.olsTy_lt hot), List.getElem?_drop, Array.getElem?_toList]
      congr 1
      omega
    rw [hcell] at this
    exact Option.some.inj this
  have hSat := flatten_at hiS
  rw [g3] at hSat
  have hrall : ∀ c, c ∈ (loc r.s r.j).all ↔ c = b ∨ c ∈ Ss.flatten := fun c => by
    rw [LV.mem_all, hb, hsub]
    simp [eq_comm]
  have hlall : ∀ c ∈ l.all, c ∈ (loc r.s r.j).all := fun c hc => (hrall c).2 (.inr (by rw [hSat]; simp [hc]))
  -- the list is let go; what is in the cell is an object of its own
  obtain ⟨q1, x1⟩ := h.letgo hob
  have hjl : r.j < (look objs r.s).os.length := (List.getElem?_eq_some_iff.1 hj).1
  obtain ⟨pg, pe⟩ := put_facts (objs := objs) (s := r.s) (e0 := (r.v + 1, Ob.gone)) hjl
  generalize hobjs1 : put objs r.s ⟨r.g, setNth (look objs r.s).os r.j (r.v + 1, .gone)⟩ = objs1 at q1 x1
  have hl1 : ∀ s, look objs1 s = if r.s = s then ⟨r.g, setNth (look objs r.s).os r.j (r.v + 1, .gone)⟩ else look objs s := fun s => by rw [← hobjs1]; exact look_put _ _ _ _
  have hlive1 : ∀ s j v o, (look objs1 s).os[j]? = some (v, o) → live o = true → (look objs s).os[j]? = some (v, o) ∧ ¬(s = r.s ∧ j = r.j) := fun s j v o hs hl => by
    rw [← hobjs1, setNth_eq, hg, pe] at hs
    split at hs
    · simp only [Option.some.injEq, Prod.mk.injEq] at hs
      rw [← hs.2] at hl
      simp [live] at hl
    · rename_i hne
      exact ⟨hs, hne⟩
  have hfree1 : ∀ c ∈ (loc r.s r.j).all, ∀ s1 j1 v1 o1, (look objs1 s1).os[j1]? = some (v1, o1) → live o1 = true → c ∉ (loc s1 j1).all := fun c hc s1 j1 v1 o1 hs1 hl1 hc1 => by
    obtain ⟨k1, k2⟩ := hlive1 s1 j1 v1 o1 hs1 hl1
    exact k2 (h.apart _ _ _ _ _ _ _ _ c k1 hj hl1 rfl hc1 hc)
  have hgN : (look objs1 SHN).g = (get SHN).g := by rw [hl1, if_neg hrN, hSN]
  obtain ⟨q2, x2⟩ := q1.freshG (d := SHN) (g := (get SHN).g + 1) (os := [(0, .lst false ol.e ol.u ol.ys)]) (ls := fun _ => l) (Step.refl q1) (by omega) (fun _ _ => rfl) (fun _ j v o hjo => by
    cases j with
    | zero => simp only [List.getElem?_cons_zero, Option.some.injEq, Prod.mk.injEq] at hjo; obtain ⟨rfl, rfl⟩ := hjo; exact g4
    | succ j => simp at hjo) (fun j v o c hjo _ hc => by
      obtain ⟨a1, a2, a3, a4⟩ := h.own _ _ _ _ c hj rfl (hlall c hc)
      exact ⟨a1, a2, a3, a4, fun s1 j1 v1 o1 _ hs1 hl1 => hfree1 c (hlall c hc) s1 j1 v1 o1 hs1 hl1⟩) (fun j v o j' v' o' c hjo hjo' _ _ _ _ => by
      cases j with
      | zero => cases j' with
        | zero => rfl
        | succ j' => simp at hjo'
      | succ j => simp at hjo)
  generalize hobjs2 : put objs1 SHN ⟨(get SHN).g + 1, [(0, .lst false ol.e ol.u ol.ys)]⟩ = objs2 at q2 x2
  have hl2 : ∀ s, look objs2 s = if SHN = s then ⟨(get SHN).g + 1, [(0, .lst false ol.e ol.u ol.ys)]⟩ else look objs1 s := fun s => by rw [← hobjs2]; exact look_put _ _ _ _
  have hdet : ∀ s, detach get r ol s = if s = SHN then look objs2 s else if s = r.s then look objs2 s else get s := fun s => by
    unfold detach
    by_cases e1 : s = SHN
    · subst e1
      rw [if_pos rfl, hl2, if_pos rfl, Nat.beq_refl]
    · rw [if_neg e1, beq_false.2 e1]
      by_cases e2 : s = r.s
      · subst e2
        rw [if_pos rfl, Nat.beq_refl, hl2, if_neg (fun e => e1 e.symm), hl1, if_pos rfl, hgr]
      · rw [if_neg e2, beq_false.2 e2]
  have hget2 : ∀ s, s ≠ SHN → s ≠ r.s → look objs2 s = look objs s := fun s e1 e2 => by rw [hl2, if_neg (fun e => e1 e.symm), hl1, if_neg (fun e => e2 e.symm)]
  have hdetR : ∀ s, detach get r ol s = look objs2 s ∨ detach get r ol s = Slot.none := fun s => by
    rw [hdet]
    split
    · exact .inl rfl
    · split
      · exact .inl rfl
      · rename_i e1 e2
        rw [hget2 s e1 e2]
        exact hR s
  have hNG : SHG ≠ SHN := by decide
  have hdetG : detach get r ol SHG = look objs2 SHG := by rw [hdet, if_neg hNG, if_neg (fun e => hrG e.symm), hSH, hget2 _ hNG (fun e => hrG e.symm)]
  have hdetN : detach get r ol SHN = look objs2 SHN := by rw [hdet, if_pos rfl]
  have hdetr : detach get r ol r.s = look objs2 r.s := by
    rw [hdet]
    split
    · rfl
    · rw [if_pos rfl]
  have hdetd : detach get r ol d = look objs2 d := by rw [hdet, if_neg hdN, if_neg (fun e => hrd e.symm), hd, hget2 _ hdN (fun e => hrd e.symm)]
  have x12 := x1.trans x2
  have hvals2 : Vals objs2 (loc.slot SHN fun _ => l) F B w (.ol ⟨SHN, 0, (get SHN).g + 1, 0⟩ .whole :: rest) cargs.toList := by
    rw [hcv]
    refine ⟨⟨?_, .inr ⟨?_, 0, .lst false ol.e ol.u ol.ys, ?_, .inr ⟨rfl, ?_⟩⟩⟩, hvr.ext x12⟩
    · rw [hv0l]; rfl
    · rw [hl2, if_pos rfl]
    · rw [hl2, if_pos rfl]; rfl
    · simp only [viewOk, Loc.slot, if_true]
      exact hv0l
  refine (call_does hes q2 hdetR hdetG hdetd hvals2 hcn).mono fun cv w' hres => ?_
  obtain ⟨loc3, F', q3, x3, m3, hval, hfree, hkept⟩ := hres
  generalize hobjs3 : applyUpd objs2 u1 = objs3 at q3 x3 hval hfree
  have hat3 : look objs3 SHN = ⟨(get SHN).g + 1, [(0, .lst false ol.e ol.u ys')]⟩ := by rw [← hobjs3, ← upd_at hdetN u1]; exact hat
  have hN2 : look objs2 SHN = ⟨(get SHN).g + 1, [(0, .lst false ol.e ol.u ol.ys)]⟩ := by rw [hl2, if_pos rfl]
  have hr3 : Upd.at (detach get r ol) u1 r.s = look objs3 r.s := by rw [← hobjs3]; exact upd_at hdetr u1
  rw [hr3] at hgx ⊢
  -- the nested list behind the call
  obtain ⟨vN, oN, hoN, hvN, hcN⟩ := x3.ver SHN 0 0 (.lst false ol.e ol.u ol.ys) (by rw [hN2, hat3]) (by rw [hN2]; rfl)
  have hent3 : (look objs3 SHN).os[0]? = some (0, .lst false ol.e ol.u ys') := by rw [hat3]; rfl
  rw [hent3] at hoN
  injection hoN with hoN
  injection hoN with hoN1 hoN2
  subst hoN1 hoN2
  obtain ⟨_, hylen, hcore⟩ := hcN rfl
  simp only [Loc.slot, if_true] at hcore
  have hnest : LstOk F' w' (loc3 SHN 0) false ol.e ol.u ys' := q3.obs _ _ _ _ hent3
  have hnown := fun c (hc : c ∈ (loc3 SHN 0).all) => q3.own _ _ _ _ c hent3 rfl hc
  -- what of the list is nobody's while the call runs
  have hrest : ∀ c, c = b ∨ c ∈ (Ss.take i.toNat).flatten ++ (T1 ++ T2) ++ (Ss.drop (i.toNat + 1)).flatten → c ∈ (loc r.s r.j).all ∧ c ∉ l.all := fun c hc => by
    have hnd' := hnd
    rw [hsub, hSat] at hnd'
    obtain ⟨n1, n2⟩ := List.nodup_cons.1 hnd'
    rcases hc with rfl | hc
    · exact ⟨LV.mem_blk hb, fun hcl => n1 (by simp [hcl])⟩
    · refine ⟨(hrall c).2 (.inr (by rw [hSat]; simp only [List.mem_append] at hc ⊢; rcases hc with (hc | hc | hc) | hc <;> simp [hc])), fun hcl => ?_⟩
      exact nodup_mid n2 c hcl hc
  have hfr : ∀ c, c = b ∨ c ∈ (Ss.take i.toNat).flatten ++ (T1 ++ T2) ++ (Ss.drop (i.toNat + 1)).flatten → w'.heap[c]? = w.heap[c]? ∧ ¬ F' c ∧ (∀ s j v o, (look objs3 s).os[j]? = some (v, o) → live o = true → c ∉ (loc3 s j).all) ∧ ¬ B c ∧ c < w.heap.size ∧ (base ≤ c ∨ c ∈ S) := fun c hc => by
    obtain ⟨c1, c2⟩ := hrest c hc
    obtain ⟨a1, a2, a3, a4⟩ := h.own _ _ _ _ c hj rfl c1
    obtain ⟨p1, p2, p3⟩ := hfree c a3 a1 (fun s j v o hs hl => by
      rw [hl2] at hs
      simp only [Loc.slot]
      by_cases es : SHN = s
      · subst es
        rw [if_pos rfl] at hs ⊢
        cases j with
        | zero => exact c2
        | succ j => simp at hs
      · rw [if_neg es] at hs
        rw [if_neg (fun e => es e.symm)]
        exact hfree1 c c1 s j v o hs hl)
    exact ⟨p1, p2, p3, a2, a3, a4⟩
  have x13 := x12.trans x3
  -- the list is put together again
  have hlen' : ys'.length = ol.ys.length := hylen.symm
  have hSet := flatten_set (X := T1 ++ (loc3 SHN 0).all ++ T2) hiS
  have hmemS : ∀ c, c ∈ (Ss.set i.toNat (T1 ++ (loc3 SHN 0).all ++ T2)).flatten → (c ∈ (Ss.take i.toNat).flatten ++ (T1 ++ T2) ++ (Ss.drop (i.toNat + 1)).flatten) ∨ c ∈ (loc3 SHN 0).all := fun c hc => by
    rw [hSet] at hc
    simp only [List.mem_append] at hc ⊢
    rcases hc with (hc | ((hc | hc) | hc)) | hc <;> simp [hc]
  have hndf : (b :: (Ss.set i.toNat (T1 ++ (loc3 SHN 0).all ++ T2)).flatten).Nodup := by
    rw [hSet]
    have hnd' := hnd
    rw [hsub, hSat] at hnd'
    -- without the old nested list
    have hs1 : (b :: ((Ss.take i.toNat).flatten ++ (T1 ++ [] ++ T2) ++ (Ss.drop (i.toNat + 1)).flatten)).Nodup := by
      refine hnd'.sublist (List.Sublist.cons_cons _ (List.Sublist.append (List.Sublist.append (List.Sublist.refl _) (List.Sublist.append ?_ (List.Sublist.refl _))) (List.Sublist.refl _)))
      rw [List.append_nil]
      exact List.sublist_append_left _ _
    refine nodup_swap hs1 hnest.nodup fun c hc hc2 => ?_
    have : c = b ∨ c ∈ (Ss.take i.toNat).flatten ++ (T1 ++ T2) ++ (Ss.drop (i.toNat + 1)).flatten := by simpa using hc2
    exact (hfr c this).2.2.1 _ _ _ _ hent3 rfl hc
  have hfin : LstOk F' w' ⟨some b, (loc r.s r.j).off, (loc r.s r.j).cap, (Ss.set i.toNat (T1 ++ (loc3 SHN 0).all ++ T2)).flatten⟩ z e t (xs.set i.toNat (t.putO xs[i.toNat] off ⟨ol.e, ol.u, ys'⟩)) := by
    refine ⟨vs, fr, Ss.set i.toNat (T1 ++ (loc3 SHN 0).all ++ T2), (hfr b (.inl rfl)).1.trans hheap, hzf, hth, by simpa using hnc, hcm, hvs, rfl, hndf, by simpa using hlen, fun q x S0 hx hS => ?_⟩
    by_cases eq : q = i.toNat
    · subst eq
      rw [List.getElem?_set_self hix, Option.some.injEq] at hx
      rw [List.getElem?_set_self hiS, Option.some.injEq] at hS
      subst hx hS
      exact ⟨rs, hrl, hrc, g5 F' w' (loc3 SHN 0) ys' (fun c hc => x13.fro c hc) x13.sameF (fun c hc => (hfr c (.inr (by simp only [List.mem_append] at hc ⊢; rcases hc with hc | hc <;> simp [hc]))).1) hcore.symm hlen' hnest⟩
    · rw [List.getElem?_set_ne (fun e' => eq e'.symm)] at hx hS
      obtain ⟨rs', p1, p2, p3⟩ := hrows q x S0 hx hS
      refine ⟨rs', p1, p2, p3.mono (fun c hc => x13.fro c hc) x13.sameF fun c hc => (hfr c (.inr ?_)).1⟩
      have hq : q < Ss.length := (List.getElem?_eq_some_iff.1 hS).1
      rw [List.getElem?_eq_getElem hq, Option.some.injEq] at hS
      subst hS
      have hin : c ∈ (Ss.take i.toNat).flatten ∨ c ∈ (Ss.drop (i.toNat + 1)).flatten := by
        by_cases hqi : q < i.toNat
        · exact .inl (List.mem_flatten.2 ⟨Ss[q], List.mem_of_getElem? (i := q) (by rw [List.getElem?_take_of_lt hqi]; exact List.getElem?_eq_getElem hq), hc⟩)
        · refine .inr (List.mem_flatten.2 ⟨Ss[q], List.mem_of_getElem? (i := q - (i.toNat + 1)) (by rw [List.getElem?_drop, show i.toNat + 1 + (q - (i.toNat + 1)) = q by omega]; exact List.getElem?_eq_getElem hq), hc⟩)
      rcases hin with hin | hin <;> simp [hin]
  -- the objects behind it all
  have hj3 : r.j < (look objs3 r.s).os.length := by
    obtain ⟨v4, o4, h4, _⟩ := x13.ver r.s r.j r.v _ (by rw [← hg, hgx]) hj
    exact (List.getElem?_eq_some_iff.1 h4).1
  generalize hO : Ob.lst z e t (xs.set i.toNat (t.putO xs[i.toNat] off ⟨ol.e, ol.u, ys'⟩)) = O
  have hlf : ∀ s, look (applyUpd objs ((r.s, ⟨r.g, setNth (look objs3 r.s).os r.j (r.v, O)⟩) :: (SHN, ⟨(get SHN).g + 2, []⟩) :: u1)) s = if r.s = s then ⟨r.g, (look objs3 r.s).os.set r.j (r.v, O)⟩ else if SHN = s then ⟨(get SHN).g + 2, []⟩ else look objs3 s := fun s => by
    show look (put (put (applyUpd objs u1) _ _) _ _) s = _
    rw [look_put, look_put, setNth_eq]
    by_cases e1 : r.s = s
    · rw [if_pos e1, if_pos e1]
    · rw [if_neg e1, if_neg e1]
      by_cases e2 : SHN = s
      · rw [if_pos e2, if_pos e2]
      · rw [if_neg e2, if_neg e2, ← hobjs3]
        rcases applyUpd_or objs u1 s with ⟨_, hh⟩ | ⟨y, _, hh⟩
        · rw [hh, hh, hget2 s (fun e => e2 e.symm) (fun e => e1 e.symm)]
        · rw [hh, hh]
  generalize hobjsf : applyUpd objs ((r.s, ⟨r.g, setNth (look objs3 r.s).os r.j (r.v, O)⟩) :: (SHN, ⟨(get SHN).g + 2, []⟩) :: u1) = objsf at hlf
  have hentf : ∀ s j v o, (look objsf s).os[j]? = some (v, o) → (s = r.s ∧ j = r.j ∧ v = r.v ∧ o = O) ∨ (¬(s = r.s ∧ j = r.j) ∧ s ≠ SHN ∧ (look objs3 s).os[j]? = some (v, o)) := fun s j v o hs => by
    rw [hlf] at hs
    by_cases e1 : r.s = s
    · subst e1
      rw [if_pos rfl] at hs
      simp only at hs
      by_cases e2 : j = r.j
      · subst e2
        rw [List.getElem?_set_self hj3] at hs
        simp only [Option.some.injEq, Prod.mk.injEq] at hs
        exact .inl ⟨rfl, rfl, hs.1.symm, hs.2.symm⟩
      · rw [List.getElem?_set_ne (fun e => e2 e.symm)] at hs
        exact .inr ⟨fun e => e2 e.2, hrN, hs⟩
    · rw [if_neg e1] at hs
      by_cases e2 : SHN = s
      · rw [if_pos e2] at hs; simp at hs
      · rw [if_neg e2] at hs
        exact .inr ⟨fun e => e1 e.1.symm, fun e => e2 e.symm, hs⟩
  have hentr : (look objsf r.s).os[r.j]? = some (r.v, O) := by rw [hlf, if_pos rfl]; exact List.getElem?_set_self hj3
  have hent3f : ∀ s j, ¬(s = r.s ∧ j = r.j) → s ≠ SHN → (look objsf s).os[j]? = (look objs3 s).os[j]? := fun s j h1 h2 => by
    rw [hlf]
    by_cases e1 : r.s = s
    · subst e1
      rw [if_pos rfl]
      exact List.getElem?_set_ne (fun e => h1 ⟨rfl, e.symm⟩)
    · rw [if_neg e1, if_neg (fun e => h2 e.symm)]
  have hgf : ∀ s, s ≠ SHN → (look objsf s).g = (look objs3 s).g := fun s hs => by
    rw [hlf]
    by_cases e1 : r.s = s
    · subst e1; rw [if_pos rfl, hgx]
    · rw [if_neg e1, if_neg (fun e => hs e.symm)]
  have hg2 : ∀ s, s ≠ SHN → (look objs2 s).g = (look objs s).g := fun s hs => by
    by_cases e1 : s = r.s
    · subst e1; rw [hl2, if_neg (fun e => hs e.symm), hl1, if_pos rfl, ← hg]
    · rw [hget2 s hs e1]
  have hgNf : (look objsf SHN).g = (look objs SHN).g + 2 := by rw [hlf, if_neg hrN, if_pos rfl, hSN]
  have hO' : live O = true := by rw [← hO]; rfl
  let locf : Loc := loc3.set r.s r.j ⟨some b, (loc r.s r.j).off, (loc r.s r.j).cap, (Ss.set i.toNat (T1 ++ (loc3 SHN 0).all ++ T2)).flatten⟩
  have hlocr : locf r.s r.j = ⟨some b, (loc r.s r.j).off, (loc r.s r.j).cap, (Ss.set i.toNat (T1 ++ (loc3 SHN 0).all ++ T2)).flatten⟩ := Loc.set_same _ _ _ _
  have hlocn : ∀ s j, ¬(s = r.s ∧ j = r.j) → locf s j = loc3 s j := fun s j hne => Loc.set_ne _ _ _ _ hne
  have hallr : ∀ c ∈ (locf r.s r.j).all, (c = b ∨ c ∈ (Ss.take i.toNat).flatten ++ (T1 ++ T2) ++ (Ss.drop (i.toNat + 1)).flatten) ∨ c ∈ (loc3 SHN 0).all := fun c hc => by
    rw [hlocr] at hc
    rcases LV.mem_all.1 hc with hc | hc
    · simp only [Option.some.injEq] at hc
      exact .inl (.inl hc.symm)
    · rcases hmemS c hc with hc | hc
      · exact .inl (.inr hc)
      · exact .inr hc
  have hoth : ∀ s j v o, (look objsf s).os[j]? = some (v, o) → live o = true → ¬(s = r.s ∧ j = r.j) → ∀ c ∈ (locf r.s r.j).all, c ∉ (locf s j).all := fun s j v o hs hl hne c hc hc2 => by
    rcases hentf s j v o hs with ⟨e1, e2, _⟩ | ⟨_, hsN, hs3⟩
    · exact hne ⟨e1, e2⟩
    · rw [hlocn s j hne] at hc2
      rcases hallr c hc with hc | hc
      · exact (hfr c hc).2.2.1 s j v o hs3 hl hc2
      · exact hsN (q3.apart _ _ _ _ _ _ _ _ c hs3 hent3 hl rfl hc2 hc).1
  have ext : Ext B objs loc F w objsf locf F' w' := by
    refine ⟨x13.fro, x13.sameF, x13.sameB, x13.size, fun s => ?_, fun s j v o hgg ho => ?_, fun hGG s j v o o1 hgg ho ho1 hl1' => ?_⟩
    · by_cases e1 : s = SHN
      · subst e1; rw [hgNf]; omega
      · rw [hgf s e1, ← hg2 s e1]; exact x3.gen s
    · have hsN : s ≠ SHN := fun e1 => by subst e1; rw [hgNf] at hgg; omega
      by_cases e1 : s = r.s ∧ j = r.j
      · obtain ⟨rfl, rfl⟩ := e1
        rw [hj] at ho
        injection ho with ho
        injection ho with e1 e2
        subst e1; subst e2
        refine ⟨_, _, hentr, Nat.le_refl _, fun _ => ?_⟩
        rw [hlocr, ← hO]
        exact ⟨rfl, by simp, by simp [LV.core, hb]⟩
      · have ho2 : (look objs2 s).os[j]? = some (v, o) := by
          rw [hl2, if_neg (fun e => hsN e.symm)]
          rw [← hobjs1, setNth_eq, hg, pe, if_neg e1]
          exact ho
        rw [hent3f s j e1 hsN, hlocn s j e1]
        obtain ⟨v4, o4, a1, a2, a3⟩ := x3.ver s j v o (by rw [hg2 s hsN, ← hgf s hsN]; exact hgg) ho2
        refine ⟨v4, o4, a1, a2, fun ev => ?_⟩
        have := a3 ev
        simp only [Loc.slot, if_neg hsN] at this
        exact this
    · have hsN : s ≠ SHN := fun e1 => by subst e1; rw [hgNf] at hgg; omega
      by_cases e1 : s = r.s ∧ j = r.j
      · obtain ⟨rfl, rfl⟩ := e1
        exact OKept.of_block fun c hc => by
          rw [hb] at hc
          cases hc
          exact (hfr b (.inl rfl)).1
      · have ho2 : (look objs2 s).os[j]? = some (v, o) := by
          rw [hl2, if_neg (fun e => hsN e.symm)]
          rw [← hobjs1, setNth_eq, hg, pe, if_neg e1]
          exact ho
        rw [hent3f s j e1 hsN] at ho1
        have := x3.nest (by rw [hg2 SHG hNG, ← hgf SHG hNG]; exact hGG) s j v o o1 (by rw [hg2 s hsN, ← hgf s hsN]; exact hgg) ho2 ho1 hl1'
        simp only [Loc.slot, if_neg hsN] at this
        exact this
  refine ⟨locf, F', ⟨fun s j v o hs => ?_, fun s j v o s2 j2 v2 o2 c hs hs2 hl hl2' hc hc2 => ?_, fun s j v o c hs hl hc => ?_, q3.fro, q3.bor, q3.os, q3.tape, q3.output, q3.size, q3.block, q3.tab, q3.gen0⟩, ext, fun c hc => m3 c hc, ?_⟩
  · rcases hentf s j v o hs with ⟨rfl, rfl, rfl, rfl⟩ | ⟨hne, hsN, hs3⟩
    · rw [hlocr, ← hO]
      exact hfin
    · rw [hlocn s j hne]
      cases o with
      | gone => trivial
      | lst z4 e4 t4 xs4 => exact q3.obs s j v _ hs3
      | box cs =>
        -- a box is an old one
        have nobox : ∀ y, (s, y) ∈ u1 → y.os[j]? = some (v, .box cs) → False := fun y hy hyj => by
          have := List.all_eq_true.1 hclean (s, y) hy
          have := List.all_eq_true.1 this _ (List.mem_of_getElem? hyj)
          simp [isBox] at this
        rcases applyUpd_or objs u1 s with ⟨hnu, hh⟩ | ⟨y, hy, hh⟩
        · have h3 : look objs3 s = look objs2 s := by rw [← hobjs3]; exact hh _
          rw [h3] at hs3
          obtain ⟨k1, k2⟩ := hkept s j v _ hs3 rfl hnu
          have hs0 : (look objs s).os[j]? = some (v, .box cs) := by
            rw [hl2, if_neg (fun e => hsN e.symm), ← hobjs1, setNth_eq, hg, pe, if_neg hne] at hs3
            exact hs3
          simp only [Loc.slot, if_neg hsN] at k1 k2
          rw [k1]
          exact (h.obs s j v _ hs0).ext ext fun c hc => k2 c hc
        · have h3 : look objs3 s = y := by rw [← hobjs3]; exact hh _
          rw [h3] at hs3
          exact (nobox y hy hs3).elim
  · rcases hentf s j v o hs with ⟨rfl, rfl, _⟩ | ⟨hne, hsN, hs3⟩
    · by_cases e2 : s2 = r.s ∧ j2 = r.j
      · exact ⟨e2.1.symm, e2.2.symm⟩
      · exact absurd hc2 (hoth s2 j2 v2 o2 hs2 hl2' e2 c hc)
    · rcases hentf s2 j2 v2 o2 hs2 with ⟨rfl, rfl, _⟩ | ⟨hne2, hsN2, hs32⟩
      · exact absurd hc (hoth s j v o hs hl hne c hc2)
      · rw [hlocn s j hne] at hc
        rw [hlocn s2 j2 hne2] at hc2
        exact q3.apart _ _ _ _ _ _ _ _ c hs3 hs32 hl hl2' hc hc2
  · rcases hentf s j v o hs with ⟨rfl, rfl, _⟩ | ⟨hne, hsN, hs3⟩
    · rcases hallr c hc with hc | hc
      · obtain ⟨p1, p2, p3, p4, p5, p6⟩ := hfr c hc
        exact ⟨p2, p4, Nat.lt_of_lt_of_le p5 x13.size, p6⟩
      · exact hnown c hc
    · rw [hlocn s j hne] at hc
      exact q3.own _ _ _ _ c hs3 hl hc
  · exact hval
theorem call_goes {es : List Entry} {o : Oper} {f : Operand} {as : Array Operand} {ts : Array TypeId} {d : Nat} {eA : Operand → AV} {a : Act} {v : AV} {u : Upd} {get : Get} (hes : ∀ e ∈ es, EntryOk P e) (ho : o.op = .call ⟨.value f, as, ts⟩) (h : SR base S B w0 objs loc F w) (hR : ∀ s, get s = look objs s ∨ get s = Slot.none) (hSH : get SHG = look objs SHG) (hSN : get SHN = look objs SHN) (hd : get d = look objs d)
    (hf : Val objs loc F B w (eA f) (a.eval f)) (hx : ∀ x ∈ as, Val objs loc F B w (eA x) (a.eval x)) (hk : callVK (callK es) (eA f) (as.toList.map eA) get d pr = some (v, u)) : Goes P base S B w0 objs loc F w o a v u := by
  unfold callVK at hk
  split at hk
  case h_2 => cases hk
  rename_i f0 caps hfa
  rw [hfa] at hf
  obtain ⟨cv, hcv, hcaps⟩ := hf
  have hvals : Vals objs loc F B w (as.toList.map eA ++ caps) (as.map a.eval ++ cv).toList := by
    rw [Array.toList_append, Array.toList_map]
    exact (Vals.of_map fun x hxm => hx x (by simpa using hxm)).app hcaps.vals
  have plain : callN es f0 (as.toList.map eA ++ caps) get d pr = some (v, u) → Goes P base S B w0 objs loc F w o a v u := fun hk =>
    does_goes ho hcv (call_does hes h hR hSH hd hvals hk) fun cv' w' hh => by
      obtain ⟨loc', F', k1, k2, k3, k4, _⟩ := hh
      exact ⟨loc', F', k1, k2, k3, k4⟩
  generalize hargs : as.toList.map eA ++ caps = args at hk plain hvals
  unfold callK at hk
  split at hk
  case h_2 => exact plain hk
  rename_i r k i off rest
  split at hk
  case h_2 => cases hk
  split at hk
  case h_2 => exact plain hk
  split at hk
  case h_2 => cases hk
  rename_i ol hnl
  split at hk
  case h_2 => cases hk
  rename_i z e t xs hob
  split at hk
  case h_2 => cases hk
  rename_i hchk
  exact does_goes ho hcv (detach_does hes h hR hSH hSN hd hvals hnl hob hchk hk) fun cv' w' hh => hh
omit [Names] in
theorem restrict_or (objs : Upd) (need : List Nat) (s : Nat) : restrict objs need s = look objs s ∨ restrict objs need s = Slot.none := by
  unfold restrict
  split
  · exact .inl rfl
  · exact .inr rfl
omit [Names] in
theorem memb_iff {n : Nat} : ∀ {l : List Nat}, memb n l = true ↔ n ∈ l
  | [] => by simp [memb]
  | m :: ms => by
    simp only [memb]
    cases h : Nat.beq m n with
    | true => have := beq_true.1 h; simp [this]
    | false =>
      have := beq_false.1 h
      simp only [memb_iff (l := ms), List.mem_cons]
      exact ⟨.inr, fun hh => hh.resolve_left fun e => this e.symm⟩
omit [Names] in
theorem restrict_in {objs : Upd} {need : List Nat} {s : Nat} (h : s ∈ need) : restrict objs need s = look objs s := by
  unfold restrict
  rw [memb_iff.2 h]
omit [Names] in
theorem reach_acc (get : Get) : ∀ (n : Nat) (todo acc : List Nat), ∀ s ∈ acc, s ∈ reach get n todo acc
  | 0, _, _, s, h => h
  | n + 1, [], _, s, h => h
  | n + 1, t :: todo, acc, s, h => by
    unfold reach
    split
    · exact reach_acc get n _ _ s h
    · exact reach_acc get n _ _ s (List.mem_cons_of_mem _ h)
theorem op_goes {es : List Entry} {o : Oper} {d : Nat} {eA : Operand → AV} {a : Act} {v : AV} {u : Upd} (hT : TOk P T) (hes : ∀ e ∈ es, EntryOk P e) (h : SR base S B w0 objs loc F w)
    (hx : ∀ x ∈ o.op.operands, Val objs loc F B w (eA x) (a.eval x)) (hk : opK T (callK es) eA (restrict objs (needOf objs eA o.op d)) d o.op pr = some (v, u)) : Goes P base S B w0 objs loc F w o a v u := by
  by_cases hc : isCall o.op = true
  · have hop : ∃ f as ts, o.op = .call ⟨.value f, as, ts⟩ := by
      unfold isCall at hc
      split at hc
      · exact ⟨_, _, _, by assumption⟩
      · cases hc
    obtain ⟨f, as, ts, ho⟩ := hop
    have hneed : ∀ s ∈ [SHG, SHG + 1, d], s ∈ needOf objs eA o.op d := by
      intro s hs
      unfold needOf
      rw [hc]
      simp only [List.mem_cons, List.not_mem_nil, or_false] at hs
      rcases hs with rfl | rfl | rfl
      · simp
      · simp
      · refine List.mem_cons_of_mem _ (List.mem_cons_of_mem _ ?_)
        simp only [reach, memb]
        exact reach_acc _ _ _ _ _ (by simp)
    have hk' := hk
    rw [ho] at hk'
    rw [ho] at hx
    refine call_goes hes ho h (restrict_or _ _) (restrict_in (hneed _ (by simp))) (restrict_in (hneed _ (by simp [SHN, SHG]))) (restrict_in (hneed _ (by simp))) (hx f (by simp [Op.operands, Call.operands])) (fun x hxm => hx x (by simp [Op.operands, Call.operands]; exact .inr hxm)) (d := d) ?_
    rw [← ho] at hk'
    have : opK T (callK es) eA (restrict objs (needOf objs eA o.op d)) d (.call ⟨.value f, as, ts⟩) pr = some (v, u) := by rw [← ho]; exact hk
    exact this
  · have hc : isCall o.op = false := by simpa using hc
    by_cases hm : isMove o.op = true
    · have hop : ∃ x, o.op = .move x ∨ o.op = .assign x := by
        unfold isMove at hm
        split at hm
        · exact ⟨_, .inl (by assumption)⟩
        · exact ⟨_, .inr (by assumption)⟩
        · cases hm
      obtain ⟨x, ho⟩ := hop
      have hk' : (pr (eA x) [] : Option (AV × Upd)) = some (v, u) := by
        rcases ho with ho | ho <;> (rw [ho] at hk; exact hk)
      exact (good_move (K := pr) ho h hk' (hx x (by rcases ho with ho | ho <;> (rw [ho]; simp [Op.operands])))).goes
    have hm : isMove o.op = false := by simpa using hm
    have hneed : needOf objs eA o.op d = d :: o.op.operands.toList.flatMap fun x => (eA x).slots := by
      unfold needOf
      rw [hc, hm]
    refine (op_good (K := pr) (get := restrict objs (needOf objs eA o.op d)) hT h hc hx (fun x hxm s hs => restrict_in ?_) (restrict_in (need := needOf objs eA o.op d) (by rw [hneed]; simp)) hk).goes
    rw [hneed]
    exact List.mem_cons_of_mem _ (List.mem_flatMap.2 ⟨x, by simpa using hxm, hs⟩)
end
end Go.Eng
end

section
namespace Go.Eng
variable [Names]
inductive Eff where
  | skip
  | did (v : AV) (u : Upd)
def setT (o : Oper) (ts : List AV) (v : AV) : List AV := match o.dst with | some d => setNth ts d v | none => ts
def Eff.on (o : Oper) (A : St) : Eff → St
  | .skip => ⟨setT o A.tmps (.tup []), A.objs⟩
  | .did v u => ⟨setT o A.tmps v, applyUpd A.objs u⟩
def slotD (o : Oper) (A : St) (rid i : Nat) : Nat := match o.dst with | some d => d | none => A.tmps.length + 256 * rid + i + 65
def Agree (A A' : St) (l : Nat) : Prop := (∀ t, l = 2 * t → nth .dead A.tmps t = nth .dead A'.tmps t) ∧ ∀ s, l = 2 * s + 1 → look A.objs s = look A'.objs s
omit [Names] in
theorem Agree.refl (A : St) (l : Nat) : Agree A A l := ⟨fun _ _ => rfl, fun _ _ => rfl⟩
omit [Names] in
theorem Agree.symm {A A' : St} {l : Nat} (h : Agree A A' l) : Agree A' A l := ⟨fun t e => (h.1 t e).symm, fun s e => (h.2 s e).symm⟩
omit [Names] in
theorem Agree.trans {A A' A'' : St} {l : Nat} (h : Agree A A' l) (k : Agree A' A'' l) : Agree A A'' l := ⟨fun t e => (h.1 t e).trans (k.1 t e), fun s e => (h.2 s e).trans (k.2 s e)⟩
structure Rec (T : TT) (es : List Entry) (ops : Array Oper) (rid i : Nat) (o : Oper) (A : St) (f : Eff) (e : Ev) : Prop where
  num : e.i = i
  guard : match o.guard with
    | none => ∃ v u, f = .did v u
    | some (j, want) => ∃ t, (ops[j]?).bind (·.dst) = some t ∧ e.r.testBit (2 * t) = true ∧ ((∃ b, nth .dead A.tmps t = .bool b ∧ (if b = want then ∃ v u, f = .did v u else f = .skip)) ∨ ∃ l, nth .dead A.tmps t = .tup l ∧ f = .skip)
  run : ∀ v u, f = .did v u → opK T (callK es) (evR A (operandTmps o.op.operands.toList)) (restrict A.objs (needOf A.objs (evR A (operandTmps o.op.operands.toList)) o.op (slotD o A rid i))) (slotD o A rid i) o.op pr = some (v, u)
  tmps : ∀ v u, f = .did v u → ∀ t ∈ operandTmps o.op.operands.toList, e.r.testBit (2 * t) = true
  need : ∀ v u, f = .did v u → ∀ s ∈ needOf A.objs (evR A (operandTmps o.op.operands.toList)) o.op (slotD o A rid i), e.r.testBit (2 * s + 1) = true
  dst : ∀ d, o.dst = some d → e.w.testBit (2 * d) = true
  upd : ∀ v u, f = .did v u → ∀ s, (∃ x, (s, x) ∈ u) → e.w.testBit (2 * s + 1) = true
  /-- It writes nothing else. -/
  only : ∀ l, e.w.testBit l = true → (∃ d, o.dst = some d ∧ l = 2 * d) ∨ ∃ v u s x, f = .did v u ∧ (s, x) ∈ u ∧ l = 2 * s + 1
omit [Names] in
theorem bits_mem {n : Nat} : ∀ {l : List Nat}, (bitsOf l).testBit n = true ↔ n ∈ l
  | [] => by simp [bitsOf]
  | m :: l => by
    simp only [bitsOf, Nat.testBit_or, Bool.or_eq_true, bits_mem (l := l), List.mem_cons, Nat.testBit_two_pow, decide_eq_true_eq]
    constructor
    · rintro (h | h)
      · exact .inl h.symm
      · exact .inr h
    · rintro (h | h)
      · exact .inl h.symm
      · exact .inr h
section
variable {T : TT} {es : List Entry} {ρ : Type}
omit [Names] in
theorem set_same {l : List AV} {t : Nat} {b : Bool} (h : nth .dead l t = .bool b) : setNth l t (.bool b) = l := by
  rw [setNth_eq]
  rw [nth_eq] at h
  apply List.ext_getElem?
  intro i
  by_cases e : t = i
  · subst e
    cases hl : l[t]? with
    | none => rw [hl] at h; simp at h
    | some a =>
      rw [hl] at h
      simp only [Option.getD_some] at h
      rw [List.getElem?_set_self (List.getElem?_eq_some_iff.1 hl).1, h]
  · rw [List.getElem?_set_ne e]
omit [Names] in
theorem operK_rec {ops : Array Oper} {rid i : Nat} {o : Oper} {A : St} {K : Ev → St → Option ρ} {res : ρ} (hk : operK T (callK es) ops rid i o A K = some res) : ∃ f e, K e (f.on o A) = some res ∧ Rec T es ops rid i o A f e := by
  have run : ∀ (g : Nat), (∀ j want, o.guard = some (j, want) → ∃ t, (ops[j]?).bind (·.dst) = some t ∧ nth .dead A.tmps t = .bool want ∧ g.testBit (2 * t) = true) →
      (let d := slotD o A rid i
       let ts := operandTmps o.op.operands.toList
       let eA := evR A ts
       let need := needOf A.objs eA o.op d
       opK T (callK es) eA (restrict A.objs need) d o.op fun v u =>
        K ⟨i, g ||| bitsOf (ts.map (2 * ·)) ||| bitsOf (need.map (2 * · + 1)), (match o.dst with | some d => 2 ^ (2 * d) | none => 0) ||| bitsOf (u.map (2 * ·.1 + 1))⟩
        { tmps := setT o A.tmps v, objs := applyUpd A.objs u }) = some res → ∃ f e, K e (f.on o A) = some res ∧ Rec T es ops rid i o A f e := by
    intro g hg hk
    dsimp only at hk
    rw [opK_nat] at hk
    cases ho : opK T (callK es) (evR A (operandTmps o.op.operands.toList)) (restrict A.objs (needOf A.objs (evR A (operandTmps o.op.operands.toList)) o.op (slotD o A rid i))) (slotD o A rid i) o.op pr with
    | none => rw [ho] at hk; cases hk
    | some q =>
      obtain ⟨v, u⟩ := q
      rw [ho] at hk
      simp only [Nat2, Option.bind_some] at hk
      refine ⟨.did v u, _, hk, rfl, ?_, fun v' u' e => ?_, fun v' u' e t ht => ?_, fun v' u' e s hs => ?_, fun d hd => ?_, fun v' u' e s hs => ?_, fun l hl => ?_⟩
      · cases hgd : o.guard with
        | none => exact ⟨v, u, rfl⟩
        | some q =>
          obtain ⟨j, want⟩ := q
          obtain ⟨t, h1, h2, h3⟩ := hg j want hgd
          exact ⟨t, h1, by simp only [Nat.testBit_or, h3, Bool.true_or], .inl ⟨want, h2, by rw [if_pos rfl]; exact ⟨v, u, rfl⟩⟩⟩
      · cases e; exact ho
      · simp only [Nat.testBit_or, Bool.or_eq_true]
        exact .inl (.inr (bits_mem.2 (List.mem_map.2 ⟨t, ht, rfl⟩)))
      · simp only [Nat.testBit_or, Bool.or_eq_true]
        exact .inr (bits_mem.2 (List.mem_map.2 ⟨s, hs, rfl⟩))
      · simp only [Nat.testBit_or, Bool.or_eq_true, hd]
        exact .inl (by simp)
      · cases e
        obtain ⟨x, hx⟩ := hs
        simp only [Nat.testBit_or, Bool.or_eq_true]
        exact .inr (bits_mem.2 (List.mem_map.2 ⟨(s, x), hx, rfl⟩))
      · simp only [Nat.testBit_or, Bool.or_eq_true] at hl
        rcases hl with hl | hl
        · cases hd : o.dst with
          | none => rw [hd] at hl; simp at hl
          | some d =>
            rw [hd] at hl
            simp only [Nat.testBit_two_pow, decide_eq_true_eq] at hl
            exact .inl ⟨d, rfl, hl.symm⟩
        · obtain ⟨⟨s, x⟩, hs, e⟩ := List.mem_map.1 (bits_mem.1 hl)
          exact .inr ⟨v, u, s, x, rfl, hs, e.symm⟩
  unfold operK at hk
  dsimp only at hk
  cases hgd : o.guard with
  | none =>
    rw [hgd] at hk
    exact run 0 (fun j want h => by rw [hgd] at h; cases h) hk
  | some q =>
    obtain ⟨j, want⟩ := q
    rw [hgd] at hk
    dsimp only at hk
    split at hk
    · cases hk
    · rename_i t ht
      split at hk
      · rename_i b hb
        split at hk
        · rename_i e
          subst e
          rw [set_same hb] at hk
          refine run (2 ^ (2 * t)) (fun j' want' h => ?_) hk
          rw [hgd] at h
          cases h
          exact ⟨t, ht, hb, by simp⟩
        · rename_i e
          have hnw : (!want) = b := by cases want <;> cases b <;> simp_all
          rw [hnw, set_same hb] at hk
          refine ⟨.skip, _, hk, rfl, ?_, by simp, by simp, by simp, fun d hd => ?_, by simp, fun l hl => ?_⟩
          · rw [hgd]
            exact ⟨t, ht, by simp, .inl ⟨b, hb, by rw [if_neg e]⟩⟩
          · simp [hd]
          · cases hd : o.dst with
            | none => simp [hd] at hl
            | some d =>
              simp only [hd, Nat.testBit_two_pow, decide_eq_true_eq] at hl
              exact .inl ⟨d, rfl, hl.symm⟩
      · rename_i l0 hb
        refine ⟨.skip, _, hk, rfl, ?_, by simp, by simp, by simp, fun d hd => ?_, by simp, fun l hl => ?_⟩
        · rw [hgd]
          exact ⟨t, ht, by simp, .inr ⟨l0, hb, rfl⟩⟩
        · simp [hd]
        · cases hd : o.dst with
          | none => simp [hd] at hl
          | some d =>
            simp only [hd, Nat.testBit_two_pow, decide_eq_true_eq] at hl
            exact .inl ⟨d, rfl, hl.symm⟩
      · cases hk
omit [Names] in
theorem on_len (o : Oper) (A : St) (f : Eff) : (f.on o A).tmps.length = A.tmps.length := by
  cases f <;> simp only [Eff.on, setT] <;> split <;> simp [setNth_eq]
omit [Names] in
theorem look_out (objs : Upd) : ∀ (u : Upd) (s : Nat), (¬ ∃ x, (s, x) ∈ u) → look (applyUpd objs u) s = look objs s
  | [], s, _ => rfl
  | (s', x) :: u, s, h => by
    show look (put (applyUpd objs u) s' x) s = _
    rw [look_put, if_neg (fun e => h ⟨x, by rw [e]; simp⟩)]
    exact look_out objs u s fun ⟨y, hy⟩ => h ⟨y, List.mem_cons_of_mem _ hy⟩
omit [Names] in
theorem look_in (objs : Upd) : ∀ (u : Upd) (s : Nat), (∃ x, (s, x) ∈ u) → look (applyUpd objs u) s = look u s
  | [], s, h => by simp at h
  | (s', x) :: u, s, h => by
    show look (put (applyUpd objs u) s' x) s = _
    rw [look_put, look_cons]
    by_cases e : s' = s
    · rw [if_pos e, if_pos e]
    · rw [if_neg e, if_neg e]
      refine look_in objs u s ?_
      obtain ⟨y, hy⟩ := h
      rcases List.mem_cons.1 hy with hy | hy
      · cases hy; exact absurd rfl e
      · exact ⟨y, hy⟩
omit [Names] in
theorem nth_big {l : List AV} {t : Nat} (h : ¬ t < l.length) : nth .dead l t = .dead := by
  rw [nth_eq, List.getElem?_eq_none (Nat.le_of_not_lt h)]; rfl
omit [Names] in
theorem nth_setT (o : Oper) (ts : List AV) (v : AV) (t : Nat) : nth .dead (setT o ts v) t = if o.dst = some t ∧ t < ts.length then v else nth .dead ts t := by
  unfold setT
  cases hd : o.dst with
  | none => simp
  | some d =>
    simp only [Option.some.injEq]
    by_cases e : d = t
    · subst e
      by_cases hl : d < ts.length
      · rw [if_pos ⟨rfl, hl⟩, setNth_eq, nth_eq, List.getElem?_set_self hl]; rfl
      · rw [if_neg (fun h => hl h.2), nth_big hl, setNth_eq, nth_big]
        rw [List.length_set]
        exact hl
    · rw [if_neg (fun h => e h.1), setNth_eq, nth_eq, nth_eq, List.getElem?_set_ne e]
omit [Names] in
theorem Rec.kept {ops : Array Oper} {rid i : Nat} {o : Oper} {A A' : St} {f : Eff} {e : Ev} (h : Rec T es ops rid i o A f e) {l : Nat} (hl : e.w.testBit l = false) : Agree (f.on o A') A' l := by
  have hd : ∀ d, o.dst = some d → l ≠ 2 * d := fun d hd e' => by rw [e', h.dst d hd] at hl; cases hl
  have hts : ∀ t v, l = 2 * t → nth .dead (setT o A'.tmps v) t = nth .dead A'.tmps t := fun t v e' => by
    rw [nth_setT, if_neg]
    rintro ⟨h1, _⟩
    exact hd t h1 e'
  cases f with
  | skip => exact ⟨fun t e' => hts t _ e', fun _ _ => rfl⟩
  | did v u =>
    refine ⟨fun t e' => hts t _ e', fun s e' => ?_⟩
    show look (applyUpd A'.objs u) s = _
    refine look_out _ _ _ ?_
    intro hs
    have := h.upd v u rfl s hs
    rw [← e', hl] at this
    cases this
omit [Names] in
theorem Rec.wrote {ops : Array Oper} {rid i : Nat} {o : Oper} {A A1 A2 : St} {f : Eff} {e : Ev} (h : Rec T es ops rid i o A f e) (hlen : A1.tmps.length = A2.tmps.length) {l : Nat} (hl : e.w.testBit l = true) : Agree (f.on o A1) (f.on o A2) l := by
  have hts : ∀ t v, l = 2 * t → nth .dead (setT o A1.tmps v) t = nth .dead (setT o A2.tmps v) t := fun t v e' => by
    rcases h.only l hl with ⟨d, h1, h2⟩ | ⟨_, _, s, x, _, _, h2⟩
    · have : d = t := Nat.eq_of_mul_eq_mul_left (by decide : 0 < 2) (h2.symm.trans e')
      subst this
      rw [nth_setT, nth_setT, hlen]
      by_cases hlt : d < A2.tmps.length
      · rw [if_pos ⟨h1, hlt⟩, if_pos ⟨h1, hlt⟩]
      · rw [if_neg (fun h => hlt h.2), if_neg (fun h => hlt h.2), nth_big hlt, nth_big (by rw [hlen]; exact hlt)]
    · omega
  cases f with
  | skip =>
    refine ⟨fun t e' => hts t _ e', fun s e' => ?_⟩
    rcases h.only l hl with ⟨d, h1, h2⟩ | ⟨v, u, _, _, h2, _⟩
    · exact absurd (h2.symm.trans e') (by intro hh; have : 2 * (d : Nat) = 2 * s + 1 := hh; omega)
    · cases h2
  | did v u =>
    refine ⟨fun t e' => hts t _ e', fun s e' => ?_⟩
    rcases h.only l hl with ⟨d, h1, h2⟩ | ⟨v', u', s', x, h1, h2, h3⟩
    · exact absurd (h2.symm.trans e') (by intro hh; have : 2 * (d : Nat) = 2 * s + 1 := hh; omega)
    · cases h1
      have : s = s' := by omega
      subst this
      show look (applyUpd A1.objs u) s = look (applyUpd A2.objs u) s
      rw [look_in _ _ _ ⟨x, h2⟩, look_in _ _ _ ⟨x, h2⟩]
omit [Names] in
theorem reach_congr {g1 g2 : Get} : ∀ (n : Nat) (todo acc : List Nat), (∀ s ∈ reach g1 n todo acc, g1 s = g2 s) → reach g2 n todo acc = reach g1 n todo acc
  | 0, _, _, _ => rfl
  | n + 1, [], _, _ => rfl
  | n + 1, t :: todo, acc, h => by
    unfold reach at h ⊢
    cases hm : memb t acc with
    | true =>
      rw [hm] at h
      exact reach_congr n todo acc h
    | false =>
      rw [hm] at h
      dsimp only at h ⊢
      have := h t (reach_acc _ _ _ _ _ (by simp))
      rw [← this]
      exact reach_congr n _ _ h
omit [Names] in
theorem evR_congr {A A' : St} {ts : List Nat} (h : ∀ t ∈ ts, nth .dead A'.tmps t = nth .dead A.tmps t) : evR A' ts = evR A ts := by
  funext x
  cases x with
  | tmp t =>
    simp only [evR]
    cases hm : memb t ts with
    | true => exact h t (memb_iff.1 hm)
    | false => rfl
  | _ => rfl
omit [Names] in
theorem Rec.congr {ops : Array Oper} {rid i : Nat} {o : Oper} {A A' : St} {f : Eff} {e : Ev} (h : Rec T es ops rid i o A f e) (hlen : A'.tmps.length = A.tmps.length) (ha : ∀ l, e.r.testBit l = true → Agree A' A l) : Rec T es ops rid i o A' f e := by
  have hslot : slotD o A' rid i = slotD o A rid i := by unfold slotD; rw [hlen]
  have hev : ∀ v u, f = .did v u → evR A' (operandTmps o.op.operands.toList) = evR A (operandTmps o.op.operands.toList) := fun v u hf => evR_congr fun t ht => (ha _ (h.tmps v u hf t ht)).1 t rfl
  have hneed : ∀ v u, f = .did v u → needOf A'.objs (evR A' (operandTmps o.op.operands.toList)) o.op (slotD o A' rid i) = needOf A.objs (evR A (operandTmps o.op.operands.toList)) o.op (slotD o A rid i) := fun v u hf => by
    rw [hev v u hf, hslot]
    have hn := h.need v u hf
    unfold needOf at hn ⊢
    dsimp only at hn ⊢
    cases hc : isCall o.op with
    | false => rfl
    | true =>
      rw [hc] at hn
      exact congrArg (fun l => SHG :: (SHG + 1) :: l) (reach_congr _ _ _ fun s hs => ((ha _ (hn s (List.mem_cons_of_mem _ (List.mem_cons_of_mem _ hs)))).2 s rfl).symm)
  refine ⟨h.num, ?_, fun v u hf => ?_, h.tmps, fun v u hf s hs => ?_, h.dst, h.upd, h.only⟩
  · have hg := h.guard
    cases hgd : o.guard with
    | none => rw [hgd] at hg; exact hg
    | some q =>
      rw [hgd] at hg
      obtain ⟨t, h1, h3, h4⟩ := hg
      refine ⟨t, h1, h3, ?_⟩
      rw [(ha _ h3).1 t rfl]
      exact h4
  · have hr := h.run v u hf
    rw [hneed v u hf, hev v u hf, hslot]
    have : restrict A'.objs (needOf A.objs (evR A (operandTmps o.op.operands.toList)) o.op (slotD o A rid i)) = restrict A.objs (needOf A.objs (evR A (operandTmps o.op.operands.toList)) o.op (slotD o A rid i)) := by
      funext s
      unfold restrict
      cases hm : memb s _ with
      | true => exact (ha _ (h.need v u hf s (memb_iff.1 hm))).2 s rfl
      | false => rfl
    rw [this]
    exact hr
  · rw [hneed v u hf] at hs
    exact h.need v u hf s hs
end
end Go.Eng
end

section
namespace Go.Eng
variable [Names]
section
variable {P : Program} {T : TT} {es : List Entry} {base : Nat} {S : List Nat} {B F0 : Nat → Prop} {G : Act → Prop} {w0 : World} {ρ : Type}
def RelA (base : Nat) (S : List Nat) (B : Nat → Prop) (w0 : World) (F0 : Nat → Prop) (G : Act → Prop) (A : St) (a : Act) (w : World) : Prop :=
  ∃ loc F, SR base S B w0 A.objs loc F w ∧ (∀ b, F0 b → F b) ∧ More base S F0 F ∧ G a ∧ a.tmps.size = A.tmps.length ∧ ∀ t, Val A.objs loc F B w (nth .dead A.tmps t) (a.tmps.getD t undef)
theorem Val.dead {objs : Upd} {loc : Loc} {F B : Nat → Prop} {w : World} {v : Value} : Val objs loc F B w .dead v := trivial
theorem val_const {objs : Upd} {loc : Loc} {F B : Nat → Prop} {w : World} (v : Value) : Val objs loc F B w (constAV v) v := by
  unfold constAV
  split <;> first | rfl | trivial
omit [Names] in
theorem mem_operandTmps {t : Nat} : ∀ {l : List Operand}, Operand.tmp t ∈ l → t ∈ operandTmps l
  | [], h => by simp at h
  | .tmp t' :: l, h => by
    rcases List.mem_cons.1 h with h | h
    · cases h; simp [operandTmps]
    · simp [operandTmps, mem_operandTmps h]
  | .const _ :: l, h => by
    rcases List.mem_cons.1 h with h | h
    · cases h
    · exact mem_operandTmps (l := l) h
  | .func _ :: l, h => by
    rcases List.mem_cons.1 h with h | h
    · cases h
    · exact mem_operandTmps (l := l) h
  | .global _ :: l, h => by
    rcases List.mem_cons.1 h with h | h
    · cases h
    · exact mem_operandTmps (l := l) h
theorem val_evR {objs : Upd} {loc : Loc} {F B : Nat → Prop} {w : World} {A : St} {a : Act} (hv : ∀ t, Val objs loc F B w (nth .dead A.tmps t) (a.tmps.getD t undef)) (ts : List Nat) (x : Operand) : Val objs loc F B w (evR A ts x) (a.eval x) := by
  cases x with
  | tmp t =>
    simp only [evR]
    split
    · exact hv t
    · trivial
  | const v => exact val_const v
  | func f => exact ⟨#[], rfl, trivial⟩
  | global g => trivial
omit [Names] in
theorem put_get (a : Act) (dst : Option Tmp) (v : Value) (t : Nat) : (a.put dst v).tmps.getD t undef = if dst = some t ∧ t < a.tmps.size then v else a.tmps.getD t undef := by
  cases dst with
  | none => simp [Act.put]
  | some d =>
    simp only [Act.put, Option.some.injEq]
    by_cases e : d = t
    · subst e
      by_cases h : d < a.tmps.size
      · rw [if_pos ⟨rfl, h⟩]
        simp [h]
      · rw [if_neg (fun hh => h hh.2)]
        simp only [Array.getD_eq_getD_getElem?]
        rw [Array.getElem?_eq_none (by simpa using Nat.le_of_not_lt h), Array.getElem?_eq_none (Nat.le_of_not_lt h)]
    · rw [if_neg (fun hh => e hh.1)]
      simp [Array.getElem?_setIfInBounds_ne e]
omit [Names] in
theorem put_size (a : Act) (dst : Option Tmp) (v : Value) : (a.put dst v).tmps.size = a.tmps.size := by cases dst <;> simp [Act.put]
omit [Names] in
theorem put_defers (a : Act) (dst : Option Tmp) (v : Value) : (a.put dst v).defers = a.defers := by cases dst <;> rfl
theorem rel_put {A : St} {a : Act} {w : World} {o : Oper} {v : AV} {cv : Value} {objs : Upd} {loc : Loc} {F : Nat → Prop} (hs : a.tmps.size = A.tmps.length) (hv : ∀ t, Val objs loc F B w (nth .dead A.tmps t) (a.tmps.getD t undef)) (hc : Val objs loc F B w v cv) :
    ∀ t, Val objs loc F B w (nth .dead (setT o A.tmps v) t) ((a.put o.dst cv).tmps.getD t undef) := by
  intro t
  rw [nth_setT, put_get, hs]
  by_cases h : o.dst = some t ∧ t < A.tmps.length
  · rw [if_pos h, if_pos h]; exact hc
  · rw [if_neg h, if_neg h]; exact hv t
theorem rec_step {ops : Array Oper} {rid i : Nat} {o : Oper} {A : St} {f : Eff} {e : Ev} {a : Act} {w : World} {next : Act → World → Prop} {Q : Exit → Act → World → Prop} (hT : TOk P T) (hes : ∀ e ∈ es, EntryOk P e) (hr : Rec T es ops rid i o A f e) (ho : ops[i]? = some o) (hG : ∀ a cv, G a → G (a.put o.dst cv))
    (h : RelA base S B w0 F0 G A a w) (hnext : ∀ a' w', RelA base S B w0 F0 G (f.on o A) a' w' → next a' w') : wpOp P ops Q i next a w := by
  obtain ⟨loc, F, hsr, hF0, hmore, hdef, hsize, hval⟩ := h
  have skip : f = .skip → next (a.put o.dst undef) w := fun hf => by
    subst hf
    exact hnext _ _ ⟨loc, F, hsr, hF0, hmore, hG _ _ hdef, by rw [put_size, on_len]; exact hsize, rel_put hsize hval ⟨#[], rfl, trivial⟩⟩
  have did : (∃ v u, f = .did v u) → o.wp P a w next Q := fun hf => by
    obtain ⟨v, u, rfl⟩ := hf
    refine op_goes hT hes hsr (fun x _ => val_evR hval _ x) (hr.run v u rfl) next Q fun cv w' loc' F' k1 k2 k3 k4 => ?_
    exact hnext _ _ ⟨loc', F', k1, fun b hb => k2.fro b (hF0 b hb), hmore.trans k3, hG _ _ hdef, by rw [put_size, on_len]; exact hsize, rel_put hsize (fun t => (hval t).ext k2) k4⟩
  unfold wpOp
  rw [ho]
  dsimp only
  have hg := hr.guard
  cases hgd : o.guard with
  | none =>
    rw [hgd] at hg
    have hw : Region.wanted o (yielded ops a.tmps) = true := by simp [Region.wanted, hgd]
    rw [if_pos hw]
    exact .inl (did hg)
  | some q =>
    obtain ⟨j, want⟩ := q
    rw [hgd] at hg
    obtain ⟨t, h1, _, ⟨b, h2, h4⟩ | ⟨l, h2, h4⟩⟩ := hg
    rotate_left
    · have hv := hval t
      rw [h2] at hv
      obtain ⟨vs, hv, _⟩ := hv
      have hy : yielded ops a.tmps j = none := by
        simp only [yielded, h1, Option.bind_some]
        rw [Array.getD_eq_getD_getElem?] at hv
        cases hc : a.tmps[t]? with
        | none => rfl
        | some c =>
          rw [hc] at hv
          simp only [Option.getD_some] at hv
          subst hv
          rfl
      have hw : Region.wanted o (yielded ops a.tmps) = false := by simp [Region.wanted, hgd, hy]
      rw [hw]
      exact skip h4
    have hlt : t < A.tmps.length := by
      by_cases hlt : t < A.tmps.length
      · exact hlt
      · rw [nth_big hlt] at h2; cases h2
    have hv := hval t
    rw [h2] at hv
    have hv : a.tmps.getD t undef = .bool b := hv
    have hy : yielded ops a.tmps j = some b := by
      have : a.tmps[t]? = some (.bool b) := by
        have hlt' : t < a.tmps.size := by rw [hsize]; exact hlt
        rw [Array.getElem?_eq_getElem hlt']
        rw [Array.getD_eq_getD_getElem?, Array.getElem?_eq_getElem hlt'] at hv
        simpa using hv
      simp [yielded, h1, this]
    have hw : Region.wanted o (yielded ops a.tmps) = (b == want) := by simp [Region.wanted, hgd, hy]
    rw [hw]
    by_cases e : b = want
    · rw [if_pos (by simpa using e)]
      rw [if_pos e] at h4
      exact .inl (did h4)
    · rw [if_neg (by simpa using e)]
      rw [if_neg e] at h4
      exact skip h4
theorem reg_ok {ops : Array Oper} {rid : Nat} {Q : Exit → Act → World → Prop} {K : St → Option ρ} {res : ρ} (hT : TOk P T) (hes : ∀ e ∈ es, EntryOk P e) : ∀ (os : List Oper) (i : Nat) (A : St) (a : Act) (w : World), (∀ o ∈ os, ∀ a cv, G a → G (a.put o.dst cv)) → (∀ k, os[k]? = ops[i + k]?) → regK T (callK es) ops rid os i A K = some res → RelA base S B w0 F0 G A a w →
    (∀ A' a' w', K A' = some res → RelA base S B w0 F0 G A' a' w' → Q .normal a' w') → wpOps P ops Q ((List.range os.length).map (i + ·)) a w
  | [], i, A, a, w, _, _, hk, h, hq => hq A a w hk h
  | o :: os, i, A, a, w, hG, hos, hk, h, hq => by
    rw [List.length_cons, List.range_succ_eq_map, List.map_cons, List.map_map, wpOps_cons, Nat.add_zero]
    simp only [regK] at hk
    obtain ⟨f, e, hk, hr⟩ := operK_rec hk
    refine rec_step hT hes hr (by have := hos 0; simpa using this.symm) (hG o (by simp)) h fun a' w' h' => ?_
    have := reg_ok (Q := Q) hT hes os (i + 1) (f.on o A) a' w' (fun o' ho' => hG o' (List.mem_cons_of_mem _ ho')) (fun k => by have := hos (k + 1); rw [show i + 1 + k = i + (k + 1) by omega]; simpa using this) hk h' hq
    have e : (fun x => i + 1 + x) = (fun x => i + x) ∘ Nat.succ := by funext x; simp; omega
    rw [e] at this
    exact this
theorem SR.congr {objs objs' : Upd} {loc : Loc} {F : Nat → Prop} {w : World} (h : SR base S B w0 objs loc F w) (he : ∀ s, look objs' s = look objs s) : SR base S B w0 objs' loc F w ∧ Ext B objs loc F w objs' loc F w := by
  have ext : Ext B objs loc F w objs' loc F w := ⟨fun _ h => h, fun _ _ => rfl, fun _ _ => rfl, Nat.le_refl _, fun s => by rw [he]; exact Nat.le_refl _, fun s j v o _ hj => ⟨v, o, by rw [he]; exact hj, Nat.le_refl _, fun _ => Compat.refl _ _⟩, fun _ _ _ _ _ _ _ _ _ _ => OKept.of_block fun _ _ => rfl⟩
  refine ⟨h.frame (Step.refl h) (fun s j v o hj => ?_) (fun s j v o s' j' v' o' b hj hj' => ?_) (fun s j v o b hj => ?_) h.fro, ext⟩
  · rw [he] at hj; exact (h.obs s j v o hj).ext ext fun _ _ => rfl
  · rw [he] at hj hj'; exact h.apart s j v o s' j' v' o' b hj hj'
  · rw [he] at hj; exact h.own s j v o b hj
theorem RelA.congr {A A' : St} {a : Act} {w : World} (h : RelA base S B w0 F0 G A a w) (hlen : A'.tmps.length = A.tmps.length) (he : ∀ l, Agree A' A l) : RelA base S B w0 F0 G A' a w := by
  obtain ⟨loc, F, hsr, hF0, hmore, hdef, hsize, hval⟩ := h
  obtain ⟨k1, k2⟩ := hsr.congr (objs' := A'.objs) fun s => (he _).2 s rfl
  exact ⟨loc, F, k1, hF0, hmore, hdef, by rw [hlen]; exact hsize, fun t => by rw [(he _).1 t rfl]; exact (hval t).ext k2⟩
end
end Go.Eng
end

section
namespace Go.Eng
variable [Names]
structure Tr (T : TT) (es : List Entry) (ops : Array Oper) (rid n : Nat) (As : Nat → St) (fs : Nat → Eff) (evs : Nat → Ev) (bef : Nat → Nat) : Prop where
  next : ∀ k o, ops[k]? = some o → k < n → As (k + 1) = (fs k).on o (As k)
  recd : ∀ k o, ops[k]? = some o → k < n → Rec T es ops rid k o (As k) (fs k) (evs k)
  free : ∀ j k, j < k → k < n → (bef k).testBit j = true ∨ Ev.free (evs j) (evs k) = true
  edge : ∀ k o, ops[k]? = some o → k < n → ∀ e ∈ o.after, Region.binds .any e = true → e.on < k
  bits : ∀ k o, ops[k]? = some o → k < n → ∀ j, (bef k).testBit j = true → ∃ e ∈ o.after, Region.binds .any e = true ∧ e.on < k ∧ (j = e.on ∨ (bef e.on).testBit j = true)
omit [Names] in
theorem edges_spec {i : Nat} {bs : List Nat} : ∀ {l : List Edge} {b : Nat}, edges i bs l = some b → (∀ e ∈ l, Region.binds .any e = true → e.on < i) ∧ ∀ j, b.testBit j = true → ∃ e ∈ l, Region.binds .any e = true ∧ e.on < i ∧ (j = e.on ∨ (nth 0 bs e.on).testBit j = true)
  | [], b, h => by simp [edges] at h; subst h; simp
  | e :: l, b, h => by
    simp only [edges] at h
    split at h
    · rename_i hb
      obtain ⟨h1, h2⟩ := edges_spec h
      refine ⟨fun e' he' hb' => ?_, fun j hj => ?_⟩
      · rcases List.mem_cons.1 he' with rfl | he'
        · rw [hb] at hb'; cases hb'
        · exact h1 e' he' hb'
      · obtain ⟨e', a, c⟩ := h2 j hj
        exact ⟨e', List.mem_cons_of_mem _ a, c⟩
    · rename_i hb
      split at h
      · rename_i b' hlt hr
        have hlt : e.on < i := by simpa using hlt
        injection h with h
        obtain ⟨h1, h2⟩ := edges_spec hr
        refine ⟨fun e' he' hb' => ?_, fun j hj => ?_⟩
        · rcases List.mem_cons.1 he' with rfl | he'
          · exact hlt
          · exact h1 e' he' hb'
        · rw [← h] at hj
          simp only [Nat.testBit_or, Bool.or_eq_true, Nat.testBit_two_pow, decide_eq_true_eq] at hj
          rcases hj with (hj | hj) | hj
          · exact ⟨e, by simp, hb, hlt, .inl hj.symm⟩
          · exact ⟨e, by simp, hb, hlt, .inr hj⟩
          · obtain ⟨e', a, c⟩ := h2 j hj
            exact ⟨e', List.mem_cons_of_mem _ a, c⟩
      · cases h
omit [Names] in
theorem clash_spec {bef : Nat} {e : Ev} : ∀ {l : List Ev}, clash bef e l = false → ∀ x ∈ l, bef.testBit x.i = true ∨ Ev.free x e = true
  | [], _, x, hx => by simp at hx
  | y :: l, h, x, hx => by
    simp only [clash] at h
    split at h
    · rename_i hy
      rcases List.mem_cons.1 hx with rfl | hx
      · simpa using hy
      · exact clash_spec h x hx
    · cases h
section
variable {T : TT} {es : List Entry} {ρ : Type}
omit [Names] in
theorem draw_run {ops : Array Oper} {rid : Nat} {K : St → Option ρ} {res : ρ} : ∀ (os : List Oper) (i : Nat) (bs : List Nat) (el : List Ev) (A : St), (∀ k, os[k]? = ops[i + k]?) → el.length = i → bs.length = i → (∀ k x, k < i → el[i - 1 - k]? = some x → x.i = k) →
    drawK T (callK es) ops rid os bs i el A K = some res → ∃ (As : Nat → St) (fs : Nat → Eff) (evs : Nat → Ev) (bef : Nat → Nat), As i = A ∧ (∀ k, k < i → el[i - 1 - k]? = some (evs k)) ∧ (∀ k, k < i → bs[k]? = some (bef k)) ∧ K (As (i + os.length)) = some res ∧
      (∀ k o, ops[k]? = some o → i ≤ k → k < i + os.length → As (k + 1) = (fs k).on o (As k) ∧ Rec T es ops rid k o (As k) (fs k) (evs k) ∧ (∀ j, j < k → (bef k).testBit j = true ∨ Ev.free (evs j) (evs k) = true) ∧
        ∃ bl : List Nat, (∀ m, m < k → nth 0 bl m = bef m) ∧ edges k bl o.after.toList = some (bef k))
  | [], i, bs, el, A, _, hel, hbs, _, hk => by
    refine ⟨fun _ => A, fun _ => .skip, fun k => (el[i - 1 - k]?).getD ⟨0, 0, 0⟩, fun k => (bs[k]?).getD 0, rfl, fun k hk => ?_, fun k hk => ?_, hk, fun k o _ h1 h2 => ?_⟩
    · dsimp only
      rw [List.getElem?_eq_getElem (by omega)]; rfl
    · dsimp only
      rw [List.getElem?_eq_getElem (by omega)]; rfl
    · simp at h2; omega
  | o :: os, i, bs, el, A, hos, hel, hbs, hnum, hk => by
    simp only [drawK] at hk
    split at hk
    · cases hk
    rename_i b hedge
    obtain ⟨f, e, hk, hrec⟩ := operK_rec hk
    split at hk
    · cases hk
    rename_i hclash
    obtain ⟨As, fs, evs, bef, h1, h2, h3, h4, h5⟩ := draw_run os (i + 1) (bs ++ [b]) (e :: el) (f.on o A) (fun k => by have := hos (k + 1); rw [show i + 1 + k = i + (k + 1) by omega]; simpa using this) (by simp [hel]) (by simp [hbs])
      (fun k x hk hx => by
        by_cases e' : k = i
        · subst e'
          rw [show k + 1 - 1 - k = 0 by omega] at hx
          simp only [List.getElem?_cons_zero, Option.some.injEq] at hx
          rw [← hx]
          exact hrec.num
        · rw [show i + 1 - 1 - k = (i - 1 - k) + 1 by omega, List.getElem?_cons_succ] at hx
          exact hnum k x (by omega) hx) hk
    have hei : evs i = e := by
      have := h2 i (by omega)
      rw [show i + 1 - 1 - i = 0 by omega] at this
      simpa using this.symm
    have hbi : bef i = b := by
      have := h3 i (by omega)
      rw [List.getElem?_append_right (by omega), hbs] at this
      simpa using this.symm
    have hevs : ∀ k, k < i → el[i - 1 - k]? = some (evs k) := fun k hk => by
      have := h2 k (by omega)
      rw [show i + 1 - 1 - k = (i - 1 - k) + 1 by omega, List.getElem?_cons_succ] at this
      exact this
    have hbef : ∀ k, k < i → bs[k]? = some (bef k) := fun k hk => by
      have := h3 k (by omega)
      rw [List.getElem?_append_left (by omega)] at this
      exact this
    refine ⟨fun k => if k = i then A else As k, fun k => if k = i then f else fs k, evs, bef, by simp, hevs, hbef, ?_, fun k o' ho' hle hlt => ?_⟩
    · dsimp only
      have hlen : i + (o :: os).length = i + 1 + os.length := by simp; omega
      rw [hlen, if_neg (by omega)]
      exact h4
    · by_cases hki : k = i
      · subst hki
        have ho : o' = o := by
          have := hos 0
          simp only [List.getElem?_cons_zero, Nat.add_zero] at this
          rw [← this] at ho'
          simpa using ho'.symm
        subst ho
        refine ⟨?_, ?_, fun j hj => ?_, bs, fun m hm => ?_, ?_⟩
        · dsimp only
          rw [if_neg (by omega), if_pos rfl, if_pos rfl]; exact h1
        · dsimp only
          rw [if_pos rfl, if_pos rfl, hei]; exact hrec
        · rw [hei, hbi]
          have hx := hevs j hj
          have := clash_spec hclash (evs j) (List.mem_of_getElem? hx)
          rw [hnum j _ hj hx] at this
          exact this
        · rw [nth_eq, hbef m hm]; rfl
        · rw [hbi]; exact hedge
      · dsimp only
        rw [if_neg (by omega), if_neg hki, if_neg hki]
        exact h5 k o' ho' (by omega) (by simp at hlt; omega)
omit [Names] in
theorem draw_tr {ops : Array Oper} {rid : Nat} {K : St → Option ρ} {res : ρ} {A : St} (hk : drawK T (callK es) ops rid ops.toList [] 0 [] A K = some res) : ∃ (As : Nat → St) (fs : Nat → Eff) (evs : Nat → Ev) (bef : Nat → Nat), As 0 = A ∧ K (As ops.size) = some res ∧ Tr T es ops rid ops.size As fs evs bef := by
  obtain ⟨As, fs, evs, bef, h1, _, _, h4, h5⟩ := draw_run ops.toList 0 [] [] A (fun k => by rw [Nat.zero_add]; simp) rfl rfl (fun k x hk => by omega) hk
  rw [Nat.zero_add, Array.length_toList] at h4
  have h5' : ∀ k o, ops[k]? = some o → k < ops.size → _ := fun k o ho hlt => h5 k o ho (Nat.zero_le _) (by rw [Nat.zero_add, Array.length_toList]; exact hlt)
  refine ⟨As, fs, evs, bef, h1, h4, fun k o ho hlt => (h5' k o ho hlt).1, fun k o ho hlt => (h5' k o ho hlt).2.1, fun j k hj hlt => ?_, fun k o ho hlt => ?_, fun k o ho hlt j hj => ?_⟩
  · exact (h5' k ops[k] (by simp [hlt]) hlt).2.2.1 j hj
  · obtain ⟨bl, _, h⟩ := (h5' k o ho hlt).2.2.2
    exact fun e he => (edges_spec h).1 e (by simpa using he)
  · obtain ⟨bl, hbl, h⟩ := (h5' k o ho hlt).2.2.2
    obtain ⟨e, he, hb, hlt', hj⟩ := (edges_spec h).2 j hj
    refine ⟨e, by simpa using he, hb, hlt', hj.imp id fun hj => ?_⟩
    rw [hbl e.on hlt'] at hj
    exact hj
omit [Names] in
theorem free_spec {a b : Ev} (h : Ev.free a b = true) (l : Nat) : ¬ (a.w.testBit l = true ∧ b.r.testBit l = true) ∧ ¬ (a.w.testBit l = true ∧ b.w.testBit l = true) ∧ ¬ (a.r.testBit l = true ∧ b.w.testBit l = true) := by
  unfold Ev.free at h
  have h := beq_true.1 h
  have hl : ((a.w &&& (b.r ||| b.w)) ||| (a.r &&& b.w)).testBit l = false := by rw [h]; simp
  simp only [Nat.testBit_or, Nat.testBit_and] at hl
  refine ⟨?_, ?_, ?_⟩ <;> rintro ⟨h1, h2⟩ <;> simp [h1, h2] at hl
variable {ops : Array Oper} {rid n : Nat} {As : Nat → St} {fs : Nat → Eff} {evs : Nat → Ev} {bef : Nat → Nat}
omit [Names] in
theorem Tr.char (t : Tr T es ops rid ops.size As fs evs bef) (l : Nat) : ∀ i, i ≤ ops.size → (∃ k, k < i ∧ (evs k).w.testBit l = true ∧ (∀ k', k < k' → k' < i → (evs k').w.testBit l = false) ∧ Agree (As i) (As (k + 1)) l) ∨ ((∀ k, k < i → (evs k).w.testBit l = false) ∧ Agree (As i) (As 0) l)
  | 0, _ => .inr ⟨fun k hk => by omega, Agree.refl _ _⟩
  | i + 1, hi => by
    have ho : ops[i]? = some ops[i] := by simp
    cases hw : (evs i).w.testBit l with
    | true => exact .inl ⟨i, by omega, hw, fun k' h1 h2 => by omega, Agree.refl _ _⟩
    | false =>
      have hkept : Agree (As (i + 1)) (As i) l := by
        rw [t.next i _ ho (by omega)]
        exact (t.recd i _ ho (by omega)).kept hw
      rcases Tr.char t l i (by omega) with ⟨k, h1, h2, h3, h4⟩ | ⟨h1, h2⟩
      · refine .inl ⟨k, by omega, h2, fun k' hk' hlt => ?_, hkept.trans h4⟩
        by_cases e : k' = i
        · subst e; exact hw
        · exact h3 k' hk' (by omega)
      · refine .inr ⟨fun k hk => ?_, hkept.trans h2⟩
        by_cases e : k = i
        · subst e; exact hw
        · exact h1 k (by omega)
def Inv (n : Nat) (As : Nat → St) (evs : Nat → Ev) (D : Nat → Prop) (A : St) : Prop :=
  A.tmps.length = (As 0).tmps.length ∧ ∀ l, (∃ k, k < n ∧ D k ∧ (evs k).w.testBit l = true ∧ (∀ k', k < k' → k' < n → D k' → (evs k').w.testBit l = false) ∧ Agree A (As (k + 1)) l) ∨ ((∀ k, k < n → D k → (evs k).w.testBit l = false) ∧ Agree A (As 0) l)
omit [Names] in
theorem Tr.same (t : Tr T es ops rid ops.size As fs evs bef) {D : Nat → Prop} {A : St} (h : Inv ops.size As evs D A) {i l : Nat} (hi : i ≤ ops.size) (hD : ∀ k, k < ops.size → (evs k).w.testBit l = true → (D k ↔ k < i)) : Agree A (As i) l := by
  rcases h.2 l with ⟨k, h1, h2, h3, h4, h5⟩ | ⟨h1, h2⟩
  · have hki := (hD k h1 h3).1 h2
    rcases t.char l i hi with ⟨k2, g1, g2, g3, g4⟩ | ⟨g1, _⟩
    · have : k = k2 := by
        rcases Nat.lt_trichotomy k k2 with hlt | rfl | hlt
        · have := h4 k2 hlt (by omega) ((hD k2 (by omega) g2).2 g1)
          rw [g2] at this; cases this
        · rfl
        · have := g3 k hlt hki
          rw [h3] at this; cases this
      subst this
      exact h5.trans g4.symm
    · have := g1 k hki
      rw [h3] at this; cases this
  · rcases t.char l i hi with ⟨k2, g1, g2, g3, g4⟩ | ⟨_, g2⟩
    · have := h1 k2 (by omega) ((hD k2 (by omega) g2).2 g1)
      rw [g2] at this; cases this
    · exact h2.trans g2.symm
def Closed (ops : Array Oper) (D : Nat → Prop) : Prop := ∀ k o, ops[k]? = some o → D k → ∀ e ∈ o.after, Region.binds .any e = true → D e.on
omit [Names] in
theorem Tr.closure (t : Tr T es ops rid ops.size As fs evs bef) {D : Nat → Prop} (hD : Closed ops D) : ∀ k, k < ops.size → D k → ∀ j, (bef k).testBit j = true → D j := by
  intro k
  induction k using Nat.strongRecOn with
  | _ k ih =>
    intro hk hDk j hj
    have ho : ops[k]? = some ops[k] := by simp [hk]
    obtain ⟨e, he, hb, hlt, hj⟩ := t.bits k _ ho hk j hj
    have hDe := hD k _ ho hDk e he hb
    rcases hj with rfl | hj
    · exact hDe
    · exact ih e.on hlt (by omega) hDe j hj
omit [Names] in
theorem Tr.before (t : Tr T es ops rid ops.size As fs evs bef) {D : Nat → Prop} (hD : Closed ops D) {i : Nat} {o : Oper} (ho : ops[i]? = some o) (hi : i < ops.size) (hr : ∀ e ∈ o.after, Region.binds .any e = true → D e.on) : ∀ j, (bef i).testBit j = true → D j := by
  intro j hj
  obtain ⟨e, he, hb, hlt, hj⟩ := t.bits i o ho hi j hj
  rcases hj with rfl | hj
  · exact hr e he hb
  · exact t.closure hD e.on (by omega) (hr e he hb) j hj
omit [Names] in
theorem Tr.step (t : Tr T es ops rid ops.size As fs evs bef) {D : Nat → Prop} (hD : Closed ops D) {A : St} (h : Inv ops.size As evs D A) {i : Nat} {o : Oper} (ho : ops[i]? = some o) (hi : i < ops.size) (hn : ¬ D i) (hr : ∀ e ∈ o.after, Region.binds .any e = true → D e.on) :
    Rec T es ops rid i o A (fs i) (evs i) ∧ Inv ops.size As evs (fun k => D k ∨ k = i) ((fs i).on o A) := by
  have hrec := t.recd i o ho hi
  have hbef := t.before hD ho hi hr
  have hlen : ∀ k, k ≤ ops.size → (As k).tmps.length = (As 0).tmps.length := by
    intro k
    induction k with
    | zero => intro _; rfl
    | succ k ih =>
      intro hk
      have hok : ops[k]? = some ops[k] := by simp
      rw [t.next k _ hok (by omega), on_len]
      exact ih (by omega)
  have hli : A.tmps.length = (As i).tmps.length := h.1.trans (hlen i (by omega)).symm
  -- a place that the operation touches
  have up : ∀ l, (evs i).w.testBit l = true → ∀ k, k < ops.size → i < k → (evs k).w.testBit l = true → ¬ D k := fun l hl k hk hik hw hDk => by
    rcases t.free i k hik hk with hb | hf
    · exact hn (t.closure hD k hk hDk i hb)
    · exact (free_spec hf l).2.1 ⟨hl, hw⟩
  have reads : ∀ l, (evs i).r.testBit l = true → Agree A (As i) l := fun l hl => t.same h (by omega) fun k hk hw => by
    constructor
    · intro hDk
      rcases Nat.lt_trichotomy k i with hlt | rfl | hlt
      · exact hlt
      · exact absurd hDk hn
      · exfalso
        rcases t.free i k hlt hk with hb | hf
        · exact hn (t.closure hD k hk hDk i hb)
        · exact (free_spec hf l).2.2 ⟨hl, hw⟩
    · intro hlt
      rcases t.free k i hlt hi with hb | hf
      · exact hbef k hb
      · exact absurd ⟨hw, hl⟩ (free_spec hf l).1
  refine ⟨hrec.congr hli reads, ?_, fun l => ?_⟩
  · rw [on_len]; exact h.1
  · cases hw : (evs i).w.testBit l with
    | true =>
      refine .inl ⟨i, hi, .inr rfl, hw, fun k' hk' hlt hDk' => ?_, ?_⟩
      · rcases hDk' with hDk' | rfl
        · cases hw' : (evs k').w.testBit l with
          | false => rfl
          | true => exact absurd hDk' (up l hw k' hlt hk' hw')
        · omega
      · rw [t.next i o ho hi]
        exact hrec.wrote hli hw
    | false =>
      have hk := hrec.kept (A' := A) hw
      rcases h.2 l with ⟨k, h1, h2, h3, h4, h5⟩ | ⟨h1, h2⟩
      · refine .inl ⟨k, h1, .inl h2, h3, fun k' hk' hlt hDk' => ?_, hk.trans h5⟩
        rcases hDk' with hDk' | rfl
        · exact h4 k' hk' hlt hDk'
        · exact hw
      · refine .inr ⟨fun k hk' hDk' => ?_, hk.trans h2⟩
        rcases hDk' with hDk' | rfl
        · exact h1 k hk' hDk'
        · exact hw
end
end Go.Eng
end

section
namespace Go.Eng
variable [Names]
section
variable {P : Program} {T : TT} {es : List Entry} {base : Nat} {S : List Nat} {B F0 : Nat → Prop} {G : Act → Prop} {w0 : World} {ρ : Type}
variable {ops : Array Oper} {rid : Nat} {As : Nat → St} {fs : Nat → Eff} {evs : Nat → Ev} {bef : Nat → Nat}
def On (listed : Array Bool) (k : Nat) : Prop := listed.getD k false = true
omit [Names] in
theorem on_set {listed : Array Bool} {i k : Nat} (hi : i < listed.size) : On (listed.setIfInBounds i true) k ↔ On listed k ∨ k = i := by
  unfold On
  by_cases e : i = k
  · subst e
    simp [hi]
  · simp only [Array.getD_eq_getD_getElem?, Array.getElem?_setIfInBounds_ne e]
    constructor
    · exact .inl
    · rintro (h | h)
      · exact h
      · exact absurd h.symm e
omit [Names] in
theorem off_of {listed : Array Bool} {i : Nat} (h : listed.getD i true = false) : i < listed.size ∧ ¬ On listed i := by
  by_cases hi : i < listed.size
  · refine ⟨hi, fun ho => ?_⟩
    unfold On at ho
    simp only [Array.getD_eq_getD_getElem?, Array.getElem?_eq_getElem hi, Option.getD_some] at h ho
    rw [h] at ho
    cases ho
  · simp [Array.getElem?_eq_none (Nat.le_of_not_lt hi)] at h
omit [Names] in
theorem off_iff' {listed : Array Bool} {i : Nat} (hi : i < listed.size) (h : ¬ On listed i) : listed.getD i true = false := by
  unfold On at h
  simp only [Array.getD_eq_getD_getElem?, Array.getElem?_eq_getElem hi, Option.getD_some] at h ⊢
  simpa using h
omit [Names] in
theorem count_set : ∀ {l : List Bool} {i : Nat}, l[i]? = some false → (l.set i true).countP (fun b => !b) + 1 = l.countP (fun b => !b)
  | b :: l, 0, h => by
    simp only [List.getElem?_cons_zero, Option.some.injEq] at h
    subst h
    simp
  | b :: l, i + 1, h => by
    have := count_set (l := l) (i := i) (by simpa using h)
    simp only [List.set_cons_succ, List.countP_cons]
    omega
  | [], _, h => by simp at h
omit [Names] in
theorem Inv.iff {n : Nat} {D D' : Nat → Prop} {A : St} (h : Inv n As evs D A) (hD : ∀ k, D k ↔ D' k) : Inv n As evs D' A := by
  have : D = D' := funext fun k => propext (hD k)
  rw [← this]; exact h
theorem draw_ok {Q : Exit → Act → World → Prop} (hT : TOk P T) (hes : ∀ e ∈ es, EntryOk P e) (hG : ∀ o ∈ ops, ∀ a cv, G a → G (a.put o.dst cv)) (t : Tr T es ops rid ops.size As fs evs bef) (hq : ∀ a w, RelA base S B w0 F0 G (As ops.size) a w → Q .normal a w) : ∀ (fuel : Nat) (listed : Array Bool) (A : St) (a : Act) (w : World),
    listed.size = ops.size → listed.toList.countP (fun b => !b) = fuel → Closed ops (On listed) → Inv ops.size As evs (On listed) A → RelA base S B w0 F0 G A a w → wpAny P .any ops Q fuel listed a w := by
  have all : ∀ (listed : Array Bool), listed.size = ops.size → Region.ready .any ops listed = [] → ∀ k, k < ops.size → On listed k := by
    intro listed hsz hr k
    induction k using Nat.strongRecOn with
    | _ k ih =>
      intro hk
      by_cases hoff : On listed k
      · exact hoff
      · have ho : ops[k]? = some ops[k] := by simp [hk]
        have : k ∈ Region.ready .any ops listed := mem_ready.2 ⟨off_iff' (by omega) hoff, ops[k], ho, fun e he hb => ih e.on (t.edge k _ ho hk e he hb) (by have := t.edge k _ ho hk e he hb; omega)⟩
        rw [hr] at this
        cases this
  have fin : ∀ (listed : Array Bool) (A : St) (a : Act) (w : World), (∀ k, k < ops.size → On listed k) → Inv ops.size As evs (On listed) A → RelA base S B w0 F0 G A a w → Q .normal a w := by
    intro listed A a w hall hinv hrel
    have hag : ∀ l, Agree A (As ops.size) l := fun l => t.same hinv (Nat.le_refl _) fun k hk _ => ⟨fun _ => hk, fun _ => hall k hk⟩
    have hlen : ∀ k, k ≤ ops.size → (As k).tmps.length = (As 0).tmps.length := by
      intro k
      induction k with
      | zero => intro _; rfl
      | succ k ih =>
        intro hk
        have hok : ops[k]? = some ops[k] := by simp
        rw [t.next k _ hok (by omega), on_len]
        exact ih (by omega)
    exact hq a w (hrel.congr ((hlen _ (Nat.le_refl _)).trans hinv.1.symm) fun l => (hag l).symm)
  intro fuel
  induction fuel with
  | zero =>
    intro listed A a w hsz hc _ hinv hrel
    have hall : ∀ k, k < ops.size → On listed k := fun k hk => by
      by_cases hon : On listed k
      · exact hon
      · have hoff := off_iff' (by omega) hon
        have hmem : false ∈ listed.toList := by
          have hk' : k < listed.size := by omega
          simp only [Array.getD_eq_getD_getElem?, Array.getElem?_eq_getElem hk', Option.getD_some] at hoff
          rw [← hoff]
          simp
        have := List.countP_eq_zero.1 hc false hmem
        simp at this
    refine ⟨?_, fin listed A a w hall hinv hrel⟩
    cases hr : Region.ready .any ops listed with
    | nil => rfl
    | cons i l =>
      have : i ∈ Region.ready .any ops listed := by rw [hr]; simp
      obtain ⟨h1, _⟩ := mem_ready.1 this
      obtain ⟨h2, h3⟩ := off_of h1
      exact absurd (hall i (by omega)) h3
  | succ fuel ih =>
    intro listed A a w hsz hc hcl hinv hrel
    refine ⟨fun hr => fin listed A a w (all listed hsz hr) hinv hrel, fun i hi => ?_⟩
    obtain ⟨h1, o, ho, h2⟩ := mem_ready.1 hi
    obtain ⟨h3, h4⟩ := off_of h1
    obtain ⟨k1, k2⟩ := t.step hcl hinv ho (by omega) h4 h2
    refine rec_step hT hes k1 ho (hG o (Array.mem_of_getElem? ho)) hrel fun a' w' hrel' => ih _ _ a' w' (by simp [hsz]) ?_ ?_ (k2.iff fun k => (on_set h3).symm) hrel'
    · have := count_set (l := listed.toList) (i := i) (by
        simp only [Array.getD_eq_getD_getElem?, Array.getElem?_eq_getElem h3, Option.getD_some] at h1
        simp [h3, h1])
      rw [Array.toList_setIfInBounds]
      omega
    · intro k o' ho' hk e he hb
      rw [on_set h3] at hk ⊢
      rcases hk with hk | rfl
      · exact .inl (hcl k o' ho' hk e he hb)
      · rw [ho] at ho'
        cases ho'
        exact .inl (h2 e he hb)
theorem region_draw {K : St → Option ρ} {res : ρ} {Q : Exit → Act → World → Prop} {A : St} {a : Act} {w : World} (hT : TOk P T) (hes : ∀ e ∈ es, EntryOk P e) (hG : ∀ o ∈ ops, ∀ a cv, G a → G (a.put o.dst cv)) (hm : P.follows .mixedOrders = true)
    (hk : drawK T (callK es) ops rid ops.toList [] 0 [] A K = some res) (h : RelA base S B w0 F0 G A a w) (hq : ∀ A' a' w', K A' = some res → RelA base S B w0 F0 G A' a' w' → Q .normal a' w') : (Code.region rid ops true).wp P Q a w := by
  obtain ⟨As, fs, evs, bef, h1, h2, t⟩ := draw_tr hk
  have hrel : RelA base S B w0 F0 G A a { w with drawn := w.drawn + 1 } := by
    obtain ⟨loc, F, hsr, hF0, hmore, hdef, hsize, hval⟩ := h
    have ext : Ext B A.objs loc F w A.objs loc F { w with drawn := w.drawn + 1 } := ⟨fun _ h => h, fun _ _ => rfl, fun _ _ => rfl, Nat.le_refl _, fun _ => Nat.le_refl _, fun _ _ v o _ h => ⟨v, o, h, Nat.le_refl _, fun _ => Compat.refl _ _⟩, fun _ _ _ _ _ _ _ _ _ _ => OKept.of_block fun _ _ => rfl⟩
    refine ⟨loc, F, ⟨fun s j v o hj => (hsr.obs s j v o hj).ext ext fun _ _ => rfl, hsr.apart, hsr.own, hsr.fro, hsr.bor, hsr.os, hsr.tape, hsr.output, hsr.size, hsr.block, hsr.tab, hsr.gen0⟩, hF0, hmore, hdef, hsize, fun t => (hval t).ext ext⟩
  refine wp_region_any hm (draw_ok hT hes hG t (fun a' w' hr => hq _ a' w' h2 hr) ops.size (Array.replicate ops.size false) A a _ (by simp) ?_ ?_ ?_ hrel)
  · simp [List.countP_replicate]
  · intro k o _ hk
    unfold On at hk
    by_cases hlt : k < ops.size
    · simp [hlt] at hk
    · simp [hlt] at hk
  · refine ⟨by rw [h1], fun l => .inr ⟨fun k hk hD => ?_, by rw [h1]; exact Agree.refl _ _⟩⟩
    unfold On at hD
    simp [hk] at hD
theorem region_plain {K : St → Option ρ} {res : ρ} {Q : Exit → Act → World → Prop} {A : St} {a : Act} {w : World} (hT : TOk P T) (hes : ∀ e ∈ es, EntryOk P e) (hG : ∀ o ∈ ops, ∀ a cv, G a → G (a.put o.dst cv))
    (hk : regK T (callK es) ops rid ops.toList 0 A K = some res) (h : RelA base S B w0 F0 G A a w) (hq : ∀ A' a' w', K A' = some res → RelA base S B w0 F0 G A' a' w' → Q .normal a' w') : (Code.region rid ops false).wp P Q a w := by
  refine wp_region ?_
  have := reg_ok (Q := Q) hT hes ops.toList 0 A a w (fun o ho => hG o (by simpa using ho)) (fun k => by rw [Nat.zero_add]; simp) hk h hq
  simpa using this
end
end Go.Eng
end

section
namespace Go.Eng
variable [Names]
section
variable {ρ : Type}
omit [Names] in
theorem forceNat_eq (n : Nat) (K : Nat → Option ρ) : forceNat n K = K n := by cases n <;> rfl
omit [Names] in
theorem forceRef_eq (r : Ref) (K : Ref → Option ρ) : forceRef r K = K r := by
  obtain ⟨s, j, g, v⟩ := r
  simp only [forceRef, forceNat_eq]
omit [Names] in
theorem forceLeaf_eq (a : AV) (K : AV → Option ρ) : forceLeaf a K = K a := by
  cases a <;> simp only [forceLeaf, forceRef_eq, forceNat_eq]
omit [Names] in
theorem forceLeafs_eq : ∀ (vs : List AV) (K : List AV → Option ρ), forceLeafs vs K = K vs
  | [], _ => rfl
  | v :: vs, K => by simp only [forceLeafs, forceLeaf_eq, forceLeafs_eq vs]
omit [Names] in
theorem forceAV_eq (a : AV) (K : AV → Option ρ) : forceAV a K = K a := by
  cases a <;> simp only [forceAV, forceLeaf_eq, forceLeafs_eq]
omit [Names] in
theorem forceAVs_eq : ∀ (vs : List AV) (K : List AV → Option ρ), forceAVs vs K = K vs
  | [], _ => rfl
  | v :: vs, K => by simp only [forceAVs, forceAV_eq, forceAVs_eq vs]
omit [Names] in
theorem forceOb_eq (o : Ob) (K : Ob → Option ρ) : forceOb o K = K o := by
  cases o <;> simp only [forceOb, forceLeafs_eq]
omit [Names] in
theorem forceObs_eq : ∀ (os : List (Nat × Ob)) (K : List (Nat × Ob) → Option ρ), forceObs os K = K os
  | [], _ => rfl
  | (n, o) :: r, K => by simp only [forceObs, forceNat_eq, forceOb_eq, forceObs_eq r]
omit [Names] in
theorem forceUpd_eq : ∀ (u : Upd) (K : Upd → Option ρ), forceUpd u K = K u
  | [], _ => rfl
  | (s, ⟨g, os⟩) :: r, K => by simp only [forceUpd, forceNat_eq, forceObs_eq, forceUpd_eq r]
omit [Names] in
theorem forceSt_eq (A : St) (K : St → Option ρ) : forceSt A K = K A := by
  obtain ⟨ts, u⟩ := A
  simp only [forceSt, forceAVs_eq, forceUpd_eq]
end
def CodeKeeps (G : Act → Prop) : Code → Prop
  | .region _ ops _ => ∀ o ∈ ops, ∀ a cv, G a → G (a.put o.dst cv)
  | .seq x y => CodeKeeps G x ∧ CodeKeeps G y
  | .cond _ x y => CodeKeeps G x ∧ CodeKeeps G y
  | .block _ c => CodeKeeps G c
  | .loop c => CodeKeeps G c
  | _ => True
section
variable {P : Program} {base : Nat} {S : List Nat} {B F0 : Nat → Prop} {G : Act → Prop} {w0 : World} {ρ : Type}
omit [Names] in
theorem setAll_len : ∀ (ss : List Nat) (ts vs : List AV), (setAll ts ss vs).length = ts.length
  | [], _, _ => by simp [setAll]
  | _ :: _, _, [] => by simp [setAll]
  | s :: ss, ts, v :: vs => by rw [setAll, setAll_len ss, setNth_eq, List.length_set]
theorem setAll_val {objs : Upd} {loc : Loc} {F B : Nat → Prop} {w : World} {f : Nat → Value} : ∀ (ss : List Nat) (ts avs : List AV), (∀ t, Val objs loc F B w (nth .dead ts t) (f t)) → Vals objs loc F B w avs (ss.map f) → ∀ t, Val objs loc F B w (nth .dead (setAll ts ss avs) t) (f t)
  | [], _, _, h, _ => by simpa [setAll] using h
  | _ :: _, _, [], _, hv => hv.elim
  | s :: ss, ts, av :: avs, h, hv => by
    rw [setAll]
    refine setAll_val ss _ avs (fun t => ?_) hv.2
    rw [setNth_eq, nth_eq]
    by_cases e : s = t
    · subst e
      by_cases hl : s < ts.length
      · rw [List.getElem?_set_self hl]; exact hv.1
      · rw [List.getElem?_eq_none (by rw [List.length_set]; exact Nat.le_of_not_lt hl)]; trivial
    · rw [List.getElem?_set_ne e, ← nth_eq]; exact h t
theorem Vals.of_nat {objs : Upd} {loc : Loc} {F B : Nat → Prop} {w : World} {g : Nat → AV} {f : Nat → Value} (h : ∀ t, Val objs loc F B w (g t) (f t)) : ∀ (ss : List Nat), Vals objs loc F B w (ss.map g) (ss.map f)
  | [] => trivial
  | s :: ss => ⟨h s, Vals.of_nat h ss⟩
theorem rel_unpack {c : Cut} {x : c.p.den} {n : Nat} {a : Act} {w : World} {F : Nat → Prop} (hok : c.p.ok = true) (h : Holds base S B w0 F w c.p x (c.slots.map fun t => a.tmps.getD t undef)) (hF0 : ∀ b, F0 b → F b) (hmore : More base S F0 F) (hG : G a) (hn : a.tmps.size = n) :
    RelA base S B w0 F0 G (c.unpack n x) a w := by
  obtain ⟨loc, h1, h2⟩ := unpack_sr n hok h
  refine ⟨loc, F, h1, hF0, hmore, hG, ?_, ?_⟩
  · show _ = (setAll (List.replicate n .dead) c.slots _).length
    rw [setAll_len, List.length_replicate]; exact hn
  · refine setAll_val (f := fun t => a.tmps.getD t undef) c.slots _ _ (fun t => ?_) h2
    have : nth AV.dead (List.replicate n .dead) t = .dead := by
      rw [nth_eq]
      cases hr : (List.replicate n AV.dead)[t]? with
      | none => rfl
      | some v => have := List.mem_of_getElem? hr; simp at this; simp [this.2]
    rw [this]; trivial
theorem cut_ok {c : Cut} {n : Nat} {K : c.p.den → Option ρ} {res : ρ} {A : St} {a : Act} {w : World} (hok : c.p.ok = true) (hn : ∀ a, G a → a.tmps.size = n) (h : RelA base S B w0 F0 G A a w) (hk : c.pack A K = some res) : ∃ x, K x = some res ∧ RelA base S B w0 F0 G (c.unpack n x) a w := by
  obtain ⟨loc, F, hsr, hF0, hmore, hG, hsize, hval⟩ := h
  obtain ⟨x, F', h1, h2, h3, h4⟩ := pack_holds hsr hk (Vals.of_nat hval c.slots)
  exact ⟨x, h1, rel_unpack hok h2 (fun b hb => h3 b (hF0 b hb)) (hmore.trans h4) hG (hn a hG)⟩
omit [Names] in
theorem wp_loop_fuel {c : Code} {Q : Exit → Act → World → Prop} (I : Nat → Act → World → Prop) (h0 : ∀ a w, ¬ I 0 a w) (round : ∀ n a w, I (n + 1) a w → c.wp P (Exit.then (fun a' w' => I n a' w') Q) a w) {n : Nat} {a : Act} {w : World} (h : I n a w) : (Code.loop c).wp P Q a w := by
  intro b k cs
  have key : ∀ n a w, I n a w → ∃ e a' w', Q e a' w' ∧ Arrives P (lone (b.at a (.code c :: .inLoop c :: k)) cs w) b k cs e a' w' := by
    intro n
    induction n with
    | zero => intro a w h; exact absurd h (h0 a w)
    | succ n ih =>
      intro a w hI
      obtain ⟨e, a₁, w₁, hq, harr⟩ := round n a w hI b (.inLoop c :: k) cs
      cases e with
      | normal =>
        obtain ⟨e₂, a₂, w₂, hq₂, harr₂⟩ := ih a₁ w₁ hq
        exact ⟨e₂, a₂, w₂, hq₂, .of_steps (Steps.trans harr (.one step_inLoop)) harr₂⟩
      | exit id => exact ⟨_, a₁, w₁, hq, .pass (x := .inLoop c) rfl (fun _ _ => .inl (by simp)) harr⟩
      | goto l => exact ⟨_, a₁, w₁, hq, .pass (x := .inLoop c) rfl (fun _ _ => .inl (by simp)) harr⟩
      | ret => exact ⟨_, a₁, w₁, hq, .pass (x := .inLoop c) rfl (fun _ _ => .inl (by simp)) harr⟩
      | panic ch => exact ⟨_, a₁, w₁, hq, .pass (x := .inLoop c) rfl (fun _ _ => .inl (by simp)) harr⟩
      | outgrown => exact ⟨_, a₁, w₁, hq, .pass (x := .inLoop c) rfl (fun _ _ => .inl (by simp)) harr⟩
  obtain ⟨e, a', w', hq, harr⟩ := key n a w h
  exact ⟨e, a', w', hq, .of_steps (.one step_loop) harr⟩
def Ex.to : Ex → Exit
  | .normal => .normal
  | .exit id => .exit id
structure CtxOk (P : Program) (C : Ctx) (G : Act → Prop) : Prop where
  hT : TOk P C.T
  hes : ∀ e ∈ C.es, EntryOk P e
  hm : P.follows .mixedOrders = true
  cuts : ∀ q ∈ C.loops, q.2.1.p.ok = true ∧ q.2.2.p.ok = true
  num : ∀ a, G a → a.tmps.size = C.n
omit [Names] in
theorem findCut_ok {id : Nat} {c : Cut × Cut} : ∀ {l : List (Nat × Cut × Cut)}, findCut id l = some c → ∃ q ∈ l, q.2 = c
  | [], h => by simp [findCut] at h
  | (i, c') :: l, h => by
    simp only [findCut] at h
    split at h
    · injection h with h
      exact ⟨(i, c'), by simp, h⟩
    · obtain ⟨q, h1, h2⟩ := findCut_ok h
      exact ⟨q, List.mem_cons_of_mem _ h1, h2⟩
def CodeOk (P : Program) (base : Nat) (S : List Nat) (B : Nat → Prop) (w0 : World) (F0 : Nat → Prop) (G : Act → Prop) (C : Ctx) (c : Code) : Prop :=
  CodeKeeps G c → ∀ (A : St) (K : Ex → St → Option C.R) (res : C.R) (Q : Exit → Act → World → Prop) (a : Act) (w : World), evC C c A K = some res → RelA base S B w0 F0 G A a w →
    (∀ e A' a' w', K e A' = some res → RelA base S B w0 F0 G A' a' w' → Q e.to a' w') → (∀ A' a' w', C.fin A' = some res → RelA base S B w0 F0 G A' a' w' → Q .ret a' w') → c.wp P Q a w
theorem loop_ok {C : Ctx} (hC : CtxOk P C G) {id : Nat} {body : Code} (ih : CodeOk P base S B w0 F0 G C body) : CodeOk P base S B w0 F0 G C (.block id (.loop body)) := by
  intro hkeep A K res Q a w hk h hK hfin
  simp only [evC] at hk
  split at hk
  · refine wp_block (wp_loop_fuel (fun n a w => ∃ A, RelA base S B w0 F0 G A a w ∧ whileK (fun rec A => evC C body A fun e A' => match e with
        | .normal => rec A'
        | .exit i => match Nat.beq i id with
          | true => K .normal A'
          | false => none) n A = some res) (fun a w hh => by obtain ⟨y, _, hh⟩ := hh; simp [whileK] at hh) (fun n a w hh => ?_) (n := 3) ⟨A, h, hk⟩)
    obtain ⟨y, hr, hh⟩ := hh
    simp only [whileK] at hh
    refine ih hkeep _ _ res _ a w hh hr (fun e A' a' w' he hr' => ?_) (fun A' a' w' hf hr' => hfin A' a' w' hf hr')
    cases e with
    | normal => exact ⟨A', hr', he⟩
    | exit i =>
      dsimp only at he
      split at he
      · rename_i hi
        show (if i = id then Q .normal a' w' else Q (.exit i) a' w')
        rw [if_pos (beq_true.1 hi)]
        exact hK .normal _ a' w' he hr'
      · cases he
  rename_i c c' hfind
  obtain ⟨q, hq, hqe⟩ := findCut_ok hfind
  have hcuts := hC.cuts q hq
  rw [hqe] at hcuts
  obtain ⟨x, hk, hrel⟩ := cut_ok hcuts.1 hC.num h hk
  refine wp_block ?_
  refine wp_loop_fuel (fun n a w => ∃ y, RelA base S B w0 F0 G (c.unpack C.n y) a w ∧ whileK (fun rec y => evC C body (c.unpack C.n y) fun e A' => match e with
        | .normal => c.pack A' rec
        | .exit i => match Nat.beq i id with
          | true => c'.pack A' fun z => K .normal (c'.unpack C.n z)
          | false => none) n y = some res) (fun a w hh => by obtain ⟨y, _, hh⟩ := hh; simp [whileK] at hh) (fun n a w hh => ?_) (n := C.k) ⟨x, hrel, hk⟩
  obtain ⟨y, hr, hh⟩ := hh
  simp only [whileK] at hh
  refine ih hkeep _ _ res _ a w hh hr (fun e A' a' w' he hr' => ?_) (fun A' a' w' hf hr' => hfin A' a' w' hf hr')
  cases e with
  | normal =>
    obtain ⟨y', hy', hr''⟩ := cut_ok hcuts.1 hC.num hr' he
    exact ⟨y', hr'', hy'⟩
  | exit i =>
    dsimp only at he
    split at he
    · rename_i hi
      have hi := beq_true.1 hi
      obtain ⟨z, hz, hr''⟩ := cut_ok hcuts.2 hC.num hr' he
      show (if i = id then Q .normal a' w' else Q (.exit i) a' w')
      rw [if_pos hi]
      exact hK .normal _ a' w' hz hr''
    · cases he
theorem block_ok {C : Ctx} {id : Nat} {c : Code} (hnl : ∀ b, c ≠ .loop b) (ih : CodeOk P base S B w0 F0 G C c) : CodeOk P base S B w0 F0 G C (.block id c) := by
  intro hkeep A K res Q a w hk h hK hfin
  have hk' : evC C c A (fun e A' => match e with
      | .exit i => match Nat.beq i id with
        | true => K .normal A'
        | false => K (.exit i) A'
      | e => K e A') = some res := by
    cases c <;> first | exact hk | exact absurd rfl (hnl _)
  refine wp_block (ih hkeep _ _ res _ a w hk' h (fun e A' a' w' he hr => ?_) (fun A' a' w' hf hr => hfin A' a' w' hf hr))
  cases e with
  | normal => exact hK .normal A' a' w' he hr
  | exit i =>
    dsimp only at he
    show (if i = id then Q .normal a' w' else Q (.exit i) a' w')
    split at he
    · rename_i hi
      rw [if_pos (beq_true.1 hi)]
      exact hK .normal A' a' w' he hr
    · rename_i hi
      rw [if_neg (beq_false.1 hi)]
      exact hK (.exit i) A' a' w' he hr
theorem code_ok {C : Ctx} (hC : CtxOk P C G) (c : Code) : CodeOk P base S B w0 F0 G C c ∧ ∀ b, c = .loop b → CodeOk P base S B w0 F0 G C b := by
  induction c with
  | skip =>
    refine ⟨fun _ A K res Q a w hk h hK _ => wp_skip (hK .normal A a w hk h), fun b e => by cases e⟩
  | ret =>
    refine ⟨fun _ A K res Q a w hk h _ hfin => wp_ret (hfin A a w hk h), fun b e => by cases e⟩
  | exit id =>
    refine ⟨fun _ A K res Q a w hk h hK _ => wp_exit (hK (.exit id) A a w hk h), fun b e => by cases e⟩
  | seq x y ihx ihy =>
    refine ⟨fun hkeep A K res Q a w hk h hK hfin => wp_seq (ihx.1 hkeep.1 A _ res _ a w hk h (fun e A' a' w' he hr => ?_) (fun A' a' w' hf hr => hfin A' a' w' hf hr)), fun b e => by cases e⟩
    cases e with
    | normal => exact ihy.1 hkeep.2 A' K res Q a' w' he hr hK hfin
    | exit i => exact hK (.exit i) A' a' w' he hr
  | cond c x y ihx ihy =>
    refine ⟨fun hkeep A K res Q a w hk h hK hfin => ?_, fun b e => by cases e⟩
    simp only [evC] at hk
    split at hk
    · rename_i b hb
      have hc : a.eval c = .bool b := by
        obtain ⟨loc, F, _, _, _, _, _, hval⟩ := h
        cases c with
        | tmp t =>
          have := hval t
          simp only [St.ev] at hb
          rw [hb] at this
          exact this
        | const v =>
          have := val_const (objs := A.objs) (loc := loc) (F := F) (B := B) (w := w) v
          simp only [St.ev] at hb
          rw [hb] at this
          exact this
        | func f => simp [St.ev] at hb
        | global g => simp [St.ev] at hb
      split at hk
      · rename_i e
        exact wp_cond hc (by rw [e]; exact ihx.1 hkeep.1 A K res Q a w hk h hK hfin)
      · rename_i e
        exact wp_cond hc (by rw [if_neg e]; exact ihy.1 hkeep.2 A K res Q a w hk h hK hfin)
    · cases hk
  | block id c ih =>
    refine ⟨?_, fun b e => by cases e⟩
    by_cases hl : ∃ b, c = .loop b
    · obtain ⟨b, rfl⟩ := hl
      exact loop_ok hC (ih.2 b rfl)
    · exact block_ok (fun b e => hl ⟨b, e⟩) ih.1
  | loop c ih =>
    refine ⟨fun _ A K res Q a w hk _ _ _ => by simp [evC] at hk, fun b e => by cases e; exact ih.1⟩
  | region rid ops draw =>
    refine ⟨fun hkeep A K res Q a w hk h hK hfin => ?_, fun b e => by cases e⟩
    simp only [evC, forceSt_eq] at hk
    cases draw with
    | false => exact region_plain hC.hT hC.hes hkeep hk h fun A' a' w' h1 h2 => hK .normal A' a' w' h1 h2
    | true => exact region_draw hC.hT hC.hes hkeep hC.hm hk h fun A' a' w' h1 h2 => hK .normal A' a' w' h1 h2
  | _ => exact ⟨fun _ A K res Q a w hk _ _ _ => by simp [evC] at hk, fun b e => by cases e⟩
end
end Go.Eng
end

section
namespace Go.Eng
variable [Names]
section
variable {P : Program} {T : TT} {base : Nat} {S : List Nat} {B F F' B' : Nat → Prop} {w0 : World} {objs : Upd} {loc : Loc} {w w' : World} {ρ : Type}
omit [Names] in
theorem asAddr_sure {v : Value} {t : TypeId} {cv : Value} {w1 : World} (h : (Instr.loadAt t v).run P w = .ok cv w1) : (do loadVar t (← asAddr v) : Sem Value).run P w = .ok cv w1 := by
  have hs : ∀ a, v = .pointer (some a) → (do loadVar t (← asAddr v) : Sem Value).run P w = .ok cv w1 := fun a e => by
    subst e
    simpa [Instr.loadAt, Instr.sureAddr, asAddr] using h
  cases v with
  | pointer p =>
    cases p with
    | none => simp [Instr.loadAt, Instr.sureAddr, stuck, Sem.run_bind] at h
    | some a => exact hs a rfl
  | _ => simp [Instr.loadAt, Instr.sureAddr, stuck, Sem.run_bind] at h
theorem val1_of {a : AV} {v : Value} (h : Val objs loc F B w a v) (hn : a.notTup = true) : Val1 objs loc F B w a v := by
  cases a <;> first | exact h | (simp [AV.notTup] at hn)
theorem val1s_of : ∀ {as : List AV} {vs : List Value}, Vals objs loc F B w as vs → as.all AV.notTup = true → Val1s objs loc F B w as vs
  | [], [], _, _ => trivial
  | _ :: _, _ :: _, h, hn => by
    simp only [List.all_cons, Bool.and_eq_true] at hn
    exact ⟨val1_of h.1 hn.1, val1s_of h.2 hn.2⟩
  | [], _ :: _, h, _ => h.elim
  | _ :: _, [], h, _ => h.elim
def resOf (tmps : Array Value) : ResultVar → Sem Value
  | .tmp t => pure (tmps.getD t undef)
  | .cell x t => do loadVar t (← asAddr (tmps.getD x undef))
omit [Names] in
theorem results_eq (fn : Func) (tmps : Array Value) : results fn tmps = (fn.results.mapM (resOf tmps) >>= fun vs => pure (if h : vs.size = 1 then vs[0] else .tuple vs)) := by
  unfold results
  refine congrArg (fun f : ResultVar → Sem Value => (fn.results.mapM f >>= fun vs => pure (if h : vs.size = 1 then vs[0] else Value.tuple vs))) (?_ : _ = resOf tmps)
  funext r
  cases r <;> rfl
theorem go_ok {A : St} {a : Act} (hT : TOk P T) (h : SR base S B w0 A.objs loc F w) (hval : ∀ t, Val A.objs loc F B w (nth .dead A.tmps t) (a.tmps.getD t undef)) : ∀ (rs : List ResultVar) {K : List AV → Option ρ} {res : ρ}, resultAV.go T A rs K = some res →
    ∃ avs vs, K avs = some res ∧ (rs.mapM (resOf a.tmps)).run P w = .ok vs w ∧ Vals A.objs loc F B w avs vs
  | [], K, res, hk => ⟨[], [], hk, by simp, trivial⟩
  | .tmp t :: rs, K, res, hk => by
    simp only [resultAV.go] at hk
    obtain ⟨avs, vs, h1, h2, h3⟩ := go_ok hT h hval rs hk
    refine ⟨_, a.tmps.getD t undef :: vs, h1, ?_, hval t, h3⟩
    simp only [List.mapM_cons, resOf, Sem.run_bind, Sem.run_pure, Result.andThen_ok, h2]
  | .cell x t :: rs, K, res, hk => by
    simp only [resultAV.go] at hk
    obtain ⟨av, cv, hk, hr, hv⟩ := load_run hT h (hval x) (fun s _ => rfl) hk
    obtain ⟨avs, vs, h1, h2, h3⟩ := go_ok hT h hval rs hk
    refine ⟨_, cv :: vs, h1, ?_, hv, h3⟩
    have : (resOf a.tmps (.cell x t)).run P w = .ok cv w := asAddr_sure hr
    simp only [List.mapM_cons, Sem.run_bind, this, Sem.run_pure, Result.andThen_ok, h2]
theorem result_ok {fn : Func} {A : St} {a : Act} {K : AV → Option ρ} {res : ρ} (hT : TOk P T) (h : SR base S B w0 A.objs loc F w) (hval : ∀ t, Val A.objs loc F B w (nth .dead A.tmps t) (a.tmps.getD t undef)) (hk : resultAV T A fn.results.toList K = some res) :
    ∃ av v, K av = some res ∧ (results fn a.tmps).run P w = .ok v w ∧ Val A.objs loc F B w av v := by
  unfold resultAV at hk
  obtain ⟨avs, vs, hk, hr, hv⟩ := go_ok hT h hval fn.results.toList hk
  have hres : (results fn a.tmps).run P w = .ok (if h : vs.toArray.size = 1 then vs.toArray[0] else .tuple vs.toArray) w := by
    rw [results_eq, Sem.run_bind, Array.mapM_eq_mapM_toList, map_eq_pure_bind, Sem.run_bind, hr]
    simp only [Result.andThen_ok, Sem.run_pure]
  match avs, vs, hv, hk, hres with
  | [av], [v], hv, hk, hres => exact ⟨av, v, hk, hres, hv.1⟩
  | [], [], _, hk, hres => exact ⟨.tup [], .tuple #[], hk, hres, ⟨#[], rfl, trivial⟩⟩
  | av :: av' :: avs, v :: v' :: vs, hv, hk, hres =>
    dsimp only at hk
    split at hk
    · rename_i hall
      refine ⟨_, .tuple (v :: v' :: vs).toArray, hk, ?_, ⟨_, rfl, val1s_of hv hall⟩⟩
      rw [hres, dif_neg (by simp)]
    · cases hk
  | [], _ :: _, hv, _, _ => exact hv.elim
  | _ :: _, [], hv, _, _ => exact hv.elim
  | [_], _ :: _ :: _, hv, _, _ => exact hv.2.elim
  | _ :: _ :: _, [_], hv, _, _ => exact hv.2.elim
theorem out_ok (h : SR base S B w0 objs loc F w) (p : Pat) : ∀ {ρ : Type} {avs : List AV} {vs : List Value} {K : p.out → Took → Option ρ} {res : ρ}, outK (look objs) p avs K = some res → Vals objs loc F B w avs vs →
    ∃ o t S2, K o t = some res ∧ RepOut (FK F loc t.imms) (BK B loc t.bors) w p o vs S2 ∧ S2 = blks loc t.owns ∧ TookOk objs (look objs) t := by
  induction p with
  | «mut» z e t =>
    intro ρ avs vs K res hk hv
    unfold outK at hk
    obtain ⟨x, t, Sx, h1, h2, h3, h4⟩ := pack_ok h (fun s => .inl rfl) rfl (.mut z e t) hk hv
    exact ⟨x, t, Sx, h1, h2, h3, h4⟩
  | ptr po p _ =>
    intro ρ avs vs K res hk hv
    unfold outK at hk
    obtain ⟨x, t, Sx, h1, h2, h3, h4⟩ := pack_ok h (fun s => .inl rfl) rfl (.ptr po p) hk hv
    exact ⟨x, t, Sx, h1, h2, h3, h4⟩
  | fn f p ih =>
    intro ρ avs vs K res hk hv
    match avs, vs, hv, hk with
    | [], _, _, hk => simp [outK] at hk
    | _ :: _ :: _, _, _, hk => simp [outK] at hk
    | [_], [], hv, _ => exact hv.elim
    | [_], _ :: _ :: _, hv, _ => exact hv.2.elim
    | [a], [v], hv, hk =>
      cases a <;> try (simp [outK] at hk; done)
      simp only [outK] at hk
      split at hk
      case h_2 => cases hk
      rename_i hf
      have hf := beq_true.1 hf
      subst hf
      obtain ⟨cv, rfl, hlf⟩ := hv.1
      obtain ⟨o, t, S2, h1, h2, h3, h4⟩ := ih hk hlf.vals
      exact ⟨o, t, S2, h1, ⟨cv, rfl, h2⟩, h3, h4⟩
  | mag p ih =>
    intro ρ avs vs K res hk hv
    match avs, vs, hv, hk with
    | [], _, _, hk => simp [outK] at hk
    | _ :: _ :: _, _, _, hk => simp [outK] at hk
    | [_], [], hv, _ => exact hv.elim
    | [_], _ :: _ :: _, hv, _ => exact hv.2.elim
    | [a], [v], hv, hk =>
      cases a <;> try (simp [outK] at hk; done)
      simp only [outK] at hk
      obtain ⟨cv, rfl, hlf⟩ := val_agg hv.1
      obtain ⟨o, t, S2, h1, h2, h3, h4⟩ := ih hk hlf.vals
      exact ⟨o, t, S2, h1, ⟨cv, rfl, h2⟩, h3, h4⟩
  | cons a b iha ihb =>
    intro ρ avs vs K res hk hv
    match avs, vs, hv, hk with
    | [], _, _, hk => simp [outK] at hk
    | _ :: _, [], hv, _ => exact hv.elim
    | av :: avs, v :: vs, hv, hk =>
      simp only [outK] at hk
      obtain ⟨x, t, Sx, hk, hrep, hS, ht⟩ := iha hk (vs := [v]) ⟨hv.1, trivial⟩
      obtain ⟨y, t', Sy, hk, hrep', hS', ht'⟩ := ihb hk hv.2
      refine ⟨(x, y), t.and t', Sx ++ Sy, hk, ⟨v, vs, Sx, Sy, rfl, rfl, ?_, ?_⟩, by rw [hS, hS']; exact (blks_append _ _ _).symm, ht.and ht'⟩
      · exact hrep.mono FK.left FK.left
      · exact hrep'.mono FK.right FK.right
  | any => intro ρ avs vs K res hk hv; exact ⟨(), .none, [], hk, rfl, rfl, TookOk.none _ _⟩
  | int k => intro ρ avs vs K res hk hv; exact ⟨(), .none, [], hk, rfl, rfl, TookOk.none _ _⟩
  | bool => intro ρ avs vs K res hk hv; exact ⟨(), .none, [], hk, rfl, rfl, TookOk.none _ _⟩
  | nils => intro ρ avs vs K res hk hv; exact ⟨(), .none, [], hk, rfl, rfl, TookOk.none _ _⟩
  | nm => intro ρ avs vs K res hk hv; exact ⟨(), .none, [], hk, rfl, rfl, TookOk.none _ _⟩
  | str => intro ρ avs vs K res hk hv; exact ⟨(), .none, [], hk, rfl, rfl, TookOk.none _ _⟩
  | il b t => intro ρ avs vs K res hk hv; exact ⟨(), .none, [], hk, rfl, rfl, TookOk.none _ _⟩
  | own z e t => intro ρ avs vs K res hk hv; exact ⟨(), .none, [], hk, rfl, rfl, TookOk.none _ _⟩
  | agg p _ => intro ρ avs vs K res hk hv; exact ⟨(), .none, [], hk, rfl, rfl, TookOk.none _ _⟩
  | tup p _ => intro ρ avs vs K res hk hv; exact ⟨(), .none, [], hk, rfl, rfl, TookOk.none _ _⟩
  | nil => intro ρ avs vs K res hk hv; exact ⟨(), .none, [], hk, rfl, rfl, TookOk.none _ _⟩
end
end Go.Eng
end

section
namespace Go.Eng
variable [Names]
def Pat.list : Pat → Bool
  | .nil => true
  | .cons a b => a.single && b.list
  | _ => false
def opsKeep (ks : List Nat) : List Oper → Bool
  | [] => true
  | o :: os => match o.dst with
    | none => opsKeep ks os
    | some d => match memb d ks with
      | true => false
      | false => opsKeep ks os
def codeKeep (ks : List Nat) : Code → Bool
  | .region _ ops _ => opsKeep ks ops.toList
  | .seq x y => codeKeep ks x && codeKeep ks y
  | .cond _ x y => codeKeep ks x && codeKeep ks y
  | .block _ c => codeKeep ks c
  | .loop c => codeKeep ks c
  | _ => true
def cutsOk : List (Nat × Cut × Cut) → Bool
  | [] => true
  | (_, c, c') :: l => c.p.ok && (c'.p.ok && cutsOk l)
def shapeOk (fn : Func) (loops : List (Nat × Cut × Cut)) (ps rs : Pat) : Bool :=
  ps.ok && (ps.list && (rs.ok && ((rs.nb || true) && (Nat.ble (slotsOf 0 ps).length fn.ntmps && (codeKeep (keepOf 0 ps) (codeOf fn) && (cutsOk loops && (fn.body.isSome && !(fn.name == "runtime.NumGoroutine"))))))))
section
variable {P : Program} {T : TT} {base : Nat} {S : List Nat} {B F F' B' : Nat → Prop} {w0 : World} {objs : Upd} {loc : Loc} {w w' : World} {ρ : Type}
def Stays (n : Nat) (ks : List Nat) (f : Nat → Value) (a : Act) : Prop := a.defers = [] ∧ a.tmps.size = n ∧ ∀ t ∈ ks, a.tmps.getD t undef = f t
omit [Names] in
theorem stays_put {n : Nat} {ks : List Nat} {f : Nat → Value} {a : Act} {o : Oper} {cv : Value} (hd : ∀ d, o.dst = some d → d ∉ ks) (h : Stays n ks f a) : Stays n ks f (a.put o.dst cv) := by
  refine ⟨by rw [put_defers]; exact h.1, by rw [put_size]; exact h.2.1, fun t ht => ?_⟩
  rw [put_get, if_neg (fun hh => hd t hh.1 ht)]
  exact h.2.2 t ht
omit [Names] in
theorem opsKeep_ok {ks : List Nat} : ∀ {os : List Oper}, opsKeep ks os = true → ∀ o ∈ os, ∀ d, o.dst = some d → d ∉ ks
  | [], _, o, ho => by simp at ho
  | o' :: os, h, o, ho => by
    simp only [opsKeep] at h
    intro d hd
    split at h
    · rename_i hn
      rcases List.mem_cons.1 ho with rfl | ho
      · rw [hn] at hd; cases hd
      · exact opsKeep_ok h o ho d hd
    · rename_i d' hs
      split at h
      · cases h
      · rename_i hm
        rcases List.mem_cons.1 ho with rfl | ho
        · rw [hs] at hd
          cases hd
          intro hin
          rw [memb_iff.2 hin] at hm
          cases hm
        · exact opsKeep_ok h o ho d hd
omit [Names] in
theorem codeKeep_ok {n : Nat} {ks : List Nat} {f : Nat → Value} : ∀ {c : Code}, codeKeep ks c = true → CodeKeeps (Stays n ks f) c := by
  intro c
  induction c with
  | region rid ops draw => exact fun h o ho a cv ha => stays_put (opsKeep_ok h o (by simpa using ho)) ha
  | seq x y ihx ihy => intro h; simp only [codeKeep, Bool.and_eq_true] at h; exact ⟨ihx h.1, ihy h.2⟩
  | cond c x y ihx ihy => intro h; simp only [codeKeep, Bool.and_eq_true] at h; exact ⟨ihx h.1, ihy h.2⟩
  | block id c ih => exact fun h => ih h
  | loop c ih => exact fun h => ih h
  | _ => exact fun _ => trivial
omit [Names] in
theorem cutsOk_ok : ∀ {l : List (Nat × Cut × Cut)}, cutsOk l = true → ∀ q ∈ l, q.2.1.p.ok = true ∧ q.2.2.p.ok = true
  | [], _, q, hq => by simp at hq
  | (_, c, c') :: l, h, q, hq => by
    simp only [cutsOk, Bool.and_eq_true] at h
    rcases List.mem_cons.1 hq with rfl | hq
    · exact ⟨h.1, h.2.1⟩
    · exact cutsOk_ok h.2.2 q hq
theorem slots_vals : ∀ {p : Pat} {x : p.den} {vs : List Value} {Sx : List Nat} {k : Nat} {f : Nat → Value}, p.list = true → Rep F B w p x vs Sx → (∀ i v, vs[i]? = some v → f (k + i) = v) → (slotsOf k p).map f = vs ∧ (slotsOf k p).length = vs.length
  | .nil, _, vs, _, _, _, _, h, _ => by
    obtain ⟨rfl, _⟩ := h
    exact ⟨rfl, rfl⟩
  | .cons a b, x, vs, _, k, f, hl, h, hf => by
    obtain ⟨v, vs', S1, S2, rfl, rfl, h1, h2⟩ := h
    simp only [Pat.list, Bool.and_eq_true] at hl
    obtain ⟨k1, k2⟩ := slots_vals (k := k + 1) (f := f) (p := b) hl.2 h2 (fun i v hi => by rw [show k + 1 + i = k + (i + 1) by omega]; exact hf (i + 1) v (by simpa using hi))
    refine ⟨?_, by simp [slotsOf, k2]⟩
    simp only [slotsOf, List.map_cons, k1]
    rw [show f k = v from hf 0 v rfl]
theorem out_args : ∀ {p : Pat} {o : p.out} {vs : List Value} {S2 : List Nat} {k : Nat} {f : Nat → Value}, p.list = true → RepOut F B w p o ((slotsOf k p).map f) S2 → (slotsOf k p).length = vs.length → (∀ i v, k + i ∈ keepOf k p → vs[i]? = some v → f (k + i) = v) → RepOut F B w p o vs S2
  | .nil, _, vs, _, _, _, _, h, _, _ => h
  | .cons a b, o, vs, _, k, f, hl, h, hlen, hf => by
    obtain ⟨v, vs', S1, S2, e, rfl, h1, h2⟩ := h
    simp only [Pat.list, Bool.and_eq_true] at hl
    simp only [slotsOf, List.map_cons, List.cons.injEq] at e
    obtain ⟨rfl, rfl⟩ := e
    match vs, hlen, hf with
    | [], hlen, _ => simp [slotsOf] at hlen
    | u :: us, hlen, hf =>
      have tail : ∀ t, t ∈ keepOf (k + 1) b → t ∈ keepOf k (.cons a b) := fun t ht => by
        unfold keepOf
        split <;> first | exact List.mem_cons_of_mem _ ht | exact ht
      refine ⟨u, us, S1, S2, rfl, rfl, ?_, out_args (p := b) hl.2 h2 (by simpa [slotsOf] using hlen) fun i v hi hv => ?_⟩
      · have hu : k ∈ keepOf k (.cons a b) → f k = u := fun hk => hf 0 u (by simpa using hk) rfl
        cases a with
        | «mut» z e t => rw [← hu (by simp [keepOf])]; exact h1
        | ptr _ p => rw [← hu (by simp [keepOf])]; exact h1
        | fn f' p => rw [← hu (by simp [keepOf])]; exact h1
        | mag p => rw [← hu (by simp [keepOf])]; exact h1
        | cons a1 a2 => simp [Pat.single] at hl
        | _ => exact h1
      · have := hf (i + 1) v (by rw [show k + (i + 1) = k + 1 + i by omega]; exact tail _ hi) (by simpa using hv)
        rw [show k + 1 + i = k + (i + 1) by omega]
        exact this
theorem entry_ok {fn : Func} {f key k : Nat} {es : List Entry} {loops : List (Nat × Cut × Cut)} {ps rs : Pat} {G : ps.den → Option (rs.den × ps.out)} (hT : TOk P T) (hes : ∀ e ∈ es, EntryOk P e) (hm : P.follows .mixedOrders = true) (hf : P.funcs[f]? = some fn) (hsh : shapeOk fn loops ps rs = true)
    (hG : ∀ x r, G x = some r → evF T k es loops fn ps rs x = some r) : EntryOk P ⟨f, key, ps, rs, G⟩ := by
  simp only [shapeOk, Bool.and_eq_true, Nat.ble_eq, Bool.not_eq_true'] at hsh
  obtain ⟨okp, lp, okr, nbr, hslots, hkeep, hcuts, hbody, hname⟩ := hsh
  obtain ⟨code, hcode⟩ := Option.isSome_iff_exists.1 hbody
  have hco : codeOf fn = code := by simp [codeOf, hcode]
  refine ⟨okp, okr, fun x r hx w args Sx F B hrep hnd hmine hF hB hgb hge => .inl ⟨f, args, ?_, ?_⟩⟩
  · simp [callFunc, hf, hcode]
    intro e
    rw [e] at hname
    simp at hname
  · have hev := hG x r hx
    let v0 : Nat → Value := fun t => args.getD t undef
    let a0 : Act := { tmps := args ++ Array.replicate (fn.ntmps - args.size) undef, defers := [] }
    have hsl : (slotsOf 0 ps).map (fun t => a0.tmps.getD t undef) = args.toList ∧ (slotsOf 0 ps).length = args.toList.length := slots_vals lp hrep fun i v hi => by
      have hlt : i < args.size := by simpa using (List.getElem?_eq_some_iff.1 hi).1
      have hv : args[i]? = some v := by simpa using hi
      simp only [a0, Nat.zero_add, Array.getD_eq_getD_getElem?]
      rw [Array.getElem?_append_left hlt, hv]
      rfl
    have hargs : args.size ≤ fn.ntmps := by
      have := hsl.2
      have e : args.toList.length = args.size := by simp
      omega
    have hG0 : Stays fn.ntmps (keepOf 0 ps) (fun t => a0.tmps.getD t undef) a0 := ⟨rfl, by simp [a0]; omega, fun _ _ => rfl⟩
    have hframe : Frm w.heap.size Sx B w F w := ⟨hF, fun b hb => ⟨hB b hb, fun hm => (hmine b hm).2.1 hb⟩, rfl, rfl, rfl, ⟨rfl, Nat.le_refl _⟩, fun _ _ _ => rfl, hgb, hge⟩
    have hrel : RelA w.heap.size Sx B w F (Stays fn.ntmps (keepOf 0 ps) (fun t => a0.tmps.getD t undef)) (Cut.unpack fn.ntmps ⟨slotsOf 0 ps, ps⟩ x) a0 w := by
      refine rel_unpack (c := ⟨slotsOf 0 ps, ps⟩) (F := F) okp ⟨hframe, Sx, ?_, hnd, fun b hb => ⟨(hmine b hb).1, (hmine b hb).2.1, (hmine b hb).2.2, .inr hb⟩⟩ (fun _ h => h) (More.refl _ _ _) hG0 hG0.2.1
      show Rep F B w ps x ((slotsOf 0 ps).map fun t => a0.tmps.getD t undef) Sx
      rw [hsl.1]
      exact hrep
    let C : Ctx := ⟨rs.den × ps.out, T, k, fn.ntmps, es, loops, finK T ps rs fn.results.toList⟩
    have hC : CtxOk P C (Stays fn.ntmps (keepOf 0 ps) (fun t => a0.tmps.getD t undef)) := ⟨hT, hes, hm, cutsOk_ok hcuts, fun a ha => ha.2.1⟩
    have hend : ∀ A' a' w', finK T ps rs fn.results.toList A' = some r → RelA w.heap.size Sx B w F (Stays fn.ntmps (keepOf 0 ps) (fun t => a0.tmps.getD t undef)) A' a' w' →
        a'.defers = [] ∧ ∃ v, (results fn a'.tmps).run P w' = .ok v w' ∧ ∃ F' S1 S2, Post rs ps r args.toList Sx F B w F' S1 S2 v w' := by
      intro A' a' w' hfin hr
      obtain ⟨loc, F1, hsr, hF1, hmore, hst, hsize, hval⟩ := hr
      unfold finK at hfin
      obtain ⟨av, v, hfin, hres, hv⟩ := result_ok hT hsr hval hfin
      obtain ⟨y, t, S1, hfin, hrep1, hS1, ht1⟩ := pack_ok hsr (fun s => .inl rfl) rfl rs hfin (vs := [v]) ⟨hv, trivial⟩
      obtain ⟨o, t', S2, hfin, hrep2, hS2, ht2⟩ := out_ok hsr ps hfin (Vals.of_nat hval (slotsOf 0 ps))
      split at hfin
      case h_2 => cases hfin
      rename_i hsole
      injection hfin with hfin
      simp only [Took.sole, Bool.and_eq_true, List.isEmpty_iff] at hsole
      have htt := ht1.and ht2
      obtain ⟨q1, q2⟩ := took_ok hsr htt hsole.1
      have hb1 : t.bors = [] ∧ t'.bors = [] := by have := hsole.2; simp only [Took.and, List.append_eq_nil_iff] at this; exact this
      obtain ⟨m1, m2⟩ := FK_more hsr (fun r hr => live_of_lst (htt.imms r hr).1)
      have e1 : BK B loc t.bors = B := by rw [hb1.1]; exact FK.nil
      have e2 : BK B loc t'.bors = B := by rw [hb1.2]; exact FK.nil
      have e3 : BK B loc (t.and t').bors = B := by rw [hsole.2]; exact FK.nil
      rw [e1] at hrep1
      rw [e2] at hrep2
      rw [e3] at q2
      have hown : blks loc (t.and t').owns = S1 ++ S2 := by rw [hS1, hS2]; exact blks_append _ _ _
      rw [hown] at q1 q2
      refine ⟨hst.1, v, hres, FK F1 loc (t.and t').imms, S1, S2, ?_⟩
      refine ⟨hsr.os, hsr.tape, hsr.output, hsr.size.2, hsr.block, fun b hb => .inl (hF1 b hb), fun b hb => ?_, m2, ?_, ?_, q1, fun b hb => ?_⟩
      · rcases (hmore.trans m1) b hb with q | q | q
        · exact .inl q
        · exact .inr (.inl q)
        · exact .inr (.inr q)
      · rw [← hfin]
        exact hrep1.mono FK.left (fun _ h => h) (fun _ _ => rfl) (fun _ _ => rfl) (fun _ _ => rfl)
      · rw [← hfin]
        refine out_args (k := 0) (f := fun t => a'.tmps.getD t undef) lp (hrep2.mono FK.right (fun _ h => h)) hsl.2 fun i u hi hu => ?_
        rw [Nat.zero_add] at hi ⊢
        show a'.tmps.getD i undef = u
        rw [hst.2.2 i hi]
        have hlt : i < args.size := by simpa using (List.getElem?_eq_some_iff.1 hu).1
        have hv : args[i]? = some u := by simpa using hu
        simp only [a0, Array.getD_eq_getD_getElem?]
        rw [Array.getElem?_append_left hlt, hv]
        rfl
      · obtain ⟨a1, a2, a3, a4⟩ := q2 b hb
        exact ⟨a1, a2, a3, a4⟩
    refine calls_of_wp hf hcode ?_
    rw [← hco]
    unfold evF at hev
    refine (code_ok (base := w.heap.size) (S := Sx) (B := B) (F0 := F) (w0 := w) hC (codeOf fn)).1 (codeKeep_ok hkeep) _ _ r _ a0 w hev hrel (fun e A' a' w' he hr => ?_) (fun A' a' w' hfin hr => ?_)
    · cases e with
      | normal =>
        obtain ⟨h1, v, h2, h3⟩ := hend A' a' w' he hr
        exact ⟨h1, v, h2, v, rfl, h3⟩
      | exit i => cases he
    · obtain ⟨h1, v, h2, h3⟩ := hend A' a' w' hfin hr
      exact ⟨h1, v, h2, v, rfl, h3⟩
end
end Go.Eng
end

section
namespace Go.Eng
variable [Names]
def fieldsIs (R : Ty → TypeId → Bool) (P : Program) : Nat → Ty → List Field → Bool
  | _, .unit, [] => true
  | off, t, [f] => R t f.type && (Nat.beq f.offset off && Nat.beq (P.cellsOf f.type) t.w)
  | off, .pair a b, f :: fs => R a f.type && (Nat.beq f.offset off && (Nat.beq (P.cellsOf f.type) a.w && fieldsIs R P (off + a.w) b fs))
  | _, _, _ => false
def tyIs (P : Program) : Nat → Ty → TypeId → Bool
  | 0, _, _ => false
  | n + 1, t, tid => match P.underlying tid with
    | some (.struct fs) => Nat.beq (P.cellsOf tid) t.w && fieldsIs (tyIs P n) P 0 t fs.toList
    | some (.int k) => match t with | .int k' => decide (k' = k) | _ => false
    | some .bool => match t with | .bool => true | _ => false
    | some .string => match t with | .str => true | _ => false
    | some (.slice e) => match t with | .list a => tyIs P n a e && (Nat.beq (P.cellsOf e) a.w && Nat.ble 1 a.w) | _ => false
    | _ => false
def Ty.wf : (t : Ty) → t.den → Prop
  | .int k, n => (Lit.int k n).wf = true
  | .bool, _ => True
  | .str, s => s.size ≤ maxLen
  | .list t, xs => xs.length ≤ maxLen ∧ ∀ x ∈ xs, t.wf x
  | .unit, _ => True
  | .pair a b, x => a.wf x.1 ∧ b.wf x.2
  | .nm, _ => True
  | .ols _ _, _ => True
  | .olq _ _, _ => True
section
variable {H : Type} {enc : TypeId × Value → H} {P : Program} {w : World} {base : Nat} {spare : Nat → Bool} {held : Bool}
def Old (w : World) : Nat → Prop := fun b => b < w.heap.size
omit [Names] in
theorem list_choose {α β : Type} (R : Nat → α → Prop) (n : Nat) (h : ∀ i, i < n → ∃ x, R i x) : ∃ xs : List α, xs.length = n ∧ ∀ i (hi : i < xs.length), R i xs[i] := by
  induction n with
  | zero => exact ⟨[], rfl, fun i hi => by simp at hi⟩
  | succ n ih =>
    obtain ⟨xs, h1, h2⟩ := ih fun i hi => h i (by omega)
    obtain ⟨x, hx⟩ := h n (by omega)
    refine ⟨xs ++ [x], by simp [h1], fun i hi => ?_⟩
    by_cases hlt : i < xs.length
    · rw [List.getElem_append_left hlt]; exact h2 i hlt
    · have : i = n := by simp at hi; omega
      subst this
      rw [List.getElem_append_right (by omega)]
      simpa [h1] using hx
theorem fields_open {n fuel : Nat} (ih : ∀ {t : Ty} {tid : TypeId} {cs : List Value} {x : DataW H × List MemPlace}, tyIs P n t tid = true → DataW.trod enc P w base spare held fuel tid cs = some x → ∃ y : t.den, IRep (Old w) w t y cs ∧ t.wf y) :
    ∀ {fs : List Field} {off : Nat} {t : Ty} {cs : List Value}, fieldsIs (tyIs P n) P off t fs = true → off + t.w ≤ cs.length → (∀ f ∈ fs, ∃ x, DataW.trod enc P w base spare held fuel f.type ((cs.drop f.offset).take (P.cellsOf f.type)) = some x) →
      ∃ y : t.den, IRep (Old w) w t y ((cs.drop off).take t.w) ∧ t.wf y
  | [], off, t, cs, h, _, _ => by
    cases t <;> simp [fieldsIs] at h
    exact ⟨(), by simp [Ty.w, IRep], trivial⟩
  | [f], off, t, cs, h, hl, hf => by
    have h : (tyIs P n t f.type && (Nat.beq f.offset off && Nat.beq (P.cellsOf f.type) t.w)) = true := by cases t <;> exact h
    simp only [Bool.and_eq_true] at h
    obtain ⟨x, hx⟩ := hf f (by simp)
    rw [beq_true.1 h.2.1, beq_true.1 h.2.2] at hx
    exact ih h.1 hx
  | f :: g :: fs, off, .pair a b, cs, h, hl, hf => by
    simp only [fieldsIs, Bool.and_eq_true] at h
    obtain ⟨h1, h2, h3, h4⟩ := h
    obtain ⟨x, hx⟩ := hf f (by simp)
    rw [beq_true.1 h2, beq_true.1 h3] at hx
    obtain ⟨y, hy, hyw⟩ := ih h1 hx
    simp only [Ty.w] at hl
    obtain ⟨z, hz, hzw⟩ := fields_open ih (cs := cs) h4 (by omega) (fun f' hf' => hf f' (List.mem_cons_of_mem _ hf'))
    refine ⟨(y, z), ⟨_, _, ?_, hy, hz⟩, hyw, hzw⟩
    simp only [Ty.w]
    rw [List.take_add, List.drop_drop]
  | _ :: _ :: _, _, .int _, _, h, _, _ => by simp [fieldsIs] at h
  | _ :: _ :: _, _, .bool, _, h, _, _ => by simp [fieldsIs] at h
  | _ :: _ :: _, _, .str, _, h, _, _ => by simp [fieldsIs] at h
  | _ :: _ :: _, _, .list _, _, h, _, _ => by simp [fieldsIs] at h
  | _ :: _ :: _, _, .unit, _, h, _, _ => by simp [fieldsIs] at h
theorem open_ty : ∀ (n : Nat) {fuel : Nat} {t : Ty} {tid : TypeId} {cs : List Value} {x : DataW H × List MemPlace}, tyIs P n t tid = true → DataW.trod enc P w base spare held fuel tid cs = some x → ∃ y : t.den, IRep (Old w) w t y cs ∧ t.wf y := by
  intro n
  induction n with
  | zero => intro fuel t tid cs x h; simp [tyIs] at h
  | succ n ih =>
    intro fuel t tid cs x h hx
    simp only [tyIs] at h
    split at h
    · rename_i fs hu
      simp only [Bool.and_eq_true] at h
      obtain ⟨xs, m, rfl, rfl, hlen, hxl, hfs⟩ := DataW.trod_struct hu hx
      have hw := beq_true.1 h.1
      obtain ⟨y, hy, hyw⟩ := fields_open (fuel := m) (cs := cs) (fun h1 h2 => ih h1 h2) h.2 (by omega) (fun f hf => by
        obtain ⟨i, hi, rfl⟩ := List.getElem_of_mem hf
        have := hfs i fs.toList[i] (by simp at hi; simp [hi])
        exact ⟨xs[i]'(by simp at hi; omega), by rw [this]; simp⟩)
      refine ⟨y, ?_, hyw⟩
      have e : (cs.drop 0).take t.w = cs := by rw [List.drop_zero, List.take_of_length_le (by omega)]
      rw [e] at hy
      exact hy
    · rename_i k hu
      cases t <;> first | (simp at h; done) | skip
      rename_i k'
      have : k' = k := by simpa using h
      subst this
      obtain ⟨z, rfl, _, hz⟩ := DataW.trod_int hu hx
      exact ⟨z, rfl, hz⟩
    · rename_i hu
      cases t <;> first | (simp at h; done) | skip
      obtain ⟨z, rfl, _⟩ := DataW.trod_bool hu hx
      exact ⟨z, rfl, trivial⟩
    · rename_i hu
      cases t <;> first | (simp at h; done) | skip
      obtain ⟨z, rfl, _, hz⟩ := DataW.trod_string hu hx
      exact ⟨z, rfl, hz⟩
    · rename_i e hu
      cases t <;> first | (simp at h; done) | skip
      rename_i a
      simp only [Bool.and_eq_true, Nat.ble_eq] at h
      obtain ⟨h1, h2, h3⟩ := h
      have h2 := beq_true.1 h2
      rcases DataW.trod_slice hu hx with ⟨rfl, _⟩ | ⟨ad, len, cap, elems, rest, m, rfl, rfl, rfl, hb, hl, hm, hlen, hel, _, _⟩
      · exact ⟨[], ⟨none, 0, 0, rfl, rfl, Nat.le_refl _, fun h => absurd h (by omega)⟩, by simp, by simp⟩
      · have each : ∀ i, i < len → ∃ y : a.den, (∃ rs : List Value, rs.length = a.w ∧ (∀ j v, rs[j]? = some v → w.cell? ((ad.add (i * a.w)).add j) = some v) ∧ IRep (Old w) w a y rs) ∧ a.wf y := by
          intro i hi
          have hx' := hel i hi
          rw [List.getElem?_eq_getElem (by omega), Option.bind_eq_some_iff] at hx'
          obtain ⟨rs, hrs, htr⟩ := hx'
          obtain ⟨_, k2, k3⟩ := World.cells?_some hrs
          obtain ⟨y, hy, hyw⟩ := ih h1 htr
          refine ⟨y, ⟨rs, by rw [k2, h2], fun j v hj => ?_, hy⟩, hyw⟩
          have hjl := (List.getElem?_eq_some_iff.1 hj).1
          have := k3 j (by omega)
          rw [h2] at this
          rw [this]; exact hj
        obtain ⟨ys, hys, hR⟩ := list_choose (β := Unit) (fun i y => (∃ rs : List Value, rs.length = a.w ∧ (∀ j v, rs[j]? = some v → w.cell? ((ad.add (i * a.w)).add j) = some v) ∧ IRep (Old w) w a y rs) ∧ a.wf y) len each
        refine ⟨ys, ⟨some ad, len, cap, rfl, hys, hl, fun hn => ?_⟩, by omega, fun y hy => ?_⟩
        · obtain ⟨⟨rs, r1, r2, _⟩, _⟩ := hR 0 (by omega)
          have hc := r2 0 rs[0] (by simp)
          have hspot : ad.spot = none := by
            cases hs : ad.spot with
            | none => rfl
            | some q =>
              exfalso
              simp only [World.cell?, Addr.add] at hc
              revert hc
              split <;> simp_all
          obtain ⟨ab, ao, asp⟩ := ad
          simp only at hspot
          subst hspot
          have hlt : ab < w.heap.size := by
            rw [Addr.add_mid, Addr.add_mid] at hc
            exact World.block_lt_of_cell? w _ hc
          refine ⟨ab, ao, rfl, hlt, hlt, fun i hi => ?_⟩
          obtain ⟨⟨rs, r1, r2, r3⟩, _⟩ := hR i hi
          refine ⟨rs, r1, fun j v hj => ?_, r3⟩
          have := r2 j v hj
          rw [Addr.add_mid, Addr.add_mid] at this
          exact this
        · obtain ⟨i, hi, rfl⟩ := List.getElem_of_mem hy
          exact (hR i hi).2
    · cases h
end
end Go.Eng
end

section
namespace Go.Eng
variable [Names]
def cellsP : Ty → Pat → Pat
  | .int k, r => .cons (.int k) r
  | .bool, r => .cons .bool r
  | .str, r => .cons .str r
  | .list t, r => .cons (.il true t) r
  | .unit, r => r
  | .pair a b, r => cellsP a (cellsP b r)
  | .nm, r => .cons .nm r
  | .ols _ _, r => .cons .any r
  | .olq _ _, r => .cons .any r
def cellsX : (t : Ty) → (r : Pat) → t.den → r.den → (cellsP t r).den
  | .int _, _, x, y => (x, y)
  | .bool, _, x, y => (x, y)
  | .str, _, x, y => (x, y)
  | .list _, _, x, y => (x, y)
  | .unit, _, _, y => y
  | .pair a b, r, x, y => cellsX a (cellsP b r) x.1 (cellsX b r x.2 y)
  | .nm, _, x, y => (x, y)
  | .ols _ _, _, _, y => ((), y)
  | .olq _ _, _, _, y => ((), y)
def oneP : Ty → Pat
  | .int k => .int k
  | .bool => .bool
  | .str => .str
  | .list t => .il true t
  | _ => .any
def oneX : (t : Ty) → t.den → (oneP t).den
  | .int _, x => x
  | .bool, x => x
  | .str, x => x
  | .list _, x => x
  | .unit, _ => ()
  | .pair _ _, _ => ()
  | .nm, _ => ()
  | .ols _ _, _ => ()
  | .olq _ _, _ => ()
abbrev Par := Bool × Ty
def parP : Par → Pat
  | (true, t) => .agg (cellsP t .nil)
  | (false, t) => oneP t
def parX : (p : Par) → p.2.den → (parP p).den
  | (true, t), x => cellsX t .nil x ()
  | (false, t), x => oneX t x
def argsP : List Par → Pat
  | [] => .nil
  | p :: r => .cons (parP p) (argsP r)
@[reducible] def argsDen : List Par → Type
  | [] => Unit
  | p :: r => p.2.den × argsDen r
def argsX : (l : List Par) → argsDen l → (argsP l).den
  | [], _ => ()
  | p :: r, x => (parX p x.1, argsX r x.2)
def argsWf : (l : List Par) → argsDen l → Prop
  | [], _ => True
  | p :: r, x => p.2.wf x.1 ∧ argsWf r x.2
def parsAre (P : Program) : List Par → List TypeId → Bool
  | [], [] => true
  | p :: ps, t :: ts => tyIs P 12 p.2 t && ((match P.underlying t with | some (.struct _) => p.1 | some (.array _ _) => false | _ => !p.1) && parsAre P ps ts)
  | _, _ => false
section
variable {H : Type} {enc : TypeId × Value → H} {P : Program} {w : World} {F B : Nat → Prop}
theorem rep_cells : ∀ {t : Ty} {r : Pat} {x : t.den} {y : r.den} {cs vs : List Value}, IRep (Old w) w t x cs → Rep F (Old w) w r y vs [] → Rep F (Old w) w (cellsP t r) (cellsX t r x y) (cs ++ vs) []
  | .int k, r, x, y, cs, vs, h, hr => by
    cases h
    exact ⟨_, vs, [], [], rfl, rfl, ⟨rfl, rfl⟩, hr⟩
  | .bool, r, x, y, cs, vs, h, hr => by
    cases h
    exact ⟨_, vs, [], [], rfl, rfl, ⟨rfl, rfl⟩, hr⟩
  | .str, r, x, y, cs, vs, h, hr => by
    cases h
    exact ⟨_, vs, [], [], rfl, rfl, ⟨rfl, rfl⟩, hr⟩
  | .list t, r, x, y, cs, vs, h, hr => by
    have h' : IRep (fun b => F b ∨ (true = true ∧ Old w b)) w (.list t) x cs := h.mono (fun b hb => .inr ⟨rfl, hb⟩) (fun _ _ => rfl)
    obtain ⟨a, n, c, rfl, _⟩ := h
    exact ⟨_, vs, [], [], rfl, rfl, ⟨h', rfl⟩, hr⟩
  | .unit, r, x, y, cs, vs, h, hr => by
    cases h
    exact hr
  | .nm, r, x, y, cs, vs, h, hr => by
    cases h
    exact ⟨_, vs, [], [], rfl, rfl, ⟨rfl, rfl⟩, hr⟩
  | .ols _ _, r, x, y, cs, vs, h, hr => h.elim
  | .olq _ _, r, x, y, cs, vs, h, hr => h.elim
  | .pair a b, r, x, y, cs, vs, h, hr => by
    obtain ⟨c, d, rfl, h1, h2⟩ := h
    rw [List.append_assoc]
    show Rep F (Old w) w (cellsP a (cellsP b r)) (cellsX a (cellsP b r) x.1 (cellsX b r x.2 y)) _ _
    exact rep_cells h1 (rep_cells h2 hr)
theorem rep_one {t : Ty} {x : t.den} {v : Value} (h : IRep (Old w) w t x [v]) : Rep F (Old w) w (oneP t) (oneX t x) [v] [] := by
  cases t with
  | int k => exact ⟨h, rfl⟩
  | bool => exact ⟨h, rfl⟩
  | str => exact ⟨h, rfl⟩
  | list t =>
    have h' : IRep (fun b => F b ∨ (true = true ∧ Old w b)) w (.list t) x [v] := IRep.mono (t := .list t) (fun b hb => .inr ⟨rfl, hb⟩) (fun _ _ => rfl) h
    exact ⟨h', rfl⟩
  | unit => exact ⟨⟨v, rfl⟩, rfl⟩
  | pair a b => exact ⟨⟨v, rfl⟩, rfl⟩
  | nm => exact ⟨⟨v, rfl⟩, rfl⟩
  | ols e t => exact h.elim
  | olq e t => exact h.elim
theorem open_args {base : Nat} {spare : Nat → Bool} {held : Bool} : ∀ {l : List Par} {ts : List TypeId} {vs : List Value} {ds : List (DataW H)} {ps : List MemPlace}, parsAre P l ts = true → DataW.TrodAll enc P w base spare held ts vs ds ps →
    (∀ (j : Nat) t v, ts[j]? = some t → vs[j]? = some v → ∃ r b, Value.okWide P w r b t v) → ∃ x : argsDen l, Rep F (Old w) w (argsP l) (argsX l x) vs [] ∧ argsWf l x
  | [], [], vs, ds, ps, _, h, _ => by
    obtain ⟨rfl, _⟩ := Go.ChangeShapes.trodAll_nil h
    exact ⟨(), ⟨rfl, rfl⟩, trivial⟩
  | p :: l, t :: ts, vs, ds, ps, hp, h, hok => by
    simp only [parsAre, Bool.and_eq_true] at hp
    obtain ⟨h1, h2, h3⟩ := hp
    match vs, ds, h, hok with
    | v :: vs, d :: ds, h, hok =>
      obtain ⟨p1, q1, ⟨fuel, htr⟩, hr, _⟩ := h
      obtain ⟨x, hx, hxw⟩ := open_ty 12 h1 htr
      obtain ⟨y, hy, hyw⟩ := open_args h3 hr (fun j t v ht hv => hok (j + 1) t v (by simpa using ht) (by simpa using hv))
      refine ⟨(x, y), ⟨v, vs, [], [], rfl, rfl, ?_, hy⟩, hxw, hyw⟩
      obtain ⟨r, b, hv⟩ := hok 0 t v rfl rfl
      obtain ⟨ag, ty⟩ := p
      unfold Value.okWide at hv
      cases hu : P.underlying t with
      | none =>
        rw [hu] at h2
        have : ag = false := by simpa using h2
        subst this
        exfalso
        simp [tyIs, hu] at h1
      | some dsc =>
        rw [hu] at h2 hv
        cases dsc with
        | struct fs =>
          have h2 : ag = true := h2
          subst h2
          obtain ⟨cs, rfl, _, _, _, _, hcell⟩ := hv
          refine ⟨cs, rfl, fun v hv => hx.one v hv, ?_⟩
          have := rep_cells (F := F) (r := .nil) (y := ()) hx ⟨rfl, rfl⟩
          rw [List.append_nil] at this
          exact this
        | array n e => cases h2
        | _ =>
          have : ag = false := by simpa using h2
          subst this
          have hvc : v.cells.toList = [v] := by
            have hlen := hx.len
            cases v with
            | agg cs =>
              exfalso
              first | (simp [tyIs, hu] at h1; done) | (simp [Cell.okWide, Cell.ok, hu] at hv; done)
            | _ => rfl
          rw [hvc] at hx
          exact rep_one hx
    | [], [], h, _ => exact False.elim h
    | [], _ :: _, h, _ => exact False.elim h
    | _ :: _, [], h, _ => exact False.elim h
  | [], _ :: _, _, _, _, h, _, _ => by simp [parsAre] at h
  | _ :: _, [], _, _, _, h, _, _ => by simp [parsAre] at h
theorem law_calls {f : Nat} {l : List Par} {G : Nat → (argsP l).den → Option (Bool × (argsP l).out)} {fn : Func} (he : ∀ k, EntryOk P ⟨f, 0, argsP l, .bool, G k⟩) (hf : P.funcs[f]? = some fn) (hb : fn.body.isSome = true) (hnm : (fn.name == "runtime.NumGoroutine") = false)
    (hG : ∀ x : argsDen l, argsWf l x → ∃ k o, G k (argsX l x) = some (true, o)) {ts : List TypeId} (hts : parsAre P l ts = true) {base0 base : Nat} {spare : Nat → Bool} {held : Bool} {args : Array Value} {ds : List (DataW H)} {ps : List MemPlace}
    (hA : DataW.TrodAll enc P w base0 spare held ts args.toList ds ps) (hok : ∀ (j : Nat) t v, ts[j]? = some t → args[j]? = some v → Value.okWide P w .any base t v) (hgb : ∀ b, Names.gb b → b < w.heap.size) (hge : Names.gen w) : Calls P f args w fun e w' => e = .returned (.bool true) ∧ Go.RowKit.Below w.heap.size w w' := by
  obtain ⟨x, hx, hxw⟩ := open_args (F := fun _ => False) hts hA (fun j t v ht hv => ⟨_, _, hok j t v ht (by simpa using hv)⟩)
  obtain ⟨k, o, hk⟩ := hG x hxw
  obtain ⟨bd, hbd⟩ := Option.isSome_iff_exists.1 hb
  have hrun : (callFunc f args).run P w = .ok (.enter f args) w := by
    simp [callFunc, hf, hbd]
    intro e
    rw [e] at hnm
    simp at hnm
  rcases (he k).run (argsX l x) (true, o) hk w args [] (fun _ => False) (Old w) hx List.nodup_nil (by simp) (by simp) (fun _ h => h) (fun b hb => ⟨hgb b hb, by simp⟩) hge with ⟨g, as, h1, h2⟩ | ⟨v, w', h1, _⟩
  · rw [hrun] at h1
    cases h1
    refine h2.mono fun e w' hh => ?_
    obtain ⟨v, rfl, F', S1, S2, hp⟩ := hh
    have hv : [v] = [.bool true] := hp.rep.1
    cases hv
    exact ⟨rfl, hp.os, hp.tape, hp.output, hp.size, fun b hb => hp.block b hb (by simp)⟩
  · rw [hrun] at h1
    cases h1
end
end Go.Eng
end

section
namespace Go.Eng
variable [Names]
def offsB (P : Program) (fs : Array Field) : Nat → List (Nat × Nat) → Bool
  | _, [] => true
  | i, (off, ft) :: r => (match fs[i]?, P.info? ft with
    | some fd, some inf => Nat.beq fd.offset off && (Nat.beq fd.type ft && Nat.ble 1 inf.size)
    | _, _ => false) && offsB P fs (i + 1) r
def infosB (P : Program) : List Field → Bool
  | [] => true
  | f :: fs => (P.info? f.type).isSome && infosB P fs
def tiB (P : Program) (t : Nat) (i : TI) : Bool :=
  (match i.w with
    | 0 => true
    | w + 1 => match P.underlying t, P.info? t with
      | some d, some inf => (d.isRow == i.agg) && Nat.beq inf.size (w + 1)
      | _, _ => false) &&
  ((match i.zero with
    | [] => true
    | z :: zs => match P.info? t with
      | some inf => match inf.zero with
        | some v => zeros (z :: zs) v.cells.toList
        | none => false
      | none => false) &&
  ((match i.offs with
    | [] => true
    | o :: os => match P.underlying t with
      | some (.struct fs) => offsB P fs 0 (o :: os) && infosB P fs.toList
      | _ => false) &&
  (match i.kind with
    | .other => true
    | .int k => match P.underlying t with | some (.int k') => decide (k' = k) | _ => false
    | .bool => match P.underlying t with | some .bool => true | _ => false
    | .str => match P.underlying t with | some .string => true | _ => false
    | .slice e ty => match P.underlying t, P.info? e with
      | some (.slice e'), some inf => match inf.zero with
        | some z => Nat.beq e' e && (Nat.beq inf.size ty.w && (Nat.ble 1 ty.w && (Nat.ble inf.bytes 512 && (Nat.beq z.cells.size ty.w &&
            (match ty with | .int .u8 => (match P.underlying e with | some (.int .u8) => true | _ => false) | _ => true)))))
        | none => false
      | _, _ => false
    | .arr e n => match P.underlying t, P.info? e with
      | some (.array n' e'), some inf => Nat.beq n' n && (Nat.beq e' e && Nat.beq inf.size 1)
      | _, _ => false)))
def EqOk (P : Program) (t : Nat) (ks : List Ty) : Prop :=
  P.eqGuardType P.depth t = false ∧ ∀ as bs e w, fits ks as = true → fits ks bs = true → cellsEq as bs = some e →
    (Op.equalIn 10000 t (.agg (as.map avVal).toArray) (.agg (bs.map avVal).toArray)).run P w = .ok e w
def tabB (P : Program) : TT → Bool
  | [] => true
  | (t, i) :: r => tiB P t i && tabB P r
section
variable {P : Program}
omit [Names] in
theorem offsB_ok {fs : Array Field} : ∀ {l : List (Nat × Nat)} {i : Nat}, offsB P fs i l = true → ∀ f off ft, nth? l f = some (off, ft) → ∃ fd inf, fs[i + f]? = some fd ∧ fd.offset = off ∧ fd.type = ft ∧ P.info? ft = some inf ∧ 1 ≤ inf.size
  | [], _, _, f, off, ft, h => by simp [nth?] at h
  | (o, t) :: l, i, h, f, off, ft, hn => by
    simp only [offsB, Bool.and_eq_true] at h
    cases f with
    | zero =>
      simp only [nth?, Option.some.injEq, Prod.mk.injEq] at hn
      obtain ⟨rfl, rfl⟩ := hn
      have h1 := h.1
      split at h1
      · rename_i fd inf e1 e2
        simp only [Bool.and_eq_true, Nat.ble_eq] at h1
        exact ⟨fd, inf, e1, beq_true.1 h1.1, beq_true.1 h1.2.1, e2, h1.2.2⟩
      · cases h1
    | succ f =>
      obtain ⟨fd, inf, a⟩ := offsB_ok h.2 f off ft hn
      rw [show i + 1 + f = i + (f + 1) by omega] at a
      exact ⟨fd, inf, a⟩
omit [Names] in
theorem infosB_ok : ∀ {fs : List Field}, infosB P fs = true → ∃ places, fs.mapM (fun f => (P.info? f.type).map fun i => (f.offset, i.size)) = some places ∧ ∀ (i : Nat) (f : Field) (inf : TypeInfo), fs[i]? = some f → P.info? f.type = some inf → places[i]? = some (f.offset, inf.size)
  | [], _ => ⟨[], rfl, fun i f inf h => by simp at h⟩
  | f :: fs, h => by
    simp only [infosB, Bool.and_eq_true] at h
    obtain ⟨inf, hi⟩ := Option.isSome_iff_exists.1 h.1
    obtain ⟨places, h1, h2⟩ := infosB_ok h.2
    refine ⟨(f.offset, inf.size) :: places, by simp [List.mapM_cons, hi, h1], fun i f' inf' hf hinf => ?_⟩
    cases i with
    | zero =>
      simp only [List.getElem?_cons_zero, Option.some.injEq] at hf
      subst hf
      rw [hi] at hinf
      cases hinf
      rfl
    | succ i => simpa using h2 i f' inf' (by simpa using hf) hinf
omit [Names] in
theorem tiB_ok {t : Nat} {i : TI} (h : tiB P t i = true) (he : i.eqk ≠ [] → EqOk P t i.eqk) : TIok P t i := by
  simp only [tiB, Bool.and_eq_true] at h
  obtain ⟨h1, h2, h3, h4⟩ := h
  have hoffs : i.offs ≠ [] → ∃ fs, P.underlying t = some (.struct fs) ∧ offsB P fs 0 i.offs = true ∧ infosB P fs.toList = true := by
    intro hne
    split at h3
    · rename_i e; exact absurd e hne
    · rename_i o os e
      split at h3
      · rename_i fs hu
        simp only [Bool.and_eq_true] at h3
        exact ⟨fs, hu, by rw [e]; exact h3.1, h3.2⟩
      · cases h3
  refine ⟨fun hw => ?_, fun hz => ?_, fun f off ft hn => ?_, fun hne => ?_, fun k hk => ?_, fun hk => ?_, fun hk => ?_, fun hne => he hne, fun e ty hk => ?_, fun e n hk => ?_⟩
  · split at h1
    · rename_i e; exact absurd e hw
    · rename_i w e
      split at h1
      · rename_i d inf e1 e2
        simp only [Bool.and_eq_true, beq_iff_eq] at h1
        exact ⟨d, inf, e1, h1.1, e2, by rw [e]; exact beq_true.1 h1.2⟩
      · cases h1
  · split at h2
    · rename_i e; exact absurd e hz
    · rename_i z zs e
      split at h2
      · rename_i inf e1
        split at h2
        · rename_i v e2
          exact ⟨inf, v, e1, e2, by rw [e]; exact h2⟩
        · cases h2
      · cases h2
  · have hne : i.offs ≠ [] := by intro e; rw [e] at hn; simp [nth?] at hn
    obtain ⟨fs, hu, ho, _⟩ := hoffs hne
    obtain ⟨fd, inf, a1, a2, a3, a4, a5⟩ := offsB_ok ho f off ft hn
    rw [Nat.zero_add] at a1
    exact ⟨fs, fd, hu, a1, a2, a3, inf, a4, by omega⟩
  · obtain ⟨fs, hu, ho, hin⟩ := hoffs hne
    obtain ⟨places, p1, p2⟩ := infosB_ok hin
    refine ⟨fs, places, hu, p1, fun f off ft hn => ?_⟩
    obtain ⟨fd, inf, a1, a2, a3, a4, a5⟩ := offsB_ok ho f off ft hn
    rw [Nat.zero_add] at a1
    refine ⟨inf, a4, ?_⟩
    have := p2 f fd inf (by simpa using a1) (by rw [a3]; exact a4)
    rw [this, a2]
  · rw [hk] at h4
    dsimp only at h4
    split at h4
    · rename_i k' hu
      have : k' = k := by simpa using h4
      rw [hu, this]
    · cases h4
  · rw [hk] at h4
    dsimp only at h4
    split at h4
    · assumption
    · cases h4
  · rw [hk] at h4
    dsimp only at h4
    split at h4
    · assumption
    · cases h4
  · rw [hk] at h4
    dsimp only at h4
    split at h4
    · rename_i e' inf hu hi
      split at h4
      · rename_i z hz
        simp only [Bool.and_eq_true, Nat.ble_eq] at h4
        obtain ⟨a1, a2, a3, a4, a5, a6⟩ := h4
        have a1 := beq_true.1 a1
        subst a1
        refine ⟨hu, inf, z, hi, beq_true.1 a2, a3, a4, hz, beq_true.1 a5, fun ht => ?_⟩
        subst ht
        dsimp only at a6
        split at a6
        · assumption
        · cases a6
      · cases h4
    · cases h4
  · rw [hk] at h4
    dsimp only at h4
    split at h4
    · rename_i n' e' inf hu hi
      simp only [Bool.and_eq_true] at h4
      obtain ⟨a1, a2, a3⟩ := h4
      rw [beq_true.1 a1, beq_true.1 a2] at hu
      exact ⟨hu, inf, hi, beq_true.1 a3⟩
    · cases h4
omit [Names] in
theorem tok_of : ∀ {T : TT}, tabB P T = true → (∀ p ∈ T, p.2.eqk ≠ [] → EqOk P p.1 p.2.eqk) → TOk P T
  | [], _, _, t => TIok.none P t
  | (t', i) :: T, h, he, t => by
    simp only [tabB, Bool.and_eq_true] at h
    show TIok P t (TT.at ((t', i) :: T) t)
    simp only [TT.at]
    cases hb : Nat.beq t' t with
    | true =>
      have := beq_true.1 hb
      subst this
      exact tiB_ok h.1 (he (t', i) (by simp))
    | false => exact tok_of h.2 (fun p hp => he p (List.mem_cons_of_mem _ hp)) t
end
end Go.Eng
end

section
namespace Go.Eng
variable [Names]
def eqFieldsB (P : Program) : Nat → List Field → List Ty → Bool
  | _, [], [] => true
  | i, f :: fs, k :: ks => (!(f.name == "_")) && (Nat.beq f.offset i && ((match k with
    | .int q => (match P.underlying f.type with | some (.int q') => decide (q' = q) | _ => false)
    | .bool => (match P.underlying f.type with | some .bool => true | _ => false)
    | .str => (match P.underlying f.type with | some .string => true | _ => false)
    | _ => false) && eqFieldsB P (i + 1) fs ks))
  | _, _, _ => false
def eqB (P : Program) (t : Nat) (ks : List Ty) : Bool :=
  match P.underlying t with
  | some (.struct fs) => (!P.stoodInHeld t) && ((!P.eqGuardType P.depth t) && eqFieldsB P 0 fs.toList ks)
  | _ => false
section
variable {P : Program}
omit [Names] in
theorem run_part {t : TypeId} {d : TypeDesc} {xs : Array Value} {i : Nat} {v : Value} (hu : P.underlying t = some d) (hd : d.isRow = false) (hv : xs[i]? = some v) (w : World) : (part t xs i).run P w = .ok v w := by
  unfold part
  simp [Sem.run_bind, run_isAgg hu, hd, hv]
omit [Names] in
theorem bytes_ext : ∀ {a b : ByteArray}, a.data = b.data → a = b
  | ⟨_⟩, ⟨_⟩, h => by cases h; rfl
omit [Names] in
theorem eqFields_ok {n : Nat} {xs ys : Array Value} {w : World} : ∀ {fs : List Field} {ks : List Ty} {as bs : List AV} {i : Nat} {e : Bool}, eqFieldsB P i fs ks = true → fits ks as = true → fits ks bs = true → cellsEq as bs = some e →
    (∀ j, xs[i + j]? = (as.map avVal)[j]?) → (∀ j, ys[i + j]? = (bs.map avVal)[j]?) → (Op.eqFields (n + 1) xs ys fs).run P w = .ok e w
  | [], [], as, bs, i, e, _, ha, hb, he, _, _ => by
    cases as <;> simp [fits] at ha
    cases bs <;> simp [fits] at hb
    simp [cellsEq] at he
    subst he
    rfl
  | f :: fs, k :: ks, as, bs, i, e, h, ha, hb, he, hx, hy => by
    simp only [eqFieldsB, Bool.and_eq_true, Bool.not_eq_true'] at h
    obtain ⟨hn, ho, hk, hr⟩ := h
    have ho := beq_true.1 ho
    match as, bs, ha, hb, he, hx, hy with
    | [], _, ha, _, _, _, _ => simp [fits] at ha
    | _ :: _, [], _, hb, _, _, _ => simp [fits] at hb
    | a :: as, b :: bs, ha, hb, he, hx, hy =>
      simp only [fits, Bool.and_eq_true] at ha hb
      have hce : ∃ x y, avEq a b = some x ∧ cellsEq as bs = some y ∧ e = (x && y) := by
        match as, bs, he, ha, hb with
        | [], [], he, _, _ => simp only [cellsEq] at he; exact ⟨e, true, he, rfl, by simp⟩
        | a' :: as, b' :: bs, he, _, _ =>
          simp only [cellsEq] at he
          cases h1 : avEq a b with
          | none => rw [h1] at he; simp at he
          | some x =>
            cases h2 : cellsEq (a' :: as) (b' :: bs) with
            | none => rw [h1, h2] at he; simp at he
            | some y => rw [h1, h2] at he; simp at he; exact ⟨x, y, rfl, rfl, he.symm⟩
        | [], _ :: _, _, ha, hb => cases ks <;> simp [fits] at ha hb
        | _ :: _, [], _, ha, hb => cases ks <;> simp [fits] at ha hb
      obtain ⟨x, y, h1, h2, rfl⟩ := hce
      have ih : (Op.eqFields (n + 1) xs ys fs).run P w = .ok y w := eqFields_ok hr ha.2 hb.2 h2 (fun j => by rw [show i + 1 + j = i + (j + 1) by omega, hx]; simp) (fun j => by rw [show i + 1 + j = i + (j + 1) by omega, hy]; simp)
      have hxi : xs[f.offset]? = some (avVal a) := by rw [ho]; simpa using hx 0
      have hyi : ys[f.offset]? = some (avVal b) := by rw [ho]; simpa using hy 0
      have step : ∀ {d : TypeDesc}, P.underlying f.type = some d → d.isRow = false → (Op.equalIn (n + 1) f.type (avVal a) (avVal b)).run P w = .ok x w → (Op.eqFields (n + 1) xs ys (f :: fs)).run P w = .ok (x && y) w := by
        intro d hu hd hq
        have hne : f.name ≠ "_" := by simpa using hn
        simp only [Op.eqFields, if_pos hne, Sem.run_bind, run_part hu hd hxi, run_part hu hd hyi, hq, Result.andThen_ok]
        cases x with
        | false => simp
        | true => simpa using ih
      cases k with
      | int q =>
        dsimp only at hk
        split at hk
        · rename_i q' hu
          have : q' = q := by simpa using hk
          subst this
          cases a <;> simp [fit] at ha
          cases b <;> simp [fit] at hb
          obtain ⟨rfl, _⟩ := ha
          obtain ⟨rfl, _⟩ := hb
          simp only [avEq, if_true, Option.some.injEq] at h1
          refine step hu rfl ?_
          rw [← h1]
          rw [show ∀ k n, avVal (.int k n) = .int k n from fun _ _ => rfl, show ∀ k n, avVal (.int k n) = .int k n from fun _ _ => rfl, run_equalIn_int w n f.type _ _ _ _ hu]
          rfl
        · cases hk
      | bool =>
        dsimp only at hk
        split at hk
        · rename_i hu
          cases a <;> simp [fit] at ha
          cases b <;> simp [fit] at hb
          simp only [avEq, Option.some.injEq] at h1
          refine step hu rfl ?_
          rw [← h1]
          exact (run_equalIn_bool' w n f.type _ _ hu).trans (by congr 1)
        · cases hk
      | str =>
        dsimp only at hk
        split at hk
        · rename_i hu
          cases a <;> simp [fit] at ha
          cases b <;> simp [fit] at hb
          simp only [avEq, Option.some.injEq] at h1
          refine step hu rfl ?_
          rw [← h1]
          refine (run_equalIn_string w n f.type _ _ hu).trans ?_
          congr 1
          rw [Bool.eq_iff_iff, beq_iff_eq, decide_eq_true_eq, ByteArray.toList_eq, ByteArray.toList_eq]
          constructor
          · intro hh
            exact bytes_ext (by simpa using hh)
          · intro hh; rw [hh]
        · cases hk
      | _ => cases hk
  | [], _ :: _, _, _, _, _, h, _, _, _, _, _ => by simp [eqFieldsB] at h
  | _ :: _, [], _, _, _, _, h, _, _, _, _, _ => by simp [eqFieldsB] at h
omit [Names] in
theorem eqB_ok {t : Nat} {ks : List Ty} (h : eqB P t ks = true) : EqOk P t ks := by
  unfold eqB at h
  split at h
  · rename_i fs hu
    simp only [Bool.and_eq_true, Bool.not_eq_true'] at h
    refine ⟨h.2.1, fun as bs e w ha hb he => ?_⟩
    have hf : P.fieldsOf t = fs := by simp [Program.fieldsOf, hu]
    rw [show (10000 : Nat) = 9999 + 1 from rfl, run_equalIn_struct w 9999 t _ _ (by rw [hf]; exact hu) h.1, hf]
    exact eqFields_ok (n := 9998) h.2.2 ha hb he (fun j => by simp) (fun j => by simp)
  · cases h
def tabEqB (P : Program) : TT → Bool
  | [] => true
  | (t, i) :: r => (match i.eqk with | [] => true | k :: ks => eqB P t (k :: ks)) && tabEqB P r
omit [Names] in
theorem tok_ok {T : TT} (h : tabB P T = true) (he : tabEqB P T = true) : TOk P T := by
  refine tok_of h ?_
  clear h
  induction T with
  | nil => intro p hp; simp at hp
  | cons q T ih =>
    obtain ⟨t, i⟩ := q
    simp only [tabEqB, Bool.and_eq_true] at he
    intro p hp hne
    rcases List.mem_cons.1 hp with rfl | hp
    · have h1 := he.1
      split at h1
      · rename_i e; exact absurd e hne
      · rename_i k ks e
        dsimp only
        rw [e]
        exact eqB_ok h1
    · exact ih he.2 p hp hne
end
end Go.Eng
end

section
namespace Go.Eng
variable [Names]
open Go.RowKit
omit [Names] in
theorem below_trodAll {H : Type} {enc : TypeId × Value → H} {P : Program} (hl : laidOutB P = true) {W W' : World} (hb : Below W.heap.size W W') : ∀ {ts : List TypeId} {vs : List Value} {ds : List (DataW H)} {ps : List MemPlace},
    (ts.all fun t => P.readableRec t && Nat.blt t P.types.size) = true → DataW.TrodAll enc P W 0 (fun _ => true) true ts vs ds ps → (∀ x ∈ ps, x.block < W.heap.size) →
    DataW.TrodAll enc P W' 0 (fun b => decide (b < W.heap.size)) true ts vs ds ps
  | [], vs, ds, ps, _, h, _ => by
    obtain ⟨rfl, rfl, rfl⟩ := Go.ChangeShapes.trodAll_nil h
    exact rfl
  | t :: ts, vs, ds, ps, hr, h, hlt => by
    simp only [List.all_cons, Bool.and_eq_true] at hr
    obtain ⟨⟨h1, h2⟩, h3⟩ := hr
    match vs, ds, h with
    | v :: vs, d :: ds, h =>
      obtain ⟨p, q, h4, h5, rfl⟩ := h
      exact ⟨p, q, Below.trod hl h1 (by simpa [Nat.blt_eq] using h2) h4 hb (fun x hx => hlt x (by simp [hx])), below_trodAll hl hb h3 h5 (fun x hx => hlt x (by simp [hx])), rfl⟩
    | [], [], h => exact False.elim h
    | [], _ :: _, h => exact False.elim h
    | _ :: _, [], h => exact False.elim h
omit [Names] in
theorem trodAll_len {H : Type} {enc : TypeId × Value → H} {P : Program} {W : World} {base : Nat} {sp : Nat → Bool} {held : Bool} : ∀ {ts : List TypeId} {vs : List Value} {ds : List (DataW H)} {ps : List MemPlace},
    DataW.TrodAll enc P W base sp held ts vs ds ps → ds.length = ts.length
  | [], vs, ds, ps, h => by
    obtain ⟨rfl, rfl, rfl⟩ := Go.ChangeShapes.trodAll_nil h
    rfl
  | t :: ts, vs, ds, ps, h => by
    match vs, ds, h with
    | v :: vs, d :: ds, h =>
      obtain ⟨p, q, h4, h5, rfl⟩ := h
      simp [trodAll_len h5]
    | [], [], h => exact False.elim h
    | [], _ :: _, h => exact False.elim h
    | _ :: _, [], h => exact False.elim h
omit [Names] in
theorem parsAre_len {P : Program} : ∀ {l : List Par} {ts : List TypeId}, parsAre P l ts = true → ts.length = l.length
  | [], [], _ => rfl
  | _ :: _, _ :: _, h => by
    simp only [parsAre, Bool.and_eq_true] at h
    simp [parsAre_len h.2.2]
  | [], _ :: _, h => by simp [parsAre] at h
  | _ :: _, [], h => by simp [parsAre] at h
theorem law_lifted {H : Type} {enc : TypeId × Value → H} {C : Checked} {os : Os} {f : Nat} {fn : Func} {s : ChangeSpec} {conds : List PathCond} {apart : Bool} {l : List Par} {G : Nat → (argsP l).den → Option (Bool × (argsP l).out)} {rb : TypeId}
    (own : ownKnob C.prog.godebug = none) (started : os.Started) (noInit : C.prog.inits.idxOf? f = none) (hfn : C.prog.funcs[f]? = some fn)
    (witness : ∃ (w : World) (tape : Tape) (i : Input), w.os = os ∧ (w.forCall tape i).Shaped C.prog ∧ i.vars = [] ∧ Input.okWide C.prog (w.forCall tape i) .any w.heap.size f i ∧
      s.pre6 enc C.prog fn conds apart (w.forCall tape i).memory i.args ∧ ({} : Assume).holds C.prog (lone (Frame.enter C.prog f i.args .normal) [] (w.forCall tape i)))
    (he : ∀ k, EntryOk C.prog ⟨f, 0, argsP l, .bool, G k⟩) (hb : fn.body.isSome = true) (hnm : (fn.name == "runtime.NumGoroutine") = false)
    (hG : ∀ x : argsDen l, argsWf l x → ∃ k o, G k (argsX l x) = some (true, o))
    (hts : parsAre C.prog l fn.params.toList = true) (hres : fn.resultTypes = #[rb]) (hrb : C.prog.underlying rb = some .bool)
    (hl : laidOutB C.prog = true) (hrd : (fn.params.toList.all fun t => C.prog.readableRec t && Nat.blt t C.prog.types.size) = true)
    (hvars : s.vars = []) (hgen : ∀ W : World, (∀ b, Names.gb b → b < W.heap.size) ∧ Names.gen W) (hs : ∀ ds : List (DataW H), ds.length = l.length → s.fn H ds = ⟨[.lit (.bool true)], ds, []⟩) :
    ReturnsInHanded {} C os f .any (s.pre6 enc C.prog fn conds apart) (s.post enc C.prog fn apart true false false) := by
  refine returnsInHanded_of_change_sized own started noInit hfn witness ?_
  intro W base args ds gs before hval hW _ _ _
  have hW' := hW
  obtain ⟨p, q, hA, hV, rfl, _, _⟩ := hW'
  have hlen : ds.length = l.length := (trodAll_len hA).trans (parsAre_len hts)
  rw [hvars] at hV
  have hgs : gs = [] := by
    cases gs with
    | nil => rfl
    | cons g gs => exact False.elim hV
  subst hgs
  refine (law_calls (H := H) (enc := enc) he hfn hb hnm hG hts hA (fun j t v ht hv => hval j t v (by simpa using ht) hv) (hgen W).1 (hgen W).2).mono fun e W' hh => ?_
  obtain ⟨rfl, bel⟩ := hh
  refine ⟨_, rfl, ds, [], _, [], p, [], hW, ?_, ?_, ?_, ?_, fun h => by cases h⟩
  · rw [List.append_nil, hs ds hlen, hres]
    exact Go.ChangeShapes.trodAll_mk1 ⟨1, by simp [DataW.trod, Value.cells, hrb]⟩
  · rw [List.append_nil, hs ds hlen]
    exact below_trodAll hl bel hrd hA (fun x hx => DataW.TrodAll.lt hA x hx)
  · rw [List.append_nil, hs ds hlen, hvars]
    exact rfl
  · exact bel.frame _
end Go.Eng
end

section
namespace Go.Eng
variable [Names]
open Go.RowKit
section
variable {P : Program}
def enterB (fn : Func) : Bool := fn.body.isSome && !(fn.name == "runtime.NumGoroutine")
omit [Names] in
theorem enter_run {fn : Func} {f : Nat} (hf : P.funcs[f]? = some fn) (hb : enterB fn = true) (args : Array Value) (w : World) : (callFunc f args).run P w = .ok (.enter f args) w := by
  simp only [enterB, Bool.and_eq_true, Bool.not_eq_true', beq_eq_false_iff_ne, ne_eq] at hb
  obtain ⟨code, hcode⟩ := Option.isSome_iff_exists.1 hb.1
  simp [callFunc, hf, hcode, hb.2]
def repF (x : ByteArray × Int × Unit) : Option (ByteArray × Unit × Unit × Unit) :=
  if 0 ≤ x.2.1 ∧ x.2.1 ≤ 9223372036854775807 ∧ x.1.size * x.2.1.toNat ≤ 140737488355328 then some (⟨(Lib.repeatL x.1.data.toList x.2.1.toNat).toArray⟩, (), (), ()) else none
theorem entry_repeat {fn : Func} {f : Nat} (hf : P.funcs[f]? = some fn) (hb : enterB fn = true)
    (h : ∀ (s : ByteArray) (c : Nat) (w : World), c ≤ 9223372036854775807 → s.size * c ≤ 140737488355328 → Calls P f #[.string s, .int .i64 c] w fun e w' => e = .returned (.string ⟨(Lib.repeatL s.data.toList c).toArray⟩) ∧ Below w.heap.size w w') :
    EntryOk P ⟨f, 0, .cons .str (.cons (.int .i64) .nil), .str, repF⟩ := by
  refine ⟨rfl, rfl, fun x r hx w args Sx F B hrep hnd hmine hF hB _ _ => .inl ⟨f, args, enter_run hf hb args w, ?_⟩⟩
  obtain ⟨s, n, u⟩ := x
  obtain ⟨v1, vs1, S1, S2, ha, rfl, hs, h2⟩ := hrep
  obtain ⟨v2, vs2, S3, S4, rfl, rfl, hn, h3⟩ := h2
  obtain ⟨rfl, rfl⟩ := h3
  obtain ⟨h4, rfl⟩ := hs
  obtain ⟨h5, rfl⟩ := hn
  simp only [List.cons.injEq, and_true] at h4 h5
  subst h4 h5
  have hargs : args = #[.string s, .int .i64 n] := by
    rw [← Array.toList_inj, ha]
  subst hargs
  have hx' : repF (s, n, u) = some r := hx
  unfold repF at hx'
  split at hx'
  case isFalse => cases hx'
  rename_i hc
  obtain ⟨c0, c1, c2⟩ := hc
  dsimp only at c0 c1 c2
  injection hx' with hx'
  subst hx'
  have key := h s n.toNat w (by omega) c2
  rw [Int.toNat_of_nonneg c0] at key
  refine key.mono ?_
  rintro e w' ⟨rfl, hbel⟩
  refine ⟨_, rfl, F, [], [], ⟨hbel.os, hbel.tape, hbel.output, hbel.size, fun b hb _ => hbel.block b hb, fun b hb => hb, fun b hb => .inl hb, fun b hb => Nat.lt_of_lt_of_le (hF b hb) hbel.size, ⟨rfl, rfl⟩, ?_, List.nodup_nil, by simp⟩⟩
  exact ⟨_, _, [], [], rfl, rfl, rfl, _, _, [], [], rfl, rfl, rfl, rfl⟩
end
end Go.Eng
end
