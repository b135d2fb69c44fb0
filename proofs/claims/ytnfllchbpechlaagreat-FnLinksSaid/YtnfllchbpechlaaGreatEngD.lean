import Derived.Test.YtnfllchbpechlaaGreatEngC
import Derived.Shelf.Spec.SlicesInsertGrow
import Derived.Lib.Join
/- An interpreter of the program's code over plain values is sound: what it answers is what the call answers (part D). Conditions: none beyond each theorem's own. -/
set_option linter.unusedVariables false
section
set_option linter.unusedVariables false
set_option linter.unusedSimpArgs false
namespace Go.Eng
open Go.Shelf Go.RowKit Go.Lib Go.Proofs
structure InsL (P : Program) (ρ : Ren) (f s bytes : Nat) (z : Value) : Prop where
  mixed : P.follows .mixedOrders = true
  f22 : ∃ nm, P.funcs[f]? = some { Body2.n22 ρ with name := nm }
  f29 : ∃ fn, P.funcs[ρ.f 29]? = some fn ∧ (fn.name == "runtime.NumGoroutine") = false ∧ fn.body.isNone = true ∧ Extern.findNext fn = none ∧ Extern.find fn = some (Extern.SlicesOverlaps.overlaps #[(ρ.t 24), (ρ.t 24)] #[(ρ.t 4)])
  t0 : P.underlying (ρ.t 0) = some (TypeDesc.tuple #[])
  a0 : ∀ w, (isAgg (ρ.t 0)).run P w = .ok false w
  z0 : ∀ w, (Go.sizeOf (ρ.t 0)).run P w = .ok 1 w
  v0 : ∀ w, (zeroValue (ρ.t 0)).run P w = .ok (Value.tuple #[]) w
  t3 : P.underlying (ρ.t 3) = some (TypeDesc.int IntKind.i64)
  a3 : ∀ w, (isAgg (ρ.t 3)).run P w = .ok false w
  z3 : ∀ w, (Go.sizeOf (ρ.t 3)).run P w = .ok 1 w
  v3 : ∀ w, (zeroValue (ρ.t 3)).run P w = .ok (Value.int IntKind.i64 0) w
  t4 : P.underlying (ρ.t 4) = some (TypeDesc.bool)
  a4 : ∀ w, (isAgg (ρ.t 4)).run P w = .ok false w
  z4 : ∀ w, (Go.sizeOf (ρ.t 4)).run P w = .ok 1 w
  v4 : ∀ w, (zeroValue (ρ.t 4)).run P w = .ok (Value.bool false) w
  z9 : ∀ w, (Go.sizeOf (ρ.t 9)).run P w = .ok s w
  t24 : P.underlying (ρ.t 24) = some (TypeDesc.slice (ρ.t 9))
  a24 : ∀ w, (isAgg (ρ.t 24)).run P w = .ok false w
  z24 : ∀ w, (Go.sizeOf (ρ.t 24)).run P w = .ok 1 w
  v24 : ∀ w, (zeroValue (ρ.t 24)).run P w = .ok (Value.slice none 0 0) w
  i9 : (P.info? (ρ.t 9)).map (fun i => (i.zero, i.size, i.bytes)) = some (some z, s, bytes)
variable {P : Program} {ρ : Ren} {f s bytes : Nat} {z : Value}
theorem run_copy_rows (w : World) (dT sT ty elem : TypeId) (s b o dLen dCap : Nat) (a : Addr) (sLen sCap : Nat) (cs : List Value)
    (hu : P.underlying dT = some (.slice elem)) (hs : (P.info? elem).map (·.size) = some s) (hn : cs.length = Nat.min sLen dLen * s)
    (hsrc : ∀ j v, cs[j]? = some v → w.cell? (a.add j) = some v) (hc : ∀ j, j < cs.length → (w.cell? ⟨b, o + j, none⟩).isSome = true) (hf : ∀ j, j < cs.length → w.frozen? ⟨b, o + j, none⟩ = false) (h1 : ∀ v ∈ cs, v.oneCell' = true) :
    (Builtin.copy_ #[dT, sT] ty #[.slice (some ⟨b, o, none⟩) dLen dCap, .slice (some a) sLen sCap]).run P w = .ok (goInt (Nat.min sLen dLen)) (w.setCells b o cs) := by
  have hl := run_loadCells_list (P := P) w a cs hsrc
  have hst := run_storeCells_cells (P := P) b o cs 0 w (by simpa using hc) (by simpa using hf) h1
  cases hq : P.info? elem with
  | none => simp [hq] at hs
  | some i =>
    have hi : i.size = s := by simpa [hq] using hs
    simp [Builtin.copy_, run_underlying hu, Builtin.lenOf, Builtin.firstCells, sizeOf, typeInfo, hq, hi, ← hn, hl, hst]
set_option maxHeartbeats 4000000 in
set_option maxRecDepth 100000 in
theorem ins_shift (L : InsL P ρ f s bytes z) (b off n c i vb voff m vc : Nat) (cs vs : List Value) (w : World) (hi : i < n) (hm : 0 < m) (hroom : n + m ≤ c) (hc63 : c ≤ 9223372036854775807) (hvb : vb ≠ b)
    (hcl : cs.length = n * s) (hvl : vs.length = m * s)
    (hcs : ∀ j v, cs[j]? = some v → w.cell? ⟨b, off + j, none⟩ = some v) (hsp : ∀ j, j < (n + m) * s → (w.cell? ⟨b, off + j, none⟩).isSome = true) (hfz : ∀ j, j < (n + m) * s → w.frozen? ⟨b, off + j, none⟩ = false)
    (hvs : ∀ j v, vs[j]? = some v → w.cell? ⟨vb, voff + j, none⟩ = some v) (h1c : ∀ v ∈ cs, v.oneCell' = true) (h1v : ∀ v ∈ vs, v.oneCell' = true)
    (tA tB : TypeId) (kA kB : Nat) (hsa : w.shape? vb = some (tA, kA)) (hsb : w.shape? b = some (tB, kB)) (hkB : kB ≠ 0) (hfa : w.frozen? ⟨vb, voff, none⟩ = false) (hfe : w.frozen? ⟨vb, kA, none⟩ = false) :
    Calls P f #[.slice (some ⟨b, off, none⟩) n c, .int .i64 i, .slice (some ⟨vb, voff, none⟩) m vc] w fun e w' =>
      e = .returned (.slice (some ⟨b, off, none⟩) (n + m) c) ∧ w' = (w.drew.setCells b (off + (i + m) * s) (cs.drop (i * s))).setCells b (off + i * s) vs := by
  have t0 := L.t0; have a0 := L.a0; have z0 := L.z0; have v0 := L.v0; have t3 := L.t3; have a3 := L.a3; have z3 := L.z3; have v3 := L.v3; have t4 := L.t4; have a4 := L.a4; have z4 := L.z4; have v4 := L.v4; have z9 := L.z9; have t24 := L.t24; have a24 := L.a24; have z24 := L.z24; have v24 := L.v24
  have u0 := run_underlying L.t0; have u3 := run_underlying L.t3; have u4 := run_underlying L.t4; have u24 := run_underlying L.t24
  have hz1 : ¬ ((m : Int) = 0) := by omega
  have hz2 : ¬ ((i : Int) = (n : Int)) := by omega
  have hsz : (P.info? (ρ.t 9)).map (·.size) = some s := by
    obtain ⟨i0, hi0, h0, h1, h2⟩ := info_parts L.i9
    rw [hi0]; simp [h1]
  obtain ⟨nm, f22⟩ := L.f22
  obtain ⟨fn, f29, o1, o2, o3, o4⟩ := L.f29
  have hov : ∀ lb cb, (callFunc (ρ.f 29) #[.slice (some ⟨vb, voff, none⟩) m vc, .slice (some ⟨b, off + (i + m) * s, none⟩) lb cb]).run P w = .ok (.value (.bool false)) w := fun lb cb => by
    rw [run_callFunc_extern f29 o1 o2 o3 o4,
      Lib.run_overlaps_apart w (ρ.t 24) (ρ.t 4) (ρ.t 9) L.t24 s L.z9 ⟨vb, voff, none⟩ ⟨b, off + (i + m) * s, none⟩ m vc lb cb hvb tA tB kA kB hsa hsb hkB hfa hfe]
    rfl
  have hdl : (cs.drop (i * s)).length = (n - i) * s := by rw [List.length_drop, hcl, Nat.sub_mul]
  have mixed := L.mixed
  have hw1 : IntKind.i64.wrap ((i : Int) + (m : Int)) = (i : Int) + (m : Int) := by rw [IntKind.wrap_i64]; omega
  have hb1 : (0 : Int) ≤ (i : Int) + (m : Int) := by omega
  have hin : i ≤ n := by omega
  have htn : ((i : Int) + (m : Int)).toNat = i + m := by omega
  have hb2 : ¬ (c = i + m) := by omega
  have hb3 : (i : Int) ≤ (n : Int) + (m : Int) := by omega
  have hb4 : ¬ (c = i) := by omega
  have hlt1 : ∀ j, j < (n - i) * s → (i + m) * s + j < (n + m) * s := fun j hj => by
    have : (i + m) * s + (n - i) * s = (n + m) * s := by rw [← Nat.add_mul]; congr 1; omega
    omega
  have hlt2 : ∀ j, j < m * s → i * s + j < (n + m) * s := fun j hj => by
    have h1 : i * s + m * s = (i + m) * s := by rw [← Nat.add_mul]
    have h2 : (i + m) * s ≤ (n + m) * s := Nat.mul_le_mul_right _ (by omega)
    omega
  have hmin1 : Nat.min (n + m - i) (n + m - (i + m)) = n - i := by simp only [Nat.min_def]; split <;> omega
  have hmin2 : Nat.min m (n + m - i) = m := by simp only [Nat.min_def]; split <;> omega
  have hcp1 : ∀ ty dc sc, (Builtin.copy_ #[(ρ.t 24), (ρ.t 24)] ty #[.slice (some ⟨b, off + (i + m) * s, none⟩) (n + m - (i + m)) dc, .slice (some ⟨b, off + i * s, none⟩) (n + m - i) sc]).run P w.drew = .ok (goInt (Nat.min (n + m - i) (n + m - (i + m)))) (w.drew.setCells b (off + (i + m) * s) (cs.drop (i * s))) := fun ty dc sc =>
    run_copy_rows w.drew _ _ ty (ρ.t 9) s b (off + (i + m) * s) (n + m - (i + m)) dc ⟨b, off + i * s, none⟩ (n + m - i) sc (cs.drop (i * s)) L.t24 hsz (by rw [hdl, hmin1])
      (fun j v hj => by rw [Addr.add_lit, Nat.add_assoc]; exact hcs (i * s + j) v (by rwa [List.getElem?_drop] at hj))
      (fun j hj => by rw [Nat.add_assoc]; exact hsp _ (hlt1 j (hdl ▸ hj))) (fun j hj => by rw [Nat.add_assoc]; exact hfz _ (hlt1 j (hdl ▸ hj))) (fun v hv => h1c v (List.mem_of_mem_drop hv))
  obtain ⟨W1, hW1⟩ : ∃ W1, W1 = w.drew.setCells b (off + (i + m) * s) (cs.drop (i * s)) := ⟨_, rfl⟩
  have hsp1 : ∀ k, k < (n + m) * s → (W1.cell? ⟨b, off + k, none⟩).isSome = true := fun k hk => by
    rw [hW1]
    exact isSome_setCells b _ _ _ (fun j hj => by rw [Nat.add_assoc]; exact hsp _ (hlt1 j (hdl ▸ hj))) _ (hsp k hk)
  have hcp2 : ∀ (W : World), (∀ x, W.cell? x = W1.cell? x) → (∀ x, W.frozen? x = W1.frozen? x) → ∀ ty dc, (Builtin.copy_ #[(ρ.t 24), (ρ.t 24)] ty #[.slice (some ⟨b, off + i * s, none⟩) (n + m - i) dc, .slice (some ⟨vb, voff, none⟩) m vc]).run P W = .ok (goInt (Nat.min m (n + m - i))) (W.setCells b (off + i * s) vs) := fun W hWc hWf ty dc =>
    run_copy_rows W _ _ ty (ρ.t 9) s b (off + i * s) (n + m - i) dc ⟨vb, voff, none⟩ m vc vs L.t24 hsz (by rw [hvl, hmin2])
      (fun j v hj => by
        rw [Addr.add_lit, hWc, hW1, World.cell?_setCells_out b _ _ _ _ (fun h _ => absurd h hvb)]
        exact hvs j v hj)
      (fun j hj => by rw [hWc, Nat.add_assoc]; exact hsp1 _ (hlt2 j (hvl ▸ hj))) (fun j hj => by rw [hWf, hW1, World.frozen?_setCells, Nat.add_assoc]; exact hfz _ (hlt2 j (hvl ▸ hj))) h1v
  rw [← hW1] at hcp1
  clear hlt1 hlt2 hmin1 hmin2 hdl
  go_enter f22, Body2.n22_ntmps ρ
  go_wp2_with (simp only [hov])
  go_region_law_o (refine step_copy_runI rfl _ _ (ρ.t 24) (ρ.t 24) rfl _ _ (by simp [Act.eval, Act.put]) (by simp [Act.eval, Act.put]) (hcp1 _ _ _) ?_)
  go_wp2_with (at_builtin; refine wpList_copy_runI _ rfl _ _ (ρ.t 24) (ρ.t 24) rfl _ _ rfl rfl (hcp2 _ (fun _ => rfl) (fun _ => rfl) _ _) ?_)
  go_ret
  first | exact ⟨rfl, rfl⟩ | exact ⟨rfl, by rw [hW1]⟩
set_option maxHeartbeats 4000000 in
set_option maxRecDepth 100000 in
theorem ins_end_room (L : InsL P ρ f s bytes z) (b off n c vb voff m vc : Nat) (vs : List Value) (w : World) (hm : 0 < m) (hroom : n + m ≤ c) (hc63 : c ≤ 9223372036854775807)
    (hvl : vs.length = m * s) (hsp : ∀ j, j < m * s → (w.cell? ⟨b, off + n * s + j, none⟩).isSome = true) (hfz : ∀ j, j < m * s → w.frozen? ⟨b, off + n * s + j, none⟩ = false)
    (hvs : ∀ j v, vs[j]? = some v → w.cell? ⟨vb, voff + j, none⟩ = some v) (h1v : ∀ v ∈ vs, v.oneCell' = true) :
    Calls P f #[.slice (some ⟨b, off, none⟩) n c, .int .i64 n, .slice (some ⟨vb, voff, none⟩) m vc] w fun e w' =>
      e = .returned (.slice (some ⟨b, off, none⟩) (n + m) c) ∧ w' = w.setCells b (off + n * s) vs := by
  have t0 := L.t0; have a0 := L.a0; have z0 := L.z0; have v0 := L.v0; have t3 := L.t3; have a3 := L.a3; have z3 := L.z3; have v3 := L.v3; have t4 := L.t4; have a4 := L.a4; have z4 := L.z4; have v4 := L.v4; have z9 := L.z9; have t24 := L.t24; have a24 := L.a24; have z24 := L.z24; have v24 := L.v24
  have u0 := run_underlying L.t0; have u3 := run_underlying L.t3; have u4 := run_underlying L.t4; have u24 := run_underlying L.t24
  have mixed := L.mixed
  obtain ⟨nm, f22⟩ := L.f22
  obtain ⟨i0, hi0, hz0, hzs, hzb⟩ := info_parts L.i9
  have hz1 : ¬ ((m : Int) = 0) := by omega
  have hsrc : Src P i0.size (ρ.t 24) (.slice (some ⟨vb, voff, none⟩) m vc) m vs w := by
    rw [hzs]
    exact Src.ofSlice w L.t24 ⟨vb, voff, none⟩ m vc vs hvl (fun j u hj => by rw [Addr.add_lit]; exact hvs j u hj) h1v
  have hrun : ∀ ty, (Builtin.append_ #[(ρ.t 24), (ρ.t 24)] ty #[.slice (some ⟨b, off, none⟩) n c, .slice (some ⟨vb, voff, none⟩) m vc]).run P w = .ok (.slice (some ⟨b, off, none⟩) (n + m) c) (w.setCells b (off + n * s) vs) := fun ty => by
    have h := run_append_room_src (P := P) w (ρ.t 24) (ρ.t 24) ty (ρ.t 9) i0 L.t24 hi0 b off n c _ m vs hsrc hroom (by rw [hvl, hzs]; exact hsp) (by rw [hvl, hzs]; exact hfz)
    rw [hzs] at h
    exact h
  clear hsrc hsp hfz hvs
  go_enter f22, Body2.n22_ntmps ρ
  go_wp2_with (at_builtin; refine Lib.wpList_append_run _ rfl _ _ _ _ rfl _ _ rfl rfl _ _ (hrun _) ?_)
  go_ret
  exact ⟨rfl, rfl⟩
set_option maxHeartbeats 4000000 in
set_option maxRecDepth 100000 in
theorem ins_end_grow (L : InsL P ρ f s bytes z) (base : Option Addr) (n c vb voff m vc : Nat) (cs vs : List Value) (w : World) (hm : 0 < m) (hnc : n ≤ c) (hroom : c < n + m) (hbig : (n + m) * bytes ≤ 140737488355328) (h63 : ((n + m : Nat) : Int) ≤ 9223372036854775807)
    (hcl : cs.length = n * s) (hvl : vs.length = m * s) (hnil : base = none → n = 0 ∧ c = 0)
    (hcs : ∀ a, base = some a → ∀ j v, cs[j]? = some v → w.cell? (a.add j) = some v)
    (hvs : ∀ j v, vs[j]? = some v → w.cell? ⟨vb, voff + j, none⟩ = some v) (h1v : ∀ v ∈ vs, v.oneCell' = true) :
    Calls P f #[.slice base n c, .int .i64 n, .slice (some ⟨vb, voff, none⟩) m vc] w fun e w' =>
      e = .returned (.slice (some ⟨w.heap.size, 0, none⟩) (n + m) (grownCap w (n + m) c (ρ.t 9))) ∧
      w' = w.drew.alloc (.cells ((cs ++ vs).toArray ++ Builtin.zeroCells z.cells (grownCap w (n + m) c (ρ.t 9) - (n + m))) (ρ.t 9)) := by
  have t0 := L.t0; have a0 := L.a0; have z0 := L.z0; have v0 := L.v0; have t3 := L.t3; have a3 := L.a3; have z3 := L.z3; have v3 := L.v3; have t4 := L.t4; have a4 := L.a4; have z4 := L.z4; have v4 := L.v4; have z9 := L.z9; have t24 := L.t24; have a24 := L.a24; have z24 := L.z24; have v24 := L.v24
  have u0 := run_underlying L.t0; have u3 := run_underlying L.t3; have u4 := run_underlying L.t4; have u24 := run_underlying L.t24
  have mixed := L.mixed
  obtain ⟨nm, f22⟩ := L.f22
  obtain ⟨i0, hi0, hz0, hzs, hzb⟩ := info_parts L.i9
  have hz1 : ¬ ((m : Int) = 0) := by omega
  have hsrc : Src P i0.size (ρ.t 24) (.slice (some ⟨vb, voff, none⟩) m vc) m vs w := by
    rw [hzs]
    exact Src.ofSlice w L.t24 ⟨vb, voff, none⟩ m vc vs hvl (fun j u hj => by rw [Addr.add_lit]; exact hvs j u hj) h1v
  have hold : (Builtin.firstCells i0.size n (.slice base n c)).run P w.drew = .ok cs.toArray w.drew := by
    rw [hzs]
    cases base with
    | none =>
      obtain ⟨h0, _⟩ := hnil rfl
      subst h0
      rw [List.length_eq_zero_iff.1 (hcl.trans (Nat.zero_mul s))]
      exact run_firstCells_none w.drew s 0 0 c
    | some a => exact run_firstCells_some w.drew s n a n c cs hcl (fun j v hj => hcs a rfl j v hj)
  have hrun : ∀ ty, (Builtin.append_ #[(ρ.t 24), (ρ.t 24)] ty #[.slice base n c, .slice (some ⟨vb, voff, none⟩) m vc]).run P w = _ := fun ty =>
    run_append_grow_src w (ρ.t 24) (ρ.t 24) ty (ρ.t 9) i0 _ L.t24 hi0 hz0 base n c cs hold _ m vs hsrc hroom h63 (by rw [hzb]; exact growslice_fits hroom hbig)
  clear hold hsrc hcs hvs
  generalize w.drew.alloc (.cells ((cs ++ vs).toArray ++ Builtin.zeroCells z.cells (grownCap w (n + m) c (ρ.t 9) - (n + m))) (ρ.t 9)) = W2 at hrun ⊢
  generalize hG : grownCap w (n + m) c (ρ.t 9) = G at hrun ⊢
  go_enter f22, Body2.n22_ntmps ρ
  cases base with
  | none =>
    obtain ⟨h0, h1⟩ := hnil rfl
    subst h0 h1
    go_wp2_with (at_builtin; refine Lib.wpList_append_run _ rfl _ _ _ _ rfl _ _ rfl rfl _ _ (hrun _) ?_)
    go_ret
    exact ⟨rfl, rfl⟩
  | some a =>
    obtain ⟨ab, ao, asp⟩ := a
    go_wp2_with (at_builtin; refine Lib.wpList_append_run _ rfl _ _ _ _ rfl _ _ rfl rfl _ _ (hrun _) ?_)
    all_goals (go_ret; exact ⟨rfl, rfl⟩)
theorem zeroCells_size (cs : Array Value) (n : Nat) : (Builtin.zeroCells cs n).size = n * cs.size := by
  unfold Builtin.zeroCells
  induction n with
  | zero => simp
  | succ n ih => simp_all [Nat.add_mul]
set_option maxHeartbeats 4000000 in
set_option maxRecDepth 100000 in
theorem ins_grow (L : InsL P ρ f s bytes z) (hs0 : 0 < s) (hb0 : 0 < bytes) (hzc : z.cells.size = s) (b off n c i vb voff m vc : Nat) (cs vs : List Value) (w : World) (hi : i < n) (hm : 0 < m) (hnc : n ≤ c) (hroom : c < n + m) (hbig : (n + m) * bytes ≤ 140737488355328)
    (hcl : cs.length = n * s) (hvl : vs.length = m * s)
    (hcs : ∀ j v, cs[j]? = some v → w.cell? ⟨b, off + j, none⟩ = some v)
    (hvs : ∀ j v, vs[j]? = some v → w.cell? ⟨vb, voff + j, none⟩ = some v) (h1c : ∀ v ∈ cs, v.oneCell' = true) (h1v : ∀ v ∈ vs, v.oneCell' = true) :
    Calls P f #[.slice (some ⟨b, off, none⟩) n c, .int .i64 i, .slice (some ⟨vb, voff, none⟩) m vc] w fun e w' =>
      e = .returned (.slice (some ⟨w.heap.size, 0, none⟩) (n + m) (grownCap w (n + m) c (ρ.t 9))) ∧
      w' = (((w.alloc (.cells ((cs.take (i * s)).toArray ++ Builtin.zeroCells z.cells (n + m - i) ++ Builtin.zeroCells z.cells (grownCap w (n + m) c (ρ.t 9) - (n + m))) (ρ.t 9))).drew.setCells w.heap.size (i * s) vs).drew).setCells w.heap.size ((i + m) * s) (cs.drop (i * s)) := by
  have t0 := L.t0; have a0 := L.a0; have z0 := L.z0; have v0 := L.v0; have t3 := L.t3; have a3 := L.a3; have z3 := L.z3; have v3 := L.v3; have t4 := L.t4; have a4 := L.a4; have z4 := L.z4; have v4 := L.v4; have z9 := L.z9; have t24 := L.t24; have a24 := L.a24; have z24 := L.z24; have v24 := L.v24
  have u0 := run_underlying L.t0; have u3 := run_underlying L.t3; have u4 := run_underlying L.t4; have u24 := run_underlying L.t24
  have mixed := L.mixed
  obtain ⟨nm, f22⟩ := L.f22
  obtain ⟨i0, hi0, hz0, hzs, hzb⟩ := info_parts L.i9
  have hz1 : ¬ ((m : Int) = 0) := by omega
  have hz2 : ¬ ((i : Int) = (n : Int)) := by omega
  have hz3 : (c : Int) < (n : Int) + (m : Int) := by omega
  have hsz : (P.info? (ρ.t 9)).map (·.size) = some s := by rw [hi0]; simp [hzs]
  have hnm : n + m ≤ 140737488355328 := Nat.le_trans (Nat.le_mul_of_pos_right _ hb0) hbig
  have hns : 0 < n * s := Nat.mul_pos (by omega) hs0
  have hms : 0 < m * s := Nat.mul_pos (by omega) hs0
  have hbw : b < w.heap.size := block_lt_of_cell (hcs 0 _ (List.getElem?_eq_getElem (by omega)))
  have hvw : vb < w.heap.size := block_lt_of_cell (hvs 0 _ (List.getElem?_eq_getElem (by omega)))
  have hkk : (n : Int) + (m : Int) - (i : Int) = ((n + m - i : Nat) : Int) := by omega
  have hik : i + (n + m - i) = n + m := by omega
  have hile : i * s ≤ n * s := Nat.mul_le_mul_right _ (by omega)
  have hold : (Builtin.firstCells i0.size i (.slice (some ⟨b, off, none⟩) i c)).run P w.drew = .ok (cs.take (i * s)).toArray w.drew := by
    rw [hzs]
    exact run_firstCells_some w.drew s i ⟨b, off, none⟩ i c (cs.take (i * s)) (by rw [List.length_take]; omega) (fun j v hj => by
      rw [Addr.add_lit]
      rw [List.getElem?_take] at hj
      split at hj
      · exact hcs j v hj
      · cases hj)
  have hrz : ∀ ty, (Builtin.append_ #[(ρ.t 24), (ρ.t 3)] ty #[.slice (some ⟨b, off, none⟩) i c, .int .i64 ((n : Int) + (m : Int) - (i : Int))]).run P w =
      .ok (.slice (some ⟨w.heap.size, 0, none⟩) (n + m) (grownCap w (n + m) c (ρ.t 9))) (w.drew.alloc (.cells ((cs.take (i * s)).toArray ++ Builtin.zeroCells z.cells (n + m - i) ++ Builtin.zeroCells z.cells (grownCap w (n + m) c (ρ.t 9) - (n + m))) (ρ.t 9))) := fun ty => by
    have hkb : (n + m - i) * i0.bytes ≤ 281474976710656 := by
      rw [hzb]
      have : (n + m - i) * bytes ≤ (n + m) * bytes := Nat.mul_le_mul_right _ (by omega)
      omega
    have h := Lib.run_append_grow_zeros w (ρ.t 24) (ρ.t 3) ty (ρ.t 9) i0 _ .i64 .i64 L.t24 L.t3 hi0 hz0 (some ⟨b, off, none⟩) i c (cs.take (i * s)) hold (n + m - i) (by omega) (by omega) (by omega) (by omega) hkb (by rw [hzb, hik]; exact growslice_fits hroom hbig)
    rw [hik] at h
    rw [hkk]
    exact h
  obtain ⟨G, hG⟩ : ∃ G, G = grownCap w (n + m) c (ρ.t 9) := ⟨_, rfl⟩
  obtain ⟨ROW, hROW⟩ : ∃ ROW : Array Value, ROW = (cs.take (i * s)).toArray ++ Builtin.zeroCells z.cells (n + m - i) ++ Builtin.zeroCells z.cells (G - (n + m)) := ⟨_, rfl⟩
  rw [← hG] at hrz ⊢
  rw [← hROW] at hrz ⊢
  have hRl : (n + m) * s ≤ ROW.size := by
    rw [hROW]
    simp only [Array.size_append, zeroCells_size, hzc, List.size_toArray, List.length_take, hcl]
    have : i * s + (n + m - i) * s = (n + m) * s := by rw [← Nat.add_mul, hik]
    omega
  obtain ⟨W1, hW1⟩ : ∃ W1, W1 = w.drew.alloc (.cells ROW (ρ.t 9)) := ⟨_, rfl⟩
  rw [← hW1] at hrz
  have hN : ∀ j, j < (n + m) * s → (W1.cell? ⟨w.heap.size, j, none⟩).isSome = true := fun j hj => by
    rw [hW1, World.cell?_alloc_at (w := w.drew) ROW _ w.heap.size j rfl, Array.getElem?_eq_getElem (by omega)]; rfl
  have hNf : ∀ j, W1.frozen? ⟨w.heap.size, j, none⟩ = false := fun j => by rw [hW1]; exact World.frozen?_alloc_at (w := w.drew) ROW _ w.heap.size j rfl
  have hOb : ∀ j v, w.cell? ⟨b, j, none⟩ = some v → W1.cell? ⟨b, j, none⟩ = some v := fun j v h => by rw [hW1, World.cell?_alloc_past (w := w.drew) _ b j hbw]; exact h
  have hOv : ∀ j v, w.cell? ⟨vb, j, none⟩ = some v → W1.cell? ⟨vb, j, none⟩ = some v := fun j v h => by rw [hW1, World.cell?_alloc_past (w := w.drew) _ vb j hvw]; exact h
  have hlt1 : ∀ j, j < (n - i) * s → (i + m) * s + j < (n + m) * s := fun j hj => by
    have : (i + m) * s + (n - i) * s = (n + m) * s := by rw [← Nat.add_mul]; congr 1; omega
    omega
  have hlt2 : ∀ j, j < m * s → i * s + j < (n + m) * s := fun j hj => by
    have h1 : i * s + m * s = (i + m) * s := by rw [← Nat.add_mul]
    have h2 : (i + m) * s ≤ (n + m) * s := Nat.mul_le_mul_right _ (by omega)
    omega
  have hmin1 : Nat.min (n - i) (n + m - (i + m)) = n - i := by simp only [Nat.min_def]; split <;> omega
  have hmin2 : Nat.min m (n + m - i) = m := by simp only [Nat.min_def]; split <;> omega
  have hcpA : ∀ (W : World), (∀ x, W.cell? x = W1.cell? x) → (∀ x, W.frozen? x = W1.frozen? x) → ∀ ty dc, (Builtin.copy_ #[(ρ.t 24), (ρ.t 24)] ty #[.slice (some ⟨w.heap.size, i * s, none⟩) (n + m - i) dc, .slice (some ⟨vb, voff, none⟩) m vc]).run P W = .ok (goInt (Nat.min m (n + m - i))) (W.setCells w.heap.size (i * s) vs) := fun W hWc hWf ty dc =>
    run_copy_rows W _ _ ty (ρ.t 9) s w.heap.size (i * s) (n + m - i) dc ⟨vb, voff, none⟩ m vc vs L.t24 hsz (by rw [hvl, hmin2])
      (fun j v hj => by rw [Addr.add_lit, hWc]; exact hOv _ v (hvs j v hj))
      (fun j hj => by rw [hWc]; exact hN _ (hlt2 j (hvl ▸ hj))) (fun j hj => by rw [hWf]; exact hNf _) h1v
  have hGn : n + m ≤ G := by rw [hG]; exact grownCap_ge w _ _ _
  have hG63 : G ≤ 9223372036854775807 := by
    have := grownCap_le_maxLen w (n + m) c (ρ.t 9) (by unfold maxLen; omega)
    rw [← hG] at this
    unfold maxLen at this
    omega
  have hGi : ¬ (G = i) := by omega
  have hGim : ¬ (G = i + m) := by omega
  have hci : ¬ (c = i) := by omega
  have hbN : b ≠ w.heap.size := by omega
  have hdl : (cs.drop (i * s)).length = (n - i) * s := by rw [List.length_drop, hcl, Nat.sub_mul]
  have hcpB : ∀ (W : World), (∀ x, W.cell? x = (W1.setCells w.heap.size (i * s) vs).cell? x) → (∀ x, W.frozen? x = (W1.setCells w.heap.size (i * s) vs).frozen? x) → ∀ ty dc sc, (Builtin.copy_ #[(ρ.t 24), (ρ.t 24)] ty #[.slice (some ⟨w.heap.size, (i + m) * s, none⟩) (n + m - (i + m)) dc, .slice (some ⟨b, off + i * s, none⟩) (n - i) sc]).run P W = .ok (goInt (Nat.min (n - i) (n + m - (i + m)))) (W.setCells w.heap.size ((i + m) * s) (cs.drop (i * s))) := fun W hWc hWf ty dc sc =>
    run_copy_rows W _ _ ty (ρ.t 9) s w.heap.size ((i + m) * s) (n + m - (i + m)) dc ⟨b, off + i * s, none⟩ (n - i) sc (cs.drop (i * s)) L.t24 hsz (by rw [hdl, hmin1])
      (fun j v hj => by
        rw [Addr.add_lit, hWc, World.cell?_setCells_out _ _ _ _ _ (fun h _ => absurd h hbN), Nat.add_assoc]
        exact hOb _ v (hcs (i * s + j) v (by rwa [List.getElem?_drop] at hj)))
      (fun j hj => by rw [hWc]; exact isSome_setCells _ _ _ _ (fun t ht => hN _ (hlt2 t (hvl ▸ ht))) _ (hN _ (hlt1 j (hdl ▸ hj))))
      (fun j hj => by rw [hWf, World.frozen?_setCells]; exact hNf _) (fun v hv => h1c v (List.mem_of_mem_drop hv))
  subst hW1
  have hE1 : ∀ x, ((w.alloc (.cells ROW (ρ.t 9))).drew).cell? x = (w.drew.alloc (.cells ROW (ρ.t 9))).cell? x := fun x => rfl
  have hE2 : ∀ x, ((w.alloc (.cells ROW (ρ.t 9))).drew).frozen? x = (w.drew.alloc (.cells ROW (ρ.t 9))).frozen? x := fun x => rfl
  have hF1 : ∀ x, (((w.alloc (.cells ROW (ρ.t 9))).drew.setCells w.heap.size (i * s) vs).drew).cell? x = ((w.drew.alloc (.cells ROW (ρ.t 9))).setCells w.heap.size (i * s) vs).cell? x := fun x => rfl
  have hF2 : ∀ x, (((w.alloc (.cells ROW (ρ.t 9))).drew.setCells w.heap.size (i * s) vs).drew).frozen? x = ((w.drew.alloc (.cells ROW (ρ.t 9))).setCells w.heap.size (i * s) vs).frozen? x := fun x => rfl
  have hw1 : IntKind.i64.wrap ((i : Int) + (m : Int)) = (i : Int) + (m : Int) := by rw [IntKind.wrap_i64]; omega
  have hb1 : (0 : Int) ≤ (i : Int) + (m : Int) := by omega
  have hin : i ≤ n := by omega
  have htn : ((i : Int) + (m : Int)).toNat = i + m := by omega
  have hb3 : (i : Int) ≤ (n : Int) := by omega
  clear hkk hik hold hROW hG hRl hlt1 hlt2 hmin1 hmin2 hdl hbig hnm hns hms hile
  go_enter f22, Body2.n22_ntmps ρ
  go_wp2_with (first
    | (at_builtin; refine Lib.wpList_append_run _ rfl _ _ _ _ rfl _ _ rfl rfl _ _ (hrz _) ?_)
    | (at_builtin; refine wpList_copy_runI _ rfl _ _ (ρ.t 24) (ρ.t 24) rfl _ _ rfl rfl (hcpA _ hE1 hE2 _ _) ?_)
    | (at_builtin; refine wpList_copy_runI _ rfl _ _ (ρ.t 24) (ρ.t 24) rfl _ _ rfl rfl (hcpB _ (fun _ => rfl) (fun _ => rfl) _ _ _) ?_))
  go_region_law_o (refine step_copy_runI rfl _ _ (ρ.t 24) (ρ.t 24) rfl (.slice (some ⟨w.heap.size, (i + m) * s, none⟩) (n + m - (i + m)) (G - (i + m))) (.slice (some ⟨b, off + i * s, none⟩) (n - i) (c - i)) (by simp [Act.eval, Act.put]) (by simp [Act.eval, Act.put]) (hcpB _ hF1 hF2 (ρ.t 3) (G - (i + m)) (c - i)) ?_)
  go_wp2
  go_ret
  exact ⟨rfl, rfl⟩
end Go.Eng
end

section
namespace Go.Eng
variable [Names]
open Go.Shelf Go.RowKit Go.Lib Go.Proofs
omit [Names] in
theorem RowsT.take {α : Type} {R : α → List Value → List Nat → Prop} {width : Nat} {vs : List Value} {xs : List α} {Ss : List (List Nat)} (h : RowsT R width vs xs Ss) (i : Nat) : RowsT R width (vs.take (i * width)) (xs.take i) (Ss.take i) := by
  refine ⟨by simp [h.1], fun k x S hx hS => ?_⟩
  rw [List.getElem?_take] at hx hS
  split at hx
  · rename_i hk
    rw [if_pos hk] at hS
    obtain ⟨rs, h1, h2, h3⟩ := h.2 k x S hx hS
    refine ⟨rs, h1, fun j hj => ?_, h3⟩
    rw [List.getElem?_take, if_pos, h2 j hj]
    calc k * width + j < k * width + width := by omega
      _ = (k + 1) * width := by rw [Nat.add_mul, Nat.one_mul]
      _ ≤ i * width := Nat.mul_le_mul_right _ hk
  · cases hx
omit [Names] in
theorem RowsT.drop {α : Type} {R : α → List Value → List Nat → Prop} {width : Nat} {vs : List Value} {xs : List α} {Ss : List (List Nat)} (h : RowsT R width vs xs Ss) (i : Nat) : RowsT R width (vs.drop (i * width)) (xs.drop i) (Ss.drop i) := by
  refine ⟨by simp [h.1], fun k x S hx hS => ?_⟩
  rw [List.getElem?_drop] at hx hS
  obtain ⟨rs, h1, h2, h3⟩ := h.2 (i + k) x S hx hS
  refine ⟨rs, h1, fun j hj => ?_, h3⟩
  rw [List.getElem?_drop, ← h2 j hj, Nat.add_mul, Nat.add_assoc]
theorem LstOk.open {F : Nat → Prop} {w : World} {l : LV} {z : Bool} {e : Nat} {t : Ty} {xs : List t.den} {b : Nat} (h : LstOk F w l z e t xs) (hb : l.blk = some b) :
    ∃ cur fr Ss cs, w.heap[b]? = some (.cells cur e fr) ∧ (z = false → fr = (0, 0)) ∧ Thaw fr cur.size ∧ xs.length ≤ l.cap ∧ l.cap ≤ maxLen ∧ (l.cap = 0 ∨ cur.size = l.off + l.cap * t.w) ∧ l.sub = Ss.flatten ∧ (b :: l.sub).Nodup ∧
      cs.length = xs.length * t.w ∧ RowsT (TRep F w t) t.w cs xs Ss ∧ (∀ v ∈ cs, v.oneCell' = true) ∧ (∀ j v, cs[j]? = some v → cur.toList[l.off + j]? = some v) := by
  unfold LstOk LstW at h
  rw [hb] at h
  obtain ⟨cur, fr, Ss, h1, h2, h3, h4, h5, h6, h7, h8, h9⟩ := h
  have hlen : xs.length * t.w ≤ (cur.toList.drop l.off).length := by
    rw [List.length_drop]
    rcases h6 with h6 | h6
    · have : xs.length = 0 := by omega
      simp only [this, Nat.zero_mul, Nat.zero_le]
    · have e0 : cur.toList.length = cur.size := Array.length_toList
      have := Nat.mul_le_mul_right t.w h4
      omega
  have hcl : ((cur.toList.drop l.off).take (xs.length * t.w)).length = xs.length * t.w := by rw [List.length_take]; omega
  have hr : RowsT (TRep F w t) t.w ((cur.toList.drop l.off).take (xs.length * t.w)) xs Ss := by
    have := h9.take xs.length
    rwa [List.take_length, show Ss.take xs.length = Ss by rw [← h9.1, List.take_length]] at this
  refine ⟨cur, fr, Ss, _, h1, h2, h3, h4, h5, h6, h7, h8, hcl, hr, fun v hv => ?_, fun j v hj => ?_⟩
  · obtain ⟨k, hk, rfl⟩ := List.getElem_of_mem hv
    have hk' : k < xs.length * t.w := by rw [hcl] at hk; exact hk
    have hw : 0 < t.w := Nat.pos_of_ne_zero fun h0 => by rw [h0, Nat.mul_zero] at hk'; omega
    have hi : k / t.w < xs.length := (Nat.div_lt_iff_lt_mul hw).2 hk'
    obtain ⟨rs, r1, r2, r3⟩ := hr.2 (k / t.w) _ _ (List.getElem?_eq_getElem hi) (List.getElem?_eq_getElem (by rw [hr.1]; exact hi))
    have hm : k % t.w < t.w := Nat.mod_lt _ hw
    have e := r2 (k % t.w) hm
    rw [Nat.mul_comm (k / t.w), Nat.div_add_mod, List.getElem?_eq_getElem hk] at e
    have e' := e.symm
    exact r3.one _ (List.mem_of_getElem? e')
  · rw [List.getElem?_take] at hj
    split at hj
    · rwa [List.getElem?_drop] at hj
    · cases hj
omit [Names] in
theorem cellAt {w : World} {b : Nat} {cur : Array Value} {e : TypeId} {fr : Nat × Nat} (h : w.heap[b]? = some (.cells cur e fr)) (k : Nat) : w.cell? ⟨b, k, none⟩ = cur.toList[k]? := by
  simp [World.cell?, h]
omit [Names] in
theorem thawAt {w : World} {b : Nat} {cur : Array Value} {e : TypeId} {fr : Nat × Nat} (h : w.heap[b]? = some (.cells cur e fr)) (ht : Thaw fr cur.size) (k : Nat) (hk : k < cur.size) : w.frozen? ⟨b, k, none⟩ = false := by
  simp only [World.frozen?, h]
  rcases ht with rfl | ht
  · simp
  · simp; omega
omit [Names] in
theorem ins_rows {α : Type} {R : α → List Value → List Nat → Prop} {width i : Nat} {cs vs : List Value} {xs ys : List α} {Ss Ys : List (List Nat)} (h : RowsT R width cs xs Ss) (k : RowsT R width vs ys Ys) (hcl : cs.length = xs.length * width) (hvl : vs.length = ys.length * width) (hi : i ≤ xs.length) :
    RowsT R width (cs.take (i * width) ++ vs ++ cs.drop (i * width)) (xs.take i ++ ys ++ xs.drop i) (Ss.take i ++ Ys ++ Ss.drop i) := by
  have hiw : i * width ≤ xs.length * width := Nat.mul_le_mul_right _ hi
  have e1 : (cs.take (i * width)).length = (xs.take i).length * width := by rw [List.length_take, List.length_take, hcl, Nat.min_eq_left hiw, Nat.min_eq_left hi]
  exact ((h.take i).app k e1).app (h.drop i) (by simp only [List.length_append, e1, hvl, Nat.add_mul])
theorem ins_lst {F : Nat → Prop} {w w' : World} {t : Ty} {z : Bool} {e b b' off cap i : Nat} {cs vs : List Value} {xs ys : List t.den} {Ss Ys : List (List Nat)} {cur : Array Value} {fr : Nat × Nat}
    (h : RowsT (TRep F w t) t.w cs xs Ss) (k : RowsT (TRep F w t) t.w vs ys Ys) (hcl : cs.length = xs.length * t.w) (hvl : vs.length = ys.length * t.w) (hi : i ≤ xs.length)
    (hb : w'.heap[b']? = some (.cells cur e fr)) (hz : z = false → fr = (0, 0)) (hth : Thaw fr cur.size) (hcap : xs.length + ys.length ≤ cap) (hmax : cap ≤ maxLen) (hsz : cap = 0 ∨ cur.size = off + cap * t.w)
    (hnd : (b' :: (Ss.flatten ++ Ys.flatten)).Nodup) (hsame : ∀ c, c ≠ b → c < w.heap.size → w'.heap[c]? = w.heap[c]?) (hbF : ¬ F b) (hbS : b ∉ Ss.flatten ++ Ys.flatten) (hFlt : ∀ c, F c → c < w.heap.size) (hSlt : ∀ c ∈ Ss.flatten ++ Ys.flatten, c < w.heap.size)
    (hcells : ∀ k, k < (xs.length + ys.length) * t.w → cur.toList[off + k]? = (cs.take (i * t.w) ++ vs ++ cs.drop (i * t.w))[k]?) :
    ∃ sub, LstOk F w' ⟨some b', off, cap, sub⟩ z e t (xs.take i ++ ys ++ xs.drop i) ∧ (b' :: sub).Nodup ∧ ∀ c, c ∈ sub ↔ c ∈ Ss.flatten ++ Ys.flatten := by
  have hperm : (Ss.take i ++ Ys ++ Ss.drop i).flatten.Perm (Ss.flatten ++ Ys.flatten) := by
    simp only [List.flatten_append]
    have e : (Ss.take i).flatten ++ (Ss.drop i).flatten = Ss.flatten := by rw [← List.flatten_append, List.take_append_drop]
    refine (List.append_assoc _ _ _ ▸ List.Perm.refl _ : List.Perm _ ((Ss.take i).flatten ++ (Ys.flatten ++ (Ss.drop i).flatten))).trans ?_
    refine (List.Perm.append_left _ List.perm_append_comm).trans ?_
    rw [← List.append_assoc, e]
  have hlen : (xs.take i ++ ys ++ xs.drop i).length = xs.length + ys.length := by simp only [List.length_append, List.length_take, List.length_drop]; omega
  have hnd' : (b' :: (Ss.take i ++ Ys ++ Ss.drop i).flatten).Nodup := (List.Perm.cons b' hperm).nodup_iff.2 hnd
  refine ⟨(Ss.take i ++ Ys ++ Ss.drop i).flatten, ?_, hnd', fun c => hperm.mem_iff⟩
  unfold LstOk LstW
  refine ⟨cur, fr, Ss.take i ++ Ys ++ Ss.drop i, hb, hz, hth, by rw [hlen]; exact hcap, hmax, hsz, rfl, hnd', ?_⟩
  have hr := ins_rows h k hcl hvl hi
  have hr' : RowsT (TRep F w' t) t.w (cs.take (i * t.w) ++ vs ++ cs.drop (i * t.w)) (xs.take i ++ ys ++ xs.drop i) (Ss.take i ++ Ys ++ Ss.drop i) := hr.mono fun x rs S hS hR => hR.mono (fun _ hc => hc) (fun c hc => hsame c (fun e => hbF (e ▸ hc)) (hFlt c hc)) fun c hc => by
    have hm : c ∈ Ss.flatten ++ Ys.flatten := hperm.mem_iff.1 (List.mem_flatten.2 ⟨S, hS, hc⟩)
    exact hsame c (fun e => hbS (e ▸ hm)) (hSlt c hm)
  refine hr'.cells fun k hk => ?_
  rw [List.getElem?_drop]
  exact hcells k (by rw [hlen] at hk; exact hk)
def insF (bytes : Nat) (t : Ty) (x : List t.den × Int × List t.den × Unit) : Option (List t.den × Unit × Unit × Unit × Unit) :=
  if 0 ≤ x.2.1 ∧ x.2.1 ≤ (x.1.length : Int) ∧ 0 < x.2.2.1.length ∧ (x.1.length + x.2.2.1.length) * bytes ≤ 140737488355328 then some (x.1.take x.2.1.toNat ++ x.2.2.1 ++ x.1.drop x.2.1.toNat, (), (), (), ()) else none
theorem ins_fin {F B : Nat → Prop} {w w' : World} {t : Ty} {z : Bool} {e e' : Nat} {l lv l' : LV} {xs ys rows : List t.den} {i : Int} {Sx : List Nat}
    (hmine : ∀ b ∈ Sx, ¬ F b ∧ ¬ B b ∧ b < w.heap.size) (hF : ∀ b, F b → b < w.heap.size) (hB : ∀ b, B b → b < w.heap.size)
    (hos : w'.os = w.os ∧ w'.tape = w.tape ∧ w'.output = w.output) (hsize : w.heap.size ≤ w'.heap.size) (hblock : ∀ b, b < w.heap.size → b ∉ Sx → w'.heap[b]? = w.heap[b]?)
    (hok : LstOk F w' l' z e t rows) (hnd : l'.all.Nodup) (hall : ∀ c ∈ l'.all, c < w'.heap.size ∧ (w.heap.size ≤ c ∨ c ∈ Sx)) :
    ∃ F' S1 S2, Post (.own z e t) (.cons (.own z e t) (.cons (.int .i64) (.cons (.own false e' t) .nil))) (rows, (), (), (), ()) [hdr l xs.length, .int .i64 i, hdr lv ys.length] Sx F B w F' S1 S2 (hdr l' rows.length) w' := by
  refine ⟨F, l'.all, [], ⟨hos.1, hos.2.1, hos.2.2, hsize, hblock, fun _ h => h, fun _ h => .inl h, fun b hb => Nat.lt_of_lt_of_le (hF b hb) hsize, ⟨l', rfl, rfl, hok⟩, ?_, by rwa [List.append_nil], fun c hc => ?_⟩⟩
  · exact ⟨_, _, [], [], rfl, rfl, rfl, _, _, [], [], rfl, rfl, rfl, _, _, [], [], rfl, rfl, rfl, rfl⟩
  · rw [List.append_nil] at hc
    obtain ⟨h1, h2⟩ := hall c hc
    rcases h2 with h2 | h2
    · exact ⟨fun h => by have := hF c h; omega, fun h => by have := hB c h; omega, h1, .inl h2⟩
    · exact ⟨(hmine c h2).1, (hmine c h2).2.1, h1, .inr h2⟩
omit [Names] in
theorem ins_cells {C cs vs : List Value} {off A M D : Nat} (hc : cs.length = A + D) (hv : vs.length = M) (h1 : ∀ k, k < A → C[off + k]? = cs[k]?) (h2 : ∀ j, j < M → C[off + (A + j)]? = vs[j]?) (h3 : ∀ j, j < D → C[off + (A + M + j)]? = cs[A + j]?) (k : Nat) (hk : k < A + M + D) :
    C[off + k]? = (cs.take A ++ vs ++ cs.drop A)[k]? := by
  have e1 : (cs.take A).length = A := by rw [List.length_take]; omega
  by_cases a : k < A
  · rw [h1 k a, List.append_assoc, List.getElem?_append_left (by omega), List.getElem?_take, if_pos a]
  · by_cases b : k < A + M
    · have := h2 (k - A) (by omega)
      rw [show A + (k - A) = k by omega] at this
      rw [this, List.append_assoc, List.getElem?_append_right (by omega), e1, List.getElem?_append_left (by omega)]
    · have := h3 (k - (A + M)) (by omega)
      rw [show A + M + (k - (A + M)) = k by omega] at this
      rw [this, List.getElem?_append_right (by rw [List.length_append]; omega), List.length_append, e1, hv, List.getElem?_drop]
omit [Names] in
theorem ins_sx {Sx : List Nat} {l lv : LV} {Ss Ys : List (List Nat)} (hS : Sx = l.all ++ ([] ++ (lv.all ++ []))) (hnd : Sx.Nodup) (h7 : l.sub = Ss.flatten) (v7 : lv.sub = Ys.flatten) :
    (l.blk.toList ++ (Ss.flatten ++ Ys.flatten)).Nodup ∧ (∀ c ∈ Ss.flatten ++ Ys.flatten, c ∈ Sx) ∧ ∀ b, l.blk = some b → b ∈ Sx := by
  subst hS
  simp only [List.nil_append, List.append_nil] at hnd ⊢
  unfold LV.all at hnd ⊢
  rw [h7, v7] at hnd ⊢
  refine ⟨hnd.sublist ?_, fun c hc => ?_, fun b hb => ?_⟩
  · rw [List.append_assoc]
    exact List.Sublist.append_left (List.Sublist.append_left (List.sublist_append_right _ _) _) _
  · rcases List.mem_append.1 hc with hc | hc
    · exact List.mem_append.2 (.inl (List.mem_append.2 (.inr hc)))
    · exact List.mem_append.2 (.inr (List.mem_append.2 (.inr hc)))
  · rw [hb]; simp
theorem ins_new {F B : Nat → Prop} {w w' : World} {t : Ty} {z : Bool} {e e' vb G i : Nat} {l lv : LV} {cs vs : List Value} {xs ys : List t.den} {Ss Ys : List (List Nat)} {Sx : List Nat} {cur : Array Value}
    (hS : Sx = l.all ++ ([] ++ (lv.all ++ []))) (hnd : Sx.Nodup) (hmine : ∀ b ∈ Sx, ¬ F b ∧ ¬ B b ∧ b < w.heap.size) (hF : ∀ b, F b → b < w.heap.size) (hB : ∀ b, B b → b < w.heap.size)
    (h : RowsT (TRep F w t) t.w cs xs Ss) (k : RowsT (TRep F w t) t.w vs ys Ys) (hcl : cs.length = xs.length * t.w) (hvl : vs.length = ys.length * t.w) (hi : i ≤ xs.length) (h7 : l.sub = Ss.flatten) (v7 : lv.sub = Ys.flatten) (hvb : lv.blk = some vb)
    (hos : w'.os = w.os ∧ w'.tape = w.tape ∧ w'.output = w.output) (hnew : w'.heap[w.heap.size]? = some (.cells cur e (0, 0))) (hold : ∀ c, c < w.heap.size → w'.heap[c]? = w.heap[c]?) (hsize : w.heap.size < w'.heap.size)
    (hG : xs.length + ys.length ≤ G) (hGm : G ≤ maxLen) (hsz : cur.size = G * t.w) (hcells : ∀ k, k < (xs.length + ys.length) * t.w → cur.toList[k]? = (cs.take (i * t.w) ++ vs ++ cs.drop (i * t.w))[k]?) :
    ∃ v, Ending.returned (.slice (some ⟨w.heap.size, 0, none⟩) (xs.length + ys.length) G) = .returned v ∧ ∃ F' S1 S2, Post (.own z e t) (.cons (.own z e t) (.cons (.int .i64) (.cons (.own false e' t) .nil))) (xs.take i ++ ys ++ xs.drop i, (), (), (), ()) [hdr l xs.length, .int .i64 (i : Int), hdr lv ys.length] Sx F B w F' S1 S2 v w' := by
  obtain ⟨n1, n2, n3⟩ := ins_sx hS hnd h7 v7
  have hlt : ∀ c ∈ Ss.flatten ++ Ys.flatten, c < w.heap.size := fun c hc => (hmine c (n2 c hc)).2.2
  have hvm : vb ∈ Sx := by rw [hS]; simp [LV.mem_blk hvb]
  obtain ⟨sub, k1, k2, k3⟩ := ins_lst (i := i) (z := z) (b := w.heap.size) (e := e) (b' := w.heap.size) (off := 0) (cap := G) h k hcl hvl hi hnew (fun _ => rfl) (.inl rfl) hG hGm (.inr (by rw [hsz, Nat.zero_add]))
    (List.nodup_cons.2 ⟨fun h => by have := hlt _ h; omega, (List.nodup_append.1 n1).2.1⟩) (fun c _ hc => hold c hc) (fun h => by have := hF _ h; omega) (fun h => by have := hlt _ h; omega) hF hlt (fun k hk => by rw [Nat.zero_add]; exact hcells k hk)
  have hlen : (xs.take i ++ ys ++ xs.drop i).length = xs.length + ys.length := by simp only [List.length_append, List.length_take, List.length_drop]; omega
  refine ⟨_, rfl, ?_⟩
  have fin := ins_fin (l := l) (lv := lv) (l' := ⟨some w.heap.size, 0, G, sub⟩) (xs := xs) (ys := ys) (i := (i : Int)) (e' := e') hmine hF hB hos (Nat.le_of_lt hsize) (fun c hc _ => hold c hc) k1 k2 (fun c hc => by
    rcases LV.mem_all.1 hc with h | h
    · injection h with h; subst h; exact ⟨hsize, .inl (Nat.le_refl _)⟩
    · have := (k3 c).1 h
      exact ⟨by have := hlt c this; omega, .inr (n2 c this)⟩)
  rw [hlen] at fin
  exact fin
theorem ins_old {F B : Nat → Prop} {w w' : World} {t : Ty} {z : Bool} {e e' b i : Nat} {l lv : LV} {cs vs : List Value} {xs ys : List t.den} {Ss Ys : List (List Nat)} {Sx : List Nat} {cur : Array Value} {fr : Nat × Nat}
    (hS : Sx = l.all ++ ([] ++ (lv.all ++ []))) (hnd : Sx.Nodup) (hmine : ∀ b ∈ Sx, ¬ F b ∧ ¬ B b ∧ b < w.heap.size) (hF : ∀ b, F b → b < w.heap.size) (hB : ∀ b, B b → b < w.heap.size)
    (h : RowsT (TRep F w t) t.w cs xs Ss) (k : RowsT (TRep F w t) t.w vs ys Ys) (hcl : cs.length = xs.length * t.w) (hvl : vs.length = ys.length * t.w) (hi : i ≤ xs.length) (h7 : l.sub = Ss.flatten) (v7 : lv.sub = Ys.flatten) (hlb : l.blk = some b)
    (hos : w'.os = w.os ∧ w'.tape = w.tape ∧ w'.output = w.output) (hnew : w'.heap[b]? = some (.cells cur e fr)) (hz : z = false → fr = (0, 0)) (hth : Thaw fr cur.size) (hold : ∀ c, c ≠ b → w'.heap[c]? = w.heap[c]?) (hsize : w'.heap.size = w.heap.size)
    (hG : xs.length + ys.length ≤ l.cap) (hGm : l.cap ≤ maxLen) (hsz : l.cap = 0 ∨ cur.size = l.off + l.cap * t.w) (hcells : ∀ k, k < (xs.length + ys.length) * t.w → cur.toList[l.off + k]? = (cs.take (i * t.w) ++ vs ++ cs.drop (i * t.w))[k]?) :
    ∃ v, Ending.returned (.slice (some ⟨b, l.off, none⟩) (xs.length + ys.length) l.cap) = .returned v ∧ ∃ F' S1 S2, Post (.own z e t) (.cons (.own z e t) (.cons (.int .i64) (.cons (.own false e' t) .nil))) (xs.take i ++ ys ++ xs.drop i, (), (), (), ()) [hdr l xs.length, .int .i64 (i : Int), hdr lv ys.length] Sx F B w F' S1 S2 v w' := by
  obtain ⟨n1, n2, n3⟩ := ins_sx hS hnd h7 v7
  have hlt : ∀ c ∈ Ss.flatten ++ Ys.flatten, c < w.heap.size := fun c hc => (hmine c (n2 c hc)).2.2
  have hbm := n3 b hlb
  rw [hlb] at n1
  have n1 : (b :: (Ss.flatten ++ Ys.flatten)).Nodup := n1
  obtain ⟨sub, k1, k2, k3⟩ := ins_lst (i := i) (z := z) (b := b) (e := e) (b' := b) (off := l.off) (cap := l.cap) h k hcl hvl hi hnew hz hth hG hGm hsz n1 (fun c hc _ => hold c hc) (hmine b hbm).1 (List.nodup_cons.1 n1).1 hF hlt hcells
  have hlen : (xs.take i ++ ys ++ xs.drop i).length = xs.length + ys.length := by simp only [List.length_append, List.length_take, List.length_drop]; omega
  refine ⟨_, rfl, ?_⟩
  have fin := ins_fin (l := l) (lv := lv) (l' := ⟨some b, l.off, l.cap, sub⟩) (xs := xs) (ys := ys) (i := (i : Int)) (e' := e') hmine hF hB hos (by omega) (fun c _ hc => hold c fun h => hc (h ▸ hbm)) k1 k2 (fun c hc => by
    rcases LV.mem_all.1 hc with h | h
    · injection h with h; subst h; exact ⟨by rw [hsize]; exact (hmine b hbm).2.2, .inr hbm⟩
    · have := (k3 c).1 h
      exact ⟨by have := hlt c this; omega, .inr (n2 c this)⟩)
  rw [hlen] at fin
  exact fin
theorem entry_insert {P : Program} {ρ : Ren} {f bytes : Nat} {z0 : Value} {t : Ty} {z : Bool} {e' : Nat} (L : InsL P ρ f t.w bytes z0) (hw : 0 < t.w) (hb0 : 0 < bytes) (hzc : z0.cells.size = t.w) {fn : Func} (hf : P.funcs[f]? = some fn) (hen : enterB fn = true) :
    EntryOk P ⟨f, 0, .cons (.own z (ρ.t 9) t) (.cons (.int .i64) (.cons (.own false e' t) .nil)), .own z (ρ.t 9) t, insF bytes t⟩ := by
  refine ⟨rfl, rfl, fun x r hx w args Sx F B hrep hnd hmine hF hB => .inl ⟨f, args, enter_run hf hen args w, ?_⟩⟩
  obtain ⟨xs, i, ys, u⟩ := x
  obtain ⟨v1, vs1, S1, S2, ha, hSx, hs, h2⟩ := hrep
  obtain ⟨v2, vs2, S3, S4, rfl, rfl, hn, h3⟩ := h2
  obtain ⟨v3, vs3, S5, S6, rfl, rfl, hv, h4⟩ := h3
  obtain ⟨rfl, rfl⟩ := h4
  obtain ⟨l, hl1, rfl, hok⟩ := hs
  obtain ⟨hn1, rfl⟩ := hn
  obtain ⟨lv, hv1, rfl, hvok⟩ := hv
  simp only [List.cons.injEq, and_true] at hl1 hn1 hv1
  subst hl1 hn1 hv1
  replace hok : LstOk F w l z (ρ.t 9) t xs := hok
  replace hvok : LstOk F w lv false e' t ys := hvok
  have hargs : args = #[hdr l xs.length, .int .i64 i, hdr lv ys.length] := by
    rw [← Array.toList_inj, ha]
  have hx' : insF bytes t (xs, i, ys, u) = some r := hx
  unfold insF at hx'
  split at hx'
  case isFalse => cases hx'
  rename_i hc
  obtain ⟨c0, c1, c2, c3⟩ := hc
  dsimp only at c0 c1 c2 c3 hx'
  injection hx' with hx'
  subst hx'
  obtain ⟨i, rfl⟩ := Int.eq_ofNat_of_zero_le c0
  rw [Int.toNat_natCast]
  have c1' : i ≤ xs.length := by omega
  rw [ha]
  subst hargs
  have hnm : xs.length + ys.length ≤ 140737488355328 := Nat.le_trans (Nat.le_mul_of_pos_right _ hb0) c3
  -- the new rows
  cases hvb : lv.blk with
  | none =>
    have hvok' : LstW (TRep F w t) t.w w lv false e' ys := hvok
    unfold LstW at hvok'
    rw [hvb] at hvok'
    rw [show ys = [] from hvok'.1] at c2
    simp at c2
  | some vb =>
  obtain ⟨vcur, vfr, Ys, vs, v1, v2, v3, v4, v5, v6, v7, v8, hvl, hvr, h1v, hvc⟩ := hvok.open hvb
  have hvfr := v2 rfl
  subst hvfr
  have hvs : ∀ j v, vs[j]? = some v → w.cell? ⟨vb, lv.off + j, none⟩ = some v := fun j v hj => by rw [cellAt v1]; exact hvc j v hj
  have hvm : vb ∈ Sx := by rw [hSx]; simp [LV.mem_blk hvb]
  have hYm : ∀ c ∈ Ys.flatten, c ∈ Sx := fun c hc => by rw [hSx]; rw [← v7] at hc; simp [LV.mem_sub hc]
  have hdv : hdr lv ys.length = .slice (some ⟨vb, lv.off, none⟩) ys.length lv.cap := by simp [hdr, hvb]
  cases hlb : l.blk with
  | none =>
    have hok' : LstW (TRep F w t) t.w w l z (ρ.t 9) xs := hok
    unfold LstW at hok'
    rw [hlb] at hok'
    obtain ⟨hxs, hcap, hsub⟩ := hok'
    subst hxs
    have hi0 : i = 0 := by simpa using c1'
    subst hi0
    have key := ins_end_grow L none 0 0 vb lv.off ys.length lv.cap [] vs w c2 (Nat.le_refl _) (by omega) (by simpa using c3) (by omega) (by simp) hvl (fun _ => ⟨rfl, rfl⟩) (fun a h => by cases h) hvs h1v
    have hdl : hdr l 0 = .slice none 0 0 := by simp [hdr, hlb, hcap]
    have hgoal : ∀ w' : World, (w' = w.drew.alloc (.cells ((([] : List Value) ++ vs).toArray ++ Builtin.zeroCells z0.cells (grownCap w (0 + ys.length) 0 (ρ.t 9) - (0 + ys.length))) (ρ.t 9))) → _ := fun w' hw' =>
      ins_new (z := z) (e := ρ.t 9) (e' := e') (w' := w') (G := grownCap w (0 + ys.length) 0 (ρ.t 9)) (i := 0) (xs := ([] : List t.den)) (cs := []) (Ss := []) hSx hnd hmine hF hB ⟨rfl, fun i x S hx => by simp at hx⟩ hvr (by simp) hvl (Nat.le_refl _) hsub v7 hvb
        (by subst hw'; exact ⟨rfl, rfl, rfl⟩) (cur := (([] : List Value) ++ vs).toArray ++ Builtin.zeroCells z0.cells (grownCap w (0 + ys.length) 0 (ρ.t 9) - (0 + ys.length)))
        (by subst hw'; exact alloc_new _ _) (fun c hc => by subst hw'; exact alloc_old _ _ c hc) (by subst hw'; exact Nat.lt_of_lt_of_eq (Nat.lt_succ_self _) (alloc_size _ _).symm)
        (grownCap_ge w _ _ _) (grownCap_le_maxLen w _ _ _ (by unfold maxLen; omega))
        (by simp only [List.nil_append, Array.size_append, List.size_toArray, hvl, zeroCells_size, hzc]; rw [← Nat.add_mul]; congr 1; have := grownCap_ge w (0 + ys.length) 0 (ρ.t 9); omega)
        (fun k hk => by simp only [List.nil_append, List.take_nil, List.drop_nil, List.append_nil]; rw [Array.toList_append, List.getElem?_append_left (by simpa [hvl] using hk)])
    rw [show hdr l ([] : List t.den).length = .slice none 0 0 from hdl, hdv] at hgoal ⊢
    refine key.mono ?_
    rintro e w' ⟨rfl, hw'⟩
    simpa using hgoal w' hw'
  | some b =>
    obtain ⟨cur, fr, Ss, cs, h1, h2, h3, h4, h5, h6, h7, h8, hcl, hcr, h1c, hcc⟩ := hok.open hlb
    have hcs : ∀ j v, cs[j]? = some v → w.cell? ⟨b, l.off + j, none⟩ = some v := fun j v hj => by rw [cellAt h1]; exact hcc j v hj
    have hcc' : ∀ j, j < xs.length * t.w → cur.toList[l.off + j]? = cs[j]? := fun j hj => by
      rw [← hcl] at hj
      rw [List.getElem?_eq_getElem hj]; exact hcc j _ (List.getElem?_eq_getElem hj)
    have hdl : hdr l xs.length = .slice (some ⟨b, l.off, none⟩) xs.length l.cap := by simp [hdr, hlb]
    have hnw : i * t.w + (xs.length - i) * t.w = xs.length * t.w := by rw [← Nat.add_mul]; congr 1; omega
    have hnm2 : i * t.w + ys.length * t.w + (xs.length - i) * t.w = (xs.length + ys.length) * t.w := by rw [← Nat.add_mul, ← Nat.add_mul]; congr 1; omega
    have hmax : l.cap ≤ 9223372036854775807 := by unfold maxLen at h5; omega
    have hbv : vb ≠ b := by
      have hnd' := hnd
      rw [hSx] at hnd'
      intro e
      subst e
      exact (List.nodup_append.1 hnd').2.2 _ (LV.mem_blk hlb) _ (by simp [LV.mem_blk hvb]) rfl
    by_cases hroom : xs.length + ys.length ≤ l.cap
    · have hsize : cur.size = l.off + l.cap * t.w := h6.resolve_left (by omega)
      have hfit : (xs.length + ys.length) * t.w ≤ l.cap * t.w := Nat.mul_le_mul_right _ hroom
      have hsz' : cur.toList.length = l.off + l.cap * t.w := by rw [Array.length_toList]; exact hsize
      have hsp : ∀ j, j < (xs.length + ys.length) * t.w → (w.cell? ⟨b, l.off + j, none⟩).isSome = true := fun j hj => by
        rw [cellAt h1, List.getElem?_eq_getElem (by omega)]; rfl
      have hfz : ∀ j, j < (xs.length + ys.length) * t.w → w.frozen? ⟨b, l.off + j, none⟩ = false := fun j hj => thawAt h1 h3 _ (by omega)
      by_cases hend : i = xs.length
      · subst hend
        have key := ins_end_room L b l.off xs.length l.cap vb lv.off ys.length lv.cap vs w c2 hroom hmax hvl (fun j hj => by rw [Nat.add_assoc]; exact hsp _ (by rw [Nat.add_mul]; omega)) (fun j hj => by rw [Nat.add_assoc]; exact hfz _ (by rw [Nat.add_mul]; omega)) hvs h1v
        obtain ⟨r1, r2, r3, r4, r5⟩ := setCells_rest b vs (l.off + xs.length * t.w) w
        have hlen : l.off + xs.length * t.w + vs.length ≤ cur.toList.length := by rw [hsz', hvl, Nat.add_assoc, ← Nat.add_mul]; omega
        have hgoal := ins_old (z := z) (e' := e') hSx hnd hmine hF hB hcr hvr hcl hvl c1' h7 v7 hlb ⟨r1, r2, r3⟩ (setCells_heap b vs _ w cur h1) h2 (by rw [List.size_toArray, setVals_len]; simpa using h3) r5 r4 hroom h5 (.inr (by rw [List.size_toArray, setVals_len]; exact hsz'))
          (fun k hk => by
            rw [List.toList_toArray]
            refine ins_cells (D := 0) (by rw [hcl, Nat.add_zero]) hvl (fun k hk => ?_) (fun j hj => ?_) (fun j hj => by omega) k (by rw [Nat.add_zero, ← Nat.add_mul]; exact hk)
            · rw [setVals_get _ _ _ _ hlen, if_pos (by omega), hcc' k hk]
            · rw [setVals_get _ _ _ _ hlen, if_neg (by omega), if_pos (by omega)]; congr 1; omega)
        rw [hdl, hdv] at hgoal ⊢
        refine key.mono ?_
        rintro e w' ⟨rfl, rfl⟩
        exact hgoal
      · have hilt : i < xs.length := by omega
        have hsA : w.shape? vb = some (e', vcur.size) := by simp [World.shape?, v1]
        have hsB : w.shape? b = some (ρ.t 9, cur.size) := by simp [World.shape?, h1]
        have hposw : 0 < xs.length * t.w := Nat.mul_pos (by omega) hw
        have hposb : cur.size ≠ 0 := by rw [Nat.add_mul] at hfit; omega
        have key := ins_shift L b l.off xs.length l.cap i vb lv.off ys.length lv.cap cs vs w hilt c2 hroom hmax hbv hcl hvl hcs hsp hfz hvs h1c h1v e' (ρ.t 9) vcur.size cur.size hsA hsB hposb (by simp [World.frozen?, v1]) (by simp [World.frozen?, v1])
        obtain ⟨r1, r2, r3, r4, r5⟩ := setCells_rest b (cs.drop (i * t.w)) (l.off + (i + ys.length) * t.w) w.drew
        obtain ⟨q1, q2, q3, q4, q5⟩ := setCells_rest b vs (l.off + i * t.w) (w.drew.setCells b (l.off + (i + ys.length) * t.w) (cs.drop (i * t.w)))
        have hdlen : (cs.drop (i * t.w)).length = (xs.length - i) * t.w := by rw [List.length_drop, hcl, Nat.sub_mul]
        have hlen1 : l.off + (i + ys.length) * t.w + (cs.drop (i * t.w)).length ≤ cur.toList.length := by rw [hsz', hdlen, Nat.add_assoc, Nat.add_mul]; omega
        have hlen2 : l.off + i * t.w + vs.length ≤ (setVals cur.toList (l.off + (i + ys.length) * t.w) (cs.drop (i * t.w))).length := by rw [setVals_len, hsz', hvl]; omega
        have hheap := setCells_heap b vs (l.off + i * t.w) _ _ (setCells_heap b (cs.drop (i * t.w)) (l.off + (i + ys.length) * t.w) w.drew cur h1)
        rw [List.toList_toArray] at hheap
        have hgoal := ins_old (z := z) (e' := e') hSx hnd hmine hF hB hcr hvr hcl hvl c1' h7 v7 hlb ⟨q1.trans r1, q2.trans r2, q3.trans r3⟩ hheap h2 (by rw [List.size_toArray, setVals_len, setVals_len]; simpa using h3) (fun c hc => (q5 c hc).trans (r5 c hc)) (q4.trans r4) hroom h5 (.inr (by rw [List.size_toArray, setVals_len, setVals_len]; exact hsz'))
          (fun k hk => by
            rw [List.toList_toArray]
            have e0 : (i + ys.length) * t.w = i * t.w + ys.length * t.w := Nat.add_mul _ _ _
            refine ins_cells (D := (xs.length - i) * t.w) (by rw [hcl, hnw]) hvl (fun k hk => ?_) (fun j hj => ?_) (fun j hj => ?_) k (by rw [hnm2]; exact hk)
            · rw [setVals_get _ _ _ _ hlen2, if_pos (by omega), setVals_get _ _ _ _ hlen1, if_pos (by omega), hcc' k (by omega)]
            · rw [setVals_get _ _ _ _ hlen2, if_neg (by omega), if_pos (by omega)]; congr 1; omega
            · rw [setVals_get _ _ _ _ hlen2, if_neg (by omega), if_neg (by omega), setVals_get _ _ _ _ hlen1, if_neg (by omega), if_pos (by omega), List.getElem?_drop]; congr 1; omega)
        rw [hdl, hdv] at hgoal ⊢
        refine key.mono ?_
        rintro e w' ⟨rfl, rfl⟩
        exact hgoal
    · have hGn := grownCap_ge w (xs.length + ys.length) l.cap (ρ.t 9)
      have hGm : grownCap w (xs.length + ys.length) l.cap (ρ.t 9) ≤ maxLen := grownCap_le_maxLen w _ _ _ (by unfold maxLen; omega)
      by_cases hend : i = xs.length
      · subst hend
        have key := ins_end_grow L (some ⟨b, l.off, none⟩) xs.length l.cap vb lv.off ys.length lv.cap cs vs w c2 h4 (by omega) c3 (by omega) hcl hvl (fun h => by cases h) (fun a ha j v hj => by
          injection ha with ha; subst ha; rw [Addr.add_lit]; exact hcs j v hj) hvs h1v
        have hgoal : ∀ w' : World, (w' = w.drew.alloc (.cells ((cs ++ vs).toArray ++ Builtin.zeroCells z0.cells (grownCap w (xs.length + ys.length) l.cap (ρ.t 9) - (xs.length + ys.length))) (ρ.t 9))) → _ := fun w' hw' =>
          ins_new (z := z) (e := ρ.t 9) (e' := e') (w' := w') (G := grownCap w (xs.length + ys.length) l.cap (ρ.t 9)) (i := xs.length) hSx hnd hmine hF hB hcr hvr hcl hvl (Nat.le_refl _) h7 v7 hvb
            (by subst hw'; exact ⟨rfl, rfl, rfl⟩) (cur := (cs ++ vs).toArray ++ Builtin.zeroCells z0.cells (grownCap w (xs.length + ys.length) l.cap (ρ.t 9) - (xs.length + ys.length)))
            (by subst hw'; exact alloc_new _ _) (fun c hc => by subst hw'; exact alloc_old _ _ c hc) (by subst hw'; exact Nat.lt_of_lt_of_eq (Nat.lt_succ_self _) (alloc_size _ _).symm)
            hGn hGm
            (by simp only [Array.size_append, List.size_toArray, List.length_append, hcl, hvl, zeroCells_size, hzc]; rw [← Nat.add_mul, ← Nat.add_mul]; congr 1; omega)
            (fun k hk => by
              rw [← hcl, List.take_length, List.drop_length, List.append_nil, Array.toList_append, List.toList_toArray, List.getElem?_append_left (by rw [List.length_append, hcl, hvl, ← Nat.add_mul]; exact hk)])
        rw [hdl, hdv] at hgoal ⊢
        refine key.mono ?_
        rintro e w' ⟨rfl, hw'⟩
        exact hgoal w' hw'
      · have hilt : i < xs.length := by omega
        have key := ins_grow L hw hb0 hzc b l.off xs.length l.cap i vb lv.off ys.length lv.cap cs vs w hilt c2 h4 (by omega) c3 hcl hvl hcs hvs h1c h1v
        obtain ⟨ROW, hROW⟩ : ∃ ROW : Array Value, ROW = (cs.take (i * t.w)).toArray ++ Builtin.zeroCells z0.cells (xs.length + ys.length - i) ++ Builtin.zeroCells z0.cells (grownCap w (xs.length + ys.length) l.cap (ρ.t 9) - (xs.length + ys.length)) := ⟨_, rfl⟩
        rw [← hROW] at key
        have hile : i * t.w ≤ xs.length * t.w := Nat.mul_le_mul_right _ c1'
        have hRs : ROW.size = grownCap w (xs.length + ys.length) l.cap (ρ.t 9) * t.w := by
          rw [hROW]
          simp only [Array.size_append, List.size_toArray, List.length_take, hcl, zeroCells_size, hzc]
          rw [Nat.min_eq_left hile, ← Nat.add_mul, ← Nat.add_mul]; congr 1; omega
        have hRl : ROW.toList.length = grownCap w (xs.length + ys.length) l.cap (ρ.t 9) * t.w := by rw [Array.length_toList]; exact hRs
        have hRt : ∀ k, k < i * t.w → ROW.toList[k]? = cs[k]? := fun k hk => by
          rw [hROW, Array.toList_append, Array.toList_append, List.toList_toArray, List.append_assoc, List.getElem?_append_left (by rw [List.length_take]; omega), List.getElem?_take, if_pos hk]
        have hfit : (xs.length + ys.length) * t.w ≤ grownCap w (xs.length + ys.length) l.cap (ρ.t 9) * t.w := Nat.mul_le_mul_right _ hGn
        obtain ⟨q1, q2, q3, q4, q5⟩ := setCells_rest w.heap.size vs (i * t.w) (w.alloc (.cells ROW (ρ.t 9))).drew
        obtain ⟨r1, r2, r3, r4, r5⟩ := setCells_rest w.heap.size (cs.drop (i * t.w)) ((i + ys.length) * t.w) (((w.alloc (.cells ROW (ρ.t 9))).drew.setCells w.heap.size (i * t.w) vs).drew)
        have hdlen : (cs.drop (i * t.w)).length = (xs.length - i) * t.w := by rw [List.length_drop, hcl, Nat.sub_mul]
        have e0 : (i + ys.length) * t.w = i * t.w + ys.length * t.w := Nat.add_mul _ _ _
        have hlen1 : i * t.w + vs.length ≤ ROW.toList.length := by rw [hRl, hvl]; omega
        have hlen2 : (i + ys.length) * t.w + (cs.drop (i * t.w)).length ≤ (setVals ROW.toList (i * t.w) vs).length := by rw [setVals_len, hRl, hdlen]; omega
        have hA : (w.alloc (.cells ROW (ρ.t 9))).drew.heap[w.heap.size]? = some (.cells ROW (ρ.t 9) (0, 0)) := alloc_new w _
        have hB1 := setCells_heap w.heap.size vs (i * t.w) (w.alloc (.cells ROW (ρ.t 9))).drew ROW hA
        have hB2 := setCells_heap w.heap.size (cs.drop (i * t.w)) ((i + ys.length) * t.w) (((w.alloc (.cells ROW (ρ.t 9))).drew.setCells w.heap.size (i * t.w) vs).drew) _ hB1
        rw [List.toList_toArray] at hB2
        have hgoal := ins_new (z := z) (e := ρ.t 9) (e' := e') (G := grownCap w (xs.length + ys.length) l.cap (ρ.t 9)) (i := i) hSx hnd hmine hF hB hcr hvr hcl hvl c1' h7 v7 hvb
            ⟨r1.trans q1, r2.trans q2, r3.trans q3⟩ hB2 (fun c hc => (r5 c (by omega)).trans ((q5 c (by omega)).trans (alloc_old w _ c hc)))
            (by have e3 : (w.alloc (.cells ROW (ρ.t 9))).drew.heap.size = w.heap.size + 1 := alloc_size w _
                have e4 : ((w.alloc (.cells ROW (ρ.t 9))).drew.setCells w.heap.size (i * t.w) vs).drew.heap.size = w.heap.size + 1 := q4.trans e3
                rw [r4, e4]; omega)
            hGn hGm (by rw [List.size_toArray, setVals_len, setVals_len]; exact hRl)
            (fun k hk => by
              rw [List.toList_toArray]
              have := ins_cells (off := 0) (C := setVals (setVals ROW.toList (i * t.w) vs) ((i + ys.length) * t.w) (cs.drop (i * t.w))) (D := (xs.length - i) * t.w) (A := i * t.w) (by rw [hcl, hnw]) hvl (fun k hk => ?_) (fun j hj => ?_) (fun j hj => ?_) k (by rw [hnm2]; exact hk)
              · rwa [Nat.zero_add] at this
              · rw [Nat.zero_add, setVals_get _ _ _ _ hlen2, if_pos (by omega), setVals_get _ _ _ _ hlen1, if_pos (by omega), hRt k hk]
              · rw [Nat.zero_add, setVals_get _ _ _ _ hlen2, if_pos (by omega), setVals_get _ _ _ _ hlen1, if_neg (by omega), if_pos (by omega)]; congr 1; omega
              · rw [Nat.zero_add, setVals_get _ _ _ _ hlen2, if_neg (by omega), if_pos (by omega), List.getElem?_drop]; congr 1; omega)
        rw [hdl, hdv] at hgoal ⊢
        refine key.mono ?_
        rintro e w' ⟨rfl, rfl⟩
        exact hgoal
end Go.Eng
end

section
namespace Go.Eng
variable [Names]
open Go.RowKit
section
variable {P : Program}
def joinF (x : List ByteArray × ByteArray × Unit) : Option (ByteArray × Unit × Unit × Unit) :=
  if x.1.length ≤ 140737488355328 ∧ (Lib.join (x.1.map (·.data.toList)) x.2.1.data.toList).length ≤ 140737488355328 then some (⟨(Lib.join (x.1.map (·.data.toList)) x.2.1.data.toList).toArray⟩, (), (), ()) else none
theorem entry_join {fn : Func} {f : Nat} (hf : P.funcs[f]? = some fn) (hb : enterB fn = true)
    (h0 : ∀ (a : Option Addr) (c : Nat) (sep : ByteArray) (w : World), Calls P f #[.slice a 0 c, .string sep] w fun e w' => e = .returned (.string ⟨#[]⟩) ∧ w' = w)
    (h : ∀ (bk o c : Nat) (xs : List ByteArray) (sep : ByteArray) (w : World), (∀ (j : Nat) x, xs[j]? = some x → w.cell? ⟨bk, o + j, none⟩ = some (.string x)) → bk < w.heap.size → xs.length ≤ 140737488355328 → xs.length ≤ c →
      (Lib.join (xs.map (·.data.toList)) sep.data.toList).length ≤ 140737488355328 →
      Calls P f #[.slice (some ⟨bk, o, none⟩) xs.length c, .string sep] w fun e w' => e = .returned (.string ⟨(Lib.join (xs.map (·.data.toList)) sep.data.toList).toArray⟩) ∧ Below w.heap.size w w') (b : Bool) :
    EntryOk P ⟨f, 0, .cons (.il b .str) (.cons .str .nil), .str, joinF⟩ := by
  refine ⟨rfl, rfl, fun x r hx w args Sx F B hrep hnd hmine hF hB => .inl ⟨f, args, enter_run hf hb args w, ?_⟩⟩
  obtain ⟨xs, sep, u⟩ := x
  obtain ⟨v1, vs1, S1, S2, ha, rfl, hs, h2⟩ := hrep
  obtain ⟨v2, vs2, S3, S4, rfl, rfl, hn, h3⟩ := h2
  obtain ⟨rfl, rfl⟩ := h3
  obtain ⟨h4, rfl⟩ := hs
  obtain ⟨h5, rfl⟩ := hn
  simp only [List.cons.injEq, and_true] at h5
  subst h5
  replace h4 : IRep (fun x => F x ∨ (b = true ∧ B x)) w (.list .str) xs [v1] := h4
  obtain ⟨a, n, c, hv, hl, hc, hrows⟩ := h4
  simp only [List.cons.injEq, and_true] at hv
  subst hv
  have hargs : args = #[.slice a n c, .string sep] := by
    rw [← Array.toList_inj, ha]
  subst hargs
  have hx' : joinF (xs, sep, u) = some r := hx
  unfold joinF at hx'
  split at hx'
  case isFalse => cases hx'
  rename_i hcd
  obtain ⟨c1, c2⟩ := hcd
  dsimp only at c1 c2 hx'
  injection hx' with hx'
  subst hx'
  have key : Calls P f #[.slice a n c, .string sep] w fun e w' => e = .returned (.string ⟨(Lib.join (xs.map (·.data.toList)) sep.data.toList).toArray⟩) ∧ Below w.heap.size w w' := by
    by_cases hn0 : 0 < n
    · obtain ⟨bl, o, rfl, hbF, hlt, hr⟩ := hrows hn0
      subst hl
      refine h bl o c xs sep w (fun j x hj => ?_) hlt c1 hc c2
      obtain ⟨hj', hx'⟩ := List.getElem?_eq_some_iff.1 hj
      obtain ⟨rs, r1, r2, r3⟩ := hr j hj'
      have r3 : rs = [.string xs[j]] := r3
      subst r3
      have := r2 0 _ rfl
      rw [hx'] at this
      simpa [Ty.w] using this
    · have : n = 0 := by omega
      subst this
      have hx0 : xs = [] := List.eq_nil_of_length_eq_zero hl
      subst hx0
      refine (h0 a c sep w).mono ?_
      rintro e w' ⟨rfl, rfl⟩
      exact ⟨rfl, Below.refl _ _⟩
  refine key.mono ?_
  rintro e w' ⟨rfl, hbel⟩
  refine ⟨_, rfl, F, [], [], ⟨hbel.os, hbel.tape, hbel.output, hbel.size, fun b hb _ => hbel.block b hb, fun b hb => hb, fun b hb => .inl hb, fun b hb => Nat.lt_of_lt_of_le (hF b hb) hbel.size, ⟨rfl, rfl⟩, ?_, List.nodup_nil, by simp⟩⟩
  exact ⟨_, _, [], [], rfl, rfl, rfl, _, _, [], [], rfl, rfl, rfl, rfl⟩
end
end Go.Eng
end
