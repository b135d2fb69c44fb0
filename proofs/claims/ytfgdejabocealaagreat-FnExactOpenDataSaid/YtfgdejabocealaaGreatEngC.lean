import Derived.Test.YtfgdejabocealaaGreatEngB
import Derived.ChangeShapes
import Derived.ChangeArms
import Derived.ChangeReads
import Derived.ChangeOld
import Derived.SizedLaws
import Derived.Below
import Derived.RowKit
import Derived.Laws.StructEq
import Derived.Carry
import Derived.Handed
import Derived.Lib.Repeat
/- An interpreter of the program's code over plain values is sound: what it answers is what the call answers (part C). Conditions: none beyond each theorem's own. -/
set_option linter.unusedVariables false
section
/-! Engine, soundness 30: a function's end. -/
namespace Go.Eng
section
variable {P : Program} {T : TT} {base : Nat} {S : List Nat} {B F F' B' : Nat → Prop} {w0 : World} {objs : Upd} {loc : Loc} {w w' : World} {ρ : Type}

theorem asAddr_sure {v : Value} {t : TypeId} {cv : Value} {w1 : World} (h : (Instr.loadAt t v).run P w = .ok cv w1) : (do loadVar t (← asAddr v) : Sem Value).run P w = .ok cv w1 := by
  have hs : ∀ a, v = .pointer (some a) → (do loadVar t (← asAddr v) : Sem Value).run P w = .ok cv w1 := fun a e => by
    subst e
    simpa [Instr.loadAt, Instr.sureAddr, asAddr] using h
  cases v with
  | pointer p =>
    cases p with
    | none => simp [Instr.loadAt, Instr.sureAddr, stuck, Sem.run_bind] at h
    | some a => exact hs a rfl
  | _ => simp [Instr.loadAt, Instr.sureAddr, stuck, Sem.run_bind] at h

theorem val1_of {a : AV} {v : Value} (h : Val objs loc F B w a v) (hn : a.notTup = true) : Val1 objs loc F B w a v := by
  cases a <;> first | exact h | (simp [AV.notTup] at hn)
theorem val1s_of : ∀ {as : List AV} {vs : List Value}, Vals objs loc F B w as vs → as.all AV.notTup = true → Val1s objs loc F B w as vs
  | [], [], _, _ => trivial
  | _ :: _, _ :: _, h, hn => by
    simp only [List.all_cons, Bool.and_eq_true] at hn
    exact ⟨val1_of h.1 hn.1, val1s_of h.2 hn.2⟩
  | [], _ :: _, h, _ => h.elim
  | _ :: _, [], h, _ => h.elim

def resOf (tmps : Array Value) : ResultVar → Sem Value
  | .tmp t => pure (tmps.getD t undef)
  | .cell x t => do loadVar t (← asAddr (tmps.getD x undef))

theorem results_eq (fn : Func) (tmps : Array Value) : results fn tmps = (fn.results.mapM (resOf tmps) >>= fun vs => pure (if h : vs.size = 1 then vs[0] else .tuple vs)) := by
  unfold results
  refine congrArg (fun f : ResultVar → Sem Value => (fn.results.mapM f >>= fun vs => pure (if h : vs.size = 1 then vs[0] else Value.tuple vs))) (?_ : _ = resOf tmps)
  funext r
  cases r <;> rfl

theorem go_ok {A : St} {a : Act} (hT : TOk P T) (h : SR base S B w0 A.objs loc F w) (hval : ∀ t, Val A.objs loc F B w (nth .dead A.tmps t) (a.tmps.getD t undef)) : ∀ (rs : List ResultVar) {K : List AV → Option ρ} {res : ρ}, resultAV.go T A rs K = some res →
    ∃ avs vs, K avs = some res ∧ (rs.mapM (resOf a.tmps)).run P w = .ok vs w ∧ Vals A.objs loc F B w avs vs
  | [], K, res, hk => ⟨[], [], hk, by simp, trivial⟩
  | .tmp t :: rs, K, res, hk => by
    simp only [resultAV.go] at hk
    obtain ⟨avs, vs, h1, h2, h3⟩ := go_ok hT h hval rs hk
    refine ⟨_, a.tmps.getD t undef :: vs, h1, ?_, hval t, h3⟩
    simp only [List.mapM_cons, resOf, Sem.run_bind, Sem.run_pure, Result.andThen_ok, h2]
  | .cell x t :: rs, K, res, hk => by
    simp only [resultAV.go] at hk
    obtain ⟨av, cv, hk, hr, hv⟩ := load_run hT h (hval x) (fun s _ => rfl) hk
    obtain ⟨avs, vs, h1, h2, h3⟩ := go_ok hT h hval rs hk
    refine ⟨_, cv :: vs, h1, ?_, hv, h3⟩
    have : (resOf a.tmps (.cell x t)).run P w = .ok cv w := asAddr_sure hr
    simp only [List.mapM_cons, Sem.run_bind, this, Sem.run_pure, Result.andThen_ok, h2]

theorem result_ok {fn : Func} {A : St} {a : Act} {K : AV → Option ρ} {res : ρ} (hT : TOk P T) (h : SR base S B w0 A.objs loc F w) (hval : ∀ t, Val A.objs loc F B w (nth .dead A.tmps t) (a.tmps.getD t undef)) (hk : resultAV T A fn.results.toList K = some res) :
    ∃ av v, K av = some res ∧ (results fn a.tmps).run P w = .ok v w ∧ Val A.objs loc F B w av v := by
  unfold resultAV at hk
  obtain ⟨avs, vs, hk, hr, hv⟩ := go_ok hT h hval fn.results.toList hk
  have hres : (results fn a.tmps).run P w = .ok (if h : vs.toArray.size = 1 then vs.toArray[0] else .tuple vs.toArray) w := by
    rw [results_eq, Sem.run_bind, Array.mapM_eq_mapM_toList, map_eq_pure_bind, Sem.run_bind, hr]
    simp only [Result.andThen_ok, Sem.run_pure]
  match avs, vs, hv, hk, hres with
  | [av], [v], hv, hk, hres => exact ⟨av, v, hk, hres, hv.1⟩
  | [], [], _, hk, hres => exact ⟨.tup [], .tuple #[], hk, hres, ⟨#[], rfl, trivial⟩⟩
  | av :: av' :: avs, v :: v' :: vs, hv, hk, hres =>
    dsimp only at hk
    split at hk
    · rename_i hall
      refine ⟨_, .tuple (v :: v' :: vs).toArray, hk, ?_, ⟨_, rfl, val1s_of hv hall⟩⟩
      rw [hres, dif_neg (by simp)]
    · cases hk
  | [], _ :: _, hv, _, _ => exact hv.elim
  | _ :: _, [], hv, _, _ => exact hv.elim
  | [_], _ :: _ :: _, hv, _, _ => exact hv.2.elim
  | _ :: _ :: _, [_], hv, _, _ => exact hv.2.elim

theorem out_ok (h : SR base S B w0 objs loc F w) (p : Pat) : ∀ {ρ : Type} {avs : List AV} {vs : List Value} {K : p.out → Took → Option ρ} {res : ρ}, outK (look objs) p avs K = some res → Vals objs loc F B w avs vs →
    ∃ o t S2, K o t = some res ∧ RepOut (FK F loc t.imms) (BK B loc t.bors) w p o vs S2 ∧ S2 = blks loc t.owns ∧ TookOk objs (look objs) t := by
  induction p with
  | «mut» z e t =>
    intro ρ avs vs K res hk hv
    unfold outK at hk
    obtain ⟨x, t, Sx, h1, h2, h3, h4⟩ := pack_ok h (fun s => .inl rfl) (.mut z e t) hk hv
    exact ⟨x, t, Sx, h1, h2, h3, h4⟩
  | ptr po p _ =>
    intro ρ avs vs K res hk hv
    unfold outK at hk
    obtain ⟨x, t, Sx, h1, h2, h3, h4⟩ := pack_ok h (fun s => .inl rfl) (.ptr po p) hk hv
    exact ⟨x, t, Sx, h1, h2, h3, h4⟩
  | fn f p ih =>
    intro ρ avs vs K res hk hv
    match avs, vs, hv, hk with
    | [], _, _, hk => simp [outK] at hk
    | _ :: _ :: _, _, _, hk => simp [outK] at hk
    | [_], [], hv, _ => exact hv.elim
    | [_], _ :: _ :: _, hv, _ => exact hv.2.elim
    | [a], [v], hv, hk =>
      cases a <;> try (simp [outK] at hk; done)
      simp only [outK] at hk
      split at hk
      case h_2 => cases hk
      rename_i hf
      have hf := beq_true.1 hf
      subst hf
      obtain ⟨cv, rfl, hlf⟩ := hv.1
      obtain ⟨o, t, S2, h1, h2, h3, h4⟩ := ih hk hlf.vals
      exact ⟨o, t, S2, h1, ⟨cv, rfl, h2⟩, h3, h4⟩
  | mag p ih =>
    intro ρ avs vs K res hk hv
    match avs, vs, hv, hk with
    | [], _, _, hk => simp [outK] at hk
    | _ :: _ :: _, _, _, hk => simp [outK] at hk
    | [_], [], hv, _ => exact hv.elim
    | [_], _ :: _ :: _, hv, _ => exact hv.2.elim
    | [a], [v], hv, hk =>
      cases a <;> try (simp [outK] at hk; done)
      simp only [outK] at hk
      obtain ⟨cv, rfl, hlf⟩ := val_agg hv.1
      obtain ⟨o, t, S2, h1, h2, h3, h4⟩ := ih hk hlf.vals
      exact ⟨o, t, S2, h1, ⟨cv, rfl, h2⟩, h3, h4⟩
  | cons a b iha ihb =>
    intro ρ avs vs K res hk hv
    match avs, vs, hv, hk with
    | [], _, _, hk => simp [outK] at hk
    | _ :: _, [], hv, _ => exact hv.elim
    | av :: avs, v :: vs, hv, hk =>
      simp only [outK] at hk
      obtain ⟨x, t, Sx, hk, hrep, hS, ht⟩ := iha hk (vs := [v]) ⟨hv.1, trivial⟩
      obtain ⟨y, t', Sy, hk, hrep', hS', ht'⟩ := ihb hk hv.2
      refine ⟨(x, y), t.and t', Sx ++ Sy, hk, ⟨v, vs, Sx, Sy, rfl, rfl, ?_, ?_⟩, by rw [hS, hS']; exact (blks_append _ _ _).symm, ht.and ht'⟩
      · exact hrep.mono FK.left FK.left
      · exact hrep'.mono FK.right FK.right
  | any => intro ρ avs vs K res hk hv; exact ⟨(), .none, [], hk, rfl, rfl, TookOk.none _ _⟩
  | int k => intro ρ avs vs K res hk hv; exact ⟨(), .none, [], hk, rfl, rfl, TookOk.none _ _⟩
  | bool => intro ρ avs vs K res hk hv; exact ⟨(), .none, [], hk, rfl, rfl, TookOk.none _ _⟩
  | nils => intro ρ avs vs K res hk hv; exact ⟨(), .none, [], hk, rfl, rfl, TookOk.none _ _⟩
  | str => intro ρ avs vs K res hk hv; exact ⟨(), .none, [], hk, rfl, rfl, TookOk.none _ _⟩
  | il b t => intro ρ avs vs K res hk hv; exact ⟨(), .none, [], hk, rfl, rfl, TookOk.none _ _⟩
  | own z e t => intro ρ avs vs K res hk hv; exact ⟨(), .none, [], hk, rfl, rfl, TookOk.none _ _⟩
  | agg p _ => intro ρ avs vs K res hk hv; exact ⟨(), .none, [], hk, rfl, rfl, TookOk.none _ _⟩
  | tup p _ => intro ρ avs vs K res hk hv; exact ⟨(), .none, [], hk, rfl, rfl, TookOk.none _ _⟩
  | nil => intro ρ avs vs K res hk hv; exact ⟨(), .none, [], hk, rfl, rfl, TookOk.none _ _⟩
end
end Go.Eng
end

section
/-! Engine, soundness 31: a function. -/
namespace Go.Eng

def Pat.list : Pat → Bool
  | .nil => true
  | .cons a b => a.single && b.list
  | _ => false

def opsKeep (ks : List Nat) : List Oper → Bool
  | [] => true
  | o :: os => match o.dst with
    | none => opsKeep ks os
    | some d => match memb d ks with
      | true => false
      | false => opsKeep ks os
def codeKeep (ks : List Nat) : Code → Bool
  | .region _ ops _ => opsKeep ks ops.toList
  | .seq x y => codeKeep ks x && codeKeep ks y
  | .cond _ x y => codeKeep ks x && codeKeep ks y
  | .block _ c => codeKeep ks c
  | .loop c => codeKeep ks c
  | _ => true

def cutsOk : List (Nat × Cut × Cut) → Bool
  | [] => true
  | (_, c, c') :: l => c.p.ok && (c'.p.ok && cutsOk l)

/-- What a function's shape must meet. -/
def shapeOk (fn : Func) (loops : List (Nat × Cut × Cut)) (ps rs : Pat) : Bool :=
  ps.ok && (ps.list && (rs.ok && ((rs.nb || true) && (Nat.ble (slotsOf 0 ps).length fn.ntmps && (codeKeep (keepOf 0 ps) (codeOf fn) && (cutsOk loops && (fn.body.isSome && !(fn.name == "runtime.NumGoroutine"))))))))

section
variable {P : Program} {T : TT} {base : Nat} {S : List Nat} {B F F' B' : Nat → Prop} {w0 : World} {objs : Upd} {loc : Loc} {w w' : World} {ρ : Type}

def Stays (n : Nat) (ks : List Nat) (f : Nat → Value) (a : Act) : Prop := a.defers = [] ∧ a.tmps.size = n ∧ ∀ t ∈ ks, a.tmps.getD t undef = f t

theorem stays_put {n : Nat} {ks : List Nat} {f : Nat → Value} {a : Act} {o : Oper} {cv : Value} (hd : ∀ d, o.dst = some d → d ∉ ks) (h : Stays n ks f a) : Stays n ks f (a.put o.dst cv) := by
  refine ⟨by rw [put_defers]; exact h.1, by rw [put_size]; exact h.2.1, fun t ht => ?_⟩
  rw [put_get, if_neg (fun hh => hd t hh.1 ht)]
  exact h.2.2 t ht

theorem opsKeep_ok {ks : List Nat} : ∀ {os : List Oper}, opsKeep ks os = true → ∀ o ∈ os, ∀ d, o.dst = some d → d ∉ ks
  | [], _, o, ho => by simp at ho
  | o' :: os, h, o, ho => by
    simp only [opsKeep] at h
    intro d hd
    split at h
    · rename_i hn
      rcases List.mem_cons.1 ho with rfl | ho
      · rw [hn] at hd; cases hd
      · exact opsKeep_ok h o ho d hd
    · rename_i d' hs
      split at h
      · cases h
      · rename_i hm
        rcases List.mem_cons.1 ho with rfl | ho
        · rw [hs] at hd
          cases hd
          intro hin
          rw [memb_iff.2 hin] at hm
          cases hm
        · exact opsKeep_ok h o ho d hd

theorem codeKeep_ok {n : Nat} {ks : List Nat} {f : Nat → Value} : ∀ {c : Code}, codeKeep ks c = true → CodeKeeps (Stays n ks f) c := by
  intro c
  induction c with
  | region rid ops draw => exact fun h o ho a cv ha => stays_put (opsKeep_ok h o (by simpa using ho)) ha
  | seq x y ihx ihy => intro h; simp only [codeKeep, Bool.and_eq_true] at h; exact ⟨ihx h.1, ihy h.2⟩
  | cond c x y ihx ihy => intro h; simp only [codeKeep, Bool.and_eq_true] at h; exact ⟨ihx h.1, ihy h.2⟩
  | block id c ih => exact fun h => ih h
  | loop c ih => exact fun h => ih h
  | _ => exact fun _ => trivial

theorem cutsOk_ok : ∀ {l : List (Nat × Cut × Cut)}, cutsOk l = true → ∀ q ∈ l, q.2.1.p.ok = true ∧ q.2.2.p.ok = true
  | [], _, q, hq => by simp at hq
  | (_, c, c') :: l, h, q, hq => by
    simp only [cutsOk, Bool.and_eq_true] at h
    rcases List.mem_cons.1 hq with rfl | hq
    · exact ⟨h.1, h.2.1⟩
    · exact cutsOk_ok h.2.2 q hq

theorem slots_vals : ∀ {p : Pat} {x : p.den} {vs : List Value} {Sx : List Nat} {k : Nat} {f : Nat → Value}, p.list = true → Rep F B w p x vs Sx → (∀ i v, vs[i]? = some v → f (k + i) = v) → (slotsOf k p).map f = vs ∧ (slotsOf k p).length = vs.length
  | .nil, _, vs, _, _, _, _, h, _ => by
    obtain ⟨rfl, _⟩ := h
    exact ⟨rfl, rfl⟩
  | .cons a b, x, vs, _, k, f, hl, h, hf => by
    obtain ⟨v, vs', S1, S2, rfl, rfl, h1, h2⟩ := h
    simp only [Pat.list, Bool.and_eq_true] at hl
    obtain ⟨k1, k2⟩ := slots_vals (k := k + 1) (f := f) (p := b) hl.2 h2 (fun i v hi => by rw [show k + 1 + i = k + (i + 1) by omega]; exact hf (i + 1) v (by simpa using hi))
    refine ⟨?_, by simp [slotsOf, k2]⟩
    simp only [slotsOf, List.map_cons, k1]
    rw [show f k = v from hf 0 v rfl]

theorem out_args : ∀ {p : Pat} {o : p.out} {vs : List Value} {S2 : List Nat} {k : Nat} {f : Nat → Value}, p.list = true → RepOut F B w p o ((slotsOf k p).map f) S2 → (slotsOf k p).length = vs.length → (∀ i v, k + i ∈ keepOf k p → vs[i]? = some v → f (k + i) = v) → RepOut F B w p o vs S2
  | .nil, _, vs, _, _, _, _, h, _, _ => h
  | .cons a b, o, vs, _, k, f, hl, h, hlen, hf => by
    obtain ⟨v, vs', S1, S2, e, rfl, h1, h2⟩ := h
    simp only [Pat.list, Bool.and_eq_true] at hl
    simp only [slotsOf, List.map_cons, List.cons.injEq] at e
    obtain ⟨rfl, rfl⟩ := e
    match vs, hlen, hf with
    | [], hlen, _ => simp [slotsOf] at hlen
    | u :: us, hlen, hf =>
      have tail : ∀ t, t ∈ keepOf (k + 1) b → t ∈ keepOf k (.cons a b) := fun t ht => by
        unfold keepOf
        split <;> first | exact List.mem_cons_of_mem _ ht | exact ht
      refine ⟨u, us, S1, S2, rfl, rfl, ?_, out_args (p := b) hl.2 h2 (by simpa [slotsOf] using hlen) fun i v hi hv => ?_⟩
      · have hu : k ∈ keepOf k (.cons a b) → f k = u := fun hk => hf 0 u (by simpa using hk) rfl
        cases a with
        | «mut» z e t => rw [← hu (by simp [keepOf])]; exact h1
        | ptr _ p => rw [← hu (by simp [keepOf])]; exact h1
        | fn f' p => rw [← hu (by simp [keepOf])]; exact h1
        | mag p => rw [← hu (by simp [keepOf])]; exact h1
        | cons a1 a2 => simp [Pat.single] at hl
        | _ => exact h1
      · have := hf (i + 1) v (by rw [show k + (i + 1) = k + 1 + i by omega]; exact tail _ hi) (by simpa using hv)
        rw [show k + 1 + i = k + (i + 1) by omega]
        exact this

theorem entry_ok {fn : Func} {f key k : Nat} {es : List Entry} {loops : List (Nat × Cut × Cut)} {ps rs : Pat} {G : ps.den → Option (rs.den × ps.out)} (hT : TOk P T) (hes : ∀ e ∈ es, EntryOk P e) (hm : P.follows .mixedOrders = true) (hf : P.funcs[f]? = some fn) (hsh : shapeOk fn loops ps rs = true)
    (hG : ∀ x r, G x = some r → evF T k es loops fn ps rs x = some r) : EntryOk P ⟨f, key, ps, rs, G⟩ := by
  simp only [shapeOk, Bool.and_eq_true, Nat.ble_eq, Bool.not_eq_true'] at hsh
  obtain ⟨okp, lp, okr, nbr, hslots, hkeep, hcuts, hbody, hname⟩ := hsh
  obtain ⟨code, hcode⟩ := Option.isSome_iff_exists.1 hbody
  have hco : codeOf fn = code := by simp [codeOf, hcode]
  refine ⟨okp, okr, fun x r hx w args Sx F B hrep hnd hmine hF hB => .inl ⟨f, args, ?_, ?_⟩⟩
  · simp [callFunc, hf, hcode]
    intro e
    rw [e] at hname
    simp at hname
  · have hev := hG x r hx
    let v0 : Nat → Value := fun t => args.getD t undef
    let a0 : Act := { tmps := args ++ Array.replicate (fn.ntmps - args.size) undef, defers := [] }
    have hsl : (slotsOf 0 ps).map (fun t => a0.tmps.getD t undef) = args.toList ∧ (slotsOf 0 ps).length = args.toList.length := slots_vals lp hrep fun i v hi => by
      have hlt : i < args.size := by simpa using (List.getElem?_eq_some_iff.1 hi).1
      have hv : args[i]? = some v := by simpa using hi
      simp only [a0, Nat.zero_add, Array.getD_eq_getD_getElem?]
      rw [Array.getElem?_append_left hlt, hv]
      rfl
    have hargs : args.size ≤ fn.ntmps := by
      have := hsl.2
      have e : args.toList.length = args.size := by simp
      omega
    have hG0 : Stays fn.ntmps (keepOf 0 ps) (fun t => a0.tmps.getD t undef) a0 := ⟨rfl, by simp [a0]; omega, fun _ _ => rfl⟩
    have hframe : Frm w.heap.size Sx B w F w := ⟨hF, fun b hb => ⟨hB b hb, fun hm => (hmine b hm).2.1 hb⟩, rfl, rfl, rfl, ⟨rfl, Nat.le_refl _⟩, fun _ _ _ => rfl⟩
    have hrel : RelA w.heap.size Sx B w F (Stays fn.ntmps (keepOf 0 ps) (fun t => a0.tmps.getD t undef)) (Cut.unpack fn.ntmps ⟨slotsOf 0 ps, ps⟩ x) a0 w := by
      refine rel_unpack (c := ⟨slotsOf 0 ps, ps⟩) (F := F) okp ⟨hframe, Sx, ?_, hnd, fun b hb => ⟨(hmine b hb).1, (hmine b hb).2.1, (hmine b hb).2.2, .inr hb⟩⟩ (fun _ h => h) (More.refl _ _ _) hG0 hG0.2.1
      show Rep F B w ps x ((slotsOf 0 ps).map fun t => a0.tmps.getD t undef) Sx
      rw [hsl.1]
      exact hrep
    let C : Ctx := ⟨rs.den × ps.out, T, k, fn.ntmps, es, loops, finK T ps rs fn.results.toList⟩
    have hC : CtxOk P C (Stays fn.ntmps (keepOf 0 ps) (fun t => a0.tmps.getD t undef)) := ⟨hT, hes, hm, cutsOk_ok hcuts, fun a ha => ha.2.1⟩
    have hend : ∀ A' a' w', finK T ps rs fn.results.toList A' = some r → RelA w.heap.size Sx B w F (Stays fn.ntmps (keepOf 0 ps) (fun t => a0.tmps.getD t undef)) A' a' w' →
        a'.defers = [] ∧ ∃ v, (results fn a'.tmps).run P w' = .ok v w' ∧ ∃ F' S1 S2, Post rs ps r args.toList Sx F B w F' S1 S2 v w' := by
      intro A' a' w' hfin hr
      obtain ⟨loc, F1, hsr, hF1, hmore, hst, hsize, hval⟩ := hr
      unfold finK at hfin
      obtain ⟨av, v, hfin, hres, hv⟩ := result_ok hT hsr hval hfin
      obtain ⟨y, t, S1, hfin, hrep1, hS1, ht1⟩ := pack_ok hsr (fun s => .inl rfl) rs hfin (vs := [v]) ⟨hv, trivial⟩
      obtain ⟨o, t', S2, hfin, hrep2, hS2, ht2⟩ := out_ok hsr ps hfin (Vals.of_nat hval (slotsOf 0 ps))
      split at hfin
      case h_2 => cases hfin
      rename_i hsole
      injection hfin with hfin
      simp only [Took.sole, Bool.and_eq_true, List.isEmpty_iff] at hsole
      have htt := ht1.and ht2
      obtain ⟨q1, q2⟩ := took_ok hsr htt hsole.1
      have hb1 : t.bors = [] ∧ t'.bors = [] := by have := hsole.2; simp only [Took.and, List.append_eq_nil_iff] at this; exact this
      obtain ⟨m1, m2⟩ := FK_more hsr (fun r hr => live_of_lst (htt.imms r hr).1)
      have e1 : BK B loc t.bors = B := by rw [hb1.1]; exact FK.nil
      have e2 : BK B loc t'.bors = B := by rw [hb1.2]; exact FK.nil
      have e3 : BK B loc (t.and t').bors = B := by rw [hsole.2]; exact FK.nil
      rw [e1] at hrep1
      rw [e2] at hrep2
      rw [e3] at q2
      have hown : blks loc (t.and t').owns = S1 ++ S2 := by rw [hS1, hS2]; exact blks_append _ _ _
      rw [hown] at q1 q2
      refine ⟨hst.1, v, hres, FK F1 loc (t.and t').imms, S1, S2, ?_⟩
      refine ⟨hsr.os, hsr.tape, hsr.output, hsr.size.2, hsr.block, fun b hb => .inl (hF1 b hb), fun b hb => ?_, m2, ?_, ?_, q1, fun b hb => ?_⟩
      · rcases (hmore.trans m1) b hb with q | q | q
        · exact .inl q
        · exact .inr (.inl q)
        · exact .inr (.inr q)
      · rw [← hfin]
        exact hrep1.mono FK.left (fun _ h => h) (fun _ _ => rfl) (fun _ _ => rfl) (fun _ _ => rfl)
      · rw [← hfin]
        refine out_args (k := 0) (f := fun t => a'.tmps.getD t undef) lp (hrep2.mono FK.right (fun _ h => h)) hsl.2 fun i u hi hu => ?_
        rw [Nat.zero_add] at hi ⊢
        show a'.tmps.getD i undef = u
        rw [hst.2.2 i hi]
        have hlt : i < args.size := by simpa using (List.getElem?_eq_some_iff.1 hu).1
        have hv : args[i]? = some u := by simpa using hu
        simp only [a0, Array.getD_eq_getD_getElem?]
        rw [Array.getElem?_append_left hlt, hv]
        rfl
      · obtain ⟨a1, a2, a3, a4⟩ := q2 b hb
        exact ⟨a1, a2, a3, a4⟩
    refine calls_of_wp hf hcode ?_
    rw [← hco]
    unfold evF at hev
    refine (code_ok (base := w.heap.size) (S := Sx) (B := B) (F0 := F) (w0 := w) hC (codeOf fn)).1 (codeKeep_ok hkeep) _ _ r _ a0 w hev hrel (fun e A' a' w' he hr => ?_) (fun A' a' w' hfin hr => ?_)
    · cases e with
      | normal =>
        obtain ⟨h1, v, h2, h3⟩ := hend A' a' w' he hr
        exact ⟨h1, v, h2, v, rfl, h3⟩
      | exit i => cases he
    · obtain ⟨h1, v, h2, h3⟩ := hend A' a' w' hfin hr
      exact ⟨h1, v, h2, v, rfl, h3⟩
end
end Go.Eng
end

section
/-! Engine, glue 1: a law's arguments, as typed pure values. -/
namespace Go.Eng

def fieldsIs (R : Ty → TypeId → Bool) (P : Program) : Nat → Ty → List Field → Bool
  | _, .unit, [] => true
  | off, t, [f] => R t f.type && (Nat.beq f.offset off && Nat.beq (P.cellsOf f.type) t.w)
  | off, .pair a b, f :: fs => R a f.type && (Nat.beq f.offset off && (Nat.beq (P.cellsOf f.type) a.w && fieldsIs R P (off + a.w) b fs))
  | _, _, _ => false

/-- The type 't' of the program is the engine's type. -/
def tyIs (P : Program) : Nat → Ty → TypeId → Bool
  | 0, _, _ => false
  | n + 1, t, tid => match P.underlying tid with
    | some (.struct fs) => Nat.beq (P.cellsOf tid) t.w && fieldsIs (tyIs P n) P 0 t fs.toList
    | some (.int k) => match t with | .int k' => decide (k' = k) | _ => false
    | some .bool => match t with | .bool => true | _ => false
    | some .string => match t with | .str => true | _ => false
    | some (.slice e) => match t with | .list a => tyIs P n a e && (Nat.beq (P.cellsOf e) a.w && Nat.ble 1 a.w) | _ => false
    | _ => false

/-- What an argument's value meets. -/
def Ty.wf : (t : Ty) → t.den → Prop
  | .int k, n => (Lit.int k n).wf = true
  | .bool, _ => True
  | .str, s => s.size ≤ maxLen
  | .list t, xs => xs.length ≤ maxLen ∧ ∀ x ∈ xs, t.wf x
  | .unit, _ => True
  | .pair a b, x => a.wf x.1 ∧ b.wf x.2

section
variable {H : Type} {enc : TypeId × Value → H} {P : Program} {w : World} {base : Nat} {spare : Nat → Bool} {held : Bool}

def Old (w : World) : Nat → Prop := fun b => b < w.heap.size

theorem list_choose {α β : Type} (R : Nat → α → Prop) (n : Nat) (h : ∀ i, i < n → ∃ x, R i x) : ∃ xs : List α, xs.length = n ∧ ∀ i (hi : i < xs.length), R i xs[i] := by
  induction n with
  | zero => exact ⟨[], rfl, fun i hi => by simp at hi⟩
  | succ n ih =>
    obtain ⟨xs, h1, h2⟩ := ih fun i hi => h i (by omega)
    obtain ⟨x, hx⟩ := h n (by omega)
    refine ⟨xs ++ [x], by simp [h1], fun i hi => ?_⟩
    by_cases hlt : i < xs.length
    · rw [List.getElem_append_left hlt]; exact h2 i hlt
    · have : i = n := by simp at hi; omega
      subst this
      rw [List.getElem_append_right (by omega)]
      simpa [h1] using hx

theorem fields_open {n fuel : Nat} (ih : ∀ {t : Ty} {tid : TypeId} {cs : List Value} {x : DataW H × List MemPlace}, tyIs P n t tid = true → DataW.trod enc P w base spare held fuel tid cs = some x → ∃ y : t.den, IRep (Old w) w t y cs ∧ t.wf y) :
    ∀ {fs : List Field} {off : Nat} {t : Ty} {cs : List Value}, fieldsIs (tyIs P n) P off t fs = true → off + t.w ≤ cs.length → (∀ f ∈ fs, ∃ x, DataW.trod enc P w base spare held fuel f.type ((cs.drop f.offset).take (P.cellsOf f.type)) = some x) →
      ∃ y : t.den, IRep (Old w) w t y ((cs.drop off).take t.w) ∧ t.wf y
  | [], off, t, cs, h, _, _ => by
    cases t <;> simp [fieldsIs] at h
    exact ⟨(), by simp [Ty.w, IRep], trivial⟩
  | [f], off, t, cs, h, hl, hf => by
    have h : (tyIs P n t f.type && (Nat.beq f.offset off && Nat.beq (P.cellsOf f.type) t.w)) = true := by cases t <;> exact h
    simp only [Bool.and_eq_true] at h
    obtain ⟨x, hx⟩ := hf f (by simp)
    rw [beq_true.1 h.2.1, beq_true.1 h.2.2] at hx
    exact ih h.1 hx
  | f :: g :: fs, off, .pair a b, cs, h, hl, hf => by
    simp only [fieldsIs, Bool.and_eq_true] at h
    obtain ⟨h1, h2, h3, h4⟩ := h
    obtain ⟨x, hx⟩ := hf f (by simp)
    rw [beq_true.1 h2, beq_true.1 h3] at hx
    obtain ⟨y, hy, hyw⟩ := ih h1 hx
    simp only [Ty.w] at hl
    obtain ⟨z, hz, hzw⟩ := fields_open ih (cs := cs) h4 (by omega) (fun f' hf' => hf f' (List.mem_cons_of_mem _ hf'))
    refine ⟨(y, z), ⟨_, _, ?_, hy, hz⟩, hyw, hzw⟩
    simp only [Ty.w]
    rw [List.take_add, List.drop_drop]
  | _ :: _ :: _, _, .int _, _, h, _, _ => by simp [fieldsIs] at h
  | _ :: _ :: _, _, .bool, _, h, _, _ => by simp [fieldsIs] at h
  | _ :: _ :: _, _, .str, _, h, _, _ => by simp [fieldsIs] at h
  | _ :: _ :: _, _, .list _, _, h, _, _ => by simp [fieldsIs] at h
  | _ :: _ :: _, _, .unit, _, h, _, _ => by simp [fieldsIs] at h

theorem open_ty : ∀ (n : Nat) {fuel : Nat} {t : Ty} {tid : TypeId} {cs : List Value} {x : DataW H × List MemPlace}, tyIs P n t tid = true → DataW.trod enc P w base spare held fuel tid cs = some x → ∃ y : t.den, IRep (Old w) w t y cs ∧ t.wf y := by
  intro n
  induction n with
  | zero => intro fuel t tid cs x h; simp [tyIs] at h
  | succ n ih =>
    intro fuel t tid cs x h hx
    simp only [tyIs] at h
    split at h
    · rename_i fs hu
      simp only [Bool.and_eq_true] at h
      obtain ⟨xs, m, rfl, rfl, hlen, hxl, hfs⟩ := DataW.trod_struct hu hx
      have hw := beq_true.1 h.1
      obtain ⟨y, hy, hyw⟩ := fields_open (fuel := m) (cs := cs) (fun h1 h2 => ih h1 h2) h.2 (by omega) (fun f hf => by
        obtain ⟨i, hi, rfl⟩ := List.getElem_of_mem hf
        have := hfs i fs.toList[i] (by simp at hi; simp [hi])
        exact ⟨xs[i]'(by simp at hi; omega), by rw [this]; simp⟩)
      refine ⟨y, ?_, hyw⟩
      have e : (cs.drop 0).take t.w = cs := by rw [List.drop_zero, List.take_of_length_le (by omega)]
      rw [e] at hy
      exact hy
    · rename_i k hu
      cases t <;> first | (simp at h; done) | skip
      rename_i k'
      have : k' = k := by simpa using h
      subst this
      obtain ⟨z, rfl, _, hz⟩ := DataW.trod_int hu hx
      exact ⟨z, rfl, hz⟩
    · rename_i hu
      cases t <;> first | (simp at h; done) | skip
      obtain ⟨z, rfl, _⟩ := DataW.trod_bool hu hx
      exact ⟨z, rfl, trivial⟩
    · rename_i hu
      cases t <;> first | (simp at h; done) | skip
      obtain ⟨z, rfl, _, hz⟩ := DataW.trod_string hu hx
      exact ⟨z, rfl, hz⟩
    · rename_i e hu
      cases t <;> first | (simp at h; done) | skip
      rename_i a
      simp only [Bool.and_eq_true, Nat.ble_eq] at h
      obtain ⟨h1, h2, h3⟩ := h
      have h2 := beq_true.1 h2
      rcases DataW.trod_slice hu hx with ⟨rfl, _⟩ | ⟨ad, len, cap, elems, rest, m, rfl, rfl, rfl, hb, hl, hm, hlen, hel, _, _⟩
      · exact ⟨[], ⟨none, 0, 0, rfl, rfl, Nat.le_refl _, fun h => absurd h (by omega)⟩, by simp, by simp⟩
      · have each : ∀ i, i < len → ∃ y : a.den, (∃ rs : List Value, rs.length = a.w ∧ (∀ j v, rs[j]? = some v → w.cell? ((ad.add (i * a.w)).add j) = some v) ∧ IRep (Old w) w a y rs) ∧ a.wf y := by
          intro i hi
          have hx' := hel i hi
          rw [List.getElem?_eq_getElem (by omega), Option.bind_eq_some_iff] at hx'
          obtain ⟨rs, hrs, htr⟩ := hx'
          obtain ⟨_, k2, k3⟩ := World.cells?_some hrs
          obtain ⟨y, hy, hyw⟩ := ih h1 htr
          refine ⟨y, ⟨rs, by rw [k2, h2], fun j v hj => ?_, hy⟩, hyw⟩
          have hjl := (List.getElem?_eq_some_iff.1 hj).1
          have := k3 j (by omega)
          rw [h2] at this
          rw [this]; exact hj
        obtain ⟨ys, hys, hR⟩ := list_choose (β := Unit) (fun i y => (∃ rs : List Value, rs.length = a.w ∧ (∀ j v, rs[j]? = some v → w.cell? ((ad.add (i * a.w)).add j) = some v) ∧ IRep (Old w) w a y rs) ∧ a.wf y) len each
        refine ⟨ys, ⟨some ad, len, cap, rfl, hys, hl, fun hn => ?_⟩, by omega, fun y hy => ?_⟩
        · obtain ⟨⟨rs, r1, r2, _⟩, _⟩ := hR 0 (by omega)
          have hc := r2 0 rs[0] (by simp)
          have hspot : ad.spot = none := by
            cases hs : ad.spot with
            | none => rfl
            | some q =>
              exfalso
              simp only [World.cell?, Addr.add] at hc
              revert hc
              split <;> simp_all
          obtain ⟨ab, ao, asp⟩ := ad
          simp only at hspot
          subst hspot
          have hlt : ab < w.heap.size := by
            rw [Addr.add_mid, Addr.add_mid] at hc
            exact World.block_lt_of_cell? w _ hc
          refine ⟨ab, ao, rfl, hlt, hlt, fun i hi => ?_⟩
          obtain ⟨⟨rs, r1, r2, r3⟩, _⟩ := hR i hi
          refine ⟨rs, r1, fun j v hj => ?_, r3⟩
          have := r2 j v hj
          rw [Addr.add_mid, Addr.add_mid] at this
          exact this
        · obtain ⟨i, hi, rfl⟩ := List.getElem_of_mem hy
          exact (hR i hi).2
    · cases h
end
end Go.Eng
end

section
/-! Engine, glue 2: a law that only reads its arguments and hands back 'true'. -/
namespace Go.Eng

def cellsP : Ty → Pat → Pat
  | .int k, r => .cons (.int k) r
  | .bool, r => .cons .bool r
  | .str, r => .cons .str r
  | .list t, r => .cons (.il true t) r
  | .unit, r => r
  | .pair a b, r => cellsP a (cellsP b r)
def cellsX : (t : Ty) → (r : Pat) → t.den → r.den → (cellsP t r).den
  | .int _, _, x, y => (x, y)
  | .bool, _, x, y => (x, y)
  | .str, _, x, y => (x, y)
  | .list _, _, x, y => (x, y)
  | .unit, _, _, y => y
  | .pair a b, r, x, y => cellsX a (cellsP b r) x.1 (cellsX b r x.2 y)

def oneP : Ty → Pat
  | .int k => .int k
  | .bool => .bool
  | .str => .str
  | .list t => .il true t
  | _ => .any
def oneX : (t : Ty) → t.den → (oneP t).den
  | .int _, x => x
  | .bool, x => x
  | .str, x => x
  | .list _, x => x
  | .unit, _ => ()
  | .pair _ _, _ => ()

/-- A parameter: is it a struct; its type. -/
abbrev Par := Bool × Ty
def parP : Par → Pat
  | (true, t) => .agg (cellsP t .nil)
  | (false, t) => oneP t
def parX : (p : Par) → p.2.den → (parP p).den
  | (true, t), x => cellsX t .nil x ()
  | (false, t), x => oneX t x
def argsP : List Par → Pat
  | [] => .nil
  | p :: r => .cons (parP p) (argsP r)
@[reducible] def argsDen : List Par → Type
  | [] => Unit
  | p :: r => p.2.den × argsDen r
def argsX : (l : List Par) → argsDen l → (argsP l).den
  | [], _ => ()
  | p :: r, x => (parX p x.1, argsX r x.2)
def argsWf : (l : List Par) → argsDen l → Prop
  | [], _ => True
  | p :: r, x => p.2.wf x.1 ∧ argsWf r x.2

/-- The parameters' types are these. -/
def parsAre (P : Program) : List Par → List TypeId → Bool
  | [], [] => true
  | p :: ps, t :: ts => tyIs P 12 p.2 t && ((match P.underlying t with | some (.struct _) => p.1 | some (.array _ _) => false | _ => !p.1) && parsAre P ps ts)
  | _, _ => false

section
variable {H : Type} {enc : TypeId × Value → H} {P : Program} {w : World} {F B : Nat → Prop}

theorem rep_cells : ∀ {t : Ty} {r : Pat} {x : t.den} {y : r.den} {cs vs : List Value}, IRep (Old w) w t x cs → Rep F (Old w) w r y vs [] → Rep F (Old w) w (cellsP t r) (cellsX t r x y) (cs ++ vs) []
  | .int k, r, x, y, cs, vs, h, hr => by
    cases h
    exact ⟨_, vs, [], [], rfl, rfl, ⟨rfl, rfl⟩, hr⟩
  | .bool, r, x, y, cs, vs, h, hr => by
    cases h
    exact ⟨_, vs, [], [], rfl, rfl, ⟨rfl, rfl⟩, hr⟩
  | .str, r, x, y, cs, vs, h, hr => by
    cases h
    exact ⟨_, vs, [], [], rfl, rfl, ⟨rfl, rfl⟩, hr⟩
  | .list t, r, x, y, cs, vs, h, hr => by
    have h' : IRep (fun b => F b ∨ (true = true ∧ Old w b)) w (.list t) x cs := h.mono (fun b hb => .inr ⟨rfl, hb⟩) (fun _ _ => rfl)
    obtain ⟨a, n, c, rfl, _⟩ := h
    exact ⟨_, vs, [], [], rfl, rfl, ⟨h', rfl⟩, hr⟩
  | .unit, r, x, y, cs, vs, h, hr => by
    cases h
    exact hr
  | .pair a b, r, x, y, cs, vs, h, hr => by
    obtain ⟨c, d, rfl, h1, h2⟩ := h
    rw [List.append_assoc]
    show Rep F (Old w) w (cellsP a (cellsP b r)) (cellsX a (cellsP b r) x.1 (cellsX b r x.2 y)) _ _
    exact rep_cells h1 (rep_cells h2 hr)

theorem rep_one {t : Ty} {x : t.den} {v : Value} (h : IRep (Old w) w t x [v]) : Rep F (Old w) w (oneP t) (oneX t x) [v] [] := by
  cases t with
  | int k => exact ⟨h, rfl⟩
  | bool => exact ⟨h, rfl⟩
  | str => exact ⟨h, rfl⟩
  | list t =>
    have h' : IRep (fun b => F b ∨ (true = true ∧ Old w b)) w (.list t) x [v] := IRep.mono (t := .list t) (fun b hb => .inr ⟨rfl, hb⟩) (fun _ _ => rfl) h
    exact ⟨h', rfl⟩
  | unit => exact ⟨⟨v, rfl⟩, rfl⟩
  | pair a b => exact ⟨⟨v, rfl⟩, rfl⟩

theorem open_args {base : Nat} {spare : Nat → Bool} {held : Bool} : ∀ {l : List Par} {ts : List TypeId} {vs : List Value} {ds : List (DataW H)} {ps : List MemPlace}, parsAre P l ts = true → DataW.TrodAll enc P w base spare held ts vs ds ps →
    (∀ (j : Nat) t v, ts[j]? = some t → vs[j]? = some v → ∃ r b, Value.okWide P w r b t v) → ∃ x : argsDen l, Rep F (Old w) w (argsP l) (argsX l x) vs [] ∧ argsWf l x
  | [], [], vs, ds, ps, _, h, _ => by
    obtain ⟨rfl, _⟩ := Go.ChangeShapes.trodAll_nil h
    exact ⟨(), ⟨rfl, rfl⟩, trivial⟩
  | p :: l, t :: ts, vs, ds, ps, hp, h, hok => by
    simp only [parsAre, Bool.and_eq_true] at hp
    obtain ⟨h1, h2, h3⟩ := hp
    match vs, ds, h, hok with
    | v :: vs, d :: ds, h, hok =>
      obtain ⟨p1, q1, ⟨fuel, htr⟩, hr, _⟩ := h
      obtain ⟨x, hx, hxw⟩ := open_ty 12 h1 htr
      obtain ⟨y, hy, hyw⟩ := open_args h3 hr (fun j t v ht hv => hok (j + 1) t v (by simpa using ht) (by simpa using hv))
      refine ⟨(x, y), ⟨v, vs, [], [], rfl, rfl, ?_, hy⟩, hxw, hyw⟩
      obtain ⟨r, b, hv⟩ := hok 0 t v rfl rfl
      obtain ⟨ag, ty⟩ := p
      unfold Value.okWide at hv
      cases hu : P.underlying t with
      | none =>
        rw [hu] at h2
        have : ag = false := by simpa using h2
        subst this
        exfalso
        simp [tyIs, hu] at h1
      | some dsc =>
        rw [hu] at h2 hv
        cases dsc with
        | struct fs =>
          have h2 : ag = true := h2
          subst h2
          obtain ⟨cs, rfl, _, _, _, _, hcell⟩ := hv
          refine ⟨cs, rfl, fun v hv => hx.one v hv, ?_⟩
          have := rep_cells (F := F) (r := .nil) (y := ()) hx ⟨rfl, rfl⟩
          rw [List.append_nil] at this
          exact this
        | array n e => cases h2
        | _ =>
          have : ag = false := by simpa using h2
          subst this
          have hvc : v.cells.toList = [v] := by
            have hlen := hx.len
            cases v with
            | agg cs =>
              exfalso
              first | (simp [tyIs, hu] at h1; done) | (simp [Cell.okWide, Cell.ok, hu] at hv; done)
            | _ => rfl
          rw [hvc] at hx
          exact rep_one hx
    | [], [], h, _ => exact False.elim h
    | [], _ :: _, h, _ => exact False.elim h
    | _ :: _, [], h, _ => exact False.elim h
  | [], _ :: _, _, _, _, h, _, _ => by simp [parsAre] at h
  | _ :: _, [], _, _, _, h, _, _ => by simp [parsAre] at h

/-- The call of a law. -/
theorem law_calls {f : Nat} {l : List Par} {G : Nat → (argsP l).den → Option (Bool × (argsP l).out)} {fn : Func} (he : ∀ k, EntryOk P ⟨f, 0, argsP l, .bool, G k⟩) (hf : P.funcs[f]? = some fn) (hb : fn.body.isSome = true) (hnm : (fn.name == "runtime.NumGoroutine") = false)
    (hG : ∀ x : argsDen l, argsWf l x → ∃ k o, G k (argsX l x) = some (true, o)) {ts : List TypeId} (hts : parsAre P l ts = true) {base0 base : Nat} {spare : Nat → Bool} {held : Bool} {args : Array Value} {ds : List (DataW H)} {ps : List MemPlace}
    (hA : DataW.TrodAll enc P w base0 spare held ts args.toList ds ps) (hok : ∀ (j : Nat) t v, ts[j]? = some t → args[j]? = some v → Value.okWide P w .any base t v) : Calls P f args w fun e w' => e = .returned (.bool true) ∧ Go.RowKit.Below w.heap.size w w' := by
  obtain ⟨x, hx, hxw⟩ := open_args (F := fun _ => False) hts hA (fun j t v ht hv => ⟨_, _, hok j t v ht (by simpa using hv)⟩)
  obtain ⟨k, o, hk⟩ := hG x hxw
  obtain ⟨bd, hbd⟩ := Option.isSome_iff_exists.1 hb
  have hrun : (callFunc f args).run P w = .ok (.enter f args) w := by
    simp [callFunc, hf, hbd]
    intro e
    rw [e] at hnm
    simp at hnm
  rcases (he k).run (argsX l x) (true, o) hk w args [] (fun _ => False) (Old w) hx List.nodup_nil (by simp) (by simp) (fun _ h => h) with ⟨g, as, h1, h2⟩ | ⟨v, w', h1, _⟩
  · rw [hrun] at h1
    cases h1
    refine h2.mono fun e w' hh => ?_
    obtain ⟨v, rfl, F', S1, S2, hp⟩ := hh
    have hv : [v] = [.bool true] := hp.rep.1
    cases hv
    exact ⟨rfl, hp.os, hp.tape, hp.output, hp.size, fun b hb => hp.block b hb (by simp)⟩
  · rw [hrun] at h1
    cases h1
end
end Go.Eng
end

section
/-! Engine, glue 3: the table of types, by the kernel. -/
namespace Go.Eng

def offsB (P : Program) (fs : Array Field) : Nat → List (Nat × Nat) → Bool
  | _, [] => true
  | i, (off, ft) :: r => (match fs[i]?, P.info? ft with
    | some fd, some inf => Nat.beq fd.offset off && (Nat.beq fd.type ft && Nat.ble 1 inf.size)
    | _, _ => false) && offsB P fs (i + 1) r
def infosB (P : Program) : List Field → Bool
  | [] => true
  | f :: fs => (P.info? f.type).isSome && infosB P fs

def tiB (P : Program) (t : Nat) (i : TI) : Bool :=
  (match i.w with
    | 0 => true
    | w + 1 => match P.underlying t, P.info? t with
      | some d, some inf => (d.isRow == i.agg) && Nat.beq inf.size (w + 1)
      | _, _ => false) &&
  ((match i.zero with
    | [] => true
    | z :: zs => match P.info? t with
      | some inf => match inf.zero with
        | some v => zeros (z :: zs) v.cells.toList
        | none => false
      | none => false) &&
  ((match i.offs with
    | [] => true
    | o :: os => match P.underlying t with
      | some (.struct fs) => offsB P fs 0 (o :: os) && infosB P fs.toList
      | _ => false) &&
  (match i.kind with
    | .other => true
    | .int k => match P.underlying t with | some (.int k') => decide (k' = k) | _ => false
    | .bool => match P.underlying t with | some .bool => true | _ => false
    | .str => match P.underlying t with | some .string => true | _ => false
    | .slice e ty => match P.underlying t, P.info? e with
      | some (.slice e'), some inf => match inf.zero with
        | some z => Nat.beq e' e && (Nat.beq inf.size ty.w && (Nat.ble 1 ty.w && (Nat.ble inf.bytes 512 && (Nat.beq z.cells.size ty.w &&
            (match ty with | .int .u8 => (match P.underlying e with | some (.int .u8) => true | _ => false) | _ => true)))))
        | none => false
      | _, _ => false
    | .arr e n => match P.underlying t, P.info? e with
      | some (.array n' e'), some inf => Nat.beq n' n && (Nat.beq e' e && Nat.beq inf.size 1)
      | _, _ => false)))

/-- Structs that are compared. -/
def EqOk (P : Program) (t : Nat) (ks : List Ty) : Prop :=
  P.eqGuardType P.depth t = false ∧ ∀ as bs e w, fits ks as = true → fits ks bs = true → cellsEq as bs = some e →
    (Op.equalIn 10000 t (.agg (as.map avVal).toArray) (.agg (bs.map avVal).toArray)).run P w = .ok e w

def tabB (P : Program) : TT → Bool
  | [] => true
  | (t, i) :: r => tiB P t i && tabB P r

section
variable {P : Program}

theorem offsB_ok {fs : Array Field} : ∀ {l : List (Nat × Nat)} {i : Nat}, offsB P fs i l = true → ∀ f off ft, nth? l f = some (off, ft) → ∃ fd inf, fs[i + f]? = some fd ∧ fd.offset = off ∧ fd.type = ft ∧ P.info? ft = some inf ∧ 1 ≤ inf.size
  | [], _, _, f, off, ft, h => by simp [nth?] at h
  | (o, t) :: l, i, h, f, off, ft, hn => by
    simp only [offsB, Bool.and_eq_true] at h
    cases f with
    | zero =>
      simp only [nth?, Option.some.injEq, Prod.mk.injEq] at hn
      obtain ⟨rfl, rfl⟩ := hn
      have h1 := h.1
      split at h1
      · rename_i fd inf e1 e2
        simp only [Bool.and_eq_true, Nat.ble_eq] at h1
        exact ⟨fd, inf, e1, beq_true.1 h1.1, beq_true.1 h1.2.1, e2, h1.2.2⟩
      · cases h1
    | succ f =>
      obtain ⟨fd, inf, a⟩ := offsB_ok h.2 f off ft hn
      rw [show i + 1 + f = i + (f + 1) by omega] at a
      exact ⟨fd, inf, a⟩

theorem infosB_ok : ∀ {fs : List Field}, infosB P fs = true → ∃ places, fs.mapM (fun f => (P.info? f.type).map fun i => (f.offset, i.size)) = some places ∧ ∀ (i : Nat) (f : Field) (inf : TypeInfo), fs[i]? = some f → P.info? f.type = some inf → places[i]? = some (f.offset, inf.size)
  | [], _ => ⟨[], rfl, fun i f inf h => by simp at h⟩
  | f :: fs, h => by
    simp only [infosB, Bool.and_eq_true] at h
    obtain ⟨inf, hi⟩ := Option.isSome_iff_exists.1 h.1
    obtain ⟨places, h1, h2⟩ := infosB_ok h.2
    refine ⟨(f.offset, inf.size) :: places, by simp [List.mapM_cons, hi, h1], fun i f' inf' hf hinf => ?_⟩
    cases i with
    | zero =>
      simp only [List.getElem?_cons_zero, Option.some.injEq] at hf
      subst hf
      rw [hi] at hinf
      cases hinf
      rfl
    | succ i => simpa using h2 i f' inf' (by simpa using hf) hinf

theorem tiB_ok {t : Nat} {i : TI} (h : tiB P t i = true) (he : i.eqk ≠ [] → EqOk P t i.eqk) : TIok P t i := by
  simp only [tiB, Bool.and_eq_true] at h
  obtain ⟨h1, h2, h3, h4⟩ := h
  have hoffs : i.offs ≠ [] → ∃ fs, P.underlying t = some (.struct fs) ∧ offsB P fs 0 i.offs = true ∧ infosB P fs.toList = true := by
    intro hne
    split at h3
    · rename_i e; exact absurd e hne
    · rename_i o os e
      split at h3
      · rename_i fs hu
        simp only [Bool.and_eq_true] at h3
        exact ⟨fs, hu, by rw [e]; exact h3.1, h3.2⟩
      · cases h3
  refine ⟨fun hw => ?_, fun hz => ?_, fun f off ft hn => ?_, fun hne => ?_, fun k hk => ?_, fun hk => ?_, fun hk => ?_, fun hne => he hne, fun e ty hk => ?_, fun e n hk => ?_⟩
  · split at h1
    · rename_i e; exact absurd e hw
    · rename_i w e
      split at h1
      · rename_i d inf e1 e2
        simp only [Bool.and_eq_true, beq_iff_eq] at h1
        exact ⟨d, inf, e1, h1.1, e2, by rw [e]; exact beq_true.1 h1.2⟩
      · cases h1
  · split at h2
    · rename_i e; exact absurd e hz
    · rename_i z zs e
      split at h2
      · rename_i inf e1
        split at h2
        · rename_i v e2
          exact ⟨inf, v, e1, e2, by rw [e]; exact h2⟩
        · cases h2
      · cases h2
  · have hne : i.offs ≠ [] := by intro e; rw [e] at hn; simp [nth?] at hn
    obtain ⟨fs, hu, ho, _⟩ := hoffs hne
    obtain ⟨fd, inf, a1, a2, a3, a4, a5⟩ := offsB_ok ho f off ft hn
    rw [Nat.zero_add] at a1
    exact ⟨fs, fd, hu, a1, a2, a3, inf, a4, by omega⟩
  · obtain ⟨fs, hu, ho, hin⟩ := hoffs hne
    obtain ⟨places, p1, p2⟩ := infosB_ok hin
    refine ⟨fs, places, hu, p1, fun f off ft hn => ?_⟩
    obtain ⟨fd, inf, a1, a2, a3, a4, a5⟩ := offsB_ok ho f off ft hn
    rw [Nat.zero_add] at a1
    refine ⟨inf, a4, ?_⟩
    have := p2 f fd inf (by simpa using a1) (by rw [a3]; exact a4)
    rw [this, a2]
  · rw [hk] at h4
    dsimp only at h4
    split at h4
    · rename_i k' hu
      have : k' = k := by simpa using h4
      rw [hu, this]
    · cases h4
  · rw [hk] at h4
    dsimp only at h4
    split at h4
    · assumption
    · cases h4
  · rw [hk] at h4
    dsimp only at h4
    split at h4
    · assumption
    · cases h4
  · rw [hk] at h4
    dsimp only at h4
    split at h4
    · rename_i e' inf hu hi
      split at h4
      · rename_i z hz
        simp only [Bool.and_eq_true, Nat.ble_eq] at h4
        obtain ⟨a1, a2, a3, a4, a5, a6⟩ := h4
        have a1 := beq_true.1 a1
        subst a1
        refine ⟨hu, inf, z, hi, beq_true.1 a2, a3, a4, hz, beq_true.1 a5, fun ht => ?_⟩
        subst ht
        dsimp only at a6
        split at a6
        · assumption
        · cases a6
      · cases h4
    · cases h4
  · rw [hk] at h4
    dsimp only at h4
    split at h4
    · rename_i n' e' inf hu hi
      simp only [Bool.and_eq_true] at h4
      obtain ⟨a1, a2, a3⟩ := h4
      rw [beq_true.1 a1, beq_true.1 a2] at hu
      exact ⟨hu, inf, hi, beq_true.1 a3⟩
    · cases h4

theorem tok_of : ∀ {T : TT}, tabB P T = true → (∀ p ∈ T, p.2.eqk ≠ [] → EqOk P p.1 p.2.eqk) → TOk P T
  | [], _, _, t => TIok.none P t
  | (t', i) :: T, h, he, t => by
    simp only [tabB, Bool.and_eq_true] at h
    show TIok P t (TT.at ((t', i) :: T) t)
    simp only [TT.at]
    cases hb : Nat.beq t' t with
    | true =>
      have := beq_true.1 hb
      subst this
      exact tiB_ok h.1 (he (t', i) (by simp))
    | false => exact tok_of h.2 (fun p hp => he p (List.mem_cons_of_mem _ hp)) t
end
end Go.Eng
end

section
/-! Engine, glue 4: structs that are compared. -/
namespace Go.Eng

def eqFieldsB (P : Program) : Nat → List Field → List Ty → Bool
  | _, [], [] => true
  | i, f :: fs, k :: ks => (!(f.name == "_")) && (Nat.beq f.offset i && ((match k with
    | .int q => (match P.underlying f.type with | some (.int q') => decide (q' = q) | _ => false)
    | .bool => (match P.underlying f.type with | some .bool => true | _ => false)
    | .str => (match P.underlying f.type with | some .string => true | _ => false)
    | _ => false) && eqFieldsB P (i + 1) fs ks))
  | _, _, _ => false
def eqB (P : Program) (t : Nat) (ks : List Ty) : Bool :=
  match P.underlying t with
  | some (.struct fs) => (!P.stoodInHeld t) && ((!P.eqGuardType P.depth t) && eqFieldsB P 0 fs.toList ks)
  | _ => false

section
variable {P : Program}

theorem run_part {t : TypeId} {d : TypeDesc} {xs : Array Value} {i : Nat} {v : Value} (hu : P.underlying t = some d) (hd : d.isRow = false) (hv : xs[i]? = some v) (w : World) : (part t xs i).run P w = .ok v w := by
  unfold part
  simp [Sem.run_bind, run_isAgg hu, hd, hv]

theorem bytes_ext : ∀ {a b : ByteArray}, a.data = b.data → a = b
  | ⟨_⟩, ⟨_⟩, h => by cases h; rfl

theorem eqFields_ok {n : Nat} {xs ys : Array Value} {w : World} : ∀ {fs : List Field} {ks : List Ty} {as bs : List AV} {i : Nat} {e : Bool}, eqFieldsB P i fs ks = true → fits ks as = true → fits ks bs = true → cellsEq as bs = some e →
    (∀ j, xs[i + j]? = (as.map avVal)[j]?) → (∀ j, ys[i + j]? = (bs.map avVal)[j]?) → (Op.eqFields (n + 1) xs ys fs).run P w = .ok e w
  | [], [], as, bs, i, e, _, ha, hb, he, _, _ => by
    cases as <;> simp [fits] at ha
    cases bs <;> simp [fits] at hb
    simp [cellsEq] at he
    subst he
    rfl
  | f :: fs, k :: ks, as, bs, i, e, h, ha, hb, he, hx, hy => by
    simp only [eqFieldsB, Bool.and_eq_true, Bool.not_eq_true'] at h
    obtain ⟨hn, ho, hk, hr⟩ := h
    have ho := beq_true.1 ho
    match as, bs, ha, hb, he, hx, hy with
    | [], _, ha, _, _, _, _ => simp [fits] at ha
    | _ :: _, [], _, hb, _, _, _ => simp [fits] at hb
    | a :: as, b :: bs, ha, hb, he, hx, hy =>
      simp only [fits, Bool.and_eq_true] at ha hb
      have hce : ∃ x y, avEq a b = some x ∧ cellsEq as bs = some y ∧ e = (x && y) := by
        match as, bs, he, ha, hb with
        | [], [], he, _, _ => simp only [cellsEq] at he; exact ⟨e, true, he, rfl, by simp⟩
        | a' :: as, b' :: bs, he, _, _ =>
          simp only [cellsEq] at he
          cases h1 : avEq a b with
          | none => rw [h1] at he; simp at he
          | some x =>
            cases h2 : cellsEq (a' :: as) (b' :: bs) with
            | none => rw [h1, h2] at he; simp at he
            | some y => rw [h1, h2] at he; simp at he; exact ⟨x, y, rfl, rfl, he.symm⟩
        | [], _ :: _, _, ha, hb => cases ks <;> simp [fits] at ha hb
        | _ :: _, [], _, ha, hb => cases ks <;> simp [fits] at ha hb
      obtain ⟨x, y, h1, h2, rfl⟩ := hce
      have ih : (Op.eqFields (n + 1) xs ys fs).run P w = .ok y w := eqFields_ok hr ha.2 hb.2 h2 (fun j => by rw [show i + 1 + j = i + (j + 1) by omega, hx]; simp) (fun j => by rw [show i + 1 + j = i + (j + 1) by omega, hy]; simp)
      have hxi : xs[f.offset]? = some (avVal a) := by rw [ho]; simpa using hx 0
      have hyi : ys[f.offset]? = some (avVal b) := by rw [ho]; simpa using hy 0
      have step : ∀ {d : TypeDesc}, P.underlying f.type = some d → d.isRow = false → (Op.equalIn (n + 1) f.type (avVal a) (avVal b)).run P w = .ok x w → (Op.eqFields (n + 1) xs ys (f :: fs)).run P w = .ok (x && y) w := by
        intro d hu hd hq
        have hne : f.name ≠ "_" := by simpa using hn
        simp only [Op.eqFields, if_pos hne, Sem.run_bind, run_part hu hd hxi, run_part hu hd hyi, hq, Result.andThen_ok]
        cases x with
        | false => simp
        | true => simpa using ih
      cases k with
      | int q =>
        dsimp only at hk
        split at hk
        · rename_i q' hu
          have : q' = q := by simpa using hk
          subst this
          cases a <;> simp [fit] at ha
          cases b <;> simp [fit] at hb
          obtain ⟨rfl, _⟩ := ha
          obtain ⟨rfl, _⟩ := hb
          simp only [avEq, if_true, Option.some.injEq] at h1
          refine step hu rfl ?_
          rw [← h1]
          rw [show ∀ k n, avVal (.int k n) = .int k n from fun _ _ => rfl, show ∀ k n, avVal (.int k n) = .int k n from fun _ _ => rfl, run_equalIn_int w n f.type _ _ _ _ hu]
          rfl
        · cases hk
      | bool =>
        dsimp only at hk
        split at hk
        · rename_i hu
          cases a <;> simp [fit] at ha
          cases b <;> simp [fit] at hb
          simp only [avEq, Option.some.injEq] at h1
          refine step hu rfl ?_
          rw [← h1]
          exact (run_equalIn_bool' w n f.type _ _ hu).trans (by congr 1)
        · cases hk
      | str =>
        dsimp only at hk
        split at hk
        · rename_i hu
          cases a <;> simp [fit] at ha
          cases b <;> simp [fit] at hb
          simp only [avEq, Option.some.injEq] at h1
          refine step hu rfl ?_
          rw [← h1]
          refine (run_equalIn_string w n f.type _ _ hu).trans ?_
          congr 1
          rw [Bool.eq_iff_iff, beq_iff_eq, decide_eq_true_eq, ByteArray.toList_eq, ByteArray.toList_eq]
          constructor
          · intro hh
            exact bytes_ext (by simpa using hh)
          · intro hh; rw [hh]
        · cases hk
      | _ => cases hk
  | [], _ :: _, _, _, _, _, h, _, _, _, _, _ => by simp [eqFieldsB] at h
  | _ :: _, [], _, _, _, _, h, _, _, _, _, _ => by simp [eqFieldsB] at h

theorem eqB_ok {t : Nat} {ks : List Ty} (h : eqB P t ks = true) : EqOk P t ks := by
  unfold eqB at h
  split at h
  · rename_i fs hu
    simp only [Bool.and_eq_true, Bool.not_eq_true'] at h
    refine ⟨h.2.1, fun as bs e w ha hb he => ?_⟩
    have hf : P.fieldsOf t = fs := by simp [Program.fieldsOf, hu]
    rw [show (10000 : Nat) = 9999 + 1 from rfl, run_equalIn_struct w 9999 t _ _ (by rw [hf]; exact hu) h.1, hf]
    exact eqFields_ok (n := 9998) h.2.2 ha hb he (fun j => by simp) (fun j => by simp)
  · cases h

def tabEqB (P : Program) : TT → Bool
  | [] => true
  | (t, i) :: r => (match i.eqk with | [] => true | k :: ks => eqB P t (k :: ks)) && tabEqB P r

theorem tok_ok {T : TT} (h : tabB P T = true) (he : tabEqB P T = true) : TOk P T := by
  refine tok_of h ?_
  clear h
  induction T with
  | nil => intro p hp; simp at hp
  | cons q T ih =>
    obtain ⟨t, i⟩ := q
    simp only [tabEqB, Bool.and_eq_true] at he
    intro p hp hne
    rcases List.mem_cons.1 hp with rfl | hp
    · have h1 := he.1
      split at h1
      · rename_i e; exact absurd e hne
      · rename_i k ks e
        dsimp only
        rw [e]
        exact eqB_ok h1
    · exact ih he.2 p hp hne
end
end Go.Eng
end

section
/-! Engine, glue 3: a law that only reads its arguments, as the row's end wants it. -/
namespace Go.Eng
open Go.RowKit

theorem below_trodAll {H : Type} {enc : TypeId × Value → H} {P : Program} (hl : laidOutB P = true) {W W' : World} (hb : Below W.heap.size W W') : ∀ {ts : List TypeId} {vs : List Value} {ds : List (DataW H)} {ps : List MemPlace},
    (ts.all fun t => P.readableRec t && Nat.blt t P.types.size) = true → DataW.TrodAll enc P W 0 (fun _ => true) true ts vs ds ps → (∀ x ∈ ps, x.block < W.heap.size) →
    DataW.TrodAll enc P W' 0 (fun b => decide (b < W.heap.size)) true ts vs ds ps
  | [], vs, ds, ps, _, h, _ => by
    obtain ⟨rfl, rfl, rfl⟩ := Go.ChangeShapes.trodAll_nil h
    exact rfl
  | t :: ts, vs, ds, ps, hr, h, hlt => by
    simp only [List.all_cons, Bool.and_eq_true] at hr
    obtain ⟨⟨h1, h2⟩, h3⟩ := hr
    match vs, ds, h with
    | v :: vs, d :: ds, h =>
      obtain ⟨p, q, h4, h5, rfl⟩ := h
      exact ⟨p, q, Below.trod hl h1 (by simpa [Nat.blt_eq] using h2) h4 hb (fun x hx => hlt x (by simp [hx])), below_trodAll hl hb h3 h5 (fun x hx => hlt x (by simp [hx])), rfl⟩
    | [], [], h => exact False.elim h
    | [], _ :: _, h => exact False.elim h
    | _ :: _, [], h => exact False.elim h

theorem trodAll_len {H : Type} {enc : TypeId × Value → H} {P : Program} {W : World} {base : Nat} {sp : Nat → Bool} {held : Bool} : ∀ {ts : List TypeId} {vs : List Value} {ds : List (DataW H)} {ps : List MemPlace},
    DataW.TrodAll enc P W base sp held ts vs ds ps → ds.length = ts.length
  | [], vs, ds, ps, h => by
    obtain ⟨rfl, rfl, rfl⟩ := Go.ChangeShapes.trodAll_nil h
    rfl
  | t :: ts, vs, ds, ps, h => by
    match vs, ds, h with
    | v :: vs, d :: ds, h =>
      obtain ⟨p, q, h4, h5, rfl⟩ := h
      simp [trodAll_len h5]
    | [], [], h => exact False.elim h
    | [], _ :: _, h => exact False.elim h
    | _ :: _, [], h => exact False.elim h

theorem parsAre_len {P : Program} : ∀ {l : List Par} {ts : List TypeId}, parsAre P l ts = true → ts.length = l.length
  | [], [], _ => rfl
  | _ :: _, _ :: _, h => by
    simp only [parsAre, Bool.and_eq_true] at h
    simp [parsAre_len h.2.2]
  | [], _ :: _, h => by simp [parsAre] at h
  | _ :: _, [], h => by simp [parsAre] at h

theorem law_lifted {H : Type} {enc : TypeId × Value → H} {C : Checked} {os : Os} {f : Nat} {fn : Func} {s : ChangeSpec} {conds : List PathCond} {apart : Bool} {l : List Par} {G : Nat → (argsP l).den → Option (Bool × (argsP l).out)} {rb : TypeId}
    (own : ownKnob C.prog.godebug = none) (started : os.Started) (noInit : C.prog.inits.idxOf? f = none) (hfn : C.prog.funcs[f]? = some fn)
    (witness : ∃ (w : World) (tape : Tape) (i : Input), w.os = os ∧ (w.forCall tape i).Shaped C.prog ∧ i.vars = [] ∧ Input.okWide C.prog (w.forCall tape i) .any w.heap.size f i ∧
      s.pre6 enc C.prog fn conds apart (w.forCall tape i).memory i.args ∧ ({} : Assume).holds C.prog (lone (Frame.enter C.prog f i.args .normal) [] (w.forCall tape i)))
    (he : ∀ k, EntryOk C.prog ⟨f, 0, argsP l, .bool, G k⟩) (hb : fn.body.isSome = true) (hnm : (fn.name == "runtime.NumGoroutine") = false)
    (hG : ∀ x : argsDen l, argsWf l x → ∃ k o, G k (argsX l x) = some (true, o))
    (hts : parsAre C.prog l fn.params.toList = true) (hres : fn.resultTypes = #[rb]) (hrb : C.prog.underlying rb = some .bool)
    (hl : laidOutB C.prog = true) (hrd : (fn.params.toList.all fun t => C.prog.readableRec t && Nat.blt t C.prog.types.size) = true)
    (hvars : s.vars = []) (hs : ∀ ds : List (DataW H), ds.length = l.length → s.fn H ds = ⟨[.lit (.bool true)], ds, []⟩) :
    ReturnsInHanded {} C os f .any (s.pre6 enc C.prog fn conds apart) (s.post enc C.prog fn apart true false false) := by
  refine returnsInHanded_of_change_sized own started noInit hfn witness ?_
  intro W base args ds gs before hval hW _ _ _
  have hW' := hW
  obtain ⟨p, q, hA, hV, rfl, _, _⟩ := hW'
  have hlen : ds.length = l.length := (trodAll_len hA).trans (parsAre_len hts)
  rw [hvars] at hV
  have hgs : gs = [] := by
    cases gs with
    | nil => rfl
    | cons g gs => exact False.elim hV
  subst hgs
  refine (law_calls (H := H) (enc := enc) he hfn hb hnm hG hts hA (fun j t v ht hv => hval j t v (by simpa using ht) hv)).mono fun e W' hh => ?_
  obtain ⟨rfl, bel⟩ := hh
  refine ⟨_, rfl, ds, [], _, [], p, [], hW, ?_, ?_, ?_, ?_, fun h => by cases h⟩
  · rw [List.append_nil, hs ds hlen, hres]
    exact Go.ChangeShapes.trodAll_mk1 ⟨1, by simp [DataW.trod, Value.cells, hrb]⟩
  · rw [List.append_nil, hs ds hlen]
    exact below_trodAll hl bel hrd hA (fun x hx => DataW.TrodAll.lt hA x hx)
  · rw [List.append_nil, hs ds hlen, hvars]
    exact rfl
  · exact bel.frame _
end Go.Eng
end

section
/-! Engine: entries out of contracts. -/
namespace Go.Eng
open Go.RowKit
section
variable {P : Program}

/-- A call enters the function. -/
def enterB (fn : Func) : Bool := fn.body.isSome && !(fn.name == "runtime.NumGoroutine")

theorem enter_run {fn : Func} {f : Nat} (hf : P.funcs[f]? = some fn) (hb : enterB fn = true) (args : Array Value) (w : World) : (callFunc f args).run P w = .ok (.enter f args) w := by
  simp only [enterB, Bool.and_eq_true, Bool.not_eq_true', beq_eq_false_iff_ne, ne_eq] at hb
  obtain ⟨code, hcode⟩ := Option.isSome_iff_exists.1 hb.1
  simp [callFunc, hf, hcode, hb.2]

def repF (x : ByteArray × Int × Unit) : Option (ByteArray × Unit × Unit × Unit) :=
  if 0 ≤ x.2.1 ∧ x.2.1 ≤ 9223372036854775807 ∧ x.1.size * x.2.1.toNat ≤ 140737488355328 then some (⟨(Lib.repeatL x.1.data.toList x.2.1.toNat).toArray⟩, (), (), ()) else none

theorem entry_repeat {fn : Func} {f : Nat} (hf : P.funcs[f]? = some fn) (hb : enterB fn = true)
    (h : ∀ (s : ByteArray) (c : Nat) (w : World), c ≤ 9223372036854775807 → s.size * c ≤ 140737488355328 → Calls P f #[.string s, .int .i64 c] w fun e w' => e = .returned (.string ⟨(Lib.repeatL s.data.toList c).toArray⟩) ∧ Below w.heap.size w w') :
    EntryOk P ⟨f, 0, .cons .str (.cons (.int .i64) .nil), .str, repF⟩ := by
  refine ⟨rfl, rfl, fun x r hx w args Sx F B hrep hnd hmine hF hB => .inl ⟨f, args, enter_run hf hb args w, ?_⟩⟩
  obtain ⟨s, n, u⟩ := x
  obtain ⟨v1, vs1, S1, S2, ha, rfl, hs, h2⟩ := hrep
  obtain ⟨v2, vs2, S3, S4, rfl, rfl, hn, h3⟩ := h2
  obtain ⟨rfl, rfl⟩ := h3
  obtain ⟨h4, rfl⟩ := hs
  obtain ⟨h5, rfl⟩ := hn
  simp only [List.cons.injEq, and_true] at h4 h5
  subst h4 h5
  have hargs : args = #[.string s, .int .i64 n] := by
    rw [← Array.toList_inj, ha]
  subst hargs
  have hx' : repF (s, n, u) = some r := hx
  unfold repF at hx'
  split at hx'
  case isFalse => cases hx'
  rename_i hc
  obtain ⟨c0, c1, c2⟩ := hc
  dsimp only at c0 c1 c2
  injection hx' with hx'
  subst hx'
  have key := h s n.toNat w (by omega) c2
  rw [Int.toNat_of_nonneg c0] at key
  refine key.mono ?_
  rintro e w' ⟨rfl, hbel⟩
  refine ⟨_, rfl, F, [], [], ⟨hbel.os, hbel.tape, hbel.output, hbel.size, fun b hb _ => hbel.block b hb, fun b hb => hb, fun b hb => .inl hb, fun b hb => Nat.lt_of_lt_of_le (hF b hb) hbel.size, ⟨rfl, rfl⟩, ?_, List.nodup_nil, by simp⟩⟩
  exact ⟨_, _, [], [], rfl, rfl, rfl, _, _, [], [], rfl, rfl, rfl, rfl⟩
end
end Go.Eng
end
