import Derived.Test.YtmanaalkgemjaaaGreatDoorEngC
import Derived.Deep.Draws
import Derived.Sort.Grow
import Derived.Lib.ItoaNum
import Derived.Lib.LaidTab
import Derived.LaidMore
import Derived.MakeChecks
import Derived.Stop.Joined
import Derived.Shelf.Strings.Split
import Derived.Shelf.Strings.Cut
import Derived.Shelf.Strconv.AtoiAll
import Derived.Shelf.Vars
import Derived.HandedShaped
import Derived.Lay
import Derived.Stop.LaidErr
/- An interpreter of the program's code over plain values is sound: what it answers is what the call answers (part D). Conditions: none beyond each theorem's own. -/
set_option linter.unusedVariables false
section
namespace Go.Eng
def Ty.nmd : Ty → Ty
  | .ols _ _ => .nm | .olq _ t => .list (.list t) | .pair a b => .pair a.nmd b.nmd
  | .int k => .int k | .bool => .bool | .str => .str | .list t => .list t | .unit => .unit | .nm => .nm
def Ty.nf : Ty → Bool
  | .nm => false | .pair a b => a.nf && b.nf | .list t => t.nf | .ols _ t => t.nf | .olq _ _ => false
  | _ => true
def Pat.nf : Pat → Bool
  | .nm => false
  | .il _ t | .own _ _ t | .mut _ _ t => t.nf
  | .ptr _ p | .agg p | .mag p | .tup p | .fn _ p => p.nf
  | .cons a b => a.nf && b.nf
  | _ => true
def Ty.enc : (t : Ty) → t.den → Nat → t.nmd.den
  | .ols _ _, _, n => n
  | .olq _ _, x, _ => x.toList
  | .pair a b, x, n => (a.enc x.1 n, b.enc x.2 (n + a.w))
  | .int _, x, _ => x | .bool, x, _ => x | .str, x, _ => x | .list _, x, _ => x | .unit, x, _ => x | .nm, x, _ => x
def Ty.encs (t : Ty) (xs : List t.den) : List t.nmd.den := xs.mapIdx fun i x => t.enc x (i * t.w + 1)
def Ty.lookN (t : Ty) (xs : List t.den) : Nat → Option OL
  | 0 => none
  | m + 1 => match xs[m / t.w]? with
    | some x => t.getO x (m % t.w)
    | none => none
def decN (lk : Nat → Option OL) (e : Nat) (u : Ty) : Nat → Option (List u.den)
  | 0 => some []
  | m + 1 => match lk (m + 1) with
    | some o => if h : o.e = e ∧ o.u = u then some (h.2 ▸ o.ys) else none
    | none => none
def Ty.dec (lk : Nat → Option OL) : (t : Ty) → t.nmd.den → Option t.den
  | .ols e u, n => decN lk e u n
  | .olq _ _, l => match l with
    | [] => some none
    | x :: _ => some (some x)
  | .pair a b, x => match a.dec lk x.1, b.dec lk x.2 with
    | some y, some z => some (y, z)
    | _, _ => none
  | .int _, x => some x | .bool, x => some x | .str, x => some x | .list _, x => some x | .unit, x => some x | .nm, x => some x
def Ty.decs (lk : Nat → Option OL) (t : Ty) : List t.nmd.den → Option (List t.den)
  | [] => some []
  | y :: ys => match t.dec lk y, Ty.decs lk t ys with
    | some x, some xs => some (x :: xs)
    | _, _ => none
def nmsN : Nat → List Nat
  | 0 => []
  | m + 1 => [m + 1]
def Ty.nms : (t : Ty) → t.nmd.den → List Nat
  | .ols _ _, n => nmsN n
  | .olq _ _, _ => []
  | .pair a b, x => a.nms x.1 ++ b.nms x.2
  | .int _, _ => [] | .bool, _ => [] | .str, _ => [] | .list _, _ => [] | .unit, _ => [] | .nm, _ => []
def treeF (t : Ty) {Y O : Type} (G : List t.nmd.den × Y → Option (List t.nmd.den × O)) (x : List t.den × Y) : Option (List t.den × O) :=
  match G (t.encs x.1, x.2) with
  | none => none
  | some (ys, o) => match t.decs (t.lookN x.1) ys with
    | none => none
    | some zs => if (ys.flatMap t.nms).Nodup then some (zs, o) else none
theorem Ty.nmd_w : ∀ t : Ty, t.nmd.w = t.w
  | .ols _ _ => rfl
  | .olq _ _ => rfl
  | .pair a b => by show a.nmd.w + b.nmd.w = a.w + b.w; rw [nmd_w a, nmd_w b]
  | .int _ => rfl | .bool => rfl | .str => rfl | .list _ => rfl | .unit => rfl | .nm => rfl
theorem Ty.nmd_hasO : ∀ t : Ty, t.nmd.hasO = false
  | .ols _ _ => rfl
  | .olq _ _ => rfl
  | .pair a b => by show (a.nmd.hasO || b.nmd.hasO) = false; rw [nmd_hasO a, nmd_hasO b]; rfl
  | .int _ => rfl | .bool => rfl | .str => rfl | .list _ => rfl | .unit => rfl | .nm => rfl
theorem IRep.nf {N N' : Names} {F : Nat → Prop} {w : World} : ∀ {t : Ty} {x : t.den} {cs : List Value}, t.nf = true → @IRep N F w t x cs → @IRep N' F w t x cs
  | .int _, _, _, _, h => h
  | .bool, _, _, _, h => h
  | .str, _, _, _, h => h
  | .unit, _, _, _, h => h
  | .nm, _, _, hn, _ => by cases hn
  | .ols _ _, _, _, _, h => h.elim
  | .olq _ _, _, _, _, h => h.elim
  | .list t, xs, _, hn, h => by
    obtain ⟨a, n, c, rfl, h1, h2, h3⟩ := h
    refine ⟨a, n, c, rfl, h1, h2, fun h0 => ?_⟩
    obtain ⟨b, o, rfl, hb, hlt, hr⟩ := h3 h0
    refine ⟨b, o, rfl, hb, hlt, fun i hi => ?_⟩
    obtain ⟨rs, k1, k2, k3⟩ := hr i hi
    exact ⟨rs, k1, k2, IRep.nf (t := t) hn k3⟩
  | .pair a b, x, _, hn, h => by
    simp only [Ty.nf, Bool.and_eq_true] at hn
    obtain ⟨c, d, rfl, h1, h2⟩ := h
    exact ⟨c, d, rfl, IRep.nf hn.1 h1, IRep.nf hn.2 h2⟩
theorem TRep.nf {N N' : Names} {F : Nat → Prop} {w : World} : ∀ {t : Ty} {x : t.den} {cs : List Value} {S : List Nat}, t.nf = true → @TRep N F w t x cs S → @TRep N' F w t x cs S
  | .int _, _, _, _, _, h => h
  | .bool, _, _, _, _, h => h
  | .str, _, _, _, _, h => h
  | .unit, _, _, _, _, h => h
  | .nm, _, _, _, hn, _ => by cases hn
  | .list t, xs, _, _, hn, h => ⟨IRep.nf (t := .list t) hn h.1, h.2⟩
  | .olq _ _, _, _, _, hn, _ => by cases hn
  | .ols e t, xs, _, _, hn, h => by
    obtain ⟨l, rfl, rfl, h⟩ := h
    exact ⟨l, rfl, rfl, h.mono (fun _ _ => rfl) fun x rs S _ k => TRep.nf (t := t) hn k⟩
  | .pair a b, x, _, _, hn, h => by
    simp only [Ty.nf, Bool.and_eq_true] at hn
    obtain ⟨c, d, S1, S2, rfl, rfl, h1, h2⟩ := h
    exact ⟨c, d, S1, S2, rfl, rfl, TRep.nf hn.1 h1, TRep.nf hn.2 h2⟩
theorem LstOk.nf {N N' : Names} {F : Nat → Prop} {w : World} {l : LV} {z : Bool} {e : Nat} {t : Ty} {xs : List t.den} (hn : t.nf = true) (h : @LstOk N F w l z e t xs) : @LstOk N' F w l z e t xs :=
  LstW.mono h (fun _ _ => rfl) fun _ _ _ _ k => TRep.nf hn k
theorem Rep.nf {N N' : Names} {F B : Nat → Prop} {w : World} : ∀ {p : Pat} {x : p.den} {vs : List Value} {Sx : List Nat}, p.nf = true → @Rep N F B w p x vs Sx → @Rep N' F B w p x vs Sx
  | .any, _, _, _, _, h => h
  | .int _, _, _, _, _, h => h
  | .bool, _, _, _, _, h => h
  | .str, _, _, _, _, h => h
  | .nils, _, _, _, _, h => h
  | .nm, _, _, _, hn, _ => by cases hn
  | .il b t, xs, _, _, hn, h => ⟨IRep.nf (t := .list t) hn h.1, h.2⟩
  | .own z e t, xs, _, _, hn, h => by
    obtain ⟨l, rfl, rfl, h⟩ := h
    exact ⟨l, rfl, rfl, h.nf hn⟩
  | .mut z e t, xs, _, _, hn, h => by
    obtain ⟨l, rfl, rfl, h⟩ := h
    exact ⟨l, rfl, rfl, h.nf hn⟩
  | .ptr po p, x, _, _, hn, h => by
    obtain ⟨b, cs, e, fr, S', rfl, rfl, h1, h2, h3, h4⟩ := h
    exact ⟨b, cs, e, fr, S', rfl, rfl, h1, h2, h3, Rep.nf (p := p) hn h4⟩
  | .agg p, x, _, _, hn, h => by
    obtain ⟨cs, rfl, h3, h4⟩ := h
    exact ⟨cs, rfl, h3, Rep.nf (p := p) hn h4⟩
  | .mag p, x, _, _, hn, h => by
    obtain ⟨cs, rfl, h3, h4⟩ := h
    exact ⟨cs, rfl, h3, Rep.nf (p := p) hn h4⟩
  | .tup p, x, _, _, hn, h => by
    obtain ⟨cs, rfl, h4⟩ := h
    exact ⟨cs, rfl, Rep.nf (p := p) hn h4⟩
  | .fn f p, x, _, _, hn, h => by
    obtain ⟨cs, rfl, h3, h4⟩ := h
    exact ⟨cs, rfl, h3, Rep.nf (p := p) hn h4⟩
  | .nil, _, _, _, _, h => h
  | .cons a b, x, _, _, hn, h => by
    simp only [Pat.nf, Bool.and_eq_true] at hn
    obtain ⟨v, vs', S1, S2, rfl, rfl, h1, h2⟩ := h
    exact ⟨v, vs', S1, S2, rfl, rfl, Rep.nf hn.1 h1, Rep.nf hn.2 h2⟩
theorem RepOut.nf {N N' : Names} {F B : Nat → Prop} {w : World} : ∀ {p : Pat} {x : p.out} {vs : List Value} {Sx : List Nat}, p.nf = true → @RepOut N F B w p x vs Sx → @RepOut N' F B w p x vs Sx
  | .any, _, _, _, _, h => h
  | .int _, _, _, _, _, h => h
  | .bool, _, _, _, _, h => h
  | .str, _, _, _, _, h => h
  | .nils, _, _, _, _, h => h
  | .nm, _, _, _, hn, _ => by cases hn
  | .il b t, xs, _, _, _, h => h
  | .own z e t, xs, _, _, _, h => h
  | .mut z e t, xs, _, _, hn, h => by
    obtain ⟨l, rfl, rfl, h⟩ := h
    exact ⟨l, rfl, rfl, h.nf hn⟩
  | .ptr po p, x, _, _, hn, h => Rep.nf (p := .ptr po p) hn h
  | .agg p, x, _, _, _, h => h
  | .tup p, x, _, _, _, h => h
  | .fn f p, x, _, _, hn, h => by
    obtain ⟨cs, rfl, h4⟩ := h
    exact ⟨cs, rfl, RepOut.nf (p := p) hn h4⟩
  | .mag p, x, _, _, hn, h => by
    obtain ⟨cs, rfl, h4⟩ := h
    exact ⟨cs, rfl, RepOut.nf (p := p) hn h4⟩
  | .nil, _, _, _, _, h => h
  | .cons a b, x, _, _, hn, h => by
    simp only [Pat.nf, Bool.and_eq_true] at hn
    obtain ⟨v, vs', S1, S2, rfl, rfl, h1, h2⟩ := h
    exact ⟨v, vs', S1, S2, rfl, rfl, RepOut.nf hn.1 h1, RepOut.nf hn.2 h2⟩
theorem TRep.enc {N N' : Names} {F : Nat → Prop} {w : World} : ∀ {t : Ty} {x : t.den} {cs : List Value} {S : List Nat} (n : Nat), t.nf = true → @TRep N F w t x cs S → (∀ j v, cs[j]? = some v → N'.nu (n + j) = v) → @TRep N' F w t.nmd (t.enc x n) cs []
  | .int _, _, _, _, _, _, h, _ => ⟨h.1, rfl⟩
  | .bool, _, _, _, _, _, h, _ => ⟨h.1, rfl⟩
  | .str, _, _, _, _, _, h, _ => ⟨h.1, rfl⟩
  | .unit, _, _, _, _, _, h, _ => ⟨h.1, rfl⟩
  | .nm, _, _, _, _, hn, _, _ => by cases hn
  | .list t, xs, _, _, _, hn, h, _ => ⟨IRep.nf (t := .list t) hn h.1, rfl⟩
  | .olq _ _, _, _, _, _, hn, _, _ => by cases hn
  | .ols e t, xs, _, _, n, hn, h, hc => by
    obtain ⟨l, rfl, rfl, h⟩ := h
    refine ⟨?_, rfl⟩
    show [hdr l xs.length] = [N'.nu n]
    rw [← hc 0 _ rfl, Nat.add_zero]
  | .pair a b, x, _, _, n, hn, h, hc => by
    simp only [Ty.nf, Bool.and_eq_true] at hn
    obtain ⟨c, d, S1, S2, rfl, rfl, h1, h2⟩ := h
    have hl := @TRep.len N _ _ _ _ _ _ h1
    refine ⟨c, d, [], [], rfl, rfl, TRep.enc n hn.1 h1 fun j v hj => hc j v ?_, TRep.enc (n + a.w) hn.2 h2 fun j v hj => ?_⟩
    · rw [List.getElem?_append_left (List.getElem?_eq_some_iff.1 hj).1, hj]
    · rw [Nat.add_assoc]
      refine hc (a.w + j) v ?_
      rw [List.getElem?_append_right (by omega), hl, Nat.add_sub_cancel_left]
      exact hj
theorem TRep.parts [Names] {F : Nat → Prop} {w : World} : ∀ {t : Ty} {x : t.den} {cs : List Value} {S : List Nat}, TRep F w t x cs S → S.Nodup → ∃ f : Nat → List Nat,
    (∀ off o, t.getO x off = some o → ∃ v, cs[off]? = some v ∧ TRep F w (.ols o.e o.u) o.ys [v] (f off)) ∧ (∀ off, (f off).Nodup ∧ ∀ b ∈ f off, b ∈ S) ∧ ∀ m n, m ≠ n → ∀ b ∈ f m, b ∉ f n
  | .int _, _, _, _, _, _ => ⟨fun _ => [], fun off o h => by simp [Ty.getO] at h, by simp, by simp⟩
  | .bool, _, _, _, _, _ => ⟨fun _ => [], fun off o h => by simp [Ty.getO] at h, by simp, by simp⟩
  | .str, _, _, _, _, _ => ⟨fun _ => [], fun off o h => by simp [Ty.getO] at h, by simp, by simp⟩
  | .unit, _, _, _, _, _ => ⟨fun _ => [], fun off o h => by simp [Ty.getO] at h, by simp, by simp⟩
  | .nm, _, _, _, _, _ => ⟨fun _ => [], fun off o h => by simp [Ty.getO] at h, by simp, by simp⟩
  | .list _, _, _, _, _, _ => ⟨fun _ => [], fun off o h => by simp [Ty.getO] at h, by simp, by simp⟩
  | .olq _ _, _, _, _, _, _ => ⟨fun _ => [], fun off o h => by simp [Ty.getO] at h, by simp, by simp⟩
  | .ols e t, xs, cs, S, h, hnd => by
    refine ⟨fun off => if off = 0 then S else [], fun off o ho => ?_, fun off => ?_, fun m n hmn b hb => ?_⟩
    · cases off with
      | zero =>
        simp only [Ty.getO, Option.some.injEq] at ho
        subst ho
        obtain ⟨l, rfl, rfl, h⟩ := h
        exact ⟨_, rfl, l, rfl, rfl, h⟩
      | succ off => simp [Ty.getO] at ho
    · dsimp only
      split
      · exact ⟨hnd, fun b hb => hb⟩
      · simp
    · dsimp only at hb ⊢
      split at hb
      · rename_i e0
        subst e0
        rw [if_neg (Ne.symm hmn)]
        simp
      · cases hb
  | .pair a b, x, _, _, h, hnd => by
    obtain ⟨c, d, S1, S2, rfl, rfl, h1, h2⟩ := h
    obtain ⟨n1, n2, n3⟩ := List.nodup_append.1 hnd
    obtain ⟨f, f1, f2, f3⟩ := TRep.parts h1 n1
    obtain ⟨g, g1, g2, g3⟩ := TRep.parts h2 n2
    have hl := h1.len
    refine ⟨fun off => if off < a.w then f off else g (off - a.w), fun off o ho => ?_, fun off => ?_, fun m n hmn b hb => ?_⟩
    · simp only [Ty.getO] at ho
      split at ho
      · rename_i hlt
        obtain ⟨v, hv, k⟩ := f1 off o ho
        exact ⟨v, by rw [List.getElem?_append_left (by omega), hv], by dsimp only; rw [if_pos hlt]; exact k⟩
      · rename_i hlt
        obtain ⟨v, hv, k⟩ := g1 _ o ho
        exact ⟨v, by rw [List.getElem?_append_right (by omega), hl, hv], by dsimp only; rw [if_neg hlt]; exact k⟩
    · dsimp only
      split
      · exact ⟨(f2 off).1, fun b hb => List.mem_append.2 (.inl ((f2 off).2 b hb))⟩
      · exact ⟨(g2 _).1, fun b hb => List.mem_append.2 (.inr ((g2 _).2 b hb))⟩
    · dsimp only at hb ⊢
      split at hb
      · split
        · exact f3 m n hmn b hb
        · exact fun hb' => n3 b ((f2 m).2 b hb) b ((g2 _).2 b hb') rfl
      · split
        · exact fun hb' => n3 b ((f2 n).2 b hb') b ((g2 _).2 b hb) rfl
        · exact g3 _ _ (by omega) b hb
theorem TRep.dec {N N' : Names} {F' : Nat → Prop} {w' : World} {lk : Nat → Option OL} {fS : Nat → List Nat} (h0 : N'.nu 0 = .slice none 0 0) (hlk : ∀ n o, lk n = some o → @TRep N F' w' (.ols o.e o.u) o.ys [N'.nu n] (fS n)) :
    ∀ {t : Ty} {y : t.nmd.den} {x : t.den} {cs : List Value} {S : List Nat}, t.nf = true → @TRep N' F' w' t.nmd y cs S → t.dec lk y = some x → @TRep N F' w' t x cs ((t.nms y).flatMap fS)
  | .int _, _, _, _, _, _, h, hd => by cases hd; exact ⟨h.1, rfl⟩
  | .bool, _, _, _, _, _, h, hd => by cases hd; exact ⟨h.1, rfl⟩
  | .str, _, _, _, _, _, h, hd => by cases hd; exact ⟨h.1, rfl⟩
  | .unit, _, _, _, _, _, h, hd => by cases hd; exact ⟨h.1, rfl⟩
  | .nm, _, _, _, _, hn, _, _ => by cases hn
  | .list t, xs, _, _, _, hn, h, hd => by cases hd; exact ⟨IRep.nf (t := .list t) hn h.1, rfl⟩
  | .olq _ _, _, _, _, _, hn, _, _ => by cases hn
  | .ols e u, n, x, cs, S, hn, h, hd => by
    have hc : cs = [N'.nu n] := h.1
    subst hc
    cases n with
    | zero =>
      simp only [Ty.dec, decN, Option.some.injEq] at hd
      subst hd
      exact ⟨LV.nil, by rw [h0]; rfl, rfl, ⟨rfl, rfl, rfl⟩⟩
    | succ m =>
      simp only [Ty.dec, decN] at hd
      split at hd
      case h_2 => cases hd
      rename_i o ho
      split at hd
      case isFalse => cases hd
      rename_i he
      obtain ⟨e', u', ys⟩ := o
      obtain ⟨h1, h2⟩ := he
      dsimp only at h1 h2
      subst h1 h2
      simp only [Option.some.injEq] at hd
      subst hd
      have := hlk _ _ ho
      simpa [Ty.nms, nmsN] using this
  | .pair a b, y, x, _, _, hn, h, hd => by
    simp only [Ty.nf, Bool.and_eq_true] at hn
    obtain ⟨c, d, S1, S2, rfl, rfl, h1, h2⟩ := h
    simp only [Ty.dec] at hd
    split at hd
    case h_2 => cases hd
    rename_i y1 z1 e1 e2
    simp only [Option.some.injEq] at hd
    subst hd
    refine ⟨c, d, _, _, rfl, ?_, TRep.dec h0 hlk hn.1 h1 e1, TRep.dec h0 hlk hn.2 h2 e2⟩
    simp [Ty.nms]
theorem decs_get {lk : Nat → Option OL} {t : Ty} : ∀ {ys : List t.nmd.den} {zs : List t.den}, t.decs lk ys = some zs → zs.length = ys.length ∧ ∀ (i : Nat) y z, ys[i]? = some y → zs[i]? = some z → t.dec lk y = some z
  | [], zs, h => by
    simp only [Ty.decs, Option.some.injEq] at h
    subst h
    simp
  | y :: ys, zs, h => by
    simp only [Ty.decs] at h
    split at h
    case h_2 => cases h
    rename_i x xs e1 e2
    simp only [Option.some.injEq] at h
    subst h
    obtain ⟨k1, k2⟩ := decs_get e2
    refine ⟨by simp [k1], fun i y' z' hy hz => ?_⟩
    cases i with
    | zero =>
      simp only [List.getElem?_cons_zero, Option.some.injEq] at hy hz
      subst hy hz
      exact e1
    | succ i => exact k2 i y' z' (by simpa using hy) (by simpa using hz)
end Go.Eng
end

section
namespace Go.Eng
theorem encs_len (t : Ty) (xs : List t.den) : (t.encs xs).length = xs.length := by simp [Ty.encs]
theorem encs_get {t : Ty} {xs : List t.den} {i : Nat} {y : t.nmd.den} (h : (t.encs xs)[i]? = some y) : ∃ x, xs[i]? = some x ∧ y = t.enc x (i * t.w + 1) := by
  unfold Ty.encs at h
  rw [List.getElem?_mapIdx] at h
  cases hx : xs[i]? with
  | none => rw [hx] at h; cases h
  | some x => rw [hx] at h; injection h with h; exact ⟨x, rfl, h.symm⟩
theorem names_of [N : Names] {F : Nat → Prop} {w : World} {l : LV} {z : Bool} {e : Nat} {t : Ty} {xs : List t.den} (hn : t.nf = true) (h : LstOk F w l z e t xs) :
    ∃ (N' : Names) (fS : Nat → List Nat), (N'.gb = N.gb ∧ N'.gen = N.gen) ∧ @LstOk N' F w ⟨l.blk, l.off, l.cap, []⟩ z e t.nmd (t.encs xs) ∧ N'.nu 0 = .slice none 0 0 ∧
      (∀ n o, t.lookN xs n = some o → @TRep N F w (.ols o.e o.u) o.ys [N'.nu n] (fS n)) ∧ (∀ n, (fS n).Nodup ∧ ∀ b ∈ fS n, b ∈ l.sub) ∧ ∀ m n, m ≠ n → ∀ b ∈ fS m, b ∉ fS n := by
  unfold LstOk LstW at h
  cases hb : l.blk with
  | none =>
    rw [hb] at h
    obtain ⟨rfl, hc, hs⟩ := h
    refine ⟨⟨fun _ => .slice none 0 0, fun _ => rfl, rfl, N.gb, N.gen, N.keep⟩, fun _ => [], ⟨rfl, rfl⟩, ⟨rfl, hc, rfl⟩, rfl, fun n o ho => ?_, by simp, by simp⟩
    cases n <;> simp [Ty.lookN] at ho
  | some b =>
    rw [hb] at h
    obtain ⟨vs, fr, Ss, hh, hzf, hth, hnc, hcm, hvs, hsub, hnd, hlenS, hrows⟩ := h
    have hndS : Ss.flatten.Nodup := by rw [← hsub]; exact (List.nodup_cons.1 hnd).2
    obtain ⟨hn1, hn2⟩ := List.pairwise_flatten.1 hndS
    let c := vs.toList.drop l.off
    let nu : Nat → Value := fun n => match n with
      | 0 => .slice none 0 0
      | m + 1 => match c[m]? with
        | some v => if v.oneCell' = true then v else .slice none 0 0
        | none => .slice none 0 0
    have hnu1 : ∀ n, (nu n).oneCell' = true := by
      intro n
      cases n with
      | zero => rfl
      | succ m =>
        show (match c[m]? with | some v => if v.oneCell' = true then v else .slice none 0 0 | none => .slice none 0 0 : Value).oneCell' = true
        cases c[m]? with
        | none => rfl
        | some v =>
          dsimp only
          split
          · assumption
          · rfl
    have hrow : ∀ i : Nat, ∃ f : Nat → List Nat, ∀ x S, xs[i]? = some x → Ss[i]? = some S → ((∀ off o, t.getO x off = some o → TRep F w (.ols o.e o.u) o.ys [nu (i * t.w + 1 + off)] (f off)) ∧ (∀ off, (f off).Nodup ∧ ∀ b ∈ f off, b ∈ S) ∧ ∀ m n, m ≠ n → ∀ b ∈ f m, b ∉ f n) := by
      intro i
      cases hx : xs[i]? with
      | none => exact ⟨fun _ => [], fun x S h => by cases h⟩
      | some x =>
        cases hS : Ss[i]? with
        | none => exact ⟨fun _ => [], fun x S _ h => by cases h⟩
        | some S =>
          obtain ⟨rs, p1, p2, p3⟩ := hrows i x S hx hS
          obtain ⟨f, f1, f2, f3⟩ := TRep.parts p3 (hn1 S (List.mem_of_getElem? hS))
          refine ⟨f, fun x' S' h1 h2 => ?_⟩
          injection h1 with h1
          injection h2 with h2
          subst h1 h2
          refine ⟨fun off o ho => ?_, f2, f3⟩
          obtain ⟨v, hv, k⟩ := f1 off o ho
          have hlt : off < t.w := by rw [← p1]; exact (List.getElem?_eq_some_iff.1 hv).1
          have hcell : c[i * t.w + off]? = some v := by rw [← hv]; exact p2 off hlt
          have hone : v.oneCell' = true := p3.one v (List.mem_of_getElem? hv)
          have : nu (i * t.w + 1 + off) = v := by
            rw [show i * t.w + 1 + off = (i * t.w + off) + 1 by omega]
            show (match c[i * t.w + off]? with | some v => if v.oneCell' = true then v else .slice none 0 0 | none => .slice none 0 0 : Value) = v
            rw [hcell]
            simp [hone]
          rw [this]
          exact k
    let fr' : Nat → Nat → List Nat := fun i => Classical.choose (hrow i)
    have hfr : ∀ i x S, xs[i]? = some x → Ss[i]? = some S → _ := fun i => Classical.choose_spec (hrow i)
    let fS : Nat → List Nat := fun n => match n with
      | 0 => []
      | m + 1 => if m / t.w < xs.length then fr' (m / t.w) (m % t.w) else []
    have hrowS : ∀ i, i < xs.length → ∃ x S, xs[i]? = some x ∧ Ss[i]? = some S := fun i hi => ⟨xs[i], Ss[i]'(by omega), List.getElem?_eq_getElem hi, List.getElem?_eq_getElem (by omega)⟩
    have hin : ∀ n, ∀ b ∈ fS n, ∃ m S, n = m + 1 ∧ Ss[m / t.w]? = some S ∧ b ∈ S ∧ b ∈ fr' (m / t.w) (m % t.w) := by
      intro n b hbm
      cases n with
      | zero => cases hbm
      | succ m =>
        have hbm : b ∈ (if m / t.w < xs.length then fr' (m / t.w) (m % t.w) else []) := hbm
        split at hbm
        · rename_i hi
          obtain ⟨x, S, hx, hS⟩ := hrowS _ hi
          exact ⟨m, S, rfl, hS, ((hfr _ x S hx hS).2.1 _).2 b hbm, hbm⟩
        · cases hbm
    refine ⟨⟨nu, hnu1, rfl, N.gb, N.gen, N.keep⟩, fS, ⟨rfl, rfl⟩, ?_, rfl, ?_, ?_, ?_⟩
    · show ∃ vs fr Ss, _
      refine ⟨vs, fr, (t.encs xs).map fun _ => [], hh, hzf, hth, by rw [encs_len]; exact hnc, hcm, by rw [Ty.nmd_w]; exact hvs, (nils_flatten _).symm, by simp, by simp, fun i y S hy hS => ?_⟩
      obtain ⟨x, hx, rfl⟩ := encs_get hy
      have hS0 : S = [] := by
        rw [List.getElem?_map, hy] at hS
        simpa using hS.symm
      subst hS0
      obtain ⟨x', S', hx', hS'⟩ := hrowS i (List.getElem?_eq_some_iff.1 hx).1
      rw [hx] at hx'
      injection hx' with hx'
      subst hx'
      obtain ⟨rs, p1, p2, p3⟩ := hrows i x S' hx hS'
      refine ⟨rs, by rw [p1, Ty.nmd_w], fun j hj => by rw [Ty.nmd_w] at hj ⊢; exact p2 j hj, TRep.enc _ hn p3 fun j v hj => ?_⟩
      have hlt : j < t.w := by rw [← p1]; exact (List.getElem?_eq_some_iff.1 hj).1
      have hcell : c[i * t.w + j]? = some v := by rw [← hj]; exact p2 j hlt
      have hone : v.oneCell' = true := p3.one v (List.mem_of_getElem? hj)
      rw [show i * t.w + 1 + j = (i * t.w + j) + 1 by omega]
      show (match c[i * t.w + j]? with | some v => if v.oneCell' = true then v else .slice none 0 0 | none => .slice none 0 0 : Value) = v
      rw [hcell]
      simp [hone]
    · intro n o ho
      cases n with
      | zero => cases ho
      | succ m =>
        simp only [Ty.lookN] at ho
        split at ho
        case h_2 => cases ho
        rename_i x hx
        obtain ⟨x', S', hx', hS'⟩ := hrowS _ (List.getElem?_eq_some_iff.1 hx).1
        rw [hx] at hx'
        injection hx' with hx'
        subst hx'
        have k := (hfr _ x S' hx hS').1 _ o ho
        have e1 : m / t.w * t.w + 1 + m % t.w = m + 1 := by have := Nat.div_add_mod m t.w; rw [Nat.mul_comm] at this; omega
        rw [e1] at k
        show TRep F w (.ols o.e o.u) o.ys [nu (m + 1)] (if m / t.w < xs.length then fr' (m / t.w) (m % t.w) else [])
        rw [if_pos (List.getElem?_eq_some_iff.1 hx).1]
        exact k
    · intro n
      refine ⟨?_, fun b hbm => ?_⟩
      · cases n with
        | zero => exact List.nodup_nil
        | succ m =>
          show (if m / t.w < xs.length then fr' (m / t.w) (m % t.w) else []).Nodup
          split
          · rename_i hi
            obtain ⟨x, S, hx, hS⟩ := hrowS _ hi
            exact ((hfr _ x S hx hS).2.1 _).1
          · exact List.nodup_nil
      · obtain ⟨m, S, _, hS, hbS, _⟩ := hin n b hbm
        rw [hsub]
        exact List.mem_flatten.2 ⟨S, List.mem_of_getElem? hS, hbS⟩
    · intro m n hmn b hb1 hb2
      obtain ⟨m', S1, rfl, hS1, hbS1, hf1⟩ := hin m b hb1
      obtain ⟨n', S2, rfl, hS2, hbS2, hf2⟩ := hin n b hb2
      by_cases he : m' / t.w = n' / t.w
      · have hi := (List.getElem?_eq_some_iff.1 hS1).1
        obtain ⟨x, S, hx, hS⟩ := hrowS (m' / t.w) (by omega)
        rw [← he] at hf2
        refine (hfr _ x S hx hS).2.2 (m' % t.w) (n' % t.w) (fun hmod => hmn ?_) b hf1 hf2
        have d1 := Nat.div_add_mod m' t.w
        have d2 := Nat.div_add_mod n' t.w
        rw [he, hmod] at d1
        omega
      · have hp := List.pairwise_iff_getElem.1 hn2
        obtain ⟨i1, g1⟩ := List.getElem?_eq_some_iff.1 hS1
        obtain ⟨i2, g2⟩ := List.getElem?_eq_some_iff.1 hS2
        rcases Nat.lt_or_gt_of_ne he with hlt | hlt
        · exact hp _ _ i1 i2 hlt b (by rw [g1]; exact hbS1) b (by rw [g2]; exact hbS2) rfl
        · exact hp _ _ i2 i1 hlt b (by rw [g2]; exact hbS2) b (by rw [g1]; exact hbS1) rfl
theorem flatMap_nodup {f : Nat → List Nat} (h1 : ∀ n, (f n).Nodup) (h2 : ∀ m n, m ≠ n → ∀ b ∈ f m, b ∉ f n) : ∀ {l : List Nat}, l.Nodup → (l.flatMap f).Nodup
  | [], _ => List.nodup_nil
  | n :: l, h => by
    obtain ⟨k1, k2⟩ := List.nodup_cons.1 h
    rw [List.flatMap_cons]
    refine List.nodup_append.2 ⟨h1 n, flatMap_nodup h1 h2 k2, fun a ha b hb e => ?_⟩
    subst e
    obtain ⟨m, hm, hb⟩ := List.mem_flatMap.1 hb
    exact h2 n m (fun e => k1 (e ▸ hm)) a ha hb
theorem names_entry {P : Program} {f key : Nat} {z z2 : Bool} {e e2 : Nat} {t : Ty} {rest : Pat} {G : List t.nmd.den × rest.den → Option (List t.nmd.den × (Unit × rest.out))} (hn : t.nf = true) (hr : rest.nf = true)
    (h : ∀ N : Names, @EntryOk N P ⟨f, key, .cons (.own z e t.nmd) rest, .own z2 e2 t.nmd, G⟩) (N : Names) : @EntryOk N P ⟨f, key, .cons (.own z e t) rest, .own z2 e2 t, treeF t G⟩ := by
  refine ⟨(h N).okp, (h N).okr, fun x r hx w args Sx F B hrep hnd hmine hF hB hgb hge => ?_⟩
  obtain ⟨xs, y⟩ := x
  obtain ⟨v, vs', S1, S2, hargs, rfl, ⟨l, hv, rfl, hl⟩, hrest⟩ := hrep
  have hx' : treeF t G (xs, y) = some r := hx
  unfold treeF at hx'
  split at hx'
  case h_1 => cases hx'
  rename_i ys o hG
  split at hx'
  case h_1 => cases hx'
  rename_i zs hds
  split at hx'
  case isFalse => cases hx'
  rename_i hndN
  injection hx' with hx'
  subst hx'
  have hl' : LstOk F w l z e t xs := hl
  obtain ⟨N', fS, ⟨ng1, ng2⟩, g1, g2, g3, g4, g5⟩ := names_of hn hl'
  have hall : l.all = l.blk.toList ++ l.sub := rfl
  rw [hall] at hnd hmine
  obtain ⟨d1, d2, d3⟩ := List.nodup_append.1 hnd
  obtain ⟨d4, d5, d6⟩ := List.nodup_append.1 d1
  have hsubS : ∀ b ∈ l.blk.toList ++ [] ++ S2, b ∈ l.all ++ S2 := fun b hb => by
    rw [List.append_nil] at hb
    rw [hall]
    rcases List.mem_append.1 hb with hb | hb
    · exact List.mem_append.2 (.inl (List.mem_append.2 (.inl hb)))
    · exact List.mem_append.2 (.inr hb)
  have hout : ∀ b ∈ l.sub, b ∉ l.blk.toList ++ [] ++ S2 := fun b hb hb' => by
    rw [List.append_nil] at hb'
    rcases List.mem_append.1 hb' with hb' | hb'
    · exact d6 b hb' b hb rfl
    · exact d3 b (List.mem_append.2 (.inr hb)) b hb' rfl
  have hsubm : ∀ b ∈ l.sub, ¬ F b ∧ ¬ B b ∧ b < w.heap.size := fun b hb => hmine b (List.mem_append.2 (.inl (List.mem_append.2 (.inr hb))))
  have key' := (h N').run (t.encs xs, y) (ys, o) hG w args (l.blk.toList ++ [] ++ S2) F B
    ⟨v, vs', _, S2, hargs, rfl, ⟨⟨l.blk, l.off, l.cap, []⟩, by rw [encs_len]; exact hv, rfl, g1⟩, Rep.nf hr hrest⟩
    (by rw [List.append_nil]; exact List.nodup_append.2 ⟨d4, d2, fun a ha b hb => d3 a (List.mem_append.2 (.inl ha)) b hb⟩)
    (fun b hb => hmine b (by rw [← hall]; exact hsubS b hb)) hF hB (by rw [ng1]; exact fun b hb => ⟨(hgb b hb).1, fun h => (hgb b hb).2 (hsubS b h)⟩) (by rw [ng2]; exact hge)
  refine key'.mono ?_
  rintro v' w' ⟨F', S1', S2', p⟩
  obtain ⟨l', hv', hS', hl2⟩ := p.rep
  have hl2 : @LstOk N' F' w' l' z2 e2 t.nmd ys := hl2
  have hold : l'.sub = [] := (@LstOk.old N' _ _ _ _ _ _ _ hl2 (Ty.nmd_hasO t)).1
  obtain ⟨k1, k2⟩ := decs_get hds
  have hsameF : Same F w w' := fun b hb => p.block b (hF b hb) fun hb' => (hmine b (by rw [← hall]; exact hsubS b hb')).1 hb
  have hlk : ∀ n o', t.lookN xs n = some o' → @TRep N F' w' (.ols o'.e o'.u) o'.ys [N'.nu n] (fS n) := fun n o' ho =>
    @TRep.mono N _ _ _ _ p.fro hsameF _ _ _ _ (fun b hb => p.block b (hsubm b ((g4 n).2 b hb)).2.2 (hout b ((g4 n).2 b hb))) (g3 n o' ho)
  let sub' := (ys.flatMap t.nms).flatMap fS
  have hsub' : ∀ b ∈ sub', b ∈ l.sub := fun b hb => by
    obtain ⟨n, _, hb⟩ := List.mem_flatMap.1 hb
    exact (g4 n).2 b hb
  have hndsub : sub'.Nodup := flatMap_nodup (fun n => (g4 n).1) g5 hndN
  have hmine' : ∀ b ∈ S1' ++ S2', b ∉ l.sub := fun b hb hb' => by
    rcases (p.mine b hb).2.2.2 with h | h
    · have := (hsubm b hb').2.2; omega
    · exact hout b hb' h
  have hblk : ∀ b, l'.blk = some b → b ∉ sub' := fun b hb hb' => hmine' b (List.mem_append.2 (.inl (by rw [hS']; exact LV.mem_blk hb))) (hsub' b hb')
  have hlst : @LstOk N F' w' ⟨l'.blk, l'.off, l'.cap, sub'⟩ z2 e2 t zs := by
    unfold LstOk LstW at hl2 ⊢
    cases hb : l'.blk with
    | none =>
      rw [hb] at hl2
      obtain ⟨rfl, hc, _⟩ := hl2
      have : zs = [] := List.eq_nil_of_length_eq_zero (by rw [k1]; rfl)
      exact ⟨this, hc, rfl⟩
    | some b =>
      rw [hb] at hl2
      obtain ⟨vs, fr, Ss, hh, hzf, hth, hnc, hcm, hvs, hsub, hnd2, hlenS, hrows⟩ := hl2
      refine ⟨vs, fr, ys.map fun y => (t.nms y).flatMap fS, hh, hzf, hth, by rw [k1]; exact hnc, hcm, by rw [Ty.nmd_w] at hvs; exact hvs, ?_, List.nodup_cons.2 ⟨hblk b hb, hndsub⟩, by simp [k1], fun i x S hx hS => ?_⟩
      · show (ys.flatMap t.nms).flatMap fS = _
        rw [List.flatMap_assoc, List.flatMap_def]
      · have hi : i < ys.length := by rw [← k1]; exact (List.getElem?_eq_some_iff.1 hx).1
        have hy : ys[i]? = some ys[i] := List.getElem?_eq_getElem hi
        rw [List.getElem?_map, hy] at hS
        simp only [Option.map_some, Option.some.injEq] at hS
        subst hS
        have hSs : Ss[i]? = some (Ss[i]'(by omega)) := List.getElem?_eq_getElem (by omega)
        obtain ⟨rs, q1, q2, q3⟩ := hrows i _ _ hy hSs
        refine ⟨rs, by rw [q1, Ty.nmd_w], fun j hj => by rw [Ty.nmd_w] at q2; exact q2 j hj, TRep.dec g2 hlk hn q3 (k2 i _ _ hy hx)⟩
  have hrep' : @Rep N F' B w' (.own z2 e2 t) zs [v'] (l'.blk.toList ++ sub') := ⟨⟨l'.blk, l'.off, l'.cap, sub'⟩, by rw [k1]; exact hv', rfl, hlst⟩
  have hout' : @RepOut N F' B w' (.cons (.own z e t) rest) o args.toList S2' := by
    obtain ⟨v3, vs3, S3, S4, e1, e2', o1, o2⟩ := p.out
    exact ⟨v3, vs3, S3, S4, e1, e2', o1, RepOut.nf hr o2⟩
  refine ⟨F', l'.blk.toList ++ sub', S2', @Post.mk N _ _ _ _ _ _ _ _ _ _ _ _ _ p.os p.tape p.output p.size (fun b hb hb' => p.block b hb fun h => hb' (hsubS b h)) p.fro (fun b hb => (p.more b hb).imp id fun h => h.imp id fun h => hsubS b h) p.lt hrep' hout' ?_ ?_⟩
  · have hS'' : S1' = l'.blk.toList := by rw [hS']; exact LV.all_of hold
    obtain ⟨n1, n2, n3⟩ := List.nodup_append.1 p.nodup
    refine List.nodup_append.2 ⟨List.nodup_append.2 ⟨by rw [← hS'']; exact n1, hndsub, fun a ha b hb e' => ?_⟩, n2, fun a ha b hb e' => ?_⟩
    · subst e'
      exact hmine' a (List.mem_append.2 (.inl (by rw [hS'']; exact ha))) (hsub' a hb)
    · subst e'
      rcases List.mem_append.1 ha with ha | ha
      · exact n3 a (by rw [hS'']; exact ha) a hb rfl
      · exact hmine' a (List.mem_append.2 (.inr hb)) (hsub' a ha)
  · intro b hb
    have hS'' : S1' = l'.blk.toList := by rw [hS']; exact LV.all_of hold
    rcases List.mem_append.1 hb with hb | hb
    · rcases List.mem_append.1 hb with hb | hb
      · obtain ⟨q1, q2, q3, q4⟩ := p.mine b (List.mem_append.2 (.inl (by rw [hS'']; exact hb)))
        exact ⟨q1, q2, q3, q4.imp id fun h => hsubS b h⟩
      · have hb' := hsub' b hb
        obtain ⟨q1, q2, q3⟩ := hsubm b hb'
        refine ⟨fun hF' => ?_, q2, Nat.lt_of_lt_of_le q3 p.size, .inr (List.mem_append.2 (.inl (LV.mem_sub hb')))⟩
        rcases p.more b hF' with h | h | h
        · exact q1 h
        · omega
        · exact hout b hb' h
    · obtain ⟨q1, q2, q3, q4⟩ := p.mine b (List.mem_append.2 (.inr hb))
      exact ⟨q1, q2, q3, q4.imp id fun h => hsubS b h⟩
end Go.Eng
end

section
namespace Go.Eng
variable [Names]
open Go.RowKit Go.Sort
section
variable {P : Program}
def itoaF (x : Int × Unit) : Option (ByteArray × Unit × Unit) :=
  if -9223372036854775808 ≤ x.1 ∧ x.1 ≤ 9223372036854775807 then some (⟨(Lib.itoa x.1).toArray⟩, (), ()) else none
omit [Names] in
theorem below_grow (w : World) (q : Nat) (os : Array Obj) : Below w.heap.size w (grow (w.drewN q) os) :=
  ⟨rfl, rfl, rfl, by
    show w.heap.size ≤ (w.heap ++ os).size
    simp, fun i hi => by
    show (w.heap ++ os)[i]? = _
    rw [Array.getElem?_append_left hi]⟩
theorem entry_itoa {fn : Func} {f : Nat} (hf : P.funcs[f]? = some fn) (hb : enterB fn = true) (T : World → Prop) (hT : ∀ w, Names.gen w → T w)
    (h : ∀ (n : Int), -9223372036854775808 ≤ n → n ≤ 9223372036854775807 → ∀ w : World, T w → Calls P f #[.int .i64 n] w fun e w' => e = .returned (.string ⟨(Lib.itoa n).toArray⟩) ∧ ∃ k os, w' = grow (w.drewN k) os) :
    EntryOk P ⟨f, 0, .cons (.int .i64) .nil, .str, itoaF⟩ := by
  refine ⟨rfl, rfl, fun x r hx w args Sx F B hrep hnd hmine hF hB _ hge => .inl ⟨f, args, enter_run hf hb args w, ?_⟩⟩
  obtain ⟨n, u⟩ := x
  obtain ⟨v1, vs1, S1, S2, ha, rfl, hs, h2⟩ := hrep
  obtain ⟨rfl, rfl⟩ := h2
  obtain ⟨h4, rfl⟩ := hs
  simp only [List.cons.injEq, and_true] at h4
  subst h4
  have hargs : args = #[.int .i64 n] := by
    rw [← Array.toList_inj, ha]
  subst hargs
  have hx' : itoaF (n, u) = some r := hx
  unfold itoaF at hx'
  split at hx'
  case isFalse => cases hx'
  rename_i hc
  injection hx' with hx'
  subst hx'
  refine (h n hc.1 hc.2 w (hT w hge)).mono ?_
  rintro e w' ⟨rfl, q, os, rfl⟩
  have hbel := below_grow w q os
  refine ⟨_, rfl, F, [], [], ⟨hbel.os, hbel.tape, hbel.output, hbel.size, fun b hb _ => hbel.block b hb, fun b hb => hb, fun b hb => .inl hb, fun b hb => Nat.lt_of_lt_of_le (hF b hb) hbel.size, ⟨rfl, rfl⟩, ?_, List.nodup_nil, by simp⟩⟩
  exact ⟨_, _, [], [], rfl, rfl, rfl, rfl⟩
end
end Go.Eng
end

section
namespace Go.Eng
variable [Names]
open Go.RowKit
def tabGb (P : Program) (name : String) (b : Nat) : Prop := P.globalNamed name = some b
omit [Names] in
theorem tab_keep {P : Program} {name : String} {k : IntKind} {zs : List Int} (w w' : World) (h : ∀ b, tabGb P name b → w'.heap[b]? = w.heap[b]?) (ht : Lib.TabIs P w name k zs) : Lib.TabIs P w' name k zs := by
  unfold Lib.TabIs World.var? at *
  cases hg : P.globalNamed name with
  | none => simp [hg] at ht
  | some g =>
    simp only [hg, Option.bind_some] at ht ⊢
    rw [h g hg]
    exact ht
omit [Names] in
theorem tab_lt {P : Program} {name : String} {k : IntKind} {zs : List Int} {w : World} (ht : Lib.TabIs P w name k zs) (b : Nat) (hb : tabGb P name b) : b < w.heap.size := by
  unfold Lib.TabIs World.var? at ht
  rw [hb] at ht
  simp only [Option.bind_some] at ht
  rcases Nat.lt_or_ge b w.heap.size with h' | h'
  · exact h'
  · rw [Array.getElem?_eq_none h'] at ht; simp at ht
omit [Names] in
theorem tabIs_third {P : Program} {W : World} {n1 n2 name : String} {d1 d2 : DataW Unit} {k : IntKind} {zs : List Int} {g : Nat} {t e : TypeId} {n : Nat}
    (hg : P.globalNamed name = some g) (hty : (P.globals[g]?).map (·.type) = some t) (ht : P.underlying t = some (.array n e)) (he : P.underlying e = some (.int k)) (hce : P.cellsOf e = 1) (hct : P.cellsOf t = n)
    (h : laidMet P [(n1, d1), (n2, d2), (name, Lib.tabData k zs)] W) : Lib.TabIs P W name k zs := by
  obtain ⟨ps, ⟨g0, t0, cs0, f0, p0, q0, hg0, ht0, hv0, hd0, ⟨g1, t1, cs1, f1, p1, q1, hg1, ht1, hv1, hd1, ⟨g2, t2, cs2, f2, p2, q2, hg2, ht2, hvar, hd, _, _⟩, _⟩, _⟩, _⟩ := h
  obtain rfl := Option.some.inj (hg.symm.trans hg2)
  obtain rfl := Option.some.inj (hty.symm.trans ht2)
  unfold Lib.TabIs
  rw [hvar, ← Lib.cells_of_tab ht he hce hct hd]
theorem law_lifted_laid {H : Type} {enc : TypeId × Value → H} {C : Checked} {os : Os} {f : Nat} {fn : Func} {s : ChangeSpec} {conds : List PathCond} {apart : Bool} {l : List Par} {G : Nat → (argsP l).den → Option (Bool × (argsP l).out)} {rb : TypeId} {laid : List (String × DataW Unit)}
    (own : ownKnob C.prog.godebug = none) (started : os.Started) (noInit : C.prog.inits.idxOf? f = none) (hfn : C.prog.funcs[f]? = some fn)
    (witness : ∃ (w : World) (tape : Tape) (i : Input), w.os = os ∧ (w.forCall tape i).Shaped C.prog ∧ i.vars = [] ∧ Input.okWide C.prog (w.forCall tape i) .any w.heap.size f i ∧
      ((s.pre enc C.prog fn conds apart (w.forCall tape i).memory i.args ∧ laidMetH C.prog laid (w.forCall tape i).memory) ∧ sizedMet enc C.prog fn (OpenSpec.ofChange s) apart (w.forCall tape i).memory i.args) ∧ ({} : Assume).holds C.prog (lone (Frame.enter C.prog f i.args .normal) [] (w.forCall tape i)))
    (he : ∀ k, EntryOk C.prog ⟨f, 0, argsP l, .bool, G k⟩) (hb : fn.body.isSome = true) (hnm : (fn.name == "runtime.NumGoroutine") = false)
    (hG : ∀ x : argsDen l, argsWf l x → ∃ k o, G k (argsX l x) = some (true, o))
    (hts : parsAre C.prog l fn.params.toList = true) (hres : fn.resultTypes = #[rb]) (hrb : C.prog.underlying rb = some .bool)
    (hl : laidOutB C.prog = true) (hrd : (fn.params.toList.all fun t => C.prog.readableRec t && Nat.blt t C.prog.types.size) = true)
    (hvars : s.vars = []) (hgen : ∀ W : World, laidMetH C.prog laid W → (∀ b, Names.gb b → b < W.heap.size) ∧ Names.gen W) (hs : ∀ ds : List (DataW H), ds.length = l.length → s.fn H ds = ⟨[.lit (.bool true)], ds, []⟩) :
    ReturnsInHanded {} C os f .any (fun w args => (s.pre enc C.prog fn conds apart w args ∧ laidMetH C.prog laid w) ∧ sizedMet enc C.prog fn (OpenSpec.ofChange s) apart w args) (s.post enc C.prog fn apart true false false) := by
  refine returnsInHanded_of_change_and (C := C) (X := fun w _ => laidMetH C.prog laid w) (fun _ _ _ hh h => h.of_heap hh) own started noInit hfn witness ?_
  intro W base args ds gs before hval hW _ _ hL _
  have hW' := hW
  obtain ⟨p, q, hA, hV, rfl, _, _⟩ := hW'
  have hlen : ds.length = l.length := (trodAll_len hA).trans (parsAre_len hts)
  rw [hvars] at hV
  have hgs : gs = [] := by
    cases gs with
    | nil => rfl
    | cons g gs => exact False.elim hV
  subst hgs
  refine (law_calls (H := H) (enc := enc) he hfn hb hnm hG hts hA (fun j t v ht hv => hval j t v (by simpa using ht) hv) (hgen W hL).1 (hgen W hL).2).mono fun e W' hh => ?_
  obtain ⟨rfl, bel⟩ := hh
  refine ⟨_, rfl, ds, [], _, [], p, [], hW, ?_, ?_, ?_, ?_, fun h => by cases h⟩
  · rw [List.append_nil, hs ds hlen, hres]
    exact Go.ChangeShapes.trodAll_mk1 ⟨1, by simp [DataW.trod, Value.cells, hrb]⟩
  · rw [List.append_nil, hs ds hlen]
    exact below_trodAll hl bel hrd hA (fun x hx => DataW.TrodAll.lt hA x hx)
  · rw [List.append_nil, hs ds hlen, hvars]
    exact rfl
  · exact bel.frame _
end Go.Eng
end

section
namespace Go.Eng
def Pat.frz : Pat → Pat
  | .il _ t => .il false t | .cons a b => .cons a.frz b.frz | .agg p => .agg p.frz | .tup p => .tup p.frz
  | .any => .any | .int k => .int k | .bool => .bool | .str => .str | .nils => .nils | .own z e t => .own z e t | .mut z e t => .mut z e t | .nm => .nm
  | .ptr o p => .ptr o p | .mag p => .mag p | .fn f p => .fn f p | .nil => .nil
def Pat.toF : (p : Pat) → p.den → p.frz.den
  | .il _ _, x => x | .cons a b, x => (a.toF x.1, b.toF x.2) | .agg p, x => p.toF x | .tup p, x => p.toF x
  | .any, x => x | .int _, x => x | .bool, x => x | .str, x => x | .nils, x => x | .own _ _ _, x => x | .mut _ _ _, x => x | .nm, x => x
  | .ptr _ _, x => x | .mag _, x => x | .fn _ _, x => x | .nil, x => x
def Pat.outF : (p : Pat) → p.frz.out → p.out
  | .cons a b, x => (a.outF x.1, b.outF x.2) | .il _ _, _ => () | .agg _, _ => () | .tup _, _ => ()
  | .any, x => x | .int _, x => x | .bool, x => x | .str, x => x | .nils, x => x | .own _ _ _, x => x | .mut _ _ _, x => x | .nm, x => x
  | .ptr _ _, x => x | .mag _, x => x | .fn _ _, x => x | .nil, x => x
def Pat.reads : Pat → Bool
  | .int _ | .bool | .str | .nils | .il _ _ | .nil | .any => true
  | .cons a b => a.reads && b.reads
  | .agg p => p.reads
  | _ => false
def Pat.plain : Pat → Bool
  | .int _ | .bool | .str | .nil => true
  | .own _ _ t => !t.hasL
  | .cons a b => a.plain && b.plain
  | .tup p | .agg p => p.plain
  | _ => false
section
variable [Names] {F B F' B' : Nat → Prop} {w w' : World}
theorem Rep.frz : ∀ {p : Pat} {x : p.den} {vs : List Value} {Sx : List Nat}, p.reads = true → Rep F B w p x vs Sx → Rep (fun b => F b ∨ B b) (fun _ => False) w p.frz (p.toF x) vs Sx
  | .il b t, xs, vs, Sx, _, h => ⟨h.1.mono (fun c hc => .inl (hc.elim .inl fun hc => .inr hc.2)) (fun _ _ => rfl), h.2⟩
  | .cons a b, x, vs, Sx, hr, h => by
    simp only [Pat.reads, Bool.and_eq_true] at hr
    obtain ⟨v, vs', S1, S2, rfl, rfl, h1, h2⟩ := h
    exact ⟨v, vs', S1, S2, rfl, rfl, Rep.frz hr.1 h1, Rep.frz hr.2 h2⟩
  | .agg p, x, vs, Sx, hr, h => by
    obtain ⟨cs, rfl, k, h⟩ := h
    exact ⟨cs, rfl, k, Rep.frz (p := p) hr h⟩
  | .any, _, _, _, _, h => h
  | .int _, _, _, _, _, h => h
  | .bool, _, _, _, _, h => h
  | .str, _, _, _, _, h => h
  | .nils, _, _, _, _, h => h
  | .nil, _, _, _, _, h => h
  | .own _ _ _, _, _, _, hr, _ => by cases hr
  | .mut _ _ _, _, _, _, hr, _ => by cases hr
  | .nm, _, _, _, hr, _ => by cases hr
  | .ptr _ _, _, _, _, hr, _ => by cases hr
  | .mag _, _, _, _, hr, _ => by cases hr
  | .tup _, _, _, _, hr, _ => by cases hr
  | .fn _ _, _, _, _, hr, _ => by cases hr
theorem RepOut.frz : ∀ {p : Pat} {x : p.frz.out} {vs : List Value} {Sx : List Nat}, p.reads = true → RepOut F B w p.frz x vs Sx → Sx = [] ∧ RepOut F' B' w p (p.outF x) vs []
  | .cons a b, x, vs, Sx, hr, h => by
    simp only [Pat.reads, Bool.and_eq_true] at hr
    obtain ⟨v, vs', S1, S2, rfl, rfl, h1, h2⟩ := h
    obtain ⟨rfl, k1⟩ := RepOut.frz hr.1 h1
    obtain ⟨rfl, k2⟩ := RepOut.frz hr.2 h2
    exact ⟨rfl, v, vs', [], [], rfl, rfl, k1, k2⟩
  | .il _ _, _, _, _, _, h => ⟨h, rfl⟩
  | .agg _, _, _, _, _, h => ⟨h, rfl⟩
  | .any, _, _, _, _, h => ⟨h, rfl⟩
  | .int _, _, _, _, _, h => ⟨h, rfl⟩
  | .bool, _, _, _, _, h => ⟨h, rfl⟩
  | .str, _, _, _, _, h => ⟨h, rfl⟩
  | .nils, _, _, _, _, h => ⟨h, rfl⟩
  | .nil, _, _, _, _, h => ⟨h, rfl⟩
  | .own _ _ _, _, _, _, hr, _ => by cases hr
  | .mut _ _ _, _, _, _, hr, _ => by cases hr
  | .nm, _, _, _, hr, _ => by cases hr
  | .ptr _ _, _, _, _, hr, _ => by cases hr
  | .mag _, _, _, _, hr, _ => by cases hr
  | .tup _, _, _, _, hr, _ => by cases hr
  | .fn _ _, _, _, _, hr, _ => by cases hr
theorem TRep.noL : ∀ {t : Ty} {x : t.den} {cs : List Value} {S : List Nat}, t.hasL = false → TRep F w t x cs S → TRep F' w t x cs S
  | .int _, _, _, _, _, h => h
  | .bool, _, _, _, _, h => h
  | .str, _, _, _, _, h => h
  | .unit, _, _, _, _, h => h
  | .nm, _, _, _, _, h => h
  | .list _, _, _, _, hn, _ => by cases hn
  | .olq e t, x, _, _, hn, h => by
    cases x with
    | none => exact h
    | some xs =>
      obtain ⟨l, rfl, rfl, h⟩ := h
      exact ⟨l, rfl, rfl, h.mono (fun _ _ => rfl) fun x rs S _ k => TRep.noL (t := t) hn k⟩
  | .ols e t, xs, _, _, hn, h => by
    obtain ⟨l, rfl, rfl, h⟩ := h
    exact ⟨l, rfl, rfl, h.mono (fun _ _ => rfl) fun x rs S _ k => TRep.noL (t := t) hn k⟩
  | .pair a b, x, _, _, hn, h => by
    simp only [Ty.hasL, Bool.or_eq_false_iff] at hn
    obtain ⟨c, d, S1, S2, rfl, rfl, h1, h2⟩ := h
    exact ⟨c, d, S1, S2, rfl, rfl, TRep.noL hn.1 h1, TRep.noL hn.2 h2⟩
theorem Rep.plain : ∀ {p : Pat} {x : p.den} {vs : List Value} {Sx : List Nat}, p.plain = true → Rep F B w p x vs Sx → Rep F' B' w p x vs Sx
  | .cons a b, x, vs, Sx, hr, h => by
    simp only [Pat.plain, Bool.and_eq_true] at hr
    obtain ⟨v, vs', S1, S2, rfl, rfl, h1, h2⟩ := h
    exact ⟨v, vs', S1, S2, rfl, rfl, Rep.plain hr.1 h1, Rep.plain hr.2 h2⟩
  | .tup p, x, vs, Sx, hr, h => by
    obtain ⟨cs, rfl, h⟩ := h
    exact ⟨cs, rfl, Rep.plain (p := p) hr h⟩
  | .agg p, x, vs, Sx, hr, h => by
    obtain ⟨cs, rfl, k, h⟩ := h
    exact ⟨cs, rfl, k, Rep.plain (p := p) hr h⟩
  | .own z e t, xs, vs, Sx, hr, h => by
    obtain ⟨l, rfl, rfl, h⟩ := h
    exact ⟨l, rfl, rfl, LstW.mono h (fun _ _ => rfl) fun _ _ _ _ k => TRep.noL (by simpa [Pat.plain] using hr) k⟩
  | .int _, _, _, _, _, h => h
  | .bool, _, _, _, _, h => h
  | .str, _, _, _, _, h => h
  | .nil, _, _, _, _, h => h
  | .any, _, _, _, hr, _ => by cases hr
  | .nils, _, _, _, hr, _ => by cases hr
  | .il _ _, _, _, _, hr, _ => by cases hr
  | .mut _ _ _, _, _, _, hr, _ => by cases hr
  | .nm, _, _, _, hr, _ => by cases hr
  | .ptr _ _, _, _, _, hr, _ => by cases hr
  | .mag _, _, _, _, hr, _ => by cases hr
  | .fn _ _, _, _, _, hr, _ => by cases hr
theorem frz_entry {P : Program} {f key : Nat} {p q : Pat} {G : p.frz.den → Option (q.den × p.frz.out)} {H : p.den → Option (q.den × p.out)} (hp : (p.reads && (p.ok && q.plain)) = true)
    (hG : ∀ x r, H x = some r → ∃ o, G (p.toF x) = some (r.1, o) ∧ p.outF o = r.2) (h : EntryOk P ⟨f, key, p.frz, q, G⟩) : EntryOk P ⟨f, key, p, q, H⟩ := by
  simp only [Bool.and_eq_true] at hp
  refine ⟨hp.2.1, h.okr, fun x r hx w args Sx F B hrep hnd hmine hF hB hgb hge => ?_⟩
  obtain ⟨o, h1, h2⟩ := hG x r hx
  refine (h.run (p.toF x) (r.1, o) h1 w args Sx (fun b => F b ∨ B b) (fun _ => False) (Rep.frz hp.1 hrep) hnd (fun b hb => ⟨fun k => k.elim (hmine b hb).1 (hmine b hb).2.1, id, (hmine b hb).2.2⟩) (fun b hb => hb.elim (hF b) (hB b)) (fun b hb => hb.elim) hgb hge).mono ?_
  rintro v w' ⟨F', S1, S2, k⟩
  have k1 := Rep.plain (F' := F) (B' := B) hp.2.2 k.rep
  obtain ⟨rfl, k2⟩ := RepOut.frz (F' := F) (B' := B) hp.1 k.out
  refine ⟨F, S1, [], k.os, k.tape, k.output, k.size, k.block, fun _ h => h, fun _ h => .inl h, fun b hb => Nat.lt_of_lt_of_le (hF b hb) k.size, k1, ?_, k.nodup, fun b hb => ?_⟩
  · rw [← h2]
    exact k2
  · obtain ⟨q1, q2, q3, q4⟩ := k.mine b hb
    exact ⟨fun h => q1 (k.fro b (.inl h)), fun h => q1 (k.fro b (.inr h)), q3, q4⟩
end
end Go.Eng
end

section
namespace Go.Eng
variable [Names]
open Go.RowKit Go.Proofs
section
variable {P : Program}
def splitF (x : ByteArray × ByteArray × Unit) : Option (List ByteArray × Unit × Unit × Unit) :=
  if x.1.size < 4294967281 ∧ 1 ≤ x.2.1.size then some (Lib.splitB x.2.1 0 (Lib.countB x.1 x.2.1) x.1, (), (), ()) else none
theorem entry_split {e : Nat} {fn : Func} {f : Nat} (hf : P.funcs[f]? = some fn) (hb : enterB fn = true) (M : World → Prop) (hM : ∀ w, Names.gen w → M w)
    (h : ∀ (s sep : ByteArray) (w : World), M w → s.size < 4294967281 → 1 ≤ sep.size → Calls P f #[.string s, .string sep] w fun r w' =>
      r = .returned (.slice (some ⟨w.heap.size, 0, none⟩) (Lib.countB s sep + 1) (Lib.countB s sep + 1)) ∧ w' = w.alloc (.cells ((Lib.splitB sep 0 (Lib.countB s sep) s).map Value.string).toArray e)) :
    EntryOk P ⟨f, 0, .cons .str (.cons .str .nil), .own false e .str, splitF⟩ := by
  refine ⟨rfl, rfl, fun x r hx w args Sx F B hrep hnd hmine hF hB _ hge => .inl ⟨f, args, enter_run hf hb args w, ?_⟩⟩
  obtain ⟨s, sep, u⟩ := x
  obtain ⟨v1, vs1, S1, S2, ha, rfl, hs, h2⟩ := hrep
  obtain ⟨v2, vs2, S3, S4, rfl, rfl, hn, h3⟩ := h2
  obtain ⟨rfl, rfl⟩ := h3
  obtain ⟨h4, rfl⟩ := hs
  obtain ⟨h5, rfl⟩ := hn
  simp only [List.cons.injEq, and_true] at h4 h5
  subst h4 h5
  have hargs : args = #[.string s, .string sep] := by
    rw [← Array.toList_inj, ha]
  rw [ha]
  subst hargs
  have hx' : splitF (s, sep, u) = some r := hx
  unfold splitF at hx'
  split at hx'
  case isFalse => cases hx'
  rename_i hc
  obtain ⟨c1, c2⟩ := hc
  dsimp only at c1 c2
  injection hx' with hx'
  subst hx'
  have hlen := Lib.splitB_all sep c2 0 _ s rfl
  have hle := Lib.countB_le sep c2 s.size s (Nat.le_refl _)
  refine (h s sep w (hM w hge) c1 c2).mono ?_
  rintro e' w' ⟨rfl, rfl⟩
  dsimp only at hlen ⊢
  generalize Lib.countB s sep = n at hlen hle ⊢
  generalize Lib.splitB sep 0 n s = L at hlen ⊢
  have hsz := alloc_size w (.cells (L.map Value.string).toArray e)
  have hnew := alloc_new w (.cells (L.map Value.string).toArray e)
  refine ⟨_, rfl, F, [w.heap.size], [], ⟨rfl, rfl, rfl, by omega, fun b hb _ => alloc_old _ _ b hb, fun _ h => h, fun _ h => .inl h, fun b hb => by have := hF b hb; omega,
    ⟨⟨some w.heap.size, 0, n + 1, []⟩, ?_, rfl, LstOld.ok ⟨rfl, _, (0, 0), hnew, fun _ => rfl, .inl rfl, Nat.le_of_eq hlen, by show n + 1 ≤ 2 ^ 63 - 1; omega, .inr ?_, fun i hi => ?_⟩⟩, ⟨_, _, [], [], rfl, rfl, rfl, _, _, [], [], rfl, rfl, rfl, rfl⟩, by simp, fun c hc => ?_⟩⟩
  · show [Value.slice _ _ _] = [Value.slice _ _ _]
    simp only [hlen]
    rfl
  · rw [List.size_toArray, List.length_map, hlen]
    show n + 1 = 0 + (n + 1) * 1
    omega
  · refine ⟨[.string L[i]], rfl, fun j hj => ?_, rfl⟩
    have hj : j < 1 := hj
    obtain rfl : j = 0 := by omega
    show ((L.map Value.string).toArray.toList.drop 0)[i * 1 + 0]? = _
    simp [hi]
  · simp only [List.append_nil, List.mem_singleton] at hc
    subst hc
    exact ⟨fun h => by have := hF _ h; omega, fun h => by have := hB _ h; omega, by omega, .inl (Nat.le_refl _)⟩
theorem entry_split_f {e : Nat} {fn : Func} {f : Nat} (hf : P.funcs[f]? = some fn) (hb : enterB fn = true) (M : World → Prop) (hM : ∀ w, Names.gen w → M w)
    (h : ∀ (s sep : ByteArray) (w : World), M w → s.size < 4294967281 → 1 ≤ sep.size → Calls P f #[.string s, .string sep] w fun r w' =>
      r = .returned (.slice (some ⟨w.heap.size, 0, none⟩) (Lib.countB s sep + 1) (Lib.countB s sep + 1)) ∧ w' = w.alloc (.cells ((Lib.splitB sep 0 (Lib.countB s sep) s).map Value.string).toArray e)) :
    EntryOk P ⟨f, 0, .cons .str (.cons .str .nil), .il false .str, splitF⟩ := by
  refine ⟨rfl, rfl, fun x r hx w args Sx F B hrep hnd hmine hF hB _ hge => .inl ⟨f, args, enter_run hf hb args w, ?_⟩⟩
  obtain ⟨s, sep, u⟩ := x
  obtain ⟨v1, vs1, S1, S2, ha, rfl, hs, h2⟩ := hrep
  obtain ⟨v2, vs2, S3, S4, rfl, rfl, hn, h3⟩ := h2
  obtain ⟨rfl, rfl⟩ := h3
  obtain ⟨h4, rfl⟩ := hs
  obtain ⟨h5, rfl⟩ := hn
  simp only [List.cons.injEq, and_true] at h4 h5
  subst h4 h5
  have hargs : args = #[.string s, .string sep] := by
    rw [← Array.toList_inj, ha]
  rw [ha]
  subst hargs
  have hx' : splitF (s, sep, u) = some r := hx
  unfold splitF at hx'
  split at hx'
  case isFalse => cases hx'
  rename_i hc
  obtain ⟨c1, c2⟩ := hc
  dsimp only at c1 c2
  injection hx' with hx'
  subst hx'
  have hlen := Lib.splitB_all sep c2 0 _ s rfl
  have hle := Lib.countB_le sep c2 s.size s (Nat.le_refl _)
  refine (h s sep w (hM w hge) c1 c2).mono ?_
  rintro e' w' ⟨rfl, rfl⟩
  dsimp only at hlen ⊢
  generalize Lib.countB s sep = n at hlen hle ⊢
  generalize Lib.splitB sep 0 n s = L at hlen ⊢
  have hsz := alloc_size w (.cells (L.map Value.string).toArray e)
  have hnew := alloc_new w (.cells (L.map Value.string).toArray e)
  refine ⟨_, rfl, fun b => F b ∨ b = w.heap.size, [], [], ⟨rfl, rfl, rfl, by omega, fun b hb _ => alloc_old _ _ b hb, fun _ h => .inl h, fun b h => h.elim .inl fun h => .inr (.inl (Nat.le_of_eq h.symm)), fun b hb => hb.elim (fun h => by have := hF b h; omega) fun h => by omega,
    ⟨⟨some ⟨w.heap.size, 0, none⟩, L.length, n + 1, ?_, rfl, Nat.le_of_eq hlen, fun _ => ⟨w.heap.size, 0, rfl, .inl (.inr rfl), by omega, fun i hi => ?_⟩⟩, rfl⟩, ⟨_, _, [], [], rfl, rfl, rfl, _, _, [], [], rfl, rfl, rfl, rfl⟩, by simp, fun c hc => by simp at hc⟩⟩
  · rw [hlen]
  · refine ⟨[.string L[i]], rfl, fun j v hj => ?_, rfl⟩
    cases j with
    | zero =>
      simp only [List.getElem?_cons_zero, Option.some.injEq] at hj
      subst hj
      have hq : (w.alloc (.cells (L.map Value.string).toArray e)).heap[w.heap.size]? = _ := hnew
      show (w.alloc (.cells (L.map Value.string).toArray e)).cell? ⟨w.heap.size, 0 + i * 1 + 0, none⟩ = _
      simp only [World.cell?, hq]
      simp [hi]
    | succ j => simp at hj
def cutF (x : ByteArray × ByteArray × Unit) : Option ((ByteArray × ByteArray × Bool × Unit) × Unit × Unit × Unit) :=
  if x.1.size < 4294967281 then some ((⟨(Lib.cut x.1.data.toList x.2.1.data.toList).1.toArray⟩, ⟨(Lib.cut x.1.data.toList x.2.1.data.toList).2.1.toArray⟩, (Lib.cut x.1.data.toList x.2.1.data.toList).2.2, ()), (), (), ()) else none
theorem entry_cut {fn : Func} {f : Nat} (hf : P.funcs[f]? = some fn) (hb : enterB fn = true) (M : World → Prop) (hM : ∀ w, Names.gen w → M w)
    (h : ∀ (s sep : ByteArray) (w : World), M w → s.size < 4294967281 → Calls P f #[.string s, .string sep] w fun e w' =>
      e = .returned (.tuple #[.string ⟨(Lib.cut s.data.toList sep.data.toList).1.toArray⟩, .string ⟨(Lib.cut s.data.toList sep.data.toList).2.1.toArray⟩, .bool (Lib.cut s.data.toList sep.data.toList).2.2]) ∧ ∃ n, w' = w.drewN n) :
    EntryOk P ⟨f, 0, .cons .str (.cons .str .nil), .tup (.cons .str (.cons .str (.cons .bool .nil))), cutF⟩ := by
  refine ⟨rfl, rfl, fun x r hx w args Sx F B hrep hnd hmine hF hB _ hge => .inl ⟨f, args, enter_run hf hb args w, ?_⟩⟩
  obtain ⟨s, sep, u⟩ := x
  obtain ⟨v1, vs1, S1, S2, ha, rfl, hs, h2⟩ := hrep
  obtain ⟨v2, vs2, S3, S4, rfl, rfl, hn, h3⟩ := h2
  obtain ⟨rfl, rfl⟩ := h3
  obtain ⟨h4, rfl⟩ := hs
  obtain ⟨h5, rfl⟩ := hn
  simp only [List.cons.injEq, and_true] at h4 h5
  subst h4 h5
  have hargs : args = #[.string s, .string sep] := by
    rw [← Array.toList_inj, ha]
  rw [ha]
  subst hargs
  have hx' : cutF (s, sep, u) = some r := hx
  unfold cutF at hx'
  split at hx'
  case isFalse => cases hx'
  rename_i c1
  dsimp only at c1
  injection hx' with hx'
  subst hx'
  refine (h s sep w (hM w hge) c1).mono ?_
  rintro e' w' ⟨rfl, n, rfl⟩
  exact ⟨_, rfl, F, [], [], ⟨rfl, rfl, rfl, Nat.le_refl _, fun _ _ _ => rfl, fun _ h => h, fun _ h => .inl h, hF, ⟨_, rfl, _, _, [], [], rfl, rfl, ⟨rfl, rfl⟩, _, _, [], [], rfl, rfl, ⟨rfl, rfl⟩, _, _, [], [], rfl, rfl, ⟨rfl, rfl⟩, rfl, rfl⟩,
    ⟨_, _, [], [], rfl, rfl, rfl, _, _, [], [], rfl, rfl, rfl, rfl⟩, by simp, fun c hc => by simp at hc⟩⟩
def readF (lim : Int) (s : ByteArray) : Int × Bool := match Lib.atoiAll s.data.toList with
  | .ok v => if 0 ≤ v ∧ v ≤ lim ∧ (⟨(Lib.itoa v).toArray⟩ : ByteArray) = s then (v, true) else (0, false)
  | _ => (0, false)
def readDecF (lim : Int) (x : ByteArray × Unit) : Option ((Int × Bool × Unit) × Unit × Unit) :=
  if x.1.size ≤ 281474976710656 then some (((readF lim x.1).1, (readF lim x.1).2, ()), (), ()) else none
theorem entry_readDec {lim : Int} {fn : Func} {f : Nat} (hf : P.funcs[f]? = some fn) (hb : enterB fn = true)
    (h : ∀ (s : ByteArray) (w : World), Names.gen w → s.size ≤ 281474976710656 → Calls P f #[.string s] w fun e w' => e = .returned (.tuple #[.int .i64 (readF lim s).1, .bool (readF lim s).2]) ∧ Below w.heap.size w w') :
    EntryOk P ⟨f, 0, .cons .str .nil, .tup (.cons (.int .i64) (.cons .bool .nil)), readDecF lim⟩ := by
  refine ⟨rfl, rfl, fun x r hx w args Sx F B hrep hnd hmine hF hB hgb hge => .inl ⟨f, args, enter_run hf hb args w, ?_⟩⟩
  obtain ⟨s, u⟩ := x
  obtain ⟨v1, vs1, S1, S2, ha, rfl, hs, h2⟩ := hrep
  obtain ⟨rfl, rfl⟩ := h2
  obtain ⟨h4, rfl⟩ := hs
  simp only [List.cons.injEq, and_true] at h4
  subst h4
  have hargs : args = #[.string s] := by
    rw [← Array.toList_inj, ha]
  rw [ha]
  subst hargs
  have hx' : readDecF lim (s, u) = some r := hx
  unfold readDecF at hx'
  split at hx'
  case isFalse => cases hx'
  rename_i c1
  dsimp only at c1
  injection hx' with hx'
  subst hx'
  refine (h s w hge c1).mono ?_
  rintro e' w' ⟨rfl, hbel⟩
  exact ⟨_, rfl, F, [], [], ⟨hbel.os, hbel.tape, hbel.output, hbel.size, fun b hb _ => hbel.block b hb, fun _ h => h, fun _ h => .inl h, fun b hb => Nat.lt_of_lt_of_le (hF b hb) hbel.size, ⟨_, rfl, _, _, [], [], rfl, rfl, ⟨rfl, rfl⟩, _, _, [], [], rfl, rfl, ⟨rfl, rfl⟩, rfl, rfl⟩,
    ⟨_, _, [], [], rfl, rfl, rfl, rfl⟩, by simp, fun c hc => by simp at hc⟩⟩
end
omit [Names] in
theorem tabIs_third' {P : Program} {W : World} {n1 n2 name : String} {d1 d2 : DataW Unit} {k : IntKind} {zs : List Int} {g : Nat} {t e : TypeId} {n : Nat} {rest : List (String × DataW Unit)}
    (hg : P.globalNamed name = some g) (hty : (P.globals[g]?).map (·.type) = some t) (ht : P.underlying t = some (.array n e)) (he : P.underlying e = some (.int k)) (hce : P.cellsOf e = 1) (hct : P.cellsOf t = n)
    (h : laidMet P ((n1, d1) :: (n2, d2) :: (name, Lib.tabData k zs) :: rest) W) : Lib.TabIs P W name k zs := by
  obtain ⟨ps, ⟨g0, t0, cs0, f0, p0, q0, hg0, ht0, hv0, hd0, ⟨g1, t1, cs1, f1, p1, q1, hg1, ht1, hv1, hd1, ⟨g2, t2, cs2, f2, p2, q2, hg2, ht2, hvar, hd, _, _⟩, _⟩, _⟩, _⟩ := h
  obtain rfl := Option.some.inj (hg.symm.trans hg2)
  obtain rfl := Option.some.inj (hty.symm.trans ht2)
  unfold Lib.TabIs
  rw [hvar, ← Lib.cells_of_tab ht he hce hct hd]
omit [Names] in
theorem laid_iface {P : Program} {W : World} {n nm : String} {d : DataW Unit} {r : List (String × DataW Unit)} {g : Nat} {ti : TypeId} {ms : Array (String × TypeId)} (h : laidMet P ((n, .iface nm d) :: r) W)
    (hg : P.globalNamed n = some g) (ht : (P.globals[g]?).map (·.type) = some ti) (hi : P.underlying ti = some (.interface ms)) : ∃ ev, W.cell? ⟨g, 0, none⟩ = some ev ∧ (ev = .nilIface ∨ ∃ te pe, ev = .iface te pe) := by
  obtain ⟨ps, ⟨g0, t0, cs0, f0, p0, q0, hg0, ht0, hv0, hd0, _, _⟩, _, _⟩ := h
  obtain rfl := Option.some.inj (hg.symm.trans hg0)
  obtain rfl := Option.some.inj (ht.symm.trans ht0)
  obtain ⟨l0⟩ := cs0
  obtain ⟨f1, u, v, e, _, _⟩ := iface_of_trod hi hd0
  have e : l0 = [.iface u v] := e
  subst e
  exact ⟨.iface u v, by simpa using World.var?_cell hg0 hv0 0, .inr ⟨u, v, rfl⟩⟩
def ReadGen (P : Program) (b0 b1 b2 : Nat) (w : World) : Prop := Lib.TabIs P w "internal/strconv.uint64pow10" .u64 Lib.pow10Tab ∧ (∃ m, w.cell? ⟨b0, 0, none⟩ = some (.int .i64 m)) ∧
  (∃ ev, w.cell? ⟨b1, 0, none⟩ = some ev ∧ (ev = .nilIface ∨ ∃ te pe, ev = .iface te pe)) ∧ ∃ ev, w.cell? ⟨b2, 0, none⟩ = some ev ∧ (ev = .nilIface ∨ ∃ te pe, ev = .iface te pe)
def readGb (P : Program) (b0 b1 b2 : Nat) (b : Nat) : Prop := tabGb P "internal/strconv.uint64pow10" b ∨ b = b0 ∨ b = b1 ∨ b = b2
omit [Names] in
theorem cell_same {w w' : World} {b : Nat} (h : w'.heap[b]? = w.heap[b]?) : w'.cell? ⟨b, 0, none⟩ = w.cell? ⟨b, 0, none⟩ := by
  simp [World.cell?, h]
omit [Names] in
theorem readGen_keep {P : Program} {b0 b1 b2 : Nat} (w w' : World) (h : ∀ b, readGb P b0 b1 b2 b → w'.heap[b]? = w.heap[b]?) : ReadGen P b0 b1 b2 w → ReadGen P b0 b1 b2 w' := by
  rintro ⟨ht, ⟨m, hm⟩, ⟨e1, h1, k1⟩, ⟨e2, h2, k2⟩⟩
  exact ⟨tab_keep w w' (fun b hb => h b (.inl hb)) ht, ⟨m, (cell_same (h b0 (.inr (.inl rfl)))).trans hm⟩, ⟨e1, (cell_same (h b1 (.inr (.inr (.inl rfl))))).trans h1, k1⟩, ⟨e2, (cell_same (h b2 (.inr (.inr (.inr rfl))))).trans h2, k2⟩⟩
omit [Names] in
theorem readGen_lt {P : Program} {b0 b1 b2 : Nat} {w : World} (h : ReadGen P b0 b1 b2 w) : ∀ b, readGb P b0 b1 b2 b → b < w.heap.size := by
  obtain ⟨ht, ⟨m, hm⟩, ⟨e1, h1, _⟩, ⟨e2, h2, _⟩⟩ := h
  rintro b (hb | rfl | rfl | rfl)
  · exact tab_lt ht b hb
  · exact World.block_lt_of_cell? _ _ hm
  · exact World.block_lt_of_cell? _ _ h1
  · exact World.block_lt_of_cell? _ _ h2
omit [Names] in
theorem below_readGen {P : Program} {b0 b1 b2 : Nat} {w w' : World} (hb : Below w.heap.size w w') (h : ReadGen P b0 b1 b2 w) : ReadGen P b0 b1 b2 w' := readGen_keep w w' (fun b hc => hb.block b (readGen_lt h b hc)) h
theorem law_lifted_shaped {H : Type} {enc : TypeId × Value → H} {C : Checked} {os : Os} {f : Nat} {fn : Func} {s : ChangeSpec} {conds : List PathCond} {apart : Bool} {l : List Par} {G : Nat → (argsP l).den → Option (Bool × (argsP l).out)} {rb : TypeId} {laid : List (String × DataW Unit)}
    (own : ownKnob C.prog.godebug = none) (started : os.Started) (noInit : C.prog.inits.idxOf? f = none) (hfn : C.prog.funcs[f]? = some fn)
    (witness : ∃ (w : World) (tape : Tape) (i : Input), w.os = os ∧ (w.forCall tape i).Shaped C.prog ∧ i.vars = [] ∧ Input.okWide C.prog (w.forCall tape i) .any w.heap.size f i ∧
      ((s.pre enc C.prog fn conds apart (w.forCall tape i).memory i.args ∧ laidMetH C.prog laid (w.forCall tape i).memory) ∧ sizedMet enc C.prog fn (OpenSpec.ofChange s) apart (w.forCall tape i).memory i.args) ∧ ({} : Assume).holds C.prog (lone (Frame.enter C.prog f i.args .normal) [] (w.forCall tape i)))
    (he : ∀ k, EntryOk C.prog ⟨f, 0, argsP l, .bool, G k⟩) (hb : fn.body.isSome = true) (hnm : (fn.name == "runtime.NumGoroutine") = false)
    (hG : ∀ x : argsDen l, argsWf l x → ∃ k o, G k (argsX l x) = some (true, o))
    (hts : parsAre C.prog l fn.params.toList = true) (hres : fn.resultTypes = #[rb]) (hrb : C.prog.underlying rb = some .bool)
    (hl : laidOutB C.prog = true) (hrd : (fn.params.toList.all fun t => C.prog.readableRec t && Nat.blt t C.prog.types.size) = true)
    (hvars : s.vars = []) (hgen : ∀ W : World, W.ShapedOpen C.prog → laidMetH C.prog laid W → (∀ b, Names.gb b → b < W.heap.size) ∧ Names.gen W) (hs : ∀ ds : List (DataW H), ds.length = l.length → s.fn H ds = ⟨[.lit (.bool true)], ds, []⟩) :
    ReturnsInHanded {} C os f .any (fun w args => (s.pre enc C.prog fn conds apart w args ∧ laidMetH C.prog laid w) ∧ sizedMet enc C.prog fn (OpenSpec.ofChange s) apart w args) (s.post enc C.prog fn apart true false false) := by
  refine returnsInHanded_of_calls own started noInit witness ?_
  intro w0 tape i _ hsh _ hok hpre _
  obtain ⟨_, _, _, fn', hfn', _, _, _, _, hval⟩ := hok
  have e0 : fn' = fn := Option.some.inj (hfn'.symm.trans hfn)
  subst e0
  obtain ⟨⟨⟨ds, gs, before, hw, _⟩, hx⟩, _⟩ := hpre
  have hW := DataW.Whole.of_heap (w' := w0.forCall tape i) (by rfl) hw
  have hL : laidMetH C.prog laid (w0.forCall tape i) := laidMetH.of_heap (by rfl) hx
  have hgW := hgen _ hsh hL
  generalize w0.forCall tape i = W at hW hval hgW
  have hW' := hW
  obtain ⟨p, q, hA, hV, rfl, _, _⟩ := hW'
  have hlen : ds.length = l.length := (trodAll_len hA).trans (parsAre_len hts)
  rw [hvars] at hV
  have hgs : gs = [] := by
    cases gs with
    | nil => rfl
    | cons g gs => exact False.elim hV
  subst hgs
  refine (law_calls (H := H) (enc := enc) he hfn hb hnm hG hts hA (fun j t v ht hv => hval j t v (by simpa using ht) hv) hgW.1 hgW.2).mono fun e W' hh => ?_
  obtain ⟨rfl, bel⟩ := hh
  refine ChangeSpec.post_blind (v := .bool true) ?_
  refine ⟨ds, [], _, [], p, [], hW, ?_, ?_, ?_, ?_, fun h => by cases h⟩
  · rw [List.append_nil, hs ds hlen, hres]
    exact Go.ChangeShapes.trodAll_mk1 ⟨1, by simp [DataW.trod, Value.cells, hrb]⟩
  · rw [List.append_nil, hs ds hlen]
    exact below_trodAll hl bel hrd hA (fun x hx => DataW.TrodAll.lt hA x hx)
  · rw [List.append_nil, hs ds hlen, hvars]
    exact rfl
  · exact bel.frame _
end Go.Eng
end
