import Derived.Test.YtodnoiblplnpcaaRows
import Derived.Test.YtodnoiblplnpcaaFun1
import Derived.Test.YtodnoiblplnpcaaBase
import Derived.WalkKit
import Derived.ProofKit
import Derived.OpenShut
import Derived.ShutString
import Derived.ChangeOld
import Derived.Below
import Derived.SizedLaws
/- FnExactCountOf answers true for every input, and its arguments read behind the call as they did ahead of it. Conditions: none. -/
set_option linter.unusedVariables false
namespace Go.Proofs.Ytodnoiblplnpcaa
open Go Go.Eng Go.Proofs
abbrev pars_FnExactCountOf : List Par := [(false, (.list (.pair (.int .i64) (.pair (.int .i64) (.pair (.int .i64) .str))))), (true, (.pair (.int .i64) (.pair (.int .i64) .str)))]
theorem l01In_is (k : Nat) (a b c : Int) : s_l01In k (a, (b, (c, ()))) = some (decide (b ≤ a ∧ a ≤ c), ((), ((), ((), ())))) := by
  unfold s_l01In
  by_cases h : b ≤ a <;> simp [h]
theorem within_is (k : Nat) (a b c : Int) : i_within k (a, (b, (c, ()))) = some (decide (b ≤ a ∧ a ≤ c), ((), ((), ((), ())))) := l01In_is k a b c
theorem s_AddrOk_is (k : Nat) (a : Int) : s_AddrOk k (a, ()) = some (decide (0 ≤ a ∧ a ≤ 4294967295), ((), ())) := by
  unfold s_AddrOk
  rw [l01In_is]
  rfl
theorem i_AddrOk_is (k : Nat) (a : Int) : i_AddrOk k (a, ()) = some (decide (0 ≤ a ∧ a ≤ 4294967295), ((), ())) := s_AddrOk_is k a
theorem szInner_is (k : Nat) (a b : Int) (c : ByteArray) (n : Int) : ∃ m : Int, w_szInner k ((a, (b, (c, ()))), (n, ())) = some (m, ((), ((), ()))) ∧ (0 ≤ m → m = IntKind.i64.wrap (n - c.size)) := by
  unfold w_szInner
  simp only []
  split
  · exact ⟨_, rfl, fun h => absurd h (by omega)⟩
  · exact ⟨_, rfl, fun _ => rfl⟩
theorem toInner_is (k : Nat) (a b : Int) (c : ByteArray) : w_toInner k ((a, (b, (c, ()))), ()) = some ((a, (b, (c, ()))), ((), ())) := rfl
theorem eqInner_is (k : Nat) (a a' b b' : Int) (c c' : ByteArray) : w_eqInner k ((a, (b, (c, ()))), ((a', (b', (c', ()))), ())) = some (decide (a = a' ∧ b = b' ∧ c = c'), ((), ((), ()))) := by
  unfold w_eqInner
  by_cases h : a = a' <;> by_cases h1 : b = b' <;> by_cases h2 : c = c' <;> simp [h, h1, h2]
theorem szInner_le (k : Nat) (x) (n : Int) (h : 0 ≤ n ∧ n ≤ 1048576) (hn : x.2.1 = n) (hs : x.1.2.2.1.size ≤ 9223372036854775807) : ∃ m : Int, w_szInner k x = some (m, ((), ((), ()))) ∧ (0 ≤ m → m ≤ n) := by
  unfold w_szInner
  have e : wi64 (x.2.1 - (ByteArray.size x.1.2.2.1 : Int)) = x.2.1 - (ByteArray.size x.1.2.2.1 : Int) := w64_id _ (by omega)
  rw [e]
  split
  · exact ⟨_, rfl, fun h => by omega⟩
  · exact ⟨_, rfl, fun _ => by omega⟩
theorem szCarried_le (k : Nat) (x) (n : Int) (h : 0 ≤ n ∧ n ≤ 1048576) (hn : x.2.1 = n) (hs : x.1.2.2.2.1.size ≤ 9223372036854775807) : ∃ m : Int, w_szCarried k x = some (m, ((), ((), ()))) ∧ (0 ≤ m → m ≤ n) := by
  unfold w_szCarried
  obtain ⟨m, h1, h2⟩ := szInner_le k ((x.1.2.1, (x.1.2.2.1, (x.1.2.2.2.1, ()))), (x.2.1, ())) n h hn hs
  simp only [h1, Option.bind_some]
  split
  · exact ⟨_, rfl, fun h => by omega⟩
  · exact ⟨_, rfl, h2⟩
abbrev CarriedT : Ty := .pair (.int .i64) (.pair (.int .i64) (.pair (.int .i64) .str))
theorem szCarriedS_le (k : Nat) (a : List CarriedT.den) (n : Int) (h : 0 ≤ n ∧ n ≤ 1048576) (hk : 1048576 < k) (hl : a.length ≤ 9223372036854775807) (hs : ∀ x ∈ a, x.2.2.2.size ≤ 9223372036854775807) :
    ∃ m : Int, w_szCarriedS k (a, (n, ())) = some (m, ((), ((), ()))) ∧ (0 ≤ m → m ≤ n ∧ a.length ≤ 1048576) := by
  unfold w_szCarriedS
  have e : wi64 (n - (List.length a : Int)) = n - (List.length a : Int) := w64_id _ (by omega)
  simp only [e]
  by_cases hc : n - (List.length a : Int) < 0
  · simp only [hc, decide_true, if_true]
    exact ⟨_, rfl, fun h => by omega⟩
  · simp only [hc, decide_false]
    refine (loop_sz (t := CarriedT) a (fun m => (m, ((), ((), ())))) (fun _ => True) ?_ ?_ (n - a.length) (by omega) (by omega) k (by omega)).imp fun m hm => ⟨hm.1, fun h0 => ⟨by have := (hm.2 h0).1; omega, by omega⟩⟩
    · intro again n' i hn0 hn1 hi hl'
      obtain ⟨m, e1, e2⟩ := szCarried_le k (((Ty.rd (t := CarriedT) a i).1, ((Ty.rd (t := CarriedT) a i).2.1, ((Ty.rd (t := CarriedT) a i).2.2.1, ((Ty.rd (t := CarriedT) a i).2.2.2, ())))), (n', ())) n' ⟨hn0, hn1⟩ rfl (by
        rw [rd_get a i (by omega)]
        exact hs _ (List.getElem_mem _))
      refine ⟨m, fun hm => ⟨e2 hm, trivial⟩, ?_⟩
      have w : wi64 (i + 1) = i + 1 := w64_id _ (by omega)
      simp only [hl', hi, e1, w, decide_true, and_self, if_true, Option.bind_some, decide_eq_true_eq]
    · intro again n' i hi
      have : ¬ i < (a.length : Int) := by omega
      simp [this]
theorem toCarriedS_is (k : Nat) (a : List CarriedT.den) (hk : 1048576 < k) (hl : a.length ≤ 1048576) : w_toCarriedS k (a, ()) = some (a, ((), ())) := by
  unfold w_toCarriedS
  have hcap : (capMax : Int) = 274877906944 := rfl
  simp only [if_true]
  rw [if_pos (by omega)]
  refine loop_to (t := CarriedT) a (fun out => (out, ((), ()))) ?_ ?_ _ (by simp) k (by omega)
  · intro again out i hi hl' ho
    have w : wi64 (i + 1) = i + 1 := w64_id _ (by omega)
    have e : ∀ y, w_toCarried k (y, ()) = some (y, ((), ())) := fun y => rfl
    simp only [hl', hi, ho, e, w, decide_true, and_self, if_true, Option.bind_some]
  · intro again out i hi
    have : ¬ i < (a.length : Int) := by omega
    simp [this]
theorem eqCarried_is (k : Nat) (p a b p' a' b' : Int) (c c' : ByteArray) : w_eqCarried k ((p, (a, (b, (c, ())))), ((p', (a', (b', (c', ())))), ())) = some (decide ((p, a, b, c) = (p', a', b', c')), ((), ((), ()))) := by
  unfold w_eqCarried
  simp only [eqInner_is, Option.bind_some]
  by_cases h0 : p = p' <;> by_cases h : a = a' <;> by_cases h1 : b = b' <;> by_cases h2 : c = c' <;> simp [h0, h, h1, h2]
instance : DecidableEq CarriedT.den := inferInstanceAs (DecidableEq (Int × Int × Int × ByteArray))
theorem eqCarriedS_is (k : Nat) (a b : List CarriedT.den) (hk : 1048576 < k) (hl : a.length ≤ 1048576) : w_eqCarriedS k (a, (b, ())) = some (decide (a = b), ((), ((), ()))) := by
  unfold w_eqCarriedS
  by_cases hab : a.length = b.length
  · simp only [hab, decide_true, Bool.not_true]
    refine (loop_eq (t := CarriedT) (R := Bool × Unit × Unit × Unit) a b hab (false, ((), ((), ()))) (true, ((), ((), ()))) ?_ ?_ k (by omega)).trans ?_
    · intro again i hi hl'
      have w : wi64 (i + 1) = i + 1 := w64_id _ (by omega)
      have hlb : i < (b.length : Int) := by omega
      simp only [hl', hi, hlb, eqCarried_is, w, decide_true, and_self, if_true, Option.bind_some]
      by_cases e : Ty.rd (t := CarriedT) a i = Ty.rd (t := CarriedT) b i
      · simp [e]
      · have e' : ¬ ((Ty.rd (t := CarriedT) a i).1, (Ty.rd (t := CarriedT) a i).2.1, (Ty.rd (t := CarriedT) a i).2.2.1, (Ty.rd (t := CarriedT) a i).2.2.2) = ((Ty.rd (t := CarriedT) b i).1, (Ty.rd (t := CarriedT) b i).2.1, (Ty.rd (t := CarriedT) b i).2.2.1, (Ty.rd (t := CarriedT) b i).2.2.2) := e
        simp only [e, decide_false, if_false, Bool.not_false, if_true]
    · intro again i hi
      have : ¬ i < (a.length : Int) := by omega
      simp only [this, decide_false]
      rfl
    · by_cases e : a = b <;> simp [e]
  · have : ¬ ((a.length : Int) = (b.length : Int)) := by omega
    have h2 : a ≠ b := fun h => hab (by rw [h])
    simp [this, h2]
def same (x : Int × Int × ByteArray × Unit) (y : CarriedT.den) : Bool := (decide (y.2.1 = x.1) && (decide (y.2.2.1 = x.2.1) && decide (y.2.2.2 = x.2.2.1)))
theorem countP_drop {α : Type} (p : α → Bool) (a : List α) (i : Nat) (h : i < a.length) : (a.drop i).countP p = (a.drop (i + 1)).countP p + (if p a[i] then 1 else 0) := by
  rw [List.drop_eq_getElem_cons h, List.countP_cons]
theorem s_CountOf_is (k : Nat) (a : List CarriedT.den) (x : Int × Int × ByteArray × Unit) (hk : 1048576 < k) (hl : a.length ≤ 1048576) : s_CountOf k (a, (x, ())) = some (((a.countP (same x) : Nat) : Int), ((), ((), ()))) := by
  unfold s_CountOf
  rw [whileK_run (fun y => y.1.length - y.2.2.2.1.toNat) (fun y => y.1 = a ∧ y.2.1 = x ∧ 0 ≤ y.2.2.2.1 ∧ y.2.2.2.1 ≤ (a.length : Int) ∧ 0 ≤ y.2.2.1 ∧ y.2.2.1 ≤ y.2.2.2.1) (fun y => (y.2.2.1 + (((a.drop y.2.2.2.1.toNat).countP (same x) : Nat) : Int), ((), ((), ())))) ?_ k]
  · simp
  · exact ⟨rfl, rfl, by simp, by simp, by simp, by simp⟩
  · simp only; omega
  · rintro ⟨a', x', n, i, u⟩ ⟨h1, h2, h3, h4, h5, h6⟩ again hg
    simp only at h1 h2 h3 h4 h5 h6
    subst h1 h2
    by_cases hi : i < (a'.length : Int)
    · have w : wi64 (i + 1) = i + 1 := w64_id _ (by omega)
      have w' : wi64 (n + 1) = n + 1 := w64_id _ (by omega)
      have e : (i + 1).toNat = i.toNat + 1 := by omega
      have g1 := hg (a', (x', (n + 1, (i + 1, ())))) ⟨rfl, rfl, by simp only; omega, by simp only; omega, by simp only; omega, by simp only; omega⟩ (by simp only; omega)
      have g2 := hg (a', (x', (n, (i + 1, ())))) ⟨rfl, rfl, by simp only; omega, by simp only; omega, by simp only; omega, by simp only; omega⟩ (by simp only; omega)
      simp only [hi, h3, w, w', decide_true, and_self, if_true]
      rw [countP_drop _ _ _ (by omega : i.toNat < a'.length)]
      have r := rd_get (t := CarriedT) a' i (by omega)
      by_cases hc : same x' (Ty.rd (t := CarriedT) a' i) = true
      · have hc' := hc
        unfold same at hc'
        rw [if_pos hc']
        rw [r] at hc
        refine g1.trans ?_
        simp only [e, hc, if_true]
        congr 2
        omega
      · have hc' := hc
        unfold same at hc'
        rw [if_neg hc']
        rw [r] at hc
        refine g2.trans ?_
        simp only [e, hc]
        rfl
    · have : i = (a'.length : Int) := by omega
      subst this
      simp
theorem i_CountOf_is (k : Nat) (a : List CarriedT.den) (x : Int × Int × ByteArray × Unit) (hk : 1048576 < k) (hl : a.length ≤ 1048576) : i_CountOf k (a, (x, ())) = some (((a.countP (same x) : Nat) : Int), ((), ((), ()))) := by
  unfold i_CountOf
  rw [whileK_run (fun y => a.length - y.2.2.2.2.1.toNat) (fun y => y.2.2.1 = a ∧ y.1 = x ∧ y.2.2.2.1 = (a.length : Int) ∧ 0 ≤ y.2.2.2.2.1 ∧ y.2.2.2.2.1 ≤ (a.length : Int) ∧ 0 ≤ y.2.1 ∧ y.2.1 ≤ y.2.2.2.2.1) (fun y => (y.2.1 + (((a.drop y.2.2.2.2.1.toNat).countP (same x) : Nat) : Int), ((), ((), ())))) ?_ k]
  · simp
  · exact ⟨rfl, rfl, rfl, by simp, by simp, by simp, by simp⟩
  · simp only; omega
  · rintro ⟨x', n, a', l, i, u⟩ ⟨h1, h2, h0, h3, h4, h5, h6⟩ again hg
    simp only at h1 h2 h3 h4 h5 h6 h0
    subst h1 h2 h0
    by_cases hi : i < (a'.length : Int)
    · have w : wi64 (i + 1) = i + 1 := w64_id _ (by omega)
      have w' : wi64 (n + 1) = n + 1 := w64_id _ (by omega)
      have e : (i + 1).toNat = i.toNat + 1 := by omega
      have g1 := hg (x', (n + 1, (a', ((a'.length : Int), (i + 1, ()))))) ⟨rfl, rfl, rfl, by simp only; omega, by simp only; omega, by simp only; omega, by simp only; omega⟩ (by simp only; omega)
      have g2 := hg (x', (n, (a', ((a'.length : Int), (i + 1, ()))))) ⟨rfl, rfl, rfl, by simp only; omega, by simp only; omega, by simp only; omega, by simp only; omega⟩ (by simp only; omega)
      simp only [hi, h3, w, w', decide_true, and_self, if_true]
      rw [countP_drop _ _ _ (by omega : i.toNat < a'.length)]
      have r := rd_get (t := CarriedT) a' i (by omega)
      by_cases hc : same x' (Ty.rd (t := CarriedT) a' i) = true
      · have hc' := hc
        unfold same at hc'
        rw [if_pos hc']
        rw [r] at hc
        refine g1.trans ?_
        simp only [e, hc, if_true]
        congr 2
        omega
      · have hc' := hc
        unfold same at hc'
        rw [if_neg hc']
        rw [r] at hc
        refine g2.trans ?_
        simp only [e, hc]
        rfl
    · have : i = (a'.length : Int) := by omega
      subst this
      simp
theorem pure_FnExactCountOf (x : argsDen pars_FnExactCountOf) (hx : argsWf pars_FnExactCountOf x) : ∃ k o, w_FnExactCountOf k (argsX pars_FnExactCountOf x) = some (true, o) := by
  obtain ⟨a, ⟨p, q, c⟩, u⟩ := x
  obtain ⟨⟨ha, hb⟩, ⟨_, _, hc⟩, _⟩ := hx
  have ha : a.length ≤ 9223372036854775807 := ha
  have hc : c.size ≤ 9223372036854775807 := hc
  have hb' : ∀ x ∈ a, x.2.2.2.size ≤ 9223372036854775807 := fun x hx => (hb x hx).2.2.2
  refine ⟨1048577, ((), ((), ())), ?_⟩
  show w_FnExactCountOf 1048577 (a, ((p, (q, (c, ()))), ())) = _
  unfold w_FnExactCountOf
  obtain ⟨m, h1, h2⟩ := szCarriedS_le 1048577 a 1048576 (by omega) (by omega) ha hb'
  simp only [h1, Option.bind_some]
  by_cases hm : m < 0
  · simp [hm]
  · obtain ⟨g1, g2⟩ := h2 (by omega)
    obtain ⟨m', h3, _⟩ := szInner_le 1048577 ((p, (q, (c, ()))), (m, ())) m ⟨by omega, by omega⟩ rfl hc
    simp only [hm, decide_false, h3, Option.bind_some]
    by_cases hm' : m' < 0
    · simp [hm']
    · simp only [hm', decide_false, toCarriedS_is 1048577 a (by decide) g2, toInner_is, s_CountOf_is 1048577 a _ (by decide) g2, i_CountOf_is 1048577 a _ (by decide) g2, eqCarriedS_is 1048577 a a (by decide) g2, Option.bind_some]
      simp
open Go.ChangeShapes Go.WideShapes Go.ChangeAt Go.RowKit
theorem own_FnExactCountOf : ownKnob Try.prog.godebug = none := by kernel_rfl
theorem lifted_FnExactCountOf (os : Os) (started : os.Started) (H : Type) (enc : TypeId × Value → H) :
    ReturnsInHanded {} Try.checked os 9 .any (Rows.fnExactCountOfSpec.pre6 enc Try.prog Try.f9 Rows.fnExactCountOfRow.domain false) (Rows.fnExactCountOfSpec.post enc Try.prog Try.f9 false true false false) :=
  law_lifted (C := Try.checked) (l := pars_FnExactCountOf) (rb := 4) own_FnExactCountOf started (by kernel_rfl) Try.func9
    (ChangeSpec.witness6 (enc := enc) (C := Try.checked) false ⟨#[], #[.slice none 0 0, .agg #[.int .i64 0, .int .i64 0, .string ByteArray.empty]], []⟩ 8 (by kernel_rfl) (by kernel_rfl) (by kernel_rfl) (by kernel_rfl))
    e_w_FnExactCountOf rfl (by decide) pure_FnExactCountOf (by kernel_rfl) rfl Try.underlying4 (by kernel_rfl) (by kernel_rfl) rfl
    (fun ds h => match ds, h with | [_, _], _ => rfl)
theorem fnExactCountOf_holds : Rows.FnExactCountOfSaid :=
  OpenClaim.holds_of_wide 9 Try.f9 rfl rfl rfl rfl rfl rfl rfl ⟨rfl, rfl, rfl, rfl, rfl⟩ rfl rfl rfl rfl rfl (by kernel_rfl) Try.func9 (by kernel_rfl) (of_decide_eq_true (by kernel_rfl))
    (by unfold Func.isWrapper; first | (rw [if_pos (by decide +kernel)]; kernel_rfl) | (rw [if_neg (by decide +kernel)]; exact ⟨rfl, rfl⟩)) (fun os started H enc _ => lifted_FnExactCountOf os started H enc)
#print axioms fnExactCountOf_holds
end Go.Proofs.Ytodnoiblplnpcaa
