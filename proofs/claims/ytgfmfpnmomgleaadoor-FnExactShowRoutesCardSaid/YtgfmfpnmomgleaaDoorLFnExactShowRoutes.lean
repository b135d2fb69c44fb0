import Derived.Test.YtgfmfpnmomgleaaDoorRows
import Derived.Test.YtgfmfpnmomgleaaDoorTie
import Derived.Test.YtgfmfpnmomgleaaDoorCards
import Derived.Test.YtgfmfpnmomgleaaDoorFun1
import Derived.Test.YtgfmfpnmomgleaaDoorBase
import Derived.Test.YtgfmfpnmomgleaaDoorFacts
import Derived.WalkKit
import Derived.ProofKit
import Derived.OpenShut
import Derived.ShutString
import Derived.ChangeOld
import Derived.Below
import Derived.SizedLaws
/- FnExactShowRoutes answers true for every input, and its arguments read behind the call as they did ahead of it. Conditions: none. -/
set_option linter.unusedVariables false
set_option linter.unusedSimpArgs false
namespace Go.Proofs.YtgfmfpnmomgleaaDoor
open Go Go.Eng Go.Proofs
abbrev pars_FnExactShowRoutes : List Par := [(false, (.list (.pair (.pair (.int .i64) (.int .i64)) (.int .i64))))]
theorem l01In_is (k : Nat) (a b c : Int) : s_l01In k (a, (b, (c, ()))) = some (decide (b ≤ a ∧ a ≤ c), ((), ((), ((), ())))) := by
  unfold s_l01In
  by_cases h : b ≤ a <;> simp [h]
theorem within_is (k : Nat) (a b c : Int) : i_within k (a, (b, (c, ()))) = some (decide (b ≤ a ∧ a ≤ c), ((), ((), ((), ())))) := l01In_is k a b c
theorem s_AddrOk_is (k : Nat) (a : Int) : s_AddrOk k (a, ()) = some (decide (0 ≤ a ∧ a ≤ 4294967295), ((), ())) := by
  unfold s_AddrOk
  rw [l01In_is]
  rfl
theorem i_AddrOk_is (k : Nat) (a : Int) : i_AddrOk k (a, ()) = some (decide (0 ≤ a ∧ a ≤ 4294967295), ((), ())) := s_AddrOk_is k a
theorem pow_cast (n : Nat) : ((2 ^ n : Nat) : Int) = (2 : Int) ^ n := by simp
theorem l08Size_is (k : Nat) (n : Int) (h : 0 ≤ n ∧ n ≤ 32) (hk : 40 < k) : s_l08Size k (n, ()) = some ((2 : Int) ^ (32 - n.toNat), ((), ())) := by
  unfold s_l08Size
  rw [whileK_run (fun y => 32 - y.2.1.toNat) (fun y => 0 ≤ y.2.1 ∧ y.2.1 ≤ 32 ∧ 0 ≤ y.1 ∧ y.1 * 2 ^ (32 - y.2.1.toNat) ≤ 4294967296) (fun y => (y.1 * 2 ^ (32 - y.2.1.toNat), ((), ()))) ?_ k]
  · simp
  · refine ⟨h.1, h.2, by simp, ?_⟩
    show (1 : Int) * 2 ^ (32 - n.toNat) ≤ 4294967296
    have : (2 : Nat) ^ (32 - n.toNat) ≤ 2 ^ 32 := Nat.pow_le_pow_right (by decide) (by omega)
    have : ((2 ^ (32 - n.toNat) : Nat) : Int) ≤ ((2 ^ 32 : Nat) : Int) := Int.ofNat_le.2 this
    rw [Int.one_mul, ← pow_cast]
    exact this
  · show 32 - n.toNat < k
    omega
  · rintro ⟨a, i, u⟩ ⟨h1, h2, h3, h4⟩ again hg
    simp only at h1 h2 h3 h4
    by_cases hi : i < 32
    · have e : 32 - i.toNat = (32 - (i + 1).toNat) + 1 := by omega
      rw [e, Int.pow_succ] at h4
      have hp : (1 : Int) ≤ 2 ^ (32 - (i + 1).toNat) := by
        have : 0 < (2 : Nat) ^ (32 - (i + 1).toNat) := Nat.two_pow_pos _
        rw [← pow_cast]
        omega
      have ha : a ≤ a * 2 ^ (32 - (i + 1).toNat) := by
        have := Int.mul_le_mul_of_nonneg_left hp h3
        omega
      have h4' : a * 2 ^ (32 - (i + 1).toNat) * 2 ≤ 4294967296 := by rw [Int.mul_assoc]; exact h4
      have w1 : wi64 (2 * a) = 2 * a := w64_id _ (by omega)
      have w2 : wi64 (i + 1) = i + 1 := w64_id _ (by omega)
      have := hg (2 * a, (i + 1, ())) ⟨by simp only; omega, by simp only; omega, by simp only; omega, by
        show 2 * a * 2 ^ (32 - (i + 1).toNat) ≤ _
        rw [Int.mul_assoc, Int.mul_comm]
        exact h4'⟩ (by simp only; omega)
      simp only [hi, decide_true, if_true, w1, w2, this]
      rw [e, Int.pow_succ]
      congr 2
      rw [Int.mul_comm 2 a, Int.mul_assoc, Int.mul_comm 2]
    · have : i = 32 := by omega
      subst this
      simp
theorem lastBits_is (k : Nat) (n : Int) (h : 0 ≤ n ∧ n ≤ 32) : i_lastBits k (n, ()) = some ((2 : Int) ^ (32 - n.toNat) - 1, ((), ())) := by
  unfold i_lastBits
  have w : wi64 (32 - n) = 32 - n := w64_id _ (by omega)
  have hp : (2 : Nat) ^ (32 - n.toNat) ≤ 2 ^ 32 := Nat.pow_le_pow_right (by decide) (by omega)
  have hp : ((2 ^ (32 - n.toNat) : Nat) : Int) ≤ ((2 ^ 32 : Nat) : Int) := Int.ofNat_le.2 hp
  have h32 : ((2 ^ 32 : Nat) : Int) = 4294967296 := rfl
  have h0 : 0 < (2 : Nat) ^ (32 - n.toNat) := Nat.two_pow_pos _
  have h0 : (1 : Int) ≤ ((2 ^ (32 - n.toNat) : Nat) : Int) := by omega
  have e : (min (Int.toNat (32 - n)) (IntKind.bits .i64)) = 32 - n.toNat := by show min (Int.toNat (32 - n)) 64 = _; omega
  rw [pow_cast] at hp h0
  simp only [w, e]
  rw [if_neg (by omega), Int.one_mul]
  have w2 : wi64 ((2 : Int) ^ (32 - n.toNat)) = (2 : Int) ^ (32 - n.toNat) := w64_id _ (by omega)
  rw [w2]
  have w3 : wi64 ((2 : Int) ^ (32 - n.toNat) - 1) = (2 : Int) ^ (32 - n.toNat) - 1 := w64_id _ (by omega)
  rw [w3]
theorem s_PrefixOk_is (k : Nat) (a n : Int) (hk : 40 < k) : s_PrefixOk k ((a, (n, ())), ()) = some (decide ((0 ≤ a ∧ a ≤ 4294967295) ∧ (0 ≤ n ∧ n ≤ 32) ∧ a % 2 ^ (32 - n.toNat) = 0), ((), ())) := by
  unfold s_PrefixOk
  simp only [s_AddrOk_is, l01In_is, Option.bind_some]
  by_cases h : 0 ≤ a ∧ a ≤ 4294967295
  · by_cases h' : 0 ≤ n ∧ n ≤ 32
    · simp only [l08Size_is k n h' hk, Option.bind_some]
      have h0 : ¬ (2 : Int) ^ (32 - n.toNat) = 0 := by
        have h0 : 0 < (2 : Nat) ^ (32 - n.toNat) := Nat.two_pow_pos _
        rw [← pow_cast]
        omega
      rw [if_neg h0, Int.tmod_eq_emod_of_nonneg h.1]
      simp [h, h']
    · simp [h, h']
  · simp [h]
theorem i_PrefixOk_is (k : Nat) (a n : Int) : i_PrefixOk k ((a, (n, ())), ()) = some (decide ((0 ≤ a ∧ a ≤ 4294967295) ∧ (0 ≤ n ∧ n ≤ 32) ∧ a % 2 ^ (32 - n.toNat) = 0), ((), ())) := by
  unfold i_PrefixOk
  simp only [i_AddrOk_is, within_is, Option.bind_some]
  by_cases h : 0 ≤ a ∧ a ≤ 4294967295
  · by_cases h' : 0 ≤ n ∧ n ≤ 32
    · simp only [lastBits_is k n h', Option.bind_some]
      rw [and_mask _ (by omega) a h.1 (by omega)]
      simp [h, h']
    · simp [h, h']
  · simp [h]
abbrev RT_Route : Ty := (.pair (.pair (.int .i64) (.int .i64)) (.int .i64))
def ag_Route (r : RT_Route.den) : Int × Int × Int × Unit := (r.1.1, (r.1.2, (r.2, ())))
theorem ag_Route_inj (r r' : RT_Route.den) : (ag_Route r = ag_Route r') ↔ r = r' := by
  constructor
  · intro h
    obtain ⟨⟨x0, x1⟩, x2⟩ := r
    obtain ⟨⟨y0, y1⟩, y2⟩ := r'
    simp only [ag_Route, Prod.mk.injEq, and_true] at h
    simp only [Prod.mk.injEq]
    simp_all
  · intro h
    rw [h]
def Wf_Route (x : Int × Int × Int × Unit) : Prop := True
def Bd_Route (x : Int × Int × Int × Unit) : Prop := True
def Wf_RouteS (a : List ((Int × Int) × Int)) : Prop := a.length ≤ 9223372036854775807 ∧ ∀ r ∈ a, Wf_Route (ag_Route r)
def Bd_RouteS (a : List ((Int × Int) × Int)) : Prop := a.length ≤ 1048576 ∧ ∀ r ∈ a, Bd_Route (ag_Route r)
theorem szRouteS_le (k : Nat) (a : List ((Int × Int) × Int)) (n : Int) (h : 0 ≤ n ∧ n ≤ 1048576) (hk : 1048576 < k) (hw : Wf_RouteS a) : ∃ m : Int, w_szRouteS k (a, (n, ())) = some (m, ((), ((), ()))) ∧ (0 ≤ m → m ≤ n ∧ Bd_RouteS a) := by
  unfold w_szRouteS
  have hl : a.length ≤ 9223372036854775807 := hw.1
  have e : wi64 (n - (List.length a : Int)) = n - (List.length a : Int) := w64_id _ (by omega)
  simp only [e]
  by_cases hc : n - (List.length a : Int) < 0
  · simp only [hc, decide_true, if_true]
    exact ⟨_, rfl, fun h => by omega⟩
  · simp only [hc, decide_false, Bool.false_eq_true, if_false]
    exact ⟨_, rfl, fun _ => ⟨by omega, ⟨by omega, fun r _ => by unfold Bd_Route; simp⟩⟩⟩
def Bd_Prefix (x : Int × Int × Unit) : Prop := True
theorem toPrefix_is (k : Nat) (x : Int × Int × Unit) (hk : 1048576 < k) (hb : Bd_Prefix x) : w_toPrefix k (x, ()) = some (x, ((), ())) := by
  obtain ⟨a0, a1, u⟩ := x
  unfold w_toPrefix
  rfl
theorem toRoute_is (k : Nat) (x : Int × Int × Int × Unit) (hk : 1048576 < k) (hb : Bd_Route x) : w_toRoute k (x, ()) = some (x, ((), ())) := by
  obtain ⟨a0, a1, a2, u⟩ := x
  unfold w_toRoute
  simp only [toPrefix_is k (a0, (a1, ())) hk trivial, Option.bind_some]
theorem toRouteS_is (k : Nat) (a : List ((Int × Int) × Int)) (hk : 1048576 < k) (hb : Bd_RouteS a) : w_toRouteS k (a, ()) = some (a, ((), ())) := by
  unfold w_toRouteS
  have hl : a.length ≤ 1048576 := hb.1
  have hcap : (capMax : Int) = 274877906944 := rfl
  simp only [if_true]
  rw [if_pos (by omega)]
  refine loop_to (t := (.pair (.pair (.int .i64) (.int .i64)) (.int .i64))) a (fun out => (out, ((), ()))) ?_ ?_ _ (by simp) k (by omega)
  · intro again out i hi hl' ho
    have w : wi64 (i + 1) = i + 1 := w64_id _ (by omega)
    have hr := rd_get (t := (.pair (.pair (.int .i64) (.int .i64)) (.int .i64))) a i (by omega)
    have e := toRoute_is k (ag_Route (Ty.rd (t := (.pair (.pair (.int .i64) (.int .i64)) (.int .i64))) a i)) hk (by rw [hr]; exact hb.2 _ (List.getElem_mem _))
    simp only [ag_Route] at e
    simp only [hl', hi, ho, e, w, decide_true, and_self, if_true, Option.bind_some]
  · intro again out i hi
    have : ¬ i < (a.length : Int) := by omega
    simp [this]
theorem eqPrefix_is (k : Nat) (x y : Int × Int × Unit) (hk : 1048576 < k) (hb : Bd_Prefix x) : w_eqPrefix k (x, (y, ())) = some (dq x y, ((), ((), ()))) := by
  obtain ⟨a0, a1, u⟩ := x
  obtain ⟨b0, b1, u'⟩ := y
  unfold w_eqPrefix
  by_cases h0 : a0 = b0
  rotate_left
  · have hn : (a0, (a1, ())) ≠ (b0, (b1, ())) := fun h => h0 (by simp only [Prod.mk.injEq] at h; simp_all)
    rw [dq_false hn]
    simp [h0]
  subst h0
  by_cases h1 : a1 = b1
  rotate_left
  · have hn : (a0, (a1, ())) ≠ (a0, (b1, ())) := fun h => h1 (by simp only [Prod.mk.injEq] at h; simp_all)
    rw [dq_false hn]
    simp [h1]
  subst h1
  simp [dq_self]
theorem eqRoute_is (k : Nat) (x y : Int × Int × Int × Unit) (hk : 1048576 < k) (hb : Bd_Route x) : w_eqRoute k (x, (y, ())) = some (dq x y, ((), ((), ()))) := by
  obtain ⟨a0, a1, a2, u⟩ := x
  obtain ⟨b0, b1, b2, u'⟩ := y
  unfold w_eqRoute
  simp only [eqPrefix_is k (a0, (a1, ())) (b0, (b1, ())) hk trivial, Option.bind_some]
  by_cases h0 : (a0, (a1, ())) = (b0, (b1, ()))
  rotate_left
  · have hn : (a0, (a1, (a2, ()))) ≠ (b0, (b1, (b2, ()))) := fun h => h0 (by simp only [Prod.mk.injEq] at h; simp_all)
    rw [dq_false hn]
    simp [h0, dq_false]
  simp only [Prod.mk.injEq, and_true] at h0
  obtain ⟨rfl, rfl⟩ := h0
  by_cases h1 : a2 = b2
  rotate_left
  · have hn : (a0, (a1, (a2, ()))) ≠ (a0, (a1, (b2, ()))) := fun h => h1 (by simp only [Prod.mk.injEq] at h; simp_all)
    rw [dq_false hn]
    simp [h1]
  subst h1
  simp [dq_self]
theorem eqRouteS_is (k : Nat) (a b : List RT_Route.den) (hk : 1048576 < k) (hb : Bd_RouteS a) : w_eqRouteS k (a, (b, ())) = some (dq a b, ((), ((), ()))) := by
  unfold w_eqRouteS
  have hl : a.length ≤ 1048576 := hb.1
  by_cases hab : a.length = b.length
  · simp only [hab, decide_true, Bool.not_true]
    refine (loop_dq (t := RT_Route) (R := Bool × Unit × Unit × Unit) a b hab (false, ((), ((), ()))) (true, ((), ((), ()))) ?_ ?_ k (by omega)).trans ?_
    · intro again i hi hl'
      have w : wi64 (i + 1) = i + 1 := w64_id _ (by omega)
      have hlb : i < (b.length : Int) := by omega
      have hr := rd_get (t := RT_Route) a i (by omega)
      have e := eqRoute_is k (ag_Route (Ty.rd (t := RT_Route) a i)) (ag_Route (Ty.rd (t := RT_Route) b i)) hk (by rw [hr]; exact hb.2 _ (List.getElem_mem _))
      rw [show (dq (ag_Route (Ty.rd (t := RT_Route) a i)) (ag_Route (Ty.rd (t := RT_Route) b i))) = dq (Ty.rd (t := RT_Route) a i) (Ty.rd (t := RT_Route) b i) from dq_of (ag_Route_inj _ _)] at e
      simp only [ag_Route] at e
      simp only [hl', hi, hlb, e, w, decide_true, and_self, if_true, Option.bind_some]
      cases dq (Ty.rd (t := RT_Route) a i) (Ty.rd (t := RT_Route) b i) <;> simp
    · intro again i hi
      have : ¬ i < (a.length : Int) := by omega
      simp only [this, decide_false]
      rfl
    · cases dq a b <;> simp
  · have : ¬ ((a.length : Int) = (b.length : Int)) := by omega
    have h2 : a ≠ b := fun h => hab (by rw [h])
    simp [this, dq_false h2]
theorem wfr_Route (r : RT_Route.den) (h : RT_Route.wf r) : Wf_Route (ag_Route r) := trivial
theorem Compare_is (k : Nat) (a b : Int) : x_cmp_Compare_int k (a, (b, ())) = some ((if a < b then -1 else if b < a then 1 else 0), ((), ((), ()))) := by
  unfold x_cmp_Compare_int x_cmp_isNaN_int
  simp only [Option.bind_some, decide_true, Bool.not_true, Bool.false_eq_true, if_false]
  by_cases h : a < b
  · simp [h]
  · by_cases h' : b < a <;> simp [h, h']
theorem Or_is (k : Nat) (a b : Int) (hk : 3 < k) : x_cmp_Or_int k ([a, b], ()) = some ((if a = 0 then b else a), ((), ())) := by
  unfold x_cmp_Or_int
  have r0 : Ty.rd (t := .int .i64) [a, b] 0 = a := rfl
  have r1 : Ty.rd (t := .int .i64) [a, b] 1 = b := rfl
  refine (loop_find (R := Int × Unit × Unit) (fun j => ((0 : Int), ([a, b], ((2 : Int), (((j : Nat) : Int), ()))))) 2 (fun j => !decide (Ty.rd (t := .int .i64) [a, b] (j : Nat) = 0)) (fun j => (Ty.rd (t := .int .i64) [a, b] (j : Nat), ((), ()))) (0, ((), ())) ?_ ?_ k (by omega)).trans ?_
  · intro ag j hj
    have q1 : (0 : Int) ≤ (j : Int) ∧ (j : Int) < (([a, b] : List Int).length : Int) := by simp; omega
    have q2 : (j : Int) < 2 := by omega
    have w3 : wi64 ((j : Int) + 1) = ((j + 1 : Nat) : Int) := (w64_id _ (by omega)).trans (by omega)
    simp only [q1, q2, w3, and_self, decide_true, if_true]
  · intro ag
    simp
  · have e : List.range 2 = [0, 1] := rfl
    rw [e]
    by_cases h : a = 0
    · subst h
      by_cases h1 : b = 0
      · subst h1
        simp [Ty.rd]
      · simp [Ty.rd, h1]
    · simp [Ty.rd, h]
def aheadB (p n q m : Int) : Bool := decide (p < q) || (decide (p = q) && decide (n < m))
theorem Ahead_is (k : Nat) (p n q m : Int) : s_l09Ahead k ((p, (n, ())), ((q, (m, ())), ())) = some (aheadB p n q m, ((), ((), ()))) := by
  unfold s_l09Ahead aheadB
  by_cases h : p < q
  · simp [h]
  · by_cases h' : p = q <;> simp [h, h']
theorem comparePrefixes_is (k : Nat) (p n q m : Int) (hk : 3 < k) : ∃ c : Int, i_comparePrefixes k ((p, (n, ())), ((q, (m, ())), ())) = some (c, ((), ((), ()))) ∧ (0 ≤ c ↔ aheadB p n q m = false) := by
  unfold i_comparePrefixes aheadB
  simp only [Compare_is, Or_is k _ _ hk, Option.bind_some]
  refine ⟨_, rfl, ?_⟩
  by_cases h : p < q
  · simp [h]
  · by_cases h' : q < p
    · have : ¬ p = q := by omega
      simp [h, h', this]
    · have : p = q := by omega
      subst this
      by_cases h3 : n < m
      · simp [h3]
      · by_cases h4 : m < n <;> simp [h3, h4]
def gRoute (a : List RT_Route.den) (i : Nat) (_ : Unit) : (Bool × Unit × Unit) ⊕ Unit :=
  let r := Ty.rd (t := RT_Route) a i
  let p := Ty.rd (t := RT_Route) a (wi64 ((i : Int) - 1))
  if decide ((0 ≤ r.1.1 ∧ r.1.1 ≤ 4294967295) ∧ (0 ≤ r.1.2 ∧ r.1.2 ≤ 32) ∧ r.1.1 % 2 ^ (32 - r.1.2.toNat) = 0) && (decide (1 ≤ r.2 ∧ r.2 ≤ 99) && (!decide (0 < (i : Int)) || aheadB p.1.1 p.1.2 r.1.1 r.1.2)) then .inr () else .inl (false, ((), ()))
def routesB (a : List RT_Route.den) : Bool := (foldE (gRoute a) (fun _ => (decide ((a.length : Int) ≤ 12), ((), ()))) a.length 0 ()).1
theorem s_RoutesOk_is (k : Nat) (a : List RT_Route.den) (hk : 1048576 < k) (hl : a.length ≤ 1048576) : s_RoutesOk k (a, ()) = some (routesB a, ((), ())) := by
  unfold s_RoutesOk
  refine (loop_fold (A := Unit) (fun i _ => (a, (((i : Nat) : Int), ()))) a.length (gRoute a) (fun _ => (decide ((a.length : Int) ≤ 12), ((), ()))) (fun _ _ => True) ?_ (fun _ _ _ _ _ _ => trivial) ?_ k () trivial (by omega)).trans rfl
  · intro again i _ hi _
    have w2 : wi64 ((i : Int) + 1) = ((i + 1 : Nat) : Int) := (w64_id _ (by omega)).trans (by omega)
    have w1 : wi64 ((i : Int) - 1) = (i : Int) - 1 := w64_id _ (by omega)
    have g1 : (0 : Int) ≤ (i : Int) ∧ (i : Int) < (a.length : Int) := by omega
    unfold gRoute
    simp only [g1, s_PrefixOk_is k _ _ (by omega : 40 < k), Ahead_is, l01In_is, w2, and_self, decide_true, if_true, Option.bind_some]
    generalize decide ((0 ≤ (Ty.rd (t := RT_Route) a i).1.1 ∧ (Ty.rd (t := RT_Route) a i).1.1 ≤ 4294967295) ∧ (0 ≤ (Ty.rd (t := RT_Route) a i).1.2 ∧ (Ty.rd (t := RT_Route) a i).1.2 ≤ 32) ∧ (Ty.rd (t := RT_Route) a i).1.1 % 2 ^ (32 - (Ty.rd (t := RT_Route) a i).1.2.toNat) = 0) = b1
    generalize decide (1 ≤ (Ty.rd (t := RT_Route) a i).2 ∧ (Ty.rd (t := RT_Route) a i).2 ≤ 99) = b2
    cases b1 with
    | false => simp
    | true =>
      cases b2 with
      | false => simp
      | true =>
        by_cases h2 : 0 < (i : Int)
        · have g3 : (0 : Int) ≤ wi64 ((i : Int) - 1) ∧ wi64 ((i : Int) - 1) < (a.length : Int) := by rw [w1]; omega
          simp only [h2, g3, and_self, decide_true, Bool.not_true, if_true, Bool.true_and, Bool.false_or]
          generalize aheadB _ _ _ _ = b3
          cases b3 <;> simp
        · have : i = 0 := by omega
          subst this
          simp
  · intro again _ _
    simp
theorem isId_is (k : Nat) (a : Int) : i_isId k (a, ()) = some (decide (1 ≤ a ∧ a ≤ 99), ((), ())) := by
  unfold i_isId
  rw [within_is]
  rfl
theorem i_RoutesOk_is (k : Nat) (a : List RT_Route.den) (hk : 1048576 < k) (hl : a.length ≤ 1048576) : i_RoutesOk k (a, ()) = some (routesB a, ((), ())) := by
  unfold i_RoutesOk
  refine (loop_fold (A := Unit) (fun i _ => (a, (a, ((a.length : Int), (((i : Nat) : Int), ()))))) a.length (gRoute a) (fun _ => (decide ((a.length : Int) ≤ 12), ((), ()))) (fun _ _ => True) ?_ (fun _ _ _ _ _ _ => trivial) ?_ k () trivial (by omega)).trans rfl
  · intro again i _ hi _
    have w2 : wi64 ((i : Int) + 1) = ((i + 1 : Nat) : Int) := (w64_id _ (by omega)).trans (by omega)
    have w1 : wi64 ((i : Int) - 1) = (i : Int) - 1 := w64_id _ (by omega)
    have g1 : (0 : Int) ≤ (i : Int) ∧ (i : Int) < (a.length : Int) := by omega
    unfold gRoute
    obtain ⟨c, hc, hc'⟩ := comparePrefixes_is k (Ty.rd (t := RT_Route) a (wi64 ((i : Int) - 1))).1.1 (Ty.rd (t := RT_Route) a (wi64 ((i : Int) - 1))).1.2 (Ty.rd (t := RT_Route) a i).1.1 (Ty.rd (t := RT_Route) a i).1.2 (by omega)
    simp only [g1, i_PrefixOk_is, hc, isId_is, w2, and_self, decide_true, if_true, Option.bind_some]
    generalize decide ((0 ≤ (Ty.rd (t := RT_Route) a i).1.1 ∧ (Ty.rd (t := RT_Route) a i).1.1 ≤ 4294967295) ∧ (0 ≤ (Ty.rd (t := RT_Route) a i).1.2 ∧ (Ty.rd (t := RT_Route) a i).1.2 ≤ 32) ∧ (Ty.rd (t := RT_Route) a i).1.1 % 2 ^ (32 - (Ty.rd (t := RT_Route) a i).1.2.toNat) = 0) = b1
    generalize decide (1 ≤ (Ty.rd (t := RT_Route) a i).2 ∧ (Ty.rd (t := RT_Route) a i).2 ≤ 99) = b2
    generalize aheadB _ _ _ _ = b3 at hc'
    cases b1 with
    | false => simp
    | true =>
      cases b2 with
      | false => simp
      | true =>
        by_cases h2 : 0 < (i : Int)
        · have g3 : (0 : Int) ≤ wi64 ((i : Int) - 1) ∧ wi64 ((i : Int) - 1) < (a.length : Int) := by rw [w1]; omega
          simp only [h2, g3, and_self, decide_true, Bool.not_true, if_true, Bool.true_and, Bool.false_or]
          cases b3 with
          | false => have := hc'.2 rfl; simp [this]
          | true =>
            have : ¬ 0 ≤ c := fun h => by have := hc'.1 h; simp at this
            simp [this]
        · have : i = 0 := by omega
          subst this
          simp
  · intro again _ _
    simp
abbrev RouteR := (Int × Int) × Int
theorem foldE_all {g : Nat → Unit → (Bool × Unit × Unit) ⊕ Unit} {fin : Unit → Bool × Unit × Unit} (hg : ∀ i, g i () = .inr () ∨ ∃ o, g i () = .inl (false, o)) :
    ∀ m i, (foldE g fin m i ()).1 = true → ∀ j, i ≤ j → j < i + m → g j () = .inr () := by
  intro m
  induction m with
  | zero => intro i _ j h1 h2; omega
  | succ m ih =>
    intro i h j h1 h2
    rcases hg i with e | ⟨o, e⟩
    · by_cases hj : j = i
      · rw [hj]; exact e
      · refine ih (i + 1) ?_ j (by omega) (by omega)
        simpa [foldE, e] using h
    · simp [foldE, e] at h
theorem foldE_fin {g : Nat → Unit → (Bool × Unit × Unit) ⊕ Unit} {fin : Unit → Bool × Unit × Unit} (hg : ∀ i, g i () = .inr () ∨ ∃ o, g i () = .inl (false, o)) :
    ∀ m i, (foldE g fin m i ()).1 = true → (fin ()).1 = true := by
  intro m
  induction m with
  | zero => intro i h; simpa [foldE] using h
  | succ m ih =>
    intro i h
    rcases hg i with e | ⟨o, e⟩
    · exact ih (i + 1) (by simpa [foldE, e] using h)
    · simp [foldE, e] at h
theorem gRoute_or (a : List RouteR) : ∀ i, gRoute a i () = .inr () ∨ ∃ o, gRoute a i () = .inl (false, o) := fun i => by
  unfold gRoute
  dsimp only
  split
  · exact .inl rfl
  · exact .inr ⟨_, rfl⟩
theorem routes_len {a : List RouteR} (h : routesB a = true) : a.length ≤ 12 := by
  have := foldE_fin (gRoute_or a) a.length 0 h
  simp only [decide_eq_true_eq] at this
  omega
def dec (n : Nat) : ByteArray := ⟨(Lib.decDigits n).toArray⟩
theorem decDigits_lt {n : Nat} (h : n < 10) : Lib.decDigits n = [UInt8.ofNat (48 + n)] := by
  rw [Lib.decDigits, dif_pos h]
theorem decDigits_ge {n : Nat} (h : ¬ n < 10) : Lib.decDigits n = Lib.decDigits (n / 10) ++ [UInt8.ofNat (48 + n % 10)] := by
  rw [Lib.decDigits, dif_neg h]
theorem dec_lt {n : Nat} (h : n < 10) : dec n = strOf [48 + (n : Int)] := by
  unfold dec strOf
  rw [decDigits_lt h]
  have : (48 + (n : Int)).toNat = 48 + n := by omega
  simp [this]
theorem dec_ge {n : Nat} (h : ¬ n < 10) : dec n = dec (n / 10) ++ strOf [48 + (n : Int) % 10] := by
  unfold dec strOf
  rw [decDigits_ge h]
  have : (48 + (n : Int) % 10).toNat = 48 + n % 10 := by omega
  apply ByteArray.ext
  simp [this, ByteArray.data_append]
theorem dec_size (n : Nat) : (dec n).size ≤ n + 1 := by
  induction n using Nat.strongRecOn with
  | _ n ih =>
    by_cases h : n < 10
    · rw [dec_lt h]; simp [strOf, ByteArray.size]
    · have := ih (n / 10) (by omega)
      rw [dec_ge h, ByteArray.size_append]
      have e : (strOf [48 + (n : Int) % 10]).size = 1 := by simp [strOf, ByteArray.size]
      omega
theorem i_Decimal_is (k : Nat) (n : Int) (h : 0 ≤ n ∧ n ≤ 9223372036854775807) : i_Decimal k (n, ()) = some (dec n.toNat, ((), ())) := by
  unfold i_Decimal x_strconv_Itoa itoaF Lib.itoa dec
  have h1 : ¬ n < 0 := by omega
  have h2 : -9223372036854775808 ≤ n ∧ n ≤ 9223372036854775807 := by omega
  simp only [h1, h2, and_self, if_true, if_false, Option.bind_some]
theorem figure_is (k : Nat) (n : Int) (h : 0 ≤ n ∧ n < 10) : s_l01Figure k (n, ()) = some (48 + n, ((), ())) := by
  unfold s_l01Figure
  have w : wi64 (48 + n) = 48 + n := w64_id _ (by omega)
  have w2 : wu8 (48 + n) = 48 + n := by rw [wu8, w8_mod]; omega
  simp only [h.2, decide_true, if_true, w, w2]
theorem s_Decimal_is (k : Nat) (n : Int) (h : 0 ≤ n ∧ n ≤ 4294967295) (hk : 4294967297 < k) : s_Decimal k (n, ()) = some (dec n.toNat, ((), ())) := by
  have hmx : maxStr = 9223372036854775807 := rfl
  unfold s_Decimal
  by_cases h0 : n = 0
  · subst h0
    simp only [decide_true, if_true]
    rw [show (0 : Int).toNat = 0 from rfl, dec_lt (by omega)]
    rfl
  simp only [h0, decide_false, Bool.false_eq_true, if_false]
  have hneg : ¬ n < 0 := by omega
  refine Eq.trans (whileK_run (X := Int × Bool × ByteArray × Unit) (R := ByteArray × Unit × Unit) (fun y => y.1.toNat) (fun y => 0 ≤ y.1 ∧ y.1 ≤ 4294967295 ∧ y.2.1 = false ∧ y.2.2.1.size + y.1.toNat ≤ 4294967296)
    (fun y => ((if y.1 = 0 then y.2.2.1 else dec y.1.toNat ++ y.2.2.1), ((), ()))) ?_ k (n, (decide (n < 0), ((⟨#[]⟩ : ByteArray), ()))) ⟨h.1, h.2, by simp [hneg], by simp [ByteArray.size]; omega⟩ (by show n.toNat < k; omega)) ?_
  rotate_left
  · simp only [h0, if_false]
    have : dec n.toNat ++ (⟨#[]⟩ : ByteArray) = dec n.toNat := by apply ByteArray.ext; simp [ByteArray.data_append]
    rw [this]
  · rintro ⟨m, b, t, ⟨⟩⟩ ⟨m0, m1, hb, hs⟩ again hag
    simp only at m0 m1 hb hs hag
    subst hb
    by_cases hm : m = 0
    · simp only [hm, decide_true, Bool.not_true, Bool.false_eq_true, if_false, if_true]
    · have t1 : Int.tmod m 10 = m % 10 := Int.tmod_eq_emod_of_nonneg m0
      have t2 : wi64 (Int.tdiv m 10) = m / 10 := by rw [Int.tdiv_eq_ediv_of_nonneg m0]; exact w64_id _ (by omega)
      have t3 : ¬ m % 10 < 0 := by omega
      have f1 := figure_is k (m % 10) (by omega)
      have e1 : (strOf [48 + m % 10]).size = 1 := by simp [strOf, ByteArray.size]
      have hc : 1 + t.size ≤ maxStr := by omega
      have hg := hag (m / 10, (false, (strOf [48 + m % 10] ++ t, ()))) ⟨by show 0 ≤ m / 10; omega, by show m / 10 ≤ 4294967295; omega, rfl, by show (strOf [48 + m % 10] ++ t).size + (m / 10).toNat ≤ 4294967296; rw [ByteArray.size_append, e1]; omega⟩ (by show (m / 10).toNat < m.toNat; omega)
      simp only [hm, t1, t2, t3, f1, e1, hc, decide_false, Bool.not_false, Bool.false_eq_true, if_true, if_false, Option.bind_some]
      rw [hg]
      congr 2
      by_cases hl : m / 10 = 0
      · have : m.toNat < 10 := by omega
        simp only [hl, if_true]
        rw [dec_lt this]
        have : ((m.toNat : Nat) : Int) = m := by omega
        rw [this]
        have : m % 10 = m := by omega
        rw [this]
      · have hge : ¬ m.toNat < 10 := by omega
        simp only [hl, if_false]
        rw [dec_ge hge]
        have e2 : (m / 10).toNat = m.toNat / 10 := by omega
        have e3 : ((m.toNat : Nat) : Int) = m := by omega
        rw [e2, e3]
        apply ByteArray.ext
        simp [ByteArray.data_append]
theorem getD_some' {A : Type} {l : List A} {n : Nat} {r d : A} (h : l[n]? = some r) : l.getD n d = r := by simp [List.getD, h]
def dotS : ByteArray := ⟨#[46]⟩
def adr (a : Int) : ByteArray := dec (a / 16777216).toNat ++ dotS ++ dec (a / 65536 % 256).toNat ++ dotS ++ dec (a / 256 % 256).toNat ++ dotS ++ dec (a % 256).toNat
theorem dec_255 {n : Int} (h : 0 ≤ n ∧ n ≤ 255) : (dec n.toNat).size ≤ 256 := by have := dec_size n.toNat; omega
theorem dot_size : (⟨#[46]⟩ : ByteArray).size = 1 := rfl
theorem adr_size {a : Int} (h : 0 ≤ a ∧ a ≤ 4294967295) : (adr a).size ≤ 1100 := by
  have h1 := dec_255 (n := a / 16777216) (by omega)
  have h2 := dec_255 (n := a / 65536 % 256) (by omega)
  have h3 := dec_255 (n := a / 256 % 256) (by omega)
  have h4 := dec_255 (n := a % 256) (by omega)
  unfold adr dotS
  simp only [ByteArray.size_append, dot_size]
  omega
theorem s_AddrText_is (k : Nat) (a : Int) (h : 0 ≤ a ∧ a ≤ 4294967295) (hk : 4294967297 < k) : s_AddrText k (a, ()) = some (adr a, ((), ())) := by
  have hmx : maxStr = 9223372036854775807 := rfl
  have h1 := dec_255 (n := a / 16777216) (by omega)
  have h2 := dec_255 (n := a / 65536 % 256) (by omega)
  have h3 := dec_255 (n := a / 256 % 256) (by omega)
  have h4 := dec_255 (n := a % 256) (by omega)
  have w1 : wi64 (Int.tdiv a 16777216) = a / 16777216 := by rw [Int.tdiv_eq_ediv_of_nonneg h.1]; exact w64_id _ (by omega)
  have w2 : wi64 (Int.tdiv a 65536) = a / 65536 := by rw [Int.tdiv_eq_ediv_of_nonneg h.1]; exact w64_id _ (by omega)
  have w3 : wi64 (Int.tdiv a 256) = a / 256 := by rw [Int.tdiv_eq_ediv_of_nonneg h.1]; exact w64_id _ (by omega)
  have t2 : Int.tmod (a / 65536) 256 = a / 65536 % 256 := Int.tmod_eq_emod_of_nonneg (by omega)
  have t3 : Int.tmod (a / 256) 256 = a / 256 % 256 := Int.tmod_eq_emod_of_nonneg (by omega)
  have t4 : Int.tmod a 256 = a % 256 := Int.tmod_eq_emod_of_nonneg h.1
  have e1 := s_Decimal_is k (a / 16777216) (by omega) hk
  have e2 := s_Decimal_is k (a / 65536 % 256) (by omega) hk
  have e3 := s_Decimal_is k (a / 256 % 256) (by omega) hk
  have e4 := s_Decimal_is k (a % 256) (by omega) hk
  unfold s_AddrText s_AddrOk adr dotS
  simp only [l01In_is, h, and_self, decide_true, Bool.not_true, Bool.false_eq_true, if_false, w1, w2, w3, t2, t3, t4, e1, e2, e3, e4, Option.bind_some]
  rw [if_pos (by rw [dot_size]; omega), if_pos (by simp only [ByteArray.size_append, dot_size]; omega), if_pos (by simp only [ByteArray.size_append, dot_size]; omega), if_pos (by simp only [ByteArray.size_append, dot_size]; omega), if_pos (by simp only [ByteArray.size_append, dot_size]; omega), if_pos (by simp only [ByteArray.size_append, dot_size]; omega)]
theorem i_AddrText_is (k : Nat) (a : Int) (h : 0 ≤ a ∧ a ≤ 4294967295) : i_AddrText k (a, ()) = some (adr a, ((), ())) := by
  have hmx : maxStr = 9223372036854775807 := rfl
  have h1 := dec_255 (n := a / 16777216) (by omega)
  have h2 := dec_255 (n := a / 65536 % 256) (by omega)
  have h3 := dec_255 (n := a / 256 % 256) (by omega)
  have h4 := dec_255 (n := a % 256) (by omega)
  have p24 : (2 : Int) ^ (min (Int.toNat (24 : Int)) (IntKind.bits .i64)) = 16777216 := by decide
  have p16 : (2 : Int) ^ (min (Int.toNat (16 : Int)) (IntKind.bits .i64)) = 65536 := by decide
  have p8 : (2 : Int) ^ (min (Int.toNat (8 : Int)) (IntKind.bits .i64)) = 256 := by decide
  have m : ∀ y : Int, 0 ≤ y → y < 2 ^ 63 → bitsI .and .i64 y 255 = y % 256 := fun y h0 h1 => and_mask 8 (by decide) y h0 h1
  have f1 : Int.fdiv a 16777216 = a / 16777216 := Int.fdiv_eq_ediv_of_nonneg _ (by omega)
  have f2 : Int.fdiv a 65536 = a / 65536 := Int.fdiv_eq_ediv_of_nonneg _ (by omega)
  have f3 : Int.fdiv a 256 = a / 256 := Int.fdiv_eq_ediv_of_nonneg _ (by omega)
  have m2 := m (a / 65536) (by omega) (by omega)
  have m3 := m (a / 256) (by omega) (by omega)
  have m4 := m a (by omega) (by omega)
  have e1 := i_Decimal_is k (a / 16777216) (by omega)
  have e2 := i_Decimal_is k (a / 65536 % 256) (by omega)
  have e3 := i_Decimal_is k (a / 256 % 256) (by omega)
  have e4 := i_Decimal_is k (a % 256) (by omega)
  unfold i_AddrText i_AddrOk adr dotS
  simp only [within_is, h, and_self, decide_true, Bool.not_true, Bool.false_eq_true, if_false, p24, p16, p8, f1, f2, f3, m2, m3, m4, e1, e2, e3, e4, Option.bind_some]
  rw [if_pos (by rw [dot_size]; omega), if_pos (by simp only [ByteArray.size_append, dot_size]; omega), if_pos (by simp only [ByteArray.size_append, dot_size]; omega), if_pos (by simp only [ByteArray.size_append, dot_size]; omega), if_pos (by simp only [ByteArray.size_append, dot_size]; omega), if_pos (by simp only [ByteArray.size_append, dot_size]; omega)]
def okP (p n : Int) : Bool := decide ((0 ≤ p ∧ p ≤ 4294967295) ∧ (0 ≤ n ∧ n ≤ 32) ∧ p % 2 ^ (32 - n.toNat) = 0)
def preT (p n : Int) : ByteArray := if okP p n then adr p ++ (⟨#[47]⟩ : ByteArray) ++ dec n.toNat else ⟨#[]⟩
theorem preT_size (p n : Int) : (preT p n).size ≤ 1200 := by
  unfold preT
  split
  · rename_i h
    unfold okP at h
    simp only [decide_eq_true_eq] at h
    have h1 := adr_size h.1
    have h2 := dec_size n.toNat
    have e : (⟨#[47]⟩ : ByteArray).size = 1 := rfl
    simp only [ByteArray.size_append, e]
    omega
  · simp [ByteArray.size]
theorem s_PrefixText_is (k : Nat) (p n : Int) (hk : 4294967297 < k) : s_PrefixText k ((p, (n, ())), ()) = some ((preT p n, (okP p n, ())), ((), ())) := by
  have hmx : maxStr = 9223372036854775807 := rfl
  unfold s_PrefixText preT
  simp only [s_PrefixOk_is k p n (by omega), Option.bind_some]
  by_cases h : (0 ≤ p ∧ p ≤ 4294967295) ∧ (0 ≤ n ∧ n ≤ 32) ∧ p % 2 ^ (32 - n.toNat) = 0
  · have ho : okP p n = true := by unfold okP; simp only [h, and_self, decide_true]
    have h1 := adr_size h.1
    have h2 := dec_size n.toNat
    have e : (⟨#[47]⟩ : ByteArray).size = 1 := rfl
    have e1 := s_AddrText_is k p h.1 hk
    have e2 := s_Decimal_is k n (by omega) hk
    simp only [ho, h, and_self, decide_true, Bool.not_true, Bool.false_eq_true, if_false, if_true, e1, e2, Option.bind_some]
    rw [if_pos (by rw [e]; omega), if_pos (by simp only [ByteArray.size_append, e]; omega)]
  · have ho : okP p n = false := by unfold okP; simp only [h, decide_false]
    simp only [ho, h, decide_false, Bool.not_false, if_true, Bool.false_eq_true, if_false]
theorem i_PrefixText_is (k : Nat) (p n : Int) : i_PrefixText k ((p, (n, ())), ()) = some ((preT p n, (okP p n, ())), ((), ())) := by
  have hmx : maxStr = 9223372036854775807 := rfl
  unfold i_PrefixText preT
  simp only [i_PrefixOk_is k p n, Option.bind_some]
  by_cases h : (0 ≤ p ∧ p ≤ 4294967295) ∧ (0 ≤ n ∧ n ≤ 32) ∧ p % 2 ^ (32 - n.toNat) = 0
  · have ho : okP p n = true := by unfold okP; simp only [h, and_self, decide_true]
    have h1 := adr_size h.1
    have h2 := dec_size n.toNat
    have e : (⟨#[47]⟩ : ByteArray).size = 1 := rfl
    have e1 := i_AddrText_is k p h.1
    have e2 := i_Decimal_is k n (by omega)
    simp only [ho, h, and_self, decide_true, Bool.not_true, Bool.false_eq_true, if_false, if_true, e1, e2, Option.bind_some]
    rw [if_pos (by rw [e]; omega), if_pos (by simp only [ByteArray.size_append, e]; omega)]
  · have ho : okP p n = false := by unfold okP; simp only [h, decide_false]
    simp only [ho, h, decide_false, Bool.not_false, if_true, Bool.false_eq_true, if_false]
def rowT (r : RouteR) : ByteArray := preT r.1.1 r.1.2 ++ (⟨#[32]⟩ : ByteArray) ++ dec r.2.toNat ++ (⟨#[10]⟩ : ByteArray)
def allT (a : List RouteR) : ByteArray := a.foldl (fun t r => t ++ rowT r) ⟨#[]⟩
theorem bapp_assoc (a b c : ByteArray) : a ++ b ++ c = a ++ (b ++ c) := by apply ByteArray.ext; simp [ByteArray.data_append, Array.append_assoc]
theorem row_to {a : List RouteR} (hl : a.length ≤ 1048576) (h : routesB a = true) {i : Nat} {r : RouteR} (hr : a[i]? = some r) : 1 ≤ r.2 ∧ r.2 ≤ 99 := by
  obtain ⟨hi, rfl⟩ := List.getElem?_eq_some_iff.1 hr
  have := foldE_all (gRoute_or a) a.length 0 h i (by omega) (by omega)
  unfold gRoute at this
  dsimp only at this
  have e : Ty.rd (t := RT_Route) a ((i : Nat) : Int) = a[i] := by
    show a.getD i _ = _
    rw [List.getD_eq_getElem?_getD, List.getElem?_eq_getElem hi]; rfl
  split at this
  · rename_i hc
    simp only [Bool.and_eq_true, decide_eq_true_eq] at hc
    rw [e] at hc
    exact hc.2.1
  · cases this
/-- A loop that joins a text to a text. -/
theorem loop_cat {X R A : Type} {step : (X → Option R) → X → Option R} (a : List A) (T : A → ByteArray) (B : Nat) (st : Nat → ByteArray → X) (r : Option R) (hT : ∀ x ∈ a, (T x).size ≤ B)
    (hs : ∀ again i t x, t.size ≤ i * B → i < a.length → a[i]? = some x → step again (st i t) = again (st (i + 1) (t ++ T x)))
    (he : ∀ again, step again (st a.length (a.foldl (fun t x => t ++ T x) ⟨#[]⟩)) = r) : ∀ k, a.length < k → whileK step k (st 0 ⟨#[]⟩) = r := by
  have key : ∀ (s p : List A) k, p ++ s = a → s.length < k → (p.foldl (fun t x => t ++ T x) ⟨#[]⟩).size ≤ p.length * B → whileK step k (st p.length (p.foldl (fun t x => t ++ T x) ⟨#[]⟩)) = r := by
    intro s
    induction s with
    | nil =>
      intro p k h hk _
      obtain ⟨k, rfl⟩ : ∃ k', k = k' + 1 := ⟨k - 1, by omega⟩
      have : p = a := by simpa using h
      subst this
      exact he _
    | cons x s ih =>
      intro p k h hk hb
      obtain ⟨k, rfl⟩ : ∃ k', k = k' + 1 := ⟨k - 1, by omega⟩
      show step _ _ = _
      have hx : a[p.length]? = some x := by rw [← h]; simp
      have hlt : p.length < a.length := by rw [← h]; simp
      rw [hs _ _ _ x hb hlt hx]
      have := ih (p ++ [x]) k (by simpa using h) (by simpa using hk) (by
        rw [List.foldl_append, List.length_append]
        simp only [List.foldl_cons, List.foldl_nil, ByteArray.size_append, List.length_cons, List.length_nil, Nat.add_mul]
        have := hT x (by rw [← h]; simp)
        omega)
      rw [List.foldl_append, List.length_append] at this
      simpa using this
  intro k hk
  exact key a [] k (by simp) hk (by simp [ByteArray.size])
theorem row_size {r : RouteR} (h : 1 ≤ r.2 ∧ r.2 ≤ 99) : (rowT r).size ≤ 1400 := by
  have h1 := preT_size r.1.1 r.1.2
  have h2 := dec_size r.2.toNat
  have e1 : (⟨#[32]⟩ : ByteArray).size = 1 := rfl
  have e2 : (⟨#[10]⟩ : ByteArray).size = 1 := rfl
  unfold rowT
  simp only [ByteArray.size_append, e1, e2]
  omega
theorem s_ShowRoutes_is (k : Nat) (a : List RouteR) (hk : 4294967297 < k) (hl : a.length ≤ 1048576) : s_ShowRoutes k (a, ()) = some ((if routesB a then allT a else ⟨#[]⟩), ((), ())) := by
  have hmx : maxStr = 9223372036854775807 := rfl
  unfold s_ShowRoutes
  simp only [s_RoutesOk_is k a (by omega) hl, Option.bind_some]
  cases hb : routesB a with
  | false => simp
  | true =>
    simp only [Bool.not_true, Bool.false_eq_true, if_false, if_true]
    have h12 := routes_len hb
    refine loop_cat a rowT 1400 (fun i t => (a, (t, ((i : Int), ())))) _ (fun x hx => by
      obtain ⟨i, hi, rfl⟩ := List.getElem_of_mem hx
      exact row_size (row_to hl hb (List.getElem?_eq_getElem hi))) ?_ ?_ k (by omega)
    · intro again i t x ht hi hx
      have hto := row_to hl hb hx
      have w : wi64 ((i : Int) + 1) = ((i + 1 : Nat) : Int) := (w64_id _ (by omega)).trans (by omega)
      have p1 : (i : Int) < (a.length : Int) := by omega
      have p2 : 0 ≤ (i : Int) := by omega
      have z1 := preT_size x.1.1 x.1.2
      have z2 := dec_size x.2.toNat
      have ht' : t.size ≤ 20000 := by omega
      have e32 : (⟨#[32]⟩ : ByteArray).size = 1 := rfl
      have e10 : (⟨#[10]⟩ : ByteArray).size = 1 := rfl
      obtain ⟨⟨x1, x2⟩, x3⟩ := x
      have d := s_Decimal_is k x3 (by simp only at hto; omega) hk
      simp only at z1 z2 hto
      simp only [Ty.rd, Int.toNat_natCast, getD_some' hx, p1, p2, w, s_PrefixText_is k x1 x2 hk, d, and_self, decide_true, if_true, Option.bind_some]
      rw [if_pos (by omega), if_pos (by simp only [ByteArray.size_append, e32]; omega), if_pos (by simp only [ByteArray.size_append, e32]; omega), if_pos (by simp only [ByteArray.size_append, e32, e10]; omega)]
      unfold rowT
      simp only [bapp_assoc]
    · intro again
      have : ¬ (a.length : Int) < (a.length : Int) := by omega
      simp only [this, decide_false, Bool.false_eq_true, if_false]
      rfl
theorem i_ShowRoutes_is (k : Nat) (a : List RouteR) (hk : 4294967297 < k) (hl : a.length ≤ 1048576) : i_ShowRoutes k (a, ()) = some ((if routesB a then allT a else ⟨#[]⟩), ((), ())) := by
  have hmx : maxStr = 9223372036854775807 := rfl
  unfold i_ShowRoutes
  simp only [i_RoutesOk_is k a (by omega) hl, Option.bind_some]
  cases hb : routesB a with
  | false => simp
  | true =>
    simp only [Bool.not_true, Bool.false_eq_true, if_false, if_true]
    have h12 := routes_len hb
    refine loop_cat a rowT 1400 (fun i t => (t, (a, ((a.length : Int), ((i : Int), ()))))) _ (fun x hx => by
      obtain ⟨i, hi, rfl⟩ := List.getElem_of_mem hx
      exact row_size (row_to hl hb (List.getElem?_eq_getElem hi))) ?_ ?_ k (by omega)
    · intro again i t x ht hi hx
      have hto := row_to hl hb hx
      have w : wi64 ((i : Int) + 1) = ((i + 1 : Nat) : Int) := (w64_id _ (by omega)).trans (by omega)
      have p1 : (i : Int) < (a.length : Int) := by omega
      have p2 : 0 ≤ (i : Int) := by omega
      have z1 := preT_size x.1.1 x.1.2
      have z2 := dec_size x.2.toNat
      have ht' : t.size ≤ 20000 := by omega
      have e32 : (⟨#[32]⟩ : ByteArray).size = 1 := rfl
      have e10 : (⟨#[10]⟩ : ByteArray).size = 1 := rfl
      obtain ⟨⟨x1, x2⟩, x3⟩ := x
      have d := i_Decimal_is k x3 (by simp only at hto; omega)
      simp only at z1 z2 hto
      simp only [Ty.rd, Int.toNat_natCast, getD_some' hx, p1, p2, w, i_PrefixText_is k x1 x2, d, and_self, decide_true, if_true, Option.bind_some]
      rw [if_pos (by rw [e32]; omega), if_pos (by simp only [ByteArray.size_append, e32]; omega), if_pos (by simp only [ByteArray.size_append, e32, e10]; omega), if_pos (by simp only [ByteArray.size_append, e32, e10]; omega)]
      rfl
    · intro again
      have : ¬ (a.length : Int) < (a.length : Int) := by omega
      simp only [this, decide_false, Bool.false_eq_true, if_false]
      rfl
theorem show_law (k : Nat) (hk : 4294967297 < k) (a : List RT_Route.den) (hw : Wf_RouteS a) : w_FnExactShowRoutes k (a, ()) = some (true, ((), ())) := by
  obtain ⟨m, h1, h2⟩ := szRouteS_le k a 1048576 (by omega) (by omega) hw
  unfold w_FnExactShowRoutes
  simp only [h1, Option.bind_some]
  by_cases hm : m < 0
  · simp [hm]
  obtain ⟨_, hb⟩ := h2 (by omega)
  have e0 := toRouteS_is k a (by omega) hb
  have e1 := s_ShowRoutes_is k a hk hb.1
  have e2 := i_ShowRoutes_is k a hk hb.1
  have e3 := eqRouteS_is k a a (by omega) hb
  simp only [hm, e0, e1, e2, e3, dq_self, decide_true, decide_false, Bool.not_true, Bool.false_eq_true, if_false, Option.bind_some]
theorem pure_FnExactShowRoutes (x : argsDen pars_FnExactShowRoutes) (hx : argsWf pars_FnExactShowRoutes x) : ∃ k o, w_FnExactShowRoutes k (argsX pars_FnExactShowRoutes x) = some (true, o) := by
  obtain ⟨a, u⟩ := x
  refine ⟨4611686018427387905, ((), ()), ?_⟩
  show w_FnExactShowRoutes 4611686018427387905 (a, ()) = _
  exact show_law 4611686018427387905 (by decide) a ⟨hx.1.1, fun r hr => wfr_Route r (hx.1.2 r hr)⟩
open Go.ChangeShapes Go.WideShapes Go.ChangeAt Go.RowKit
theorem own_FnExactShowRoutes : ownKnob Tryd.prog.godebug = none := by kernel_rfl
theorem door_met (os : Os) (args : Array Value) : laidMetH Tryd.prog Rows.fnExactShowRoutesRow.laid ((World.doorLaid Tryd.prog 400 os).forCall (fun _ _ => 0) ⟨#[], args, []⟩).memory :=
  laidMetH_of_parts3 (fuel := 8) (laidMet_of_run' 8 (by kernel_rfl) (by kernel_rfl)) (by kernel_rfl) (by kernel_rfl)
theorem laid_tab {W : World} (h : laidMetH Tryd.prog Rows.fnExactShowRoutesRow.laid W) : Lib.TabIs Tryd.prog W "internal/strconv.uint64pow10" .u64 Lib.pow10Tab := by
  rw [MakeChecks.laidMetH_plain _ _ _ (by kernel_rfl)] at h
  exact tabIs_third (g := 0) (t := 63) (e := 57) (n := 20) (by kernel_rfl) (by kernel_rfl) (by kernel_rfl) (by kernel_rfl) (by kernel_rfl) (by kernel_rfl) h
theorem lifted_FnExactShowRoutes (os : Os) (started : os.Started) (H : Type) (enc : TypeId × Value → H) :
    ReturnsInHanded {} Tryd.checked os 3 .any (fun w args => (Rows.fnExactShowRoutesSpec.pre enc Tryd.prog Tryd.f3 [] false w args ∧ laidMetH Tryd.prog Rows.fnExactShowRoutesRow.laid w) ∧ sizedMet enc Tryd.prog Tryd.f3 (OpenSpec.ofChange Rows.fnExactShowRoutesSpec) false w args) (Rows.fnExactShowRoutesSpec.post enc Tryd.prog Tryd.f3 false true false false) :=
  law_lifted_laid (C := Tryd.checked) (l := pars_FnExactShowRoutes) (rb := 4) own_FnExactShowRoutes started (by kernel_rfl) Tryd.func3
    (ChangeSpec.witness_shaped (enc := enc) (C := Tryd.checked) (os := os) (X := fun w _ => laidMetH Tryd.prog Rows.fnExactShowRoutesRow.laid w) false (World.doorLaid Tryd.prog 400 os) #[.slice none 0 0] 8 rfl (World.shaped_of_RefB (by kernel_rfl) (by kernel_rfl)) (by kernel_rfl) (by kernel_rfl) (by kernel_rfl) (door_met os _))
    e_w_FnExactShowRoutes rfl (by decide) pure_FnExactShowRoutes (by kernel_rfl) rfl Tryd.underlying4 (by kernel_rfl) (by kernel_rfl) rfl (fun W h => ⟨tab_lt (laid_tab h), laid_tab h⟩)
    (fun ds h => match ds, h with | [_], _ => rfl)
theorem inPlace_FnExactShowRoutes : Tryd.prog.inPlace 3 = Rows.fnExactShowRoutesRow.inPlace := by kernel_rfl
theorem unfollowed_FnExactShowRoutes : Tryd.prog.unfollowed 3 = Rows.fnExactShowRoutesRow.unfollowed := by kernel_rfl
theorem recurses_FnExactShowRoutes : Tryd.prog.recurses 3 = Rows.fnExactShowRoutesRow.recurses := by kernel_rfl
theorem named_FnExactShowRoutes : Tryd.prog.varsNamed 3 = Rows.fnExactShowRoutesRow.named := by kernel_rfl
theorem facts_FnExactShowRoutes : joinedFacts Tryd.prog 3 Tryd.f3 Rows.fnExactShowRoutesSpec Rows.fnExactShowRoutesRow = true := by
  unfold joinedFacts
  rw [seat_laid, seat_maps, seat_heard, seat_enter, inPlace_FnExactShowRoutes, unfollowed_FnExactShowRoutes, recurses_FnExactShowRoutes, named_FnExactShowRoutes]
  kernel_rfl
theorem fnExactShowRoutes_holds : Rows.FnExactShowRoutesSaid :=
  OpenClaim.holds_of_wide 3 Tryd.f3 rfl rfl rfl rfl rfl rfl rfl ⟨rfl, rfl, rfl, rfl, rfl⟩ rfl rfl rfl rfl rfl (by kernel_rfl) Tryd.func3 facts_FnExactShowRoutes (of_decide_eq_true (by kernel_rfl))
    (by unfold Func.isWrapper; first | (rw [if_pos (by decide +kernel)]; kernel_rfl) | (rw [if_neg (by decide +kernel)]; exact ⟨rfl, rfl⟩)) (fun os started H enc _ => lifted_FnExactShowRoutes os started H enc)
theorem fnExactShowRoutesCard_holds : Rows.FnExactShowRoutesCardSaid :=
  Claim7.holds_tied_plain_at .later [] [.data, .data, .data] true (true, "35bb9319c645eff3b9792881b5c95053741f7eedc04ff6918950e8bd304a1f5d") false
    fnExactShowRoutes_holds (fun _ h => by cases h) (by kernel_rfl) (fun _ h => by cases h) fnExactShowRoutes_row_tie rfl ⟨rfl, rfl⟩ (by kernel_rfl) rfl
    (fun f fn hf hfn => by
      obtain rfl : f = 3 := Option.some.inj ((show Tryd.prog.funcNamed "loop.example/g00193/laws.FnExactShowRoutes" = some 3 by kernel_rfl).symm.trans hf) |>.symm
      obtain rfl : fn = Tryd.f3 := (Option.some.inj (Tryd.func3.symm.trans hfn)).symm
      exact ⟨by kernel_rfl, fun j t ht => by
        rw [show Tryd.f3.params = #[22] by kernel_rfl] at ht
        have hm : t ∈ [22] := by simpa using Array.mem_of_getElem? ht
        have hall : ([22].all fun u => !Tryd.prog.wantsStandIn u) = true := by kernel_rfl
        exact (show Tryd.prog.wantsStandIn t = false by simpa using List.all_eq_true.1 hall t hm)⟩)
    (by kernel_rfl)
#print axioms fnExactShowRoutesCard_holds
end Go.Proofs.YtgfmfpnmomgleaaDoor
