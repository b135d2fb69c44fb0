import Derived.Test.YtfponeljjihkbaaRows
import Derived.Test.YtfponeljjihkbaaFun4
import Derived.Test.YtfponeljjihkbaaBase
import Derived.Test.YtfponeljjihkbaaFacts
import Derived.WalkKit
import Derived.ProofKit
import Derived.OpenShut
import Derived.ShutString
import Derived.ChangeOld
import Derived.Below
import Derived.SizedLaws
/- FnExactKeysMeet answers true for every input, and its arguments read behind the call as they did ahead of it. Conditions: none. -/
set_option linter.unusedVariables false
namespace Go.Proofs.Ytfponeljjihkbaa
open Go Go.Eng Go.Proofs
abbrev pars_FnExactKeysMeet : List Par := [(true, (.pair (.pair (.pair (.pair (.int .i64) (.int .i64)) (.pair (.list (.pair (.int .i64) (.pair (.int .i64) (.int .i64)))) (.list (.pair (.int .i64) (.int .i64))))) (.pair (.list (.pair (.pair (.int .i64) (.int .i64)) (.int .i64))) (.list (.pair (.int .i64) (.pair (.int .i64) (.pair (.pair (.pair (.int .i64) (.pair .str (.pair .str (.pair (.int .i64) (.pair (.list (.int .i64)) (.int .i64)))))) (.pair (.int .i64) (.pair .str (.pair .str (.pair (.int .i64) (.pair (.list (.int .i64)) (.int .i64))))))) (.pair (.list (.pair (.int .i64) (.pair (.int .i64) (.pair (.int .i64) (.pair (.list .str) (.pair (.list .bool) (.int .i64))))))) (.int .i64)))))))) (.pair (.list (.pair (.int .i64) (.pair (.int .i64) (.pair (.pair (.pair (.int .i64) (.pair .str (.pair .str (.pair (.int .i64) (.pair (.list (.int .i64)) (.int .i64)))))) (.pair (.int .i64) (.pair .str (.pair .str (.pair (.int .i64) (.pair (.list (.int .i64)) (.int .i64))))))) (.pair (.list (.pair (.int .i64) (.pair (.int .i64) (.pair (.int .i64) (.pair (.list .str) (.pair (.list .bool) (.int .i64))))))) (.int .i64)))))) (.pair (.list (.int .i64)) (.pair (.int .i64) (.pair (.list (.pair (.int .i64) (.pair (.int .i64) (.pair .bool (.pair (.int .i64) (.pair (.int .i64) (.pair (.int .i64) (.pair (.int .i64) (.pair (.int .i64) (.pair (.list (.int .i64)) .str)))))))))) (.pair (.int .i64) (.pair (.list (.pair (.int .i64) (.pair (.int .i64) (.pair (.int .i64) .str)))) (.pair (.list (.pair (.int .i64) (.pair (.int .i64) (.pair (.int .i64) .str)))) (.pair (.int .i64) (.list (.pair (.int .i64) (.pair .bool (.pair (.int .i64) (.int .i64)))))))))))))))]
abbrev RT_Lease : Ty := (.pair (.int .i64) (.pair (.int .i64) (.int .i64)))
def ag_Lease (r : RT_Lease.den) : Int × Int × Int × Unit := (r.1, (r.2.1, (r.2.2, ())))
theorem ag_Lease_inj (r r' : RT_Lease.den) : (ag_Lease r = ag_Lease r') ↔ r = r' := by
  constructor
  · intro h
    obtain ⟨x0, ⟨x1, x2⟩⟩ := r
    obtain ⟨y0, ⟨y1, y2⟩⟩ := r'
    simp only [ag_Lease, Prod.mk.injEq, and_true] at h
    simp only [Prod.mk.injEq]
    simp_all
  · intro h
    rw [h]
def Wf_Lease (x : Int × Int × Int × Unit) : Prop := True
def Bd_Lease (x : Int × Int × Int × Unit) : Prop := True
def Wf_LeaseS (a : List (Int × Int × Int)) : Prop := a.length ≤ 9223372036854775807 ∧ ∀ r ∈ a, Wf_Lease (ag_Lease r)
def Bd_LeaseS (a : List (Int × Int × Int)) : Prop := a.length ≤ 1048576 ∧ ∀ r ∈ a, Bd_Lease (ag_Lease r)
abbrev RT_Fixed : Ty := (.pair (.int .i64) (.int .i64))
def ag_Fixed (r : RT_Fixed.den) : Int × Int × Unit := (r.1, (r.2, ()))
theorem ag_Fixed_inj (r r' : RT_Fixed.den) : (ag_Fixed r = ag_Fixed r') ↔ r = r' := by
  constructor
  · intro h
    obtain ⟨x0, x1⟩ := r
    obtain ⟨y0, y1⟩ := r'
    simp only [ag_Fixed, Prod.mk.injEq, and_true] at h
    simp only [Prod.mk.injEq]
    simp_all
  · intro h
    rw [h]
def Wf_Fixed (x : Int × Int × Unit) : Prop := True
def Bd_Fixed (x : Int × Int × Unit) : Prop := True
def Wf_FixedS (a : List (Int × Int)) : Prop := a.length ≤ 9223372036854775807 ∧ ∀ r ∈ a, Wf_Fixed (ag_Fixed r)
def Bd_FixedS (a : List (Int × Int)) : Prop := a.length ≤ 1048576 ∧ ∀ r ∈ a, Bd_Fixed (ag_Fixed r)
abbrev RT_Route : Ty := (.pair (.pair (.int .i64) (.int .i64)) (.int .i64))
def ag_Route (r : RT_Route.den) : Int × Int × Int × Unit := (r.1.1, (r.1.2, (r.2, ())))
theorem ag_Route_inj (r r' : RT_Route.den) : (ag_Route r = ag_Route r') ↔ r = r' := by
  constructor
  · intro h
    obtain ⟨⟨x0, x1⟩, x2⟩ := r
    obtain ⟨⟨y0, y1⟩, y2⟩ := r'
    simp only [ag_Route, Prod.mk.injEq, and_true] at h
    simp only [Prod.mk.injEq]
    simp_all
  · intro h
    rw [h]
def Wf_Route (x : Int × Int × Int × Unit) : Prop := True
def Bd_Route (x : Int × Int × Int × Unit) : Prop := True
def Wf_RouteS (a : List ((Int × Int) × Int)) : Prop := a.length ≤ 9223372036854775807 ∧ ∀ r ∈ a, Wf_Route (ag_Route r)
def Bd_RouteS (a : List ((Int × Int) × Int)) : Prop := a.length ≤ 1048576 ∧ ∀ r ∈ a, Bd_Route (ag_Route r)
abbrev RT_User : Ty := (.pair (.int .i64) (.pair (.int .i64) (.pair (.pair (.pair (.int .i64) (.pair .str (.pair .str (.pair (.int .i64) (.pair (.list (.int .i64)) (.int .i64)))))) (.pair (.int .i64) (.pair .str (.pair .str (.pair (.int .i64) (.pair (.list (.int .i64)) (.int .i64))))))) (.pair (.list (.pair (.int .i64) (.pair (.int .i64) (.pair (.int .i64) (.pair (.list .str) (.pair (.list .bool) (.int .i64))))))) (.int .i64)))))
def ag_User (r : RT_User.den) : Int × Int × Int × ByteArray × ByteArray × Int × List (Int) × Int × Int × ByteArray × ByteArray × Int × List (Int) × Int × (List (Int × Int × Int × List (ByteArray) × List (Bool) × Int)) × Int × Unit := (r.1, (r.2.1, (r.2.2.1.1.1, (r.2.2.1.1.2.1, (r.2.2.1.1.2.2.1, (r.2.2.1.1.2.2.2.1, (r.2.2.1.1.2.2.2.2.1, (r.2.2.1.1.2.2.2.2.2, (r.2.2.1.2.1, (r.2.2.1.2.2.1, (r.2.2.1.2.2.2.1, (r.2.2.1.2.2.2.2.1, (r.2.2.1.2.2.2.2.2.1, (r.2.2.1.2.2.2.2.2.2, (r.2.2.2.1, (r.2.2.2.2, ()))))))))))))))))
theorem ag_User_inj (r r' : RT_User.den) : (ag_User r = ag_User r') ↔ r = r' := by
  constructor
  · intro h
    obtain ⟨x0, ⟨x1, ⟨⟨⟨x2, ⟨x3, ⟨x4, ⟨x5, ⟨x6, x7⟩⟩⟩⟩⟩, ⟨x8, ⟨x9, ⟨x10, ⟨x11, ⟨x12, x13⟩⟩⟩⟩⟩⟩, ⟨x14, x15⟩⟩⟩⟩ := r
    obtain ⟨y0, ⟨y1, ⟨⟨⟨y2, ⟨y3, ⟨y4, ⟨y5, ⟨y6, y7⟩⟩⟩⟩⟩, ⟨y8, ⟨y9, ⟨y10, ⟨y11, ⟨y12, y13⟩⟩⟩⟩⟩⟩, ⟨y14, y15⟩⟩⟩⟩ := r'
    simp only [ag_User, Prod.mk.injEq, and_true] at h
    simp only [Prod.mk.injEq]
    simp_all
  · intro h
    rw [h]
def Wf_IntS (a : List (Int)) : Prop := a.length ≤ 9223372036854775807
def Bd_IntS (a : List (Int)) : Prop := a.length ≤ 1048576
abbrev RT_Held : Ty := (.pair (.int .i64) (.pair (.int .i64) (.pair (.int .i64) (.pair (.list .str) (.pair (.list .bool) (.int .i64))))))
def ag_Held (r : RT_Held.den) : Int × Int × Int × List (ByteArray) × List (Bool) × Int × Unit := (r.1, (r.2.1, (r.2.2.1, (r.2.2.2.1, (r.2.2.2.2.1, (r.2.2.2.2.2, ()))))))
theorem ag_Held_inj (r r' : RT_Held.den) : (ag_Held r = ag_Held r') ↔ r = r' := by
  constructor
  · intro h
    obtain ⟨x0, ⟨x1, ⟨x2, ⟨x3, ⟨x4, x5⟩⟩⟩⟩⟩ := r
    obtain ⟨y0, ⟨y1, ⟨y2, ⟨y3, ⟨y4, y5⟩⟩⟩⟩⟩ := r'
    simp only [ag_Held, Prod.mk.injEq, and_true] at h
    simp only [Prod.mk.injEq]
    simp_all
  · intro h
    rw [h]
def Wf_StringS (a : List (ByteArray)) : Prop := a.length ≤ 9223372036854775807 ∧ ∀ r ∈ a, ByteArray.size r ≤ 9223372036854775807
def Bd_StringS (a : List (ByteArray)) : Prop := a.length ≤ 1048576
def Wf_BoolS (a : List (Bool)) : Prop := a.length ≤ 9223372036854775807
def Bd_BoolS (a : List (Bool)) : Prop := a.length ≤ 1048576
def Wf_Held (x : Int × Int × Int × List (ByteArray) × List (Bool) × Int × Unit) : Prop := Wf_StringS x.2.2.2.1 ∧ Wf_BoolS x.2.2.2.2.1 ∧ True
def Bd_Held (x : Int × Int × Int × List (ByteArray) × List (Bool) × Int × Unit) : Prop := Bd_StringS x.2.2.2.1 ∧ Bd_BoolS x.2.2.2.2.1 ∧ True
def Wf_HeldS (a : List (Int × Int × Int × List (ByteArray) × List (Bool) × Int)) : Prop := a.length ≤ 9223372036854775807 ∧ ∀ r ∈ a, Wf_Held (ag_Held r)
def Bd_HeldS (a : List (Int × Int × Int × List (ByteArray) × List (Bool) × Int)) : Prop := a.length ≤ 1048576 ∧ ∀ r ∈ a, Bd_Held (ag_Held r)
def Wf_User (x : Int × Int × Int × ByteArray × ByteArray × Int × List (Int) × Int × Int × ByteArray × ByteArray × Int × List (Int) × Int × (List (Int × Int × Int × List (ByteArray) × List (Bool) × Int)) × Int × Unit) : Prop := ByteArray.size x.2.2.2.1 ≤ 9223372036854775807 ∧ ByteArray.size x.2.2.2.2.1 ≤ 9223372036854775807 ∧ Wf_IntS x.2.2.2.2.2.2.1 ∧ ByteArray.size x.2.2.2.2.2.2.2.2.2.1 ≤ 9223372036854775807 ∧ ByteArray.size x.2.2.2.2.2.2.2.2.2.2.1 ≤ 9223372036854775807 ∧ Wf_IntS x.2.2.2.2.2.2.2.2.2.2.2.2.1 ∧ Wf_HeldS x.2.2.2.2.2.2.2.2.2.2.2.2.2.2.1 ∧ True
def Bd_User (x : Int × Int × Int × ByteArray × ByteArray × Int × List (Int) × Int × Int × ByteArray × ByteArray × Int × List (Int) × Int × (List (Int × Int × Int × List (ByteArray) × List (Bool) × Int)) × Int × Unit) : Prop := ByteArray.size x.2.2.2.1 ≤ 1048576 ∧ ByteArray.size x.2.2.2.2.1 ≤ 1048576 ∧ Bd_IntS x.2.2.2.2.2.2.1 ∧ ByteArray.size x.2.2.2.2.2.2.2.2.2.1 ≤ 1048576 ∧ ByteArray.size x.2.2.2.2.2.2.2.2.2.2.1 ≤ 1048576 ∧ Bd_IntS x.2.2.2.2.2.2.2.2.2.2.2.2.1 ∧ Bd_HeldS x.2.2.2.2.2.2.2.2.2.2.2.2.2.2.1 ∧ True
def Wf_UserS (a : List (Int × Int × ((Int × ByteArray × ByteArray × Int × List (Int) × Int) × Int × ByteArray × ByteArray × Int × List (Int) × Int) × List (Int × Int × Int × List (ByteArray) × List (Bool) × Int) × Int)) : Prop := a.length ≤ 9223372036854775807 ∧ ∀ r ∈ a, Wf_User (ag_User r)
def Bd_UserS (a : List (Int × Int × ((Int × ByteArray × ByteArray × Int × List (Int) × Int) × Int × ByteArray × ByteArray × Int × List (Int) × Int) × List (Int × Int × Int × List (ByteArray) × List (Bool) × Int) × Int)) : Prop := a.length ≤ 1048576 ∧ ∀ r ∈ a, Bd_User (ag_User r)
abbrev RT_Flight : Ty := (.pair (.int .i64) (.pair (.int .i64) (.pair .bool (.pair (.int .i64) (.pair (.int .i64) (.pair (.int .i64) (.pair (.int .i64) (.pair (.int .i64) (.pair (.list (.int .i64)) .str)))))))))
def ag_Flight (r : RT_Flight.den) : Int × Int × Bool × Int × Int × Int × Int × Int × List (Int) × ByteArray × Unit := (r.1, (r.2.1, (r.2.2.1, (r.2.2.2.1, (r.2.2.2.2.1, (r.2.2.2.2.2.1, (r.2.2.2.2.2.2.1, (r.2.2.2.2.2.2.2.1, (r.2.2.2.2.2.2.2.2.1, (r.2.2.2.2.2.2.2.2.2, ()))))))))))
theorem ag_Flight_inj (r r' : RT_Flight.den) : (ag_Flight r = ag_Flight r') ↔ r = r' := by
  constructor
  · intro h
    obtain ⟨x0, ⟨x1, ⟨x2, ⟨x3, ⟨x4, ⟨x5, ⟨x6, ⟨x7, ⟨x8, x9⟩⟩⟩⟩⟩⟩⟩⟩⟩ := r
    obtain ⟨y0, ⟨y1, ⟨y2, ⟨y3, ⟨y4, ⟨y5, ⟨y6, ⟨y7, ⟨y8, y9⟩⟩⟩⟩⟩⟩⟩⟩⟩ := r'
    simp only [ag_Flight, Prod.mk.injEq, and_true] at h
    simp only [Prod.mk.injEq]
    simp_all
  · intro h
    rw [h]
def Wf_Flight (x : Int × Int × Bool × Int × Int × Int × Int × Int × List (Int) × ByteArray × Unit) : Prop := Wf_IntS x.2.2.2.2.2.2.2.2.1 ∧ ByteArray.size x.2.2.2.2.2.2.2.2.2.1 ≤ 9223372036854775807 ∧ True
def Bd_Flight (x : Int × Int × Bool × Int × Int × Int × Int × Int × List (Int) × ByteArray × Unit) : Prop := Bd_IntS x.2.2.2.2.2.2.2.2.1 ∧ ByteArray.size x.2.2.2.2.2.2.2.2.2.1 ≤ 1048576 ∧ True
def Wf_FlightS (a : List (Int × Int × Bool × Int × Int × Int × Int × Int × List (Int) × ByteArray)) : Prop := a.length ≤ 9223372036854775807 ∧ ∀ r ∈ a, Wf_Flight (ag_Flight r)
def Bd_FlightS (a : List (Int × Int × Bool × Int × Int × Int × Int × Int × List (Int) × ByteArray)) : Prop := a.length ≤ 1048576 ∧ ∀ r ∈ a, Bd_Flight (ag_Flight r)
abbrev RT_Carried : Ty := (.pair (.int .i64) (.pair (.int .i64) (.pair (.int .i64) .str)))
def ag_Carried (r : RT_Carried.den) : Int × Int × Int × ByteArray × Unit := (r.1, (r.2.1, (r.2.2.1, (r.2.2.2, ()))))
theorem ag_Carried_inj (r r' : RT_Carried.den) : (ag_Carried r = ag_Carried r') ↔ r = r' := by
  constructor
  · intro h
    obtain ⟨x0, ⟨x1, ⟨x2, x3⟩⟩⟩ := r
    obtain ⟨y0, ⟨y1, ⟨y2, y3⟩⟩⟩ := r'
    simp only [ag_Carried, Prod.mk.injEq, and_true] at h
    simp only [Prod.mk.injEq]
    simp_all
  · intro h
    rw [h]
def Wf_Carried (x : Int × Int × Int × ByteArray × Unit) : Prop := ByteArray.size x.2.2.2.1 ≤ 9223372036854775807 ∧ True
def Bd_Carried (x : Int × Int × Int × ByteArray × Unit) : Prop := ByteArray.size x.2.2.2.1 ≤ 1048576 ∧ True
def Wf_CarriedS (a : List (Int × Int × Int × ByteArray)) : Prop := a.length ≤ 9223372036854775807 ∧ ∀ r ∈ a, Wf_Carried (ag_Carried r)
def Bd_CarriedS (a : List (Int × Int × Int × ByteArray)) : Prop := a.length ≤ 1048576 ∧ ∀ r ∈ a, Bd_Carried (ag_Carried r)
abbrev RT_Sealing : Ty := (.pair (.int .i64) (.pair .bool (.pair (.int .i64) (.int .i64))))
def ag_Sealing (r : RT_Sealing.den) : Int × Bool × Int × Int × Unit := (r.1, (r.2.1, (r.2.2.1, (r.2.2.2, ()))))
theorem ag_Sealing_inj (r r' : RT_Sealing.den) : (ag_Sealing r = ag_Sealing r') ↔ r = r' := by
  constructor
  · intro h
    obtain ⟨x0, ⟨x1, ⟨x2, x3⟩⟩⟩ := r
    obtain ⟨y0, ⟨y1, ⟨y2, y3⟩⟩⟩ := r'
    simp only [ag_Sealing, Prod.mk.injEq, and_true] at h
    simp only [Prod.mk.injEq]
    simp_all
  · intro h
    rw [h]
def Wf_Sealing (x : Int × Bool × Int × Int × Unit) : Prop := True
def Bd_Sealing (x : Int × Bool × Int × Int × Unit) : Prop := True
def Wf_SealingS (a : List (Int × Bool × Int × Int)) : Prop := a.length ≤ 9223372036854775807 ∧ ∀ r ∈ a, Wf_Sealing (ag_Sealing r)
def Bd_SealingS (a : List (Int × Bool × Int × Int)) : Prop := a.length ≤ 1048576 ∧ ∀ r ∈ a, Bd_Sealing (ag_Sealing r)
def Wf_Life (x : Int × Int × (List (Int × Int × Int)) × (List (Int × Int)) × (List ((Int × Int) × Int)) × (List (Int × Int × ((Int × ByteArray × ByteArray × Int × List (Int) × Int) × Int × ByteArray × ByteArray × Int × List (Int) × Int) × List (Int × Int × Int × List (ByteArray) × List (Bool) × Int) × Int)) × (List (Int × Int × ((Int × ByteArray × ByteArray × Int × List (Int) × Int) × Int × ByteArray × ByteArray × Int × List (Int) × Int) × List (Int × Int × Int × List (ByteArray) × List (Bool) × Int) × Int)) × List (Int) × Int × (List (Int × Int × Bool × Int × Int × Int × Int × Int × List (Int) × ByteArray)) × Int × (List (Int × Int × Int × ByteArray)) × (List (Int × Int × Int × ByteArray)) × Int × (List (Int × Bool × Int × Int)) × Unit) : Prop := Wf_LeaseS x.2.2.1 ∧ Wf_FixedS x.2.2.2.1 ∧ Wf_RouteS x.2.2.2.2.1 ∧ Wf_UserS x.2.2.2.2.2.1 ∧ Wf_UserS x.2.2.2.2.2.2.1 ∧ Wf_IntS x.2.2.2.2.2.2.2.1 ∧ Wf_FlightS x.2.2.2.2.2.2.2.2.2.1 ∧ Wf_CarriedS x.2.2.2.2.2.2.2.2.2.2.2.1 ∧ Wf_CarriedS x.2.2.2.2.2.2.2.2.2.2.2.2.1 ∧ Wf_SealingS x.2.2.2.2.2.2.2.2.2.2.2.2.2.2.1 ∧ True
def Bd_Life (x : Int × Int × (List (Int × Int × Int)) × (List (Int × Int)) × (List ((Int × Int) × Int)) × (List (Int × Int × ((Int × ByteArray × ByteArray × Int × List (Int) × Int) × Int × ByteArray × ByteArray × Int × List (Int) × Int) × List (Int × Int × Int × List (ByteArray) × List (Bool) × Int) × Int)) × (List (Int × Int × ((Int × ByteArray × ByteArray × Int × List (Int) × Int) × Int × ByteArray × ByteArray × Int × List (Int) × Int) × List (Int × Int × Int × List (ByteArray) × List (Bool) × Int) × Int)) × List (Int) × Int × (List (Int × Int × Bool × Int × Int × Int × Int × Int × List (Int) × ByteArray)) × Int × (List (Int × Int × Int × ByteArray)) × (List (Int × Int × Int × ByteArray)) × Int × (List (Int × Bool × Int × Int)) × Unit) : Prop := Bd_LeaseS x.2.2.1 ∧ Bd_FixedS x.2.2.2.1 ∧ Bd_RouteS x.2.2.2.2.1 ∧ Bd_UserS x.2.2.2.2.2.1 ∧ Bd_UserS x.2.2.2.2.2.2.1 ∧ Bd_IntS x.2.2.2.2.2.2.2.1 ∧ Bd_FlightS x.2.2.2.2.2.2.2.2.2.1 ∧ Bd_CarriedS x.2.2.2.2.2.2.2.2.2.2.2.1 ∧ Bd_CarriedS x.2.2.2.2.2.2.2.2.2.2.2.2.1 ∧ Bd_SealingS x.2.2.2.2.2.2.2.2.2.2.2.2.2.2.1 ∧ True
def Wf_Hub (x : Int × Int × (List (Int × Int × Int)) × (List (Int × Int)) × (List ((Int × Int) × Int)) × (List (Int × Int × ((Int × ByteArray × ByteArray × Int × List (Int) × Int) × Int × ByteArray × ByteArray × Int × List (Int) × Int) × List (Int × Int × Int × List (ByteArray) × List (Bool) × Int) × Int)) × Unit) : Prop := Wf_LeaseS x.2.2.1 ∧ Wf_FixedS x.2.2.2.1 ∧ Wf_RouteS x.2.2.2.2.1 ∧ Wf_UserS x.2.2.2.2.2.1 ∧ True
def Bd_Hub (x : Int × Int × (List (Int × Int × Int)) × (List (Int × Int)) × (List ((Int × Int) × Int)) × (List (Int × Int × ((Int × ByteArray × ByteArray × Int × List (Int) × Int) × Int × ByteArray × ByteArray × Int × List (Int) × Int) × List (Int × Int × Int × List (ByteArray) × List (Bool) × Int) × Int)) × Unit) : Prop := Bd_LeaseS x.2.2.1 ∧ Bd_FixedS x.2.2.2.1 ∧ Bd_RouteS x.2.2.2.2.1 ∧ Bd_UserS x.2.2.2.2.2.1 ∧ True
def Wf_Pool (x : Int × Int × (List (Int × Int × Int)) × (List (Int × Int)) × Unit) : Prop := Wf_LeaseS x.2.2.1 ∧ Wf_FixedS x.2.2.2.1 ∧ True
def Bd_Pool (x : Int × Int × (List (Int × Int × Int)) × (List (Int × Int)) × Unit) : Prop := Bd_LeaseS x.2.2.1 ∧ Bd_FixedS x.2.2.2.1 ∧ True
theorem szLeaseS_le (k : Nat) (a : List (Int × Int × Int)) (n : Int) (h : 0 ≤ n ∧ n ≤ 1048576) (hk : 1048576 < k) (hw : Wf_LeaseS a) : ∃ m : Int, w_szLeaseS k (a, (n, ())) = some (m, ((), ((), ()))) ∧ (0 ≤ m → m ≤ n ∧ Bd_LeaseS a) := by
  unfold w_szLeaseS
  have hl : a.length ≤ 9223372036854775807 := hw.1
  have e : wi64 (n - (List.length a : Int)) = n - (List.length a : Int) := w64_id _ (by omega)
  simp only [e]
  by_cases hc : n - (List.length a : Int) < 0
  · simp only [hc, decide_true, if_true]
    exact ⟨_, rfl, fun h => by omega⟩
  · simp only [hc, decide_false, Bool.false_eq_true, if_false]
    exact ⟨_, rfl, fun _ => ⟨by omega, ⟨by omega, fun r _ => by unfold Bd_Lease; simp⟩⟩⟩
theorem szFixedS_le (k : Nat) (a : List (Int × Int)) (n : Int) (h : 0 ≤ n ∧ n ≤ 1048576) (hk : 1048576 < k) (hw : Wf_FixedS a) : ∃ m : Int, w_szFixedS k (a, (n, ())) = some (m, ((), ((), ()))) ∧ (0 ≤ m → m ≤ n ∧ Bd_FixedS a) := by
  unfold w_szFixedS
  have hl : a.length ≤ 9223372036854775807 := hw.1
  have e : wi64 (n - (List.length a : Int)) = n - (List.length a : Int) := w64_id _ (by omega)
  simp only [e]
  by_cases hc : n - (List.length a : Int) < 0
  · simp only [hc, decide_true, if_true]
    exact ⟨_, rfl, fun h => by omega⟩
  · simp only [hc, decide_false, Bool.false_eq_true, if_false]
    exact ⟨_, rfl, fun _ => ⟨by omega, ⟨by omega, fun r _ => by unfold Bd_Fixed; simp⟩⟩⟩
theorem szPool_le (k : Nat) (x : Int × Int × (List (Int × Int × Int)) × (List (Int × Int)) × Unit) (n : Int) (h : 0 ≤ n ∧ n ≤ 1048576) (hk : 1048576 < k) (hw : Wf_Pool x) : ∃ m : Int, w_szPool k (x, (n, ())) = some (m, ((), ((), ()))) ∧ (0 ≤ m → m ≤ n ∧ Bd_Pool x) := by
  obtain ⟨a0, a1, a2, a3, u⟩ := x
  unfold w_szPool
  unfold Wf_Pool at hw
  unfold Bd_Pool
  simp only [] at hw ⊢
  obtain ⟨w2, w3, _⟩ := hw
  obtain ⟨m0, e0, b0⟩ := szLeaseS_le k a2 n ⟨by omega, by omega⟩ hk w2
  simp only [e0, Option.bind_some]
  by_cases c0 : m0 < 0
  · simp only [c0, decide_true, if_true]
    exact ⟨_, rfl, fun h => by omega⟩
  have d0 := b0 (by omega)
  simp only [c0, decide_false, Bool.false_eq_true, if_false]
  obtain ⟨m1, e1, b1⟩ := szFixedS_le k a3 m0 ⟨by omega, by omega⟩ hk w3
  simp only [e1, Option.bind_some]
  by_cases c1 : m1 < 0
  · simp only [c1, decide_true, if_true]
    exact ⟨_, rfl, fun h => by omega⟩
  have d1 := b1 (by omega)
  simp only [c1, decide_false, Bool.false_eq_true, if_false]
  exact ⟨_, rfl, fun _ => ⟨by omega, ⟨d0.2, d1.2, trivial⟩⟩⟩
theorem szRouteS_le (k : Nat) (a : List ((Int × Int) × Int)) (n : Int) (h : 0 ≤ n ∧ n ≤ 1048576) (hk : 1048576 < k) (hw : Wf_RouteS a) : ∃ m : Int, w_szRouteS k (a, (n, ())) = some (m, ((), ((), ()))) ∧ (0 ≤ m → m ≤ n ∧ Bd_RouteS a) := by
  unfold w_szRouteS
  have hl : a.length ≤ 9223372036854775807 := hw.1
  have e : wi64 (n - (List.length a : Int)) = n - (List.length a : Int) := w64_id _ (by omega)
  simp only [e]
  by_cases hc : n - (List.length a : Int) < 0
  · simp only [hc, decide_true, if_true]
    exact ⟨_, rfl, fun h => by omega⟩
  · simp only [hc, decide_false, Bool.false_eq_true, if_false]
    exact ⟨_, rfl, fun _ => ⟨by omega, ⟨by omega, fun r _ => by unfold Bd_Route; simp⟩⟩⟩
def Wf_Slots (x : Int × ByteArray × ByteArray × Int × List (Int) × Int × Int × ByteArray × ByteArray × Int × List (Int) × Int × Unit) : Prop := ByteArray.size x.2.1 ≤ 9223372036854775807 ∧ ByteArray.size x.2.2.1 ≤ 9223372036854775807 ∧ Wf_IntS x.2.2.2.2.1 ∧ ByteArray.size x.2.2.2.2.2.2.2.1 ≤ 9223372036854775807 ∧ ByteArray.size x.2.2.2.2.2.2.2.2.1 ≤ 9223372036854775807 ∧ Wf_IntS x.2.2.2.2.2.2.2.2.2.2.1 ∧ True
def Bd_Slots (x : Int × ByteArray × ByteArray × Int × List (Int) × Int × Int × ByteArray × ByteArray × Int × List (Int) × Int × Unit) : Prop := ByteArray.size x.2.1 ≤ 1048576 ∧ ByteArray.size x.2.2.1 ≤ 1048576 ∧ Bd_IntS x.2.2.2.2.1 ∧ ByteArray.size x.2.2.2.2.2.2.2.1 ≤ 1048576 ∧ ByteArray.size x.2.2.2.2.2.2.2.2.1 ≤ 1048576 ∧ Bd_IntS x.2.2.2.2.2.2.2.2.2.2.1 ∧ True
def Wf_Slot (x : Int × ByteArray × ByteArray × Int × List (Int) × Int × Unit) : Prop := ByteArray.size x.2.1 ≤ 9223372036854775807 ∧ ByteArray.size x.2.2.1 ≤ 9223372036854775807 ∧ Wf_IntS x.2.2.2.2.1 ∧ True
def Bd_Slot (x : Int × ByteArray × ByteArray × Int × List (Int) × Int × Unit) : Prop := ByteArray.size x.2.1 ≤ 1048576 ∧ ByteArray.size x.2.2.1 ≤ 1048576 ∧ Bd_IntS x.2.2.2.2.1 ∧ True
theorem szIntS_le (k : Nat) (a : List (Int)) (n : Int) (h : 0 ≤ n ∧ n ≤ 1048576) (hk : 1048576 < k) (hw : Wf_IntS a) : ∃ m : Int, w_szIntS k (a, (n, ())) = some (m, ((), ((), ()))) ∧ (0 ≤ m → m ≤ n ∧ Bd_IntS a) := by
  unfold w_szIntS
  have hl : a.length ≤ 9223372036854775807 := hw
  have e : wi64 (n - (List.length a : Int)) = n - (List.length a : Int) := w64_id _ (by omega)
  simp only [e]
  by_cases hc : n - (List.length a : Int) < 0
  · simp only [hc, decide_true, if_true]
    exact ⟨_, rfl, fun h => by omega⟩
  · simp only [hc, decide_false, Bool.false_eq_true, if_false]
    exact ⟨_, rfl, fun _ => ⟨by omega, by show a.length ≤ 1048576; omega⟩⟩
theorem szSlot_le (k : Nat) (x : Int × ByteArray × ByteArray × Int × List (Int) × Int × Unit) (n : Int) (h : 0 ≤ n ∧ n ≤ 1048576) (hk : 1048576 < k) (hw : Wf_Slot x) : ∃ m : Int, w_szSlot k (x, (n, ())) = some (m, ((), ((), ()))) ∧ (0 ≤ m → m ≤ n ∧ Bd_Slot x) := by
  obtain ⟨a0, a1, a2, a3, a4, a5, u⟩ := x
  unfold w_szSlot
  unfold Wf_Slot at hw
  unfold Bd_Slot
  simp only [] at hw ⊢
  obtain ⟨w1, w2, w4, _⟩ := hw
  have e0 : wi64 (n - (ByteArray.size a1 : Int)) = n - (ByteArray.size a1 : Int) := w64_id _ (by omega)
  simp only [e0]
  by_cases c0 : (n - (ByteArray.size a1 : Int)) < 0
  · simp only [c0, decide_true, if_true]
    exact ⟨_, rfl, fun h => by omega⟩
  simp only [c0, decide_false, Bool.false_eq_true, if_false]
  have e1 : wi64 ((n - (ByteArray.size a1 : Int)) - (ByteArray.size a2 : Int)) = (n - (ByteArray.size a1 : Int)) - (ByteArray.size a2 : Int) := w64_id _ (by omega)
  simp only [e1]
  by_cases c1 : ((n - (ByteArray.size a1 : Int)) - (ByteArray.size a2 : Int)) < 0
  · simp only [c1, decide_true, if_true]
    exact ⟨_, rfl, fun h => by omega⟩
  simp only [c1, decide_false, Bool.false_eq_true, if_false]
  obtain ⟨m2, e2, b2⟩ := szIntS_le k a4 ((n - (ByteArray.size a1 : Int)) - (ByteArray.size a2 : Int)) ⟨by omega, by omega⟩ hk w4
  simp only [e2, Option.bind_some]
  by_cases c2 : m2 < 0
  · simp only [c2, decide_true, if_true]
    exact ⟨_, rfl, fun h => by omega⟩
  have d2 := b2 (by omega)
  simp only [c2, decide_false, Bool.false_eq_true, if_false]
  exact ⟨_, rfl, fun _ => ⟨by omega, ⟨by omega, by omega, d2.2, trivial⟩⟩⟩
theorem szSlots_le (k : Nat) (x : Int × ByteArray × ByteArray × Int × List (Int) × Int × Int × ByteArray × ByteArray × Int × List (Int) × Int × Unit) (n : Int) (h : 0 ≤ n ∧ n ≤ 1048576) (hk : 1048576 < k) (hw : Wf_Slots x) : ∃ m : Int, w_szSlots k (x, (n, ())) = some (m, ((), ((), ()))) ∧ (0 ≤ m → m ≤ n ∧ Bd_Slots x) := by
  obtain ⟨a0, a1, a2, a3, a4, a5, a6, a7, a8, a9, a10, a11, u⟩ := x
  unfold w_szSlots
  unfold Wf_Slots at hw
  unfold Bd_Slots
  simp only [] at hw ⊢
  obtain ⟨w1, w2, w4, w7, w8, w10, _⟩ := hw
  obtain ⟨m0, e0, b0⟩ := szSlot_le k (a0, (a1, (a2, (a3, (a4, (a5, ())))))) n ⟨by omega, by omega⟩ hk ⟨w1, w2, w4, trivial⟩
  simp only [e0, Option.bind_some]
  by_cases c0 : m0 < 0
  · simp only [c0, decide_true, if_true]
    exact ⟨_, rfl, fun h => by omega⟩
  have d0 := b0 (by omega)
  simp only [c0, decide_false, Bool.false_eq_true, if_false]
  obtain ⟨m1, e1, b1⟩ := szSlot_le k (a6, (a7, (a8, (a9, (a10, (a11, ())))))) m0 ⟨by omega, by omega⟩ hk ⟨w7, w8, w10, trivial⟩
  simp only [e1, Option.bind_some]
  by_cases c1 : m1 < 0
  · simp only [c1, decide_true, if_true]
    exact ⟨_, rfl, fun h => by omega⟩
  have d1 := b1 (by omega)
  simp only [c1, decide_false, Bool.false_eq_true, if_false]
  exact ⟨_, rfl, fun _ => ⟨by omega, ⟨d0.2.1, d0.2.2.1, d0.2.2.2.1, d1.2.1, d1.2.2.1, d1.2.2.2.1, trivial⟩⟩⟩
def Wf_Shelf (x : (List (Int × Int × Int × List (ByteArray) × List (Bool) × Int)) × Unit) : Prop := Wf_HeldS x.1 ∧ True
def Bd_Shelf (x : (List (Int × Int × Int × List (ByteArray) × List (Bool) × Int)) × Unit) : Prop := Bd_HeldS x.1 ∧ True
theorem szStringS_le (k : Nat) (a : List (ByteArray)) (n : Int) (h : 0 ≤ n ∧ n ≤ 1048576) (hk : 1048576 < k) (hw : Wf_StringS a) : ∃ m : Int, w_szStringS k (a, (n, ())) = some (m, ((), ((), ()))) ∧ (0 ≤ m → m ≤ n ∧ Bd_StringS a) := by
  unfold w_szStringS
  have hl : a.length ≤ 9223372036854775807 := hw.1
  have e : wi64 (n - (List.length a : Int)) = n - (List.length a : Int) := w64_id _ (by omega)
  simp only [e]
  by_cases hc : n - (List.length a : Int) < 0
  · simp only [hc, decide_true, if_true]
    exact ⟨_, rfl, fun h => by omega⟩
  · simp only [hc, decide_false, Bool.false_eq_true, if_false]
    refine (loop_sz (t := .str) a (fun m => (m, ((), ((), ())))) (fun _ => True) ?_ ?_ (n - a.length) (by omega) (by omega) k (by omega)).imp fun m hm => ⟨hm.1, fun h0 => ⟨by have := (hm.2 h0).1; omega, by show a.length ≤ 1048576; omega⟩⟩
    · intro again n' i hn0 hn1 hi hl'
      have w : wi64 (i + 1) = i + 1 := w64_id _ (by omega)
      have hr := rd_get (t := .str) a i (by omega)
      have hs : ByteArray.size (Ty.rd (t := .str) a i) ≤ 9223372036854775807 := by rw [hr]; exact hw.2 _ (List.getElem_mem _)
      have w2 : wi64 (n' - (ByteArray.size (Ty.rd (t := .str) a i) : Int)) = n' - (ByteArray.size (Ty.rd (t := .str) a i) : Int) := w64_id _ (by omega)
      refine ⟨n' - (ByteArray.size (Ty.rd (t := .str) a i) : Int), fun hm => ⟨by omega, trivial⟩, ?_⟩
      simp only [hl', hi, w2, w, decide_true, and_self, if_true, decide_eq_true_eq]
    · intro again n' i hi
      have : ¬ i < (a.length : Int) := by omega
      simp [this]
theorem szBoolS_le (k : Nat) (a : List (Bool)) (n : Int) (h : 0 ≤ n ∧ n ≤ 1048576) (hk : 1048576 < k) (hw : Wf_BoolS a) : ∃ m : Int, w_szBoolS k (a, (n, ())) = some (m, ((), ((), ()))) ∧ (0 ≤ m → m ≤ n ∧ Bd_BoolS a) := by
  unfold w_szBoolS
  have hl : a.length ≤ 9223372036854775807 := hw
  have e : wi64 (n - (List.length a : Int)) = n - (List.length a : Int) := w64_id _ (by omega)
  simp only [e]
  by_cases hc : n - (List.length a : Int) < 0
  · simp only [hc, decide_true, if_true]
    exact ⟨_, rfl, fun h => by omega⟩
  · simp only [hc, decide_false, Bool.false_eq_true, if_false]
    exact ⟨_, rfl, fun _ => ⟨by omega, by show a.length ≤ 1048576; omega⟩⟩
theorem szHeld_le (k : Nat) (x : Int × Int × Int × List (ByteArray) × List (Bool) × Int × Unit) (n : Int) (h : 0 ≤ n ∧ n ≤ 1048576) (hk : 1048576 < k) (hw : Wf_Held x) : ∃ m : Int, w_szHeld k (x, (n, ())) = some (m, ((), ((), ()))) ∧ (0 ≤ m → m ≤ n ∧ Bd_Held x) := by
  obtain ⟨a0, a1, a2, a3, a4, a5, u⟩ := x
  unfold w_szHeld
  unfold Wf_Held at hw
  unfold Bd_Held
  simp only [] at hw ⊢
  obtain ⟨w3, w4, _⟩ := hw
  obtain ⟨m0, e0, b0⟩ := szStringS_le k a3 n ⟨by omega, by omega⟩ hk w3
  simp only [e0, Option.bind_some]
  by_cases c0 : m0 < 0
  · simp only [c0, decide_true, if_true]
    exact ⟨_, rfl, fun h => by omega⟩
  have d0 := b0 (by omega)
  simp only [c0, decide_false, Bool.false_eq_true, if_false]
  obtain ⟨m1, e1, b1⟩ := szBoolS_le k a4 m0 ⟨by omega, by omega⟩ hk w4
  simp only [e1, Option.bind_some]
  by_cases c1 : m1 < 0
  · simp only [c1, decide_true, if_true]
    exact ⟨_, rfl, fun h => by omega⟩
  have d1 := b1 (by omega)
  simp only [c1, decide_false, Bool.false_eq_true, if_false]
  exact ⟨_, rfl, fun _ => ⟨by omega, ⟨d0.2, d1.2, trivial⟩⟩⟩
theorem szHeldS_le (k : Nat) (a : List (Int × Int × Int × List (ByteArray) × List (Bool) × Int)) (n : Int) (h : 0 ≤ n ∧ n ≤ 1048576) (hk : 1048576 < k) (hw : Wf_HeldS a) : ∃ m : Int, w_szHeldS k (a, (n, ())) = some (m, ((), ((), ()))) ∧ (0 ≤ m → m ≤ n ∧ Bd_HeldS a) := by
  unfold w_szHeldS
  have hl : a.length ≤ 9223372036854775807 := hw.1
  have e : wi64 (n - (List.length a : Int)) = n - (List.length a : Int) := w64_id _ (by omega)
  simp only [e]
  by_cases hc : n - (List.length a : Int) < 0
  · simp only [hc, decide_true, if_true]
    exact ⟨_, rfl, fun h => by omega⟩
  · simp only [hc, decide_false, Bool.false_eq_true, if_false]
    refine (loop_sz (t := (.pair (.int .i64) (.pair (.int .i64) (.pair (.int .i64) (.pair (.list .str) (.pair (.list .bool) (.int .i64))))))) a (fun m => (m, ((), ((), ())))) (fun r => Bd_Held (ag_Held r)) ?_ ?_ (n - a.length) (by omega) (by omega) k (by omega)).imp fun m hm => ⟨hm.1, fun h0 => ⟨by have := (hm.2 h0).1; omega, ⟨by omega, (hm.2 h0).2⟩⟩⟩
    · intro again n' i hn0 hn1 hi hl'
      have w : wi64 (i + 1) = i + 1 := w64_id _ (by omega)
      have hr := rd_get (t := (.pair (.int .i64) (.pair (.int .i64) (.pair (.int .i64) (.pair (.list .str) (.pair (.list .bool) (.int .i64))))))) a i (by omega)
      obtain ⟨m, e1, e2⟩ := szHeld_le k (ag_Held (Ty.rd (t := (.pair (.int .i64) (.pair (.int .i64) (.pair (.int .i64) (.pair (.list .str) (.pair (.list .bool) (.int .i64))))))) a i)) n' ⟨hn0, hn1⟩ hk (by rw [hr]; exact hw.2 _ (List.getElem_mem _))
      simp only [ag_Held] at e1
      refine ⟨m, fun hm => e2 hm, ?_⟩
      simp only [hl', hi, e1, w, decide_true, and_self, if_true, Option.bind_some, decide_eq_true_eq]
    · intro again n' i hi
      have : ¬ i < (a.length : Int) := by omega
      simp [this]
theorem szShelf_le (k : Nat) (x : (List (Int × Int × Int × List (ByteArray) × List (Bool) × Int)) × Unit) (n : Int) (h : 0 ≤ n ∧ n ≤ 1048576) (hk : 1048576 < k) (hw : Wf_Shelf x) : ∃ m : Int, w_szShelf k (x, (n, ())) = some (m, ((), ((), ()))) ∧ (0 ≤ m → m ≤ n ∧ Bd_Shelf x) := by
  obtain ⟨a0, u⟩ := x
  unfold w_szShelf
  unfold Wf_Shelf at hw
  unfold Bd_Shelf
  simp only [] at hw ⊢
  obtain ⟨w0, _⟩ := hw
  obtain ⟨m0, e0, b0⟩ := szHeldS_le k a0 n ⟨by omega, by omega⟩ hk w0
  simp only [e0, Option.bind_some]
  by_cases c0 : m0 < 0
  · simp only [c0, decide_true, if_true]
    exact ⟨_, rfl, fun h => by omega⟩
  have d0 := b0 (by omega)
  simp only [c0, decide_false, Bool.false_eq_true, if_false]
  exact ⟨_, rfl, fun _ => ⟨by omega, ⟨d0.2, trivial⟩⟩⟩
theorem szUser_le (k : Nat) (x : Int × Int × Int × ByteArray × ByteArray × Int × List (Int) × Int × Int × ByteArray × ByteArray × Int × List (Int) × Int × (List (Int × Int × Int × List (ByteArray) × List (Bool) × Int)) × Int × Unit) (n : Int) (h : 0 ≤ n ∧ n ≤ 1048576) (hk : 1048576 < k) (hw : Wf_User x) : ∃ m : Int, w_szUser k (x, (n, ())) = some (m, ((), ((), ()))) ∧ (0 ≤ m → m ≤ n ∧ Bd_User x) := by
  obtain ⟨a0, a1, a2, a3, a4, a5, a6, a7, a8, a9, a10, a11, a12, a13, a14, a15, u⟩ := x
  unfold w_szUser
  unfold Wf_User at hw
  unfold Bd_User
  simp only [] at hw ⊢
  obtain ⟨w3, w4, w6, w9, w10, w12, w14, _⟩ := hw
  obtain ⟨m0, e0, b0⟩ := szSlots_le k (a2, (a3, (a4, (a5, (a6, (a7, (a8, (a9, (a10, (a11, (a12, (a13, ())))))))))))) n ⟨by omega, by omega⟩ hk ⟨w3, w4, w6, w9, w10, w12, trivial⟩
  simp only [e0, Option.bind_some]
  by_cases c0 : m0 < 0
  · simp only [c0, decide_true, if_true]
    exact ⟨_, rfl, fun h => by omega⟩
  have d0 := b0 (by omega)
  simp only [c0, decide_false, Bool.false_eq_true, if_false]
  obtain ⟨m1, e1, b1⟩ := szShelf_le k (a14, ()) m0 ⟨by omega, by omega⟩ hk ⟨w14, trivial⟩
  simp only [e1, Option.bind_some]
  by_cases c1 : m1 < 0
  · simp only [c1, decide_true, if_true]
    exact ⟨_, rfl, fun h => by omega⟩
  have d1 := b1 (by omega)
  simp only [c1, decide_false, Bool.false_eq_true, if_false]
  exact ⟨_, rfl, fun _ => ⟨by omega, ⟨d0.2.1, d0.2.2.1, d0.2.2.2.1, d0.2.2.2.2.1, d0.2.2.2.2.2.1, d0.2.2.2.2.2.2.1, d1.2.1, trivial⟩⟩⟩
theorem szUserS_le (k : Nat) (a : List (Int × Int × ((Int × ByteArray × ByteArray × Int × List (Int) × Int) × Int × ByteArray × ByteArray × Int × List (Int) × Int) × List (Int × Int × Int × List (ByteArray) × List (Bool) × Int) × Int)) (n : Int) (h : 0 ≤ n ∧ n ≤ 1048576) (hk : 1048576 < k) (hw : Wf_UserS a) : ∃ m : Int, w_szUserS k (a, (n, ())) = some (m, ((), ((), ()))) ∧ (0 ≤ m → m ≤ n ∧ Bd_UserS a) := by
  unfold w_szUserS
  have hl : a.length ≤ 9223372036854775807 := hw.1
  have e : wi64 (n - (List.length a : Int)) = n - (List.length a : Int) := w64_id _ (by omega)
  simp only [e]
  by_cases hc : n - (List.length a : Int) < 0
  · simp only [hc, decide_true, if_true]
    exact ⟨_, rfl, fun h => by omega⟩
  · simp only [hc, decide_false, Bool.false_eq_true, if_false]
    refine (loop_sz (t := (.pair (.int .i64) (.pair (.int .i64) (.pair (.pair (.pair (.int .i64) (.pair .str (.pair .str (.pair (.int .i64) (.pair (.list (.int .i64)) (.int .i64)))))) (.pair (.int .i64) (.pair .str (.pair .str (.pair (.int .i64) (.pair (.list (.int .i64)) (.int .i64))))))) (.pair (.list (.pair (.int .i64) (.pair (.int .i64) (.pair (.int .i64) (.pair (.list .str) (.pair (.list .bool) (.int .i64))))))) (.int .i64)))))) a (fun m => (m, ((), ((), ())))) (fun r => Bd_User (ag_User r)) ?_ ?_ (n - a.length) (by omega) (by omega) k (by omega)).imp fun m hm => ⟨hm.1, fun h0 => ⟨by have := (hm.2 h0).1; omega, ⟨by omega, (hm.2 h0).2⟩⟩⟩
    · intro again n' i hn0 hn1 hi hl'
      have w : wi64 (i + 1) = i + 1 := w64_id _ (by omega)
      have hr := rd_get (t := (.pair (.int .i64) (.pair (.int .i64) (.pair (.pair (.pair (.int .i64) (.pair .str (.pair .str (.pair (.int .i64) (.pair (.list (.int .i64)) (.int .i64)))))) (.pair (.int .i64) (.pair .str (.pair .str (.pair (.int .i64) (.pair (.list (.int .i64)) (.int .i64))))))) (.pair (.list (.pair (.int .i64) (.pair (.int .i64) (.pair (.int .i64) (.pair (.list .str) (.pair (.list .bool) (.int .i64))))))) (.int .i64)))))) a i (by omega)
      obtain ⟨m, e1, e2⟩ := szUser_le k (ag_User (Ty.rd (t := (.pair (.int .i64) (.pair (.int .i64) (.pair (.pair (.pair (.int .i64) (.pair .str (.pair .str (.pair (.int .i64) (.pair (.list (.int .i64)) (.int .i64)))))) (.pair (.int .i64) (.pair .str (.pair .str (.pair (.int .i64) (.pair (.list (.int .i64)) (.int .i64))))))) (.pair (.list (.pair (.int .i64) (.pair (.int .i64) (.pair (.int .i64) (.pair (.list .str) (.pair (.list .bool) (.int .i64))))))) (.int .i64)))))) a i)) n' ⟨hn0, hn1⟩ hk (by rw [hr]; exact hw.2 _ (List.getElem_mem _))
      simp only [ag_User] at e1
      refine ⟨m, fun hm => e2 hm, ?_⟩
      simp only [hl', hi, e1, w, decide_true, and_self, if_true, Option.bind_some, decide_eq_true_eq]
    · intro again n' i hi
      have : ¬ i < (a.length : Int) := by omega
      simp [this]
theorem szHub_le (k : Nat) (x : Int × Int × (List (Int × Int × Int)) × (List (Int × Int)) × (List ((Int × Int) × Int)) × (List (Int × Int × ((Int × ByteArray × ByteArray × Int × List (Int) × Int) × Int × ByteArray × ByteArray × Int × List (Int) × Int) × List (Int × Int × Int × List (ByteArray) × List (Bool) × Int) × Int)) × Unit) (n : Int) (h : 0 ≤ n ∧ n ≤ 1048576) (hk : 1048576 < k) (hw : Wf_Hub x) : ∃ m : Int, w_szHub k (x, (n, ())) = some (m, ((), ((), ()))) ∧ (0 ≤ m → m ≤ n ∧ Bd_Hub x) := by
  obtain ⟨a0, a1, a2, a3, a4, a5, u⟩ := x
  unfold w_szHub
  unfold Wf_Hub at hw
  unfold Bd_Hub
  simp only [] at hw ⊢
  obtain ⟨w2, w3, w4, w5, _⟩ := hw
  obtain ⟨m0, e0, b0⟩ := szPool_le k (a0, (a1, (a2, (a3, ())))) n ⟨by omega, by omega⟩ hk ⟨w2, w3, trivial⟩
  simp only [e0, Option.bind_some]
  by_cases c0 : m0 < 0
  · simp only [c0, decide_true, if_true]
    exact ⟨_, rfl, fun h => by omega⟩
  have d0 := b0 (by omega)
  simp only [c0, decide_false, Bool.false_eq_true, if_false]
  obtain ⟨m1, e1, b1⟩ := szRouteS_le k a4 m0 ⟨by omega, by omega⟩ hk w4
  simp only [e1, Option.bind_some]
  by_cases c1 : m1 < 0
  · simp only [c1, decide_true, if_true]
    exact ⟨_, rfl, fun h => by omega⟩
  have d1 := b1 (by omega)
  simp only [c1, decide_false, Bool.false_eq_true, if_false]
  obtain ⟨m2, e2, b2⟩ := szUserS_le k a5 m1 ⟨by omega, by omega⟩ hk w5
  simp only [e2, Option.bind_some]
  by_cases c2 : m2 < 0
  · simp only [c2, decide_true, if_true]
    exact ⟨_, rfl, fun h => by omega⟩
  have d2 := b2 (by omega)
  simp only [c2, decide_false, Bool.false_eq_true, if_false]
  exact ⟨_, rfl, fun _ => ⟨by omega, ⟨d0.2.1, d0.2.2.1, d1.2, d2.2, trivial⟩⟩⟩
def Wf_Packet (x : Int × Int × Int × Int × Int × List (Int) × ByteArray × Unit) : Prop := Wf_IntS x.2.2.2.2.2.1 ∧ ByteArray.size x.2.2.2.2.2.2.1 ≤ 9223372036854775807 ∧ True
def Bd_Packet (x : Int × Int × Int × Int × Int × List (Int) × ByteArray × Unit) : Prop := Bd_IntS x.2.2.2.2.2.1 ∧ ByteArray.size x.2.2.2.2.2.2.1 ≤ 1048576 ∧ True
theorem szPacket_le (k : Nat) (x : Int × Int × Int × Int × Int × List (Int) × ByteArray × Unit) (n : Int) (h : 0 ≤ n ∧ n ≤ 1048576) (hk : 1048576 < k) (hw : Wf_Packet x) : ∃ m : Int, w_szPacket k (x, (n, ())) = some (m, ((), ((), ()))) ∧ (0 ≤ m → m ≤ n ∧ Bd_Packet x) := by
  obtain ⟨a0, a1, a2, a3, a4, a5, a6, u⟩ := x
  unfold w_szPacket
  unfold Wf_Packet at hw
  unfold Bd_Packet
  simp only [] at hw ⊢
  obtain ⟨w5, w6, _⟩ := hw
  obtain ⟨m0, e0, b0⟩ := szIntS_le k a5 n ⟨by omega, by omega⟩ hk w5
  simp only [e0, Option.bind_some]
  by_cases c0 : m0 < 0
  · simp only [c0, decide_true, if_true]
    exact ⟨_, rfl, fun h => by omega⟩
  have d0 := b0 (by omega)
  simp only [c0, decide_false, Bool.false_eq_true, if_false]
  have e1 : wi64 (m0 - (ByteArray.size a6 : Int)) = m0 - (ByteArray.size a6 : Int) := w64_id _ (by omega)
  simp only [e1]
  by_cases c1 : (m0 - (ByteArray.size a6 : Int)) < 0
  · simp only [c1, decide_true, if_true]
    exact ⟨_, rfl, fun h => by omega⟩
  simp only [c1, decide_false, Bool.false_eq_true, if_false]
  exact ⟨_, rfl, fun _ => ⟨by omega, ⟨d0.2, by omega, trivial⟩⟩⟩
theorem szFlight_le (k : Nat) (x : Int × Int × Bool × Int × Int × Int × Int × Int × List (Int) × ByteArray × Unit) (n : Int) (h : 0 ≤ n ∧ n ≤ 1048576) (hk : 1048576 < k) (hw : Wf_Flight x) : ∃ m : Int, w_szFlight k (x, (n, ())) = some (m, ((), ((), ()))) ∧ (0 ≤ m → m ≤ n ∧ Bd_Flight x) := by
  obtain ⟨a0, a1, a2, a3, a4, a5, a6, a7, a8, a9, u⟩ := x
  unfold w_szFlight
  unfold Wf_Flight at hw
  unfold Bd_Flight
  simp only [] at hw ⊢
  obtain ⟨w8, w9, _⟩ := hw
  obtain ⟨m0, e0, b0⟩ := szPacket_le k (a3, (a4, (a5, (a6, (a7, (a8, (a9, ()))))))) n ⟨by omega, by omega⟩ hk ⟨w8, w9, trivial⟩
  simp only [e0, Option.bind_some]
  by_cases c0 : m0 < 0
  · simp only [c0, decide_true, if_true]
    exact ⟨_, rfl, fun h => by omega⟩
  have d0 := b0 (by omega)
  simp only [c0, decide_false, Bool.false_eq_true, if_false]
  exact ⟨_, rfl, fun _ => ⟨by omega, ⟨d0.2.1, d0.2.2.1, trivial⟩⟩⟩
theorem szFlightS_le (k : Nat) (a : List (Int × Int × Bool × Int × Int × Int × Int × Int × List (Int) × ByteArray)) (n : Int) (h : 0 ≤ n ∧ n ≤ 1048576) (hk : 1048576 < k) (hw : Wf_FlightS a) : ∃ m : Int, w_szFlightS k (a, (n, ())) = some (m, ((), ((), ()))) ∧ (0 ≤ m → m ≤ n ∧ Bd_FlightS a) := by
  unfold w_szFlightS
  have hl : a.length ≤ 9223372036854775807 := hw.1
  have e : wi64 (n - (List.length a : Int)) = n - (List.length a : Int) := w64_id _ (by omega)
  simp only [e]
  by_cases hc : n - (List.length a : Int) < 0
  · simp only [hc, decide_true, if_true]
    exact ⟨_, rfl, fun h => by omega⟩
  · simp only [hc, decide_false, Bool.false_eq_true, if_false]
    refine (loop_sz (t := (.pair (.int .i64) (.pair (.int .i64) (.pair .bool (.pair (.int .i64) (.pair (.int .i64) (.pair (.int .i64) (.pair (.int .i64) (.pair (.int .i64) (.pair (.list (.int .i64)) .str)))))))))) a (fun m => (m, ((), ((), ())))) (fun r => Bd_Flight (ag_Flight r)) ?_ ?_ (n - a.length) (by omega) (by omega) k (by omega)).imp fun m hm => ⟨hm.1, fun h0 => ⟨by have := (hm.2 h0).1; omega, ⟨by omega, (hm.2 h0).2⟩⟩⟩
    · intro again n' i hn0 hn1 hi hl'
      have w : wi64 (i + 1) = i + 1 := w64_id _ (by omega)
      have hr := rd_get (t := (.pair (.int .i64) (.pair (.int .i64) (.pair .bool (.pair (.int .i64) (.pair (.int .i64) (.pair (.int .i64) (.pair (.int .i64) (.pair (.int .i64) (.pair (.list (.int .i64)) .str)))))))))) a i (by omega)
      obtain ⟨m, e1, e2⟩ := szFlight_le k (ag_Flight (Ty.rd (t := (.pair (.int .i64) (.pair (.int .i64) (.pair .bool (.pair (.int .i64) (.pair (.int .i64) (.pair (.int .i64) (.pair (.int .i64) (.pair (.int .i64) (.pair (.list (.int .i64)) .str)))))))))) a i)) n' ⟨hn0, hn1⟩ hk (by rw [hr]; exact hw.2 _ (List.getElem_mem _))
      simp only [ag_Flight] at e1
      refine ⟨m, fun hm => e2 hm, ?_⟩
      simp only [hl', hi, e1, w, decide_true, and_self, if_true, Option.bind_some, decide_eq_true_eq]
    · intro again n' i hi
      have : ¬ i < (a.length : Int) := by omega
      simp [this]
def Wf_Inner (x : Int × Int × ByteArray × Unit) : Prop := ByteArray.size x.2.2.1 ≤ 9223372036854775807 ∧ True
def Bd_Inner (x : Int × Int × ByteArray × Unit) : Prop := ByteArray.size x.2.2.1 ≤ 1048576 ∧ True
theorem szInner_le (k : Nat) (x : Int × Int × ByteArray × Unit) (n : Int) (h : 0 ≤ n ∧ n ≤ 1048576) (hk : 1048576 < k) (hw : Wf_Inner x) : ∃ m : Int, w_szInner k (x, (n, ())) = some (m, ((), ((), ()))) ∧ (0 ≤ m → m ≤ n ∧ Bd_Inner x) := by
  obtain ⟨a0, a1, a2, u⟩ := x
  unfold w_szInner
  unfold Wf_Inner at hw
  unfold Bd_Inner
  simp only [] at hw ⊢
  obtain ⟨w2, _⟩ := hw
  have e0 : wi64 (n - (ByteArray.size a2 : Int)) = n - (ByteArray.size a2 : Int) := w64_id _ (by omega)
  simp only [e0]
  by_cases c0 : (n - (ByteArray.size a2 : Int)) < 0
  · simp only [c0, decide_true, if_true]
    exact ⟨_, rfl, fun h => by omega⟩
  simp only [c0, decide_false, Bool.false_eq_true, if_false]
  exact ⟨_, rfl, fun _ => ⟨by omega, ⟨by omega, trivial⟩⟩⟩
theorem szCarried_le (k : Nat) (x : Int × Int × Int × ByteArray × Unit) (n : Int) (h : 0 ≤ n ∧ n ≤ 1048576) (hk : 1048576 < k) (hw : Wf_Carried x) : ∃ m : Int, w_szCarried k (x, (n, ())) = some (m, ((), ((), ()))) ∧ (0 ≤ m → m ≤ n ∧ Bd_Carried x) := by
  obtain ⟨a0, a1, a2, a3, u⟩ := x
  unfold w_szCarried
  unfold Wf_Carried at hw
  unfold Bd_Carried
  simp only [] at hw ⊢
  obtain ⟨w3, _⟩ := hw
  obtain ⟨m0, e0, b0⟩ := szInner_le k (a1, (a2, (a3, ()))) n ⟨by omega, by omega⟩ hk ⟨w3, trivial⟩
  simp only [e0, Option.bind_some]
  by_cases c0 : m0 < 0
  · simp only [c0, decide_true, if_true]
    exact ⟨_, rfl, fun h => by omega⟩
  have d0 := b0 (by omega)
  simp only [c0, decide_false, Bool.false_eq_true, if_false]
  exact ⟨_, rfl, fun _ => ⟨by omega, ⟨d0.2.1, trivial⟩⟩⟩
theorem szCarriedS_le (k : Nat) (a : List (Int × Int × Int × ByteArray)) (n : Int) (h : 0 ≤ n ∧ n ≤ 1048576) (hk : 1048576 < k) (hw : Wf_CarriedS a) : ∃ m : Int, w_szCarriedS k (a, (n, ())) = some (m, ((), ((), ()))) ∧ (0 ≤ m → m ≤ n ∧ Bd_CarriedS a) := by
  unfold w_szCarriedS
  have hl : a.length ≤ 9223372036854775807 := hw.1
  have e : wi64 (n - (List.length a : Int)) = n - (List.length a : Int) := w64_id _ (by omega)
  simp only [e]
  by_cases hc : n - (List.length a : Int) < 0
  · simp only [hc, decide_true, if_true]
    exact ⟨_, rfl, fun h => by omega⟩
  · simp only [hc, decide_false, Bool.false_eq_true, if_false]
    refine (loop_sz (t := (.pair (.int .i64) (.pair (.int .i64) (.pair (.int .i64) .str)))) a (fun m => (m, ((), ((), ())))) (fun r => Bd_Carried (ag_Carried r)) ?_ ?_ (n - a.length) (by omega) (by omega) k (by omega)).imp fun m hm => ⟨hm.1, fun h0 => ⟨by have := (hm.2 h0).1; omega, ⟨by omega, (hm.2 h0).2⟩⟩⟩
    · intro again n' i hn0 hn1 hi hl'
      have w : wi64 (i + 1) = i + 1 := w64_id _ (by omega)
      have hr := rd_get (t := (.pair (.int .i64) (.pair (.int .i64) (.pair (.int .i64) .str)))) a i (by omega)
      obtain ⟨m, e1, e2⟩ := szCarried_le k (ag_Carried (Ty.rd (t := (.pair (.int .i64) (.pair (.int .i64) (.pair (.int .i64) .str)))) a i)) n' ⟨hn0, hn1⟩ hk (by rw [hr]; exact hw.2 _ (List.getElem_mem _))
      simp only [ag_Carried] at e1
      refine ⟨m, fun hm => e2 hm, ?_⟩
      simp only [hl', hi, e1, w, decide_true, and_self, if_true, Option.bind_some, decide_eq_true_eq]
    · intro again n' i hi
      have : ¬ i < (a.length : Int) := by omega
      simp [this]
theorem szSealingS_le (k : Nat) (a : List (Int × Bool × Int × Int)) (n : Int) (h : 0 ≤ n ∧ n ≤ 1048576) (hk : 1048576 < k) (hw : Wf_SealingS a) : ∃ m : Int, w_szSealingS k (a, (n, ())) = some (m, ((), ((), ()))) ∧ (0 ≤ m → m ≤ n ∧ Bd_SealingS a) := by
  unfold w_szSealingS
  have hl : a.length ≤ 9223372036854775807 := hw.1
  have e : wi64 (n - (List.length a : Int)) = n - (List.length a : Int) := w64_id _ (by omega)
  simp only [e]
  by_cases hc : n - (List.length a : Int) < 0
  · simp only [hc, decide_true, if_true]
    exact ⟨_, rfl, fun h => by omega⟩
  · simp only [hc, decide_false, Bool.false_eq_true, if_false]
    exact ⟨_, rfl, fun _ => ⟨by omega, ⟨by omega, fun r _ => by unfold Bd_Sealing; simp⟩⟩⟩
theorem szLife_le (k : Nat) (x : Int × Int × (List (Int × Int × Int)) × (List (Int × Int)) × (List ((Int × Int) × Int)) × (List (Int × Int × ((Int × ByteArray × ByteArray × Int × List (Int) × Int) × Int × ByteArray × ByteArray × Int × List (Int) × Int) × List (Int × Int × Int × List (ByteArray) × List (Bool) × Int) × Int)) × (List (Int × Int × ((Int × ByteArray × ByteArray × Int × List (Int) × Int) × Int × ByteArray × ByteArray × Int × List (Int) × Int) × List (Int × Int × Int × List (ByteArray) × List (Bool) × Int) × Int)) × List (Int) × Int × (List (Int × Int × Bool × Int × Int × Int × Int × Int × List (Int) × ByteArray)) × Int × (List (Int × Int × Int × ByteArray)) × (List (Int × Int × Int × ByteArray)) × Int × (List (Int × Bool × Int × Int)) × Unit) (n : Int) (h : 0 ≤ n ∧ n ≤ 1048576) (hk : 1048576 < k) (hw : Wf_Life x) : ∃ m : Int, w_szLife k (x, (n, ())) = some (m, ((), ((), ()))) ∧ (0 ≤ m → m ≤ n ∧ Bd_Life x) := by
  obtain ⟨a0, a1, a2, a3, a4, a5, a6, a7, a8, a9, a10, a11, a12, a13, a14, u⟩ := x
  unfold w_szLife
  unfold Wf_Life at hw
  unfold Bd_Life
  simp only [] at hw ⊢
  obtain ⟨w2, w3, w4, w5, w6, w7, w9, w11, w12, w14, _⟩ := hw
  obtain ⟨m0, e0, b0⟩ := szHub_le k (a0, (a1, (a2, (a3, (a4, (a5, ())))))) n ⟨by omega, by omega⟩ hk ⟨w2, w3, w4, w5, trivial⟩
  simp only [e0, Option.bind_some]
  by_cases c0 : m0 < 0
  · simp only [c0, decide_true, if_true]
    exact ⟨_, rfl, fun h => by omega⟩
  have d0 := b0 (by omega)
  simp only [c0, decide_false, Bool.false_eq_true, if_false]
  obtain ⟨m1, e1, b1⟩ := szUserS_le k a6 m0 ⟨by omega, by omega⟩ hk w6
  simp only [e1, Option.bind_some]
  by_cases c1 : m1 < 0
  · simp only [c1, decide_true, if_true]
    exact ⟨_, rfl, fun h => by omega⟩
  have d1 := b1 (by omega)
  simp only [c1, decide_false, Bool.false_eq_true, if_false]
  obtain ⟨m2, e2, b2⟩ := szIntS_le k a7 m1 ⟨by omega, by omega⟩ hk w7
  simp only [e2, Option.bind_some]
  by_cases c2 : m2 < 0
  · simp only [c2, decide_true, if_true]
    exact ⟨_, rfl, fun h => by omega⟩
  have d2 := b2 (by omega)
  simp only [c2, decide_false, Bool.false_eq_true, if_false]
  obtain ⟨m3, e3, b3⟩ := szFlightS_le k a9 m2 ⟨by omega, by omega⟩ hk w9
  simp only [e3, Option.bind_some]
  by_cases c3 : m3 < 0
  · simp only [c3, decide_true, if_true]
    exact ⟨_, rfl, fun h => by omega⟩
  have d3 := b3 (by omega)
  simp only [c3, decide_false, Bool.false_eq_true, if_false]
  obtain ⟨m4, e4, b4⟩ := szCarriedS_le k a11 m3 ⟨by omega, by omega⟩ hk w11
  simp only [e4, Option.bind_some]
  by_cases c4 : m4 < 0
  · simp only [c4, decide_true, if_true]
    exact ⟨_, rfl, fun h => by omega⟩
  have d4 := b4 (by omega)
  simp only [c4, decide_false, Bool.false_eq_true, if_false]
  obtain ⟨m5, e5, b5⟩ := szCarriedS_le k a12 m4 ⟨by omega, by omega⟩ hk w12
  simp only [e5, Option.bind_some]
  by_cases c5 : m5 < 0
  · simp only [c5, decide_true, if_true]
    exact ⟨_, rfl, fun h => by omega⟩
  have d5 := b5 (by omega)
  simp only [c5, decide_false, Bool.false_eq_true, if_false]
  obtain ⟨m6, e6, b6⟩ := szSealingS_le k a14 m5 ⟨by omega, by omega⟩ hk w14
  simp only [e6, Option.bind_some]
  by_cases c6 : m6 < 0
  · simp only [c6, decide_true, if_true]
    exact ⟨_, rfl, fun h => by omega⟩
  have d6 := b6 (by omega)
  simp only [c6, decide_false, Bool.false_eq_true, if_false]
  exact ⟨_, rfl, fun _ => ⟨by omega, ⟨d0.2.1, d0.2.2.1, d0.2.2.2.1, d0.2.2.2.2.1, d1.2, d2.2, d3.2, d4.2, d5.2, d6.2, trivial⟩⟩⟩
def Wf_Prefix (x : Int × Int × Unit) : Prop := True
def Bd_Prefix (x : Int × Int × Unit) : Prop := True
theorem toPrefix_is (k : Nat) (x : Int × Int × Unit) (hk : 1048576 < k) (hb : Bd_Prefix x) : w_toPrefix k (x, ()) = some (x, ((), ())) := by
  obtain ⟨a0, a1, u⟩ := x
  unfold w_toPrefix
  rfl
theorem toLease_is (k : Nat) (x : Int × Int × Int × Unit) (hk : 1048576 < k) (hb : Bd_Lease x) : w_toLease k (x, ()) = some (x, ((), ())) := by
  obtain ⟨a0, a1, a2, u⟩ := x
  unfold w_toLease
  rfl
theorem toLeaseS_is (k : Nat) (a : List (Int × Int × Int)) (hk : 1048576 < k) (hb : Bd_LeaseS a) : w_toLeaseS k (a, ()) = some (a, ((), ())) := by
  unfold w_toLeaseS
  have hl : a.length ≤ 1048576 := hb.1
  have hcap : (capMax : Int) = 274877906944 := rfl
  simp only [if_true]
  rw [if_pos (by omega)]
  refine loop_to (t := (.pair (.int .i64) (.pair (.int .i64) (.int .i64)))) a (fun out => (out, ((), ()))) ?_ ?_ _ (by simp) k (by omega)
  · intro again out i hi hl' ho
    have w : wi64 (i + 1) = i + 1 := w64_id _ (by omega)
    have hr := rd_get (t := (.pair (.int .i64) (.pair (.int .i64) (.int .i64)))) a i (by omega)
    have e := toLease_is k (ag_Lease (Ty.rd (t := (.pair (.int .i64) (.pair (.int .i64) (.int .i64)))) a i)) hk (by rw [hr]; exact hb.2 _ (List.getElem_mem _))
    simp only [ag_Lease] at e
    simp only [hl', hi, ho, e, w, decide_true, and_self, if_true, Option.bind_some]
  · intro again out i hi
    have : ¬ i < (a.length : Int) := by omega
    simp [this]
theorem toFixed_is (k : Nat) (x : Int × Int × Unit) (hk : 1048576 < k) (hb : Bd_Fixed x) : w_toFixed k (x, ()) = some (x, ((), ())) := by
  obtain ⟨a0, a1, u⟩ := x
  unfold w_toFixed
  rfl
theorem toFixedS_is (k : Nat) (a : List (Int × Int)) (hk : 1048576 < k) (hb : Bd_FixedS a) : w_toFixedS k (a, ()) = some (a, ((), ())) := by
  unfold w_toFixedS
  have hl : a.length ≤ 1048576 := hb.1
  have hcap : (capMax : Int) = 274877906944 := rfl
  simp only [if_true]
  rw [if_pos (by omega)]
  refine loop_to (t := (.pair (.int .i64) (.int .i64))) a (fun out => (out, ((), ()))) ?_ ?_ _ (by simp) k (by omega)
  · intro again out i hi hl' ho
    have w : wi64 (i + 1) = i + 1 := w64_id _ (by omega)
    have hr := rd_get (t := (.pair (.int .i64) (.int .i64))) a i (by omega)
    have e := toFixed_is k (ag_Fixed (Ty.rd (t := (.pair (.int .i64) (.int .i64))) a i)) hk (by rw [hr]; exact hb.2 _ (List.getElem_mem _))
    simp only [ag_Fixed] at e
    simp only [hl', hi, ho, e, w, decide_true, and_self, if_true, Option.bind_some]
  · intro again out i hi
    have : ¬ i < (a.length : Int) := by omega
    simp [this]
theorem toPool_is (k : Nat) (x : Int × Int × (List (Int × Int × Int)) × (List (Int × Int)) × Unit) (hk : 1048576 < k) (hb : Bd_Pool x) : w_toPool k (x, ()) = some (x, ((), ())) := by
  obtain ⟨a0, a1, a2, a3, u⟩ := x
  unfold w_toPool
  unfold Bd_Pool at hb
  obtain ⟨b2, b3, b⟩ := hb
  simp only [] at b2 b3
  simp only [toPrefix_is k (a0, (a1, ())) hk trivial, toLeaseS_is k a2 hk b2, toFixedS_is k a3 hk b3, Option.bind_some]
theorem toRoute_is (k : Nat) (x : Int × Int × Int × Unit) (hk : 1048576 < k) (hb : Bd_Route x) : w_toRoute k (x, ()) = some (x, ((), ())) := by
  obtain ⟨a0, a1, a2, u⟩ := x
  unfold w_toRoute
  simp only [toPrefix_is k (a0, (a1, ())) hk trivial, Option.bind_some]
theorem toRouteS_is (k : Nat) (a : List ((Int × Int) × Int)) (hk : 1048576 < k) (hb : Bd_RouteS a) : w_toRouteS k (a, ()) = some (a, ((), ())) := by
  unfold w_toRouteS
  have hl : a.length ≤ 1048576 := hb.1
  have hcap : (capMax : Int) = 274877906944 := rfl
  simp only [if_true]
  rw [if_pos (by omega)]
  refine loop_to (t := (.pair (.pair (.int .i64) (.int .i64)) (.int .i64))) a (fun out => (out, ((), ()))) ?_ ?_ _ (by simp) k (by omega)
  · intro again out i hi hl' ho
    have w : wi64 (i + 1) = i + 1 := w64_id _ (by omega)
    have hr := rd_get (t := (.pair (.pair (.int .i64) (.int .i64)) (.int .i64))) a i (by omega)
    have e := toRoute_is k (ag_Route (Ty.rd (t := (.pair (.pair (.int .i64) (.int .i64)) (.int .i64))) a i)) hk (by rw [hr]; exact hb.2 _ (List.getElem_mem _))
    simp only [ag_Route] at e
    simp only [hl', hi, ho, e, w, decide_true, and_self, if_true, Option.bind_some]
  · intro again out i hi
    have : ¬ i < (a.length : Int) := by omega
    simp [this]
theorem toIntS_is (k : Nat) (a : List (Int)) (hk : 1048576 < k) (hb : Bd_IntS a) : w_toIntS k (a, ()) = some (a, ((), ())) := by
  unfold w_toIntS
  have hl : a.length ≤ 1048576 := hb
  have hcap : (capMax : Int) = 274877906944 := rfl
  simp only [if_true]
  rw [if_pos (by omega)]
  refine loop_to (t := (.int .i64)) a (fun out => (out, ((), ()))) ?_ ?_ _ (by simp) k (by omega)
  · intro again out i hi hl' ho
    have w : wi64 (i + 1) = i + 1 := w64_id _ (by omega)
    simp only [hl', hi, ho, w, decide_true, and_self, if_true]
  · intro again out i hi
    have : ¬ i < (a.length : Int) := by omega
    simp [this]
theorem toSlot_is (k : Nat) (x : Int × ByteArray × ByteArray × Int × List (Int) × Int × Unit) (hk : 1048576 < k) (hb : Bd_Slot x) : w_toSlot k (x, ()) = some (x, ((), ())) := by
  obtain ⟨a0, a1, a2, a3, a4, a5, u⟩ := x
  unfold w_toSlot
  unfold Bd_Slot at hb
  obtain ⟨b1, b2, b4, b⟩ := hb
  simp only [] at b1 b2 b4
  simp only [toIntS_is k a4 hk b4, Option.bind_some]
theorem toSlots_is (k : Nat) (x : Int × ByteArray × ByteArray × Int × List (Int) × Int × Int × ByteArray × ByteArray × Int × List (Int) × Int × Unit) (hk : 1048576 < k) (hb : Bd_Slots x) : w_toSlots k (x, ()) = some (x, ((), ())) := by
  obtain ⟨a0, a1, a2, a3, a4, a5, a6, a7, a8, a9, a10, a11, u⟩ := x
  unfold w_toSlots
  unfold Bd_Slots at hb
  obtain ⟨b1, b2, b4, b7, b8, b10, b⟩ := hb
  simp only [] at b1 b2 b4 b7 b8 b10
  simp only [toSlot_is k (a0, (a1, (a2, (a3, (a4, (a5, ())))))) hk ⟨b1, b2, b4, trivial⟩, toSlot_is k (a6, (a7, (a8, (a9, (a10, (a11, ())))))) hk ⟨b7, b8, b10, trivial⟩, Option.bind_some]
theorem toStringS_is (k : Nat) (a : List (ByteArray)) (hk : 1048576 < k) (hb : Bd_StringS a) : w_toStringS k (a, ()) = some (a, ((), ())) := by
  unfold w_toStringS
  have hl : a.length ≤ 1048576 := hb
  have hcap : (capMax : Int) = 274877906944 := rfl
  simp only [if_true]
  rw [if_pos (by omega)]
  refine loop_to (t := .str) a (fun out => (out, ((), ()))) ?_ ?_ _ (by simp) k (by omega)
  · intro again out i hi hl' ho
    have w : wi64 (i + 1) = i + 1 := w64_id _ (by omega)
    simp only [hl', hi, ho, w, decide_true, and_self, if_true]
  · intro again out i hi
    have : ¬ i < (a.length : Int) := by omega
    simp [this]
theorem toBoolS_is (k : Nat) (a : List (Bool)) (hk : 1048576 < k) (hb : Bd_BoolS a) : w_toBoolS k (a, ()) = some (a, ((), ())) := by
  unfold w_toBoolS
  have hl : a.length ≤ 1048576 := hb
  have hcap : (capMax : Int) = 274877906944 := rfl
  simp only [if_true]
  rw [if_pos (by omega)]
  refine loop_to (t := .bool) a (fun out => (out, ((), ()))) ?_ ?_ _ (by simp) k (by omega)
  · intro again out i hi hl' ho
    have w : wi64 (i + 1) = i + 1 := w64_id _ (by omega)
    simp only [hl', hi, ho, w, decide_true, and_self, if_true]
  · intro again out i hi
    have : ¬ i < (a.length : Int) := by omega
    simp [this]
theorem toHeld_is (k : Nat) (x : Int × Int × Int × List (ByteArray) × List (Bool) × Int × Unit) (hk : 1048576 < k) (hb : Bd_Held x) : w_toHeld k (x, ()) = some (x, ((), ())) := by
  obtain ⟨a0, a1, a2, a3, a4, a5, u⟩ := x
  unfold w_toHeld
  unfold Bd_Held at hb
  obtain ⟨b3, b4, b⟩ := hb
  simp only [] at b3 b4
  simp only [toStringS_is k a3 hk b3, toBoolS_is k a4 hk b4, Option.bind_some]
theorem toHeldS_is (k : Nat) (a : List (Int × Int × Int × List (ByteArray) × List (Bool) × Int)) (hk : 1048576 < k) (hb : Bd_HeldS a) : w_toHeldS k (a, ()) = some (a, ((), ())) := by
  unfold w_toHeldS
  have hl : a.length ≤ 1048576 := hb.1
  have hcap : (capMax : Int) = 274877906944 := rfl
  simp only [if_true]
  rw [if_pos (by omega)]
  refine loop_to (t := (.pair (.int .i64) (.pair (.int .i64) (.pair (.int .i64) (.pair (.list .str) (.pair (.list .bool) (.int .i64))))))) a (fun out => (out, ((), ()))) ?_ ?_ _ (by simp) k (by omega)
  · intro again out i hi hl' ho
    have w : wi64 (i + 1) = i + 1 := w64_id _ (by omega)
    have hr := rd_get (t := (.pair (.int .i64) (.pair (.int .i64) (.pair (.int .i64) (.pair (.list .str) (.pair (.list .bool) (.int .i64))))))) a i (by omega)
    have e := toHeld_is k (ag_Held (Ty.rd (t := (.pair (.int .i64) (.pair (.int .i64) (.pair (.int .i64) (.pair (.list .str) (.pair (.list .bool) (.int .i64))))))) a i)) hk (by rw [hr]; exact hb.2 _ (List.getElem_mem _))
    simp only [ag_Held] at e
    simp only [hl', hi, ho, e, w, decide_true, and_self, if_true, Option.bind_some]
  · intro again out i hi
    have : ¬ i < (a.length : Int) := by omega
    simp [this]
theorem toShelf_is (k : Nat) (x : (List (Int × Int × Int × List (ByteArray) × List (Bool) × Int)) × Unit) (hk : 1048576 < k) (hb : Bd_Shelf x) : w_toShelf k (x, ()) = some (x, ((), ())) := by
  obtain ⟨a0, u⟩ := x
  unfold w_toShelf
  unfold Bd_Shelf at hb
  obtain ⟨b0, b⟩ := hb
  simp only [] at b0
  simp only [toHeldS_is k a0 hk b0, Option.bind_some]
theorem toUser_is (k : Nat) (x : Int × Int × Int × ByteArray × ByteArray × Int × List (Int) × Int × Int × ByteArray × ByteArray × Int × List (Int) × Int × (List (Int × Int × Int × List (ByteArray) × List (Bool) × Int)) × Int × Unit) (hk : 1048576 < k) (hb : Bd_User x) : w_toUser k (x, ()) = some (x, ((), ())) := by
  obtain ⟨a0, a1, a2, a3, a4, a5, a6, a7, a8, a9, a10, a11, a12, a13, a14, a15, u⟩ := x
  unfold w_toUser
  unfold Bd_User at hb
  obtain ⟨b3, b4, b6, b9, b10, b12, b14, b⟩ := hb
  simp only [] at b3 b4 b6 b9 b10 b12 b14
  simp only [toSlots_is k (a2, (a3, (a4, (a5, (a6, (a7, (a8, (a9, (a10, (a11, (a12, (a13, ())))))))))))) hk ⟨b3, b4, b6, b9, b10, b12, trivial⟩, toShelf_is k (a14, ()) hk ⟨b14, trivial⟩, Option.bind_some]
theorem toUserS_is (k : Nat) (a : List (Int × Int × ((Int × ByteArray × ByteArray × Int × List (Int) × Int) × Int × ByteArray × ByteArray × Int × List (Int) × Int) × List (Int × Int × Int × List (ByteArray) × List (Bool) × Int) × Int)) (hk : 1048576 < k) (hb : Bd_UserS a) : w_toUserS k (a, ()) = some (a, ((), ())) := by
  unfold w_toUserS
  have hl : a.length ≤ 1048576 := hb.1
  have hcap : (capMax : Int) = 274877906944 := rfl
  simp only [if_true]
  rw [if_pos (by omega)]
  refine loop_to (t := (.pair (.int .i64) (.pair (.int .i64) (.pair (.pair (.pair (.int .i64) (.pair .str (.pair .str (.pair (.int .i64) (.pair (.list (.int .i64)) (.int .i64)))))) (.pair (.int .i64) (.pair .str (.pair .str (.pair (.int .i64) (.pair (.list (.int .i64)) (.int .i64))))))) (.pair (.list (.pair (.int .i64) (.pair (.int .i64) (.pair (.int .i64) (.pair (.list .str) (.pair (.list .bool) (.int .i64))))))) (.int .i64)))))) a (fun out => (out, ((), ()))) ?_ ?_ _ (by simp) k (by omega)
  · intro again out i hi hl' ho
    have w : wi64 (i + 1) = i + 1 := w64_id _ (by omega)
    have hr := rd_get (t := (.pair (.int .i64) (.pair (.int .i64) (.pair (.pair (.pair (.int .i64) (.pair .str (.pair .str (.pair (.int .i64) (.pair (.list (.int .i64)) (.int .i64)))))) (.pair (.int .i64) (.pair .str (.pair .str (.pair (.int .i64) (.pair (.list (.int .i64)) (.int .i64))))))) (.pair (.list (.pair (.int .i64) (.pair (.int .i64) (.pair (.int .i64) (.pair (.list .str) (.pair (.list .bool) (.int .i64))))))) (.int .i64)))))) a i (by omega)
    have e := toUser_is k (ag_User (Ty.rd (t := (.pair (.int .i64) (.pair (.int .i64) (.pair (.pair (.pair (.int .i64) (.pair .str (.pair .str (.pair (.int .i64) (.pair (.list (.int .i64)) (.int .i64)))))) (.pair (.int .i64) (.pair .str (.pair .str (.pair (.int .i64) (.pair (.list (.int .i64)) (.int .i64))))))) (.pair (.list (.pair (.int .i64) (.pair (.int .i64) (.pair (.int .i64) (.pair (.list .str) (.pair (.list .bool) (.int .i64))))))) (.int .i64)))))) a i)) hk (by rw [hr]; exact hb.2 _ (List.getElem_mem _))
    simp only [ag_User] at e
    simp only [hl', hi, ho, e, w, decide_true, and_self, if_true, Option.bind_some]
  · intro again out i hi
    have : ¬ i < (a.length : Int) := by omega
    simp [this]
theorem toHub_is (k : Nat) (x : Int × Int × (List (Int × Int × Int)) × (List (Int × Int)) × (List ((Int × Int) × Int)) × (List (Int × Int × ((Int × ByteArray × ByteArray × Int × List (Int) × Int) × Int × ByteArray × ByteArray × Int × List (Int) × Int) × List (Int × Int × Int × List (ByteArray) × List (Bool) × Int) × Int)) × Unit) (hk : 1048576 < k) (hb : Bd_Hub x) : w_toHub k (x, ()) = some (x, ((), ())) := by
  obtain ⟨a0, a1, a2, a3, a4, a5, u⟩ := x
  unfold w_toHub
  unfold Bd_Hub at hb
  obtain ⟨b2, b3, b4, b5, b⟩ := hb
  simp only [] at b2 b3 b4 b5
  simp only [toPool_is k (a0, (a1, (a2, (a3, ())))) hk ⟨b2, b3, trivial⟩, toRouteS_is k a4 hk b4, toUserS_is k a5 hk b5, Option.bind_some]
theorem toPacket_is (k : Nat) (x : Int × Int × Int × Int × Int × List (Int) × ByteArray × Unit) (hk : 1048576 < k) (hb : Bd_Packet x) : w_toPacket k (x, ()) = some (x, ((), ())) := by
  obtain ⟨a0, a1, a2, a3, a4, a5, a6, u⟩ := x
  unfold w_toPacket
  unfold Bd_Packet at hb
  obtain ⟨b5, b6, b⟩ := hb
  simp only [] at b5 b6
  simp only [toIntS_is k a5 hk b5, Option.bind_some]
theorem toFlight_is (k : Nat) (x : Int × Int × Bool × Int × Int × Int × Int × Int × List (Int) × ByteArray × Unit) (hk : 1048576 < k) (hb : Bd_Flight x) : w_toFlight k (x, ()) = some (x, ((), ())) := by
  obtain ⟨a0, a1, a2, a3, a4, a5, a6, a7, a8, a9, u⟩ := x
  unfold w_toFlight
  unfold Bd_Flight at hb
  obtain ⟨b8, b9, b⟩ := hb
  simp only [] at b8 b9
  simp only [toPacket_is k (a3, (a4, (a5, (a6, (a7, (a8, (a9, ()))))))) hk ⟨b8, b9, trivial⟩, Option.bind_some]
theorem toFlightS_is (k : Nat) (a : List (Int × Int × Bool × Int × Int × Int × Int × Int × List (Int) × ByteArray)) (hk : 1048576 < k) (hb : Bd_FlightS a) : w_toFlightS k (a, ()) = some (a, ((), ())) := by
  unfold w_toFlightS
  have hl : a.length ≤ 1048576 := hb.1
  have hcap : (capMax : Int) = 274877906944 := rfl
  simp only [if_true]
  rw [if_pos (by omega)]
  refine loop_to (t := (.pair (.int .i64) (.pair (.int .i64) (.pair .bool (.pair (.int .i64) (.pair (.int .i64) (.pair (.int .i64) (.pair (.int .i64) (.pair (.int .i64) (.pair (.list (.int .i64)) .str)))))))))) a (fun out => (out, ((), ()))) ?_ ?_ _ (by simp) k (by omega)
  · intro again out i hi hl' ho
    have w : wi64 (i + 1) = i + 1 := w64_id _ (by omega)
    have hr := rd_get (t := (.pair (.int .i64) (.pair (.int .i64) (.pair .bool (.pair (.int .i64) (.pair (.int .i64) (.pair (.int .i64) (.pair (.int .i64) (.pair (.int .i64) (.pair (.list (.int .i64)) .str)))))))))) a i (by omega)
    have e := toFlight_is k (ag_Flight (Ty.rd (t := (.pair (.int .i64) (.pair (.int .i64) (.pair .bool (.pair (.int .i64) (.pair (.int .i64) (.pair (.int .i64) (.pair (.int .i64) (.pair (.int .i64) (.pair (.list (.int .i64)) .str)))))))))) a i)) hk (by rw [hr]; exact hb.2 _ (List.getElem_mem _))
    simp only [ag_Flight] at e
    simp only [hl', hi, ho, e, w, decide_true, and_self, if_true, Option.bind_some]
  · intro again out i hi
    have : ¬ i < (a.length : Int) := by omega
    simp [this]
theorem toInner_is (k : Nat) (x : Int × Int × ByteArray × Unit) (hk : 1048576 < k) (hb : Bd_Inner x) : w_toInner k (x, ()) = some (x, ((), ())) := by
  obtain ⟨a0, a1, a2, u⟩ := x
  unfold w_toInner
  rfl
theorem toCarried_is (k : Nat) (x : Int × Int × Int × ByteArray × Unit) (hk : 1048576 < k) (hb : Bd_Carried x) : w_toCarried k (x, ()) = some (x, ((), ())) := by
  obtain ⟨a0, a1, a2, a3, u⟩ := x
  unfold w_toCarried
  unfold Bd_Carried at hb
  obtain ⟨b3, b⟩ := hb
  simp only [] at b3
  simp only [toInner_is k (a1, (a2, (a3, ()))) hk ⟨b3, trivial⟩, Option.bind_some]
theorem toCarriedS_is (k : Nat) (a : List (Int × Int × Int × ByteArray)) (hk : 1048576 < k) (hb : Bd_CarriedS a) : w_toCarriedS k (a, ()) = some (a, ((), ())) := by
  unfold w_toCarriedS
  have hl : a.length ≤ 1048576 := hb.1
  have hcap : (capMax : Int) = 274877906944 := rfl
  simp only [if_true]
  rw [if_pos (by omega)]
  refine loop_to (t := (.pair (.int .i64) (.pair (.int .i64) (.pair (.int .i64) .str)))) a (fun out => (out, ((), ()))) ?_ ?_ _ (by simp) k (by omega)
  · intro again out i hi hl' ho
    have w : wi64 (i + 1) = i + 1 := w64_id _ (by omega)
    have hr := rd_get (t := (.pair (.int .i64) (.pair (.int .i64) (.pair (.int .i64) .str)))) a i (by omega)
    have e := toCarried_is k (ag_Carried (Ty.rd (t := (.pair (.int .i64) (.pair (.int .i64) (.pair (.int .i64) .str)))) a i)) hk (by rw [hr]; exact hb.2 _ (List.getElem_mem _))
    simp only [ag_Carried] at e
    simp only [hl', hi, ho, e, w, decide_true, and_self, if_true, Option.bind_some]
  · intro again out i hi
    have : ¬ i < (a.length : Int) := by omega
    simp [this]
theorem toSealing_is (k : Nat) (x : Int × Bool × Int × Int × Unit) (hk : 1048576 < k) (hb : Bd_Sealing x) : w_toSealing k (x, ()) = some (x, ((), ())) := by
  obtain ⟨a0, a1, a2, a3, u⟩ := x
  unfold w_toSealing
  rfl
theorem toSealingS_is (k : Nat) (a : List (Int × Bool × Int × Int)) (hk : 1048576 < k) (hb : Bd_SealingS a) : w_toSealingS k (a, ()) = some (a, ((), ())) := by
  unfold w_toSealingS
  have hl : a.length ≤ 1048576 := hb.1
  have hcap : (capMax : Int) = 274877906944 := rfl
  simp only [if_true]
  rw [if_pos (by omega)]
  refine loop_to (t := (.pair (.int .i64) (.pair .bool (.pair (.int .i64) (.int .i64))))) a (fun out => (out, ((), ()))) ?_ ?_ _ (by simp) k (by omega)
  · intro again out i hi hl' ho
    have w : wi64 (i + 1) = i + 1 := w64_id _ (by omega)
    have hr := rd_get (t := (.pair (.int .i64) (.pair .bool (.pair (.int .i64) (.int .i64))))) a i (by omega)
    have e := toSealing_is k (ag_Sealing (Ty.rd (t := (.pair (.int .i64) (.pair .bool (.pair (.int .i64) (.int .i64))))) a i)) hk (by rw [hr]; exact hb.2 _ (List.getElem_mem _))
    simp only [ag_Sealing] at e
    simp only [hl', hi, ho, e, w, decide_true, and_self, if_true, Option.bind_some]
  · intro again out i hi
    have : ¬ i < (a.length : Int) := by omega
    simp [this]
theorem toLife_is (k : Nat) (x : Int × Int × (List (Int × Int × Int)) × (List (Int × Int)) × (List ((Int × Int) × Int)) × (List (Int × Int × ((Int × ByteArray × ByteArray × Int × List (Int) × Int) × Int × ByteArray × ByteArray × Int × List (Int) × Int) × List (Int × Int × Int × List (ByteArray) × List (Bool) × Int) × Int)) × (List (Int × Int × ((Int × ByteArray × ByteArray × Int × List (Int) × Int) × Int × ByteArray × ByteArray × Int × List (Int) × Int) × List (Int × Int × Int × List (ByteArray) × List (Bool) × Int) × Int)) × List (Int) × Int × (List (Int × Int × Bool × Int × Int × Int × Int × Int × List (Int) × ByteArray)) × Int × (List (Int × Int × Int × ByteArray)) × (List (Int × Int × Int × ByteArray)) × Int × (List (Int × Bool × Int × Int)) × Unit) (hk : 1048576 < k) (hb : Bd_Life x) : w_toLife k (x, ()) = some (x, ((), ())) := by
  obtain ⟨a0, a1, a2, a3, a4, a5, a6, a7, a8, a9, a10, a11, a12, a13, a14, u⟩ := x
  unfold w_toLife
  unfold Bd_Life at hb
  obtain ⟨b2, b3, b4, b5, b6, b7, b9, b11, b12, b14, b⟩ := hb
  simp only [] at b2 b3 b4 b5 b6 b7 b9 b11 b12 b14
  simp only [toHub_is k (a0, (a1, (a2, (a3, (a4, (a5, ())))))) hk ⟨b2, b3, b4, b5, trivial⟩, toUserS_is k a6 hk b6, toIntS_is k a7 hk b7, toFlightS_is k a9 hk b9, toCarriedS_is k a11 hk b11, toCarriedS_is k a12 hk b12, toSealingS_is k a14 hk b14, Option.bind_some]
theorem eqPrefix_is (k : Nat) (x y : Int × Int × Unit) (hk : 1048576 < k) (hb : Bd_Prefix x) : w_eqPrefix k (x, (y, ())) = some (dq x y, ((), ((), ()))) := by
  obtain ⟨a0, a1, u⟩ := x
  obtain ⟨b0, b1, u'⟩ := y
  unfold w_eqPrefix
  by_cases h0 : a0 = b0
  rotate_left
  · have hn : (a0, (a1, ())) ≠ (b0, (b1, ())) := fun h => h0 (by simp only [Prod.mk.injEq] at h; simp_all)
    rw [dq_false hn]
    simp [h0]
  subst h0
  by_cases h1 : a1 = b1
  rotate_left
  · have hn : (a0, (a1, ())) ≠ (a0, (b1, ())) := fun h => h1 (by simp only [Prod.mk.injEq] at h; simp_all)
    rw [dq_false hn]
    simp [h1]
  subst h1
  simp [dq_self]
theorem eqLease_is (k : Nat) (x y : Int × Int × Int × Unit) (hk : 1048576 < k) (hb : Bd_Lease x) : w_eqLease k (x, (y, ())) = some (dq x y, ((), ((), ()))) := by
  obtain ⟨a0, a1, a2, u⟩ := x
  obtain ⟨b0, b1, b2, u'⟩ := y
  unfold w_eqLease
  by_cases h0 : a0 = b0
  rotate_left
  · have hn : (a0, (a1, (a2, ()))) ≠ (b0, (b1, (b2, ()))) := fun h => h0 (by simp only [Prod.mk.injEq] at h; simp_all)
    rw [dq_false hn]
    simp [h0]
  subst h0
  by_cases h1 : a1 = b1
  rotate_left
  · have hn : (a0, (a1, (a2, ()))) ≠ (a0, (b1, (b2, ()))) := fun h => h1 (by simp only [Prod.mk.injEq] at h; simp_all)
    rw [dq_false hn]
    simp [h1]
  subst h1
  by_cases h2 : a2 = b2
  rotate_left
  · have hn : (a0, (a1, (a2, ()))) ≠ (a0, (a1, (b2, ()))) := fun h => h2 (by simp only [Prod.mk.injEq] at h; simp_all)
    rw [dq_false hn]
    simp [h2]
  subst h2
  simp [dq_self]
theorem eqLeaseS_is (k : Nat) (a b : List RT_Lease.den) (hk : 1048576 < k) (hb : Bd_LeaseS a) : w_eqLeaseS k (a, (b, ())) = some (dq a b, ((), ((), ()))) := by
  unfold w_eqLeaseS
  have hl : a.length ≤ 1048576 := hb.1
  by_cases hab : a.length = b.length
  · simp only [hab, decide_true, Bool.not_true]
    refine (loop_dq (t := RT_Lease) (R := Bool × Unit × Unit × Unit) a b hab (false, ((), ((), ()))) (true, ((), ((), ()))) ?_ ?_ k (by omega)).trans ?_
    · intro again i hi hl'
      have w : wi64 (i + 1) = i + 1 := w64_id _ (by omega)
      have hlb : i < (b.length : Int) := by omega
      have hr := rd_get (t := RT_Lease) a i (by omega)
      have e := eqLease_is k (ag_Lease (Ty.rd (t := RT_Lease) a i)) (ag_Lease (Ty.rd (t := RT_Lease) b i)) hk (by rw [hr]; exact hb.2 _ (List.getElem_mem _))
      rw [show (dq (ag_Lease (Ty.rd (t := RT_Lease) a i)) (ag_Lease (Ty.rd (t := RT_Lease) b i))) = dq (Ty.rd (t := RT_Lease) a i) (Ty.rd (t := RT_Lease) b i) from dq_of (ag_Lease_inj _ _)] at e
      simp only [ag_Lease] at e
      simp only [hl', hi, hlb, e, w, decide_true, and_self, if_true, Option.bind_some]
      cases dq (Ty.rd (t := RT_Lease) a i) (Ty.rd (t := RT_Lease) b i) <;> simp
    · intro again i hi
      have : ¬ i < (a.length : Int) := by omega
      simp only [this, decide_false]
      rfl
    · cases dq a b <;> simp
  · have : ¬ ((a.length : Int) = (b.length : Int)) := by omega
    have h2 : a ≠ b := fun h => hab (by rw [h])
    simp [this, dq_false h2]
theorem eqFixed_is (k : Nat) (x y : Int × Int × Unit) (hk : 1048576 < k) (hb : Bd_Fixed x) : w_eqFixed k (x, (y, ())) = some (dq x y, ((), ((), ()))) := by
  obtain ⟨a0, a1, u⟩ := x
  obtain ⟨b0, b1, u'⟩ := y
  unfold w_eqFixed
  by_cases h0 : a0 = b0
  rotate_left
  · have hn : (a0, (a1, ())) ≠ (b0, (b1, ())) := fun h => h0 (by simp only [Prod.mk.injEq] at h; simp_all)
    rw [dq_false hn]
    simp [h0]
  subst h0
  by_cases h1 : a1 = b1
  rotate_left
  · have hn : (a0, (a1, ())) ≠ (a0, (b1, ())) := fun h => h1 (by simp only [Prod.mk.injEq] at h; simp_all)
    rw [dq_false hn]
    simp [h1]
  subst h1
  simp [dq_self]
theorem eqFixedS_is (k : Nat) (a b : List RT_Fixed.den) (hk : 1048576 < k) (hb : Bd_FixedS a) : w_eqFixedS k (a, (b, ())) = some (dq a b, ((), ((), ()))) := by
  unfold w_eqFixedS
  have hl : a.length ≤ 1048576 := hb.1
  by_cases hab : a.length = b.length
  · simp only [hab, decide_true, Bool.not_true]
    refine (loop_dq (t := RT_Fixed) (R := Bool × Unit × Unit × Unit) a b hab (false, ((), ((), ()))) (true, ((), ((), ()))) ?_ ?_ k (by omega)).trans ?_
    · intro again i hi hl'
      have w : wi64 (i + 1) = i + 1 := w64_id _ (by omega)
      have hlb : i < (b.length : Int) := by omega
      have hr := rd_get (t := RT_Fixed) a i (by omega)
      have e := eqFixed_is k (ag_Fixed (Ty.rd (t := RT_Fixed) a i)) (ag_Fixed (Ty.rd (t := RT_Fixed) b i)) hk (by rw [hr]; exact hb.2 _ (List.getElem_mem _))
      rw [show (dq (ag_Fixed (Ty.rd (t := RT_Fixed) a i)) (ag_Fixed (Ty.rd (t := RT_Fixed) b i))) = dq (Ty.rd (t := RT_Fixed) a i) (Ty.rd (t := RT_Fixed) b i) from dq_of (ag_Fixed_inj _ _)] at e
      simp only [ag_Fixed] at e
      simp only [hl', hi, hlb, e, w, decide_true, and_self, if_true, Option.bind_some]
      cases dq (Ty.rd (t := RT_Fixed) a i) (Ty.rd (t := RT_Fixed) b i) <;> simp
    · intro again i hi
      have : ¬ i < (a.length : Int) := by omega
      simp only [this, decide_false]
      rfl
    · cases dq a b <;> simp
  · have : ¬ ((a.length : Int) = (b.length : Int)) := by omega
    have h2 : a ≠ b := fun h => hab (by rw [h])
    simp [this, dq_false h2]
theorem eqPool_is (k : Nat) (x y : Int × Int × (List (Int × Int × Int)) × (List (Int × Int)) × Unit) (hk : 1048576 < k) (hb : Bd_Pool x) : w_eqPool k (x, (y, ())) = some (dq x y, ((), ((), ()))) := by
  obtain ⟨a0, a1, a2, a3, u⟩ := x
  obtain ⟨b0, b1, b2, b3, u'⟩ := y
  unfold w_eqPool
  unfold Bd_Pool at hb
  obtain ⟨w2, w3, _⟩ := hb
  simp only [] at w2 w3
  simp only [eqPrefix_is k (a0, (a1, ())) (b0, (b1, ())) hk trivial, eqLeaseS_is k a2 b2 hk w2, eqFixedS_is k a3 b3 hk w3, Option.bind_some]
  by_cases h0 : (a0, (a1, ())) = (b0, (b1, ()))
  rotate_left
  · have hn : (a0, (a1, (a2, (a3, ())))) ≠ (b0, (b1, (b2, (b3, ())))) := fun h => h0 (by simp only [Prod.mk.injEq] at h; simp_all)
    rw [dq_false hn]
    simp [h0, dq_false]
  simp only [Prod.mk.injEq, and_true] at h0
  obtain ⟨rfl, rfl⟩ := h0
  by_cases h1 : a2 = b2
  rotate_left
  · have hn : (a0, (a1, (a2, (a3, ())))) ≠ (a0, (a1, (b2, (b3, ())))) := fun h => h1 (by simp only [Prod.mk.injEq] at h; simp_all)
    rw [dq_false hn]
    simp [h1, dq_false]
  subst h1
  by_cases h2 : a3 = b3
  rotate_left
  · have hn : (a0, (a1, (a2, (a3, ())))) ≠ (a0, (a1, (a2, (b3, ())))) := fun h => h2 (by simp only [Prod.mk.injEq] at h; simp_all)
    rw [dq_false hn]
    simp [h2, dq_false]
  subst h2
  simp [dq_self]
theorem eqRoute_is (k : Nat) (x y : Int × Int × Int × Unit) (hk : 1048576 < k) (hb : Bd_Route x) : w_eqRoute k (x, (y, ())) = some (dq x y, ((), ((), ()))) := by
  obtain ⟨a0, a1, a2, u⟩ := x
  obtain ⟨b0, b1, b2, u'⟩ := y
  unfold w_eqRoute
  simp only [eqPrefix_is k (a0, (a1, ())) (b0, (b1, ())) hk trivial, Option.bind_some]
  by_cases h0 : (a0, (a1, ())) = (b0, (b1, ()))
  rotate_left
  · have hn : (a0, (a1, (a2, ()))) ≠ (b0, (b1, (b2, ()))) := fun h => h0 (by simp only [Prod.mk.injEq] at h; simp_all)
    rw [dq_false hn]
    simp [h0, dq_false]
  simp only [Prod.mk.injEq, and_true] at h0
  obtain ⟨rfl, rfl⟩ := h0
  by_cases h1 : a2 = b2
  rotate_left
  · have hn : (a0, (a1, (a2, ()))) ≠ (a0, (a1, (b2, ()))) := fun h => h1 (by simp only [Prod.mk.injEq] at h; simp_all)
    rw [dq_false hn]
    simp [h1]
  subst h1
  simp [dq_self]
theorem eqRouteS_is (k : Nat) (a b : List RT_Route.den) (hk : 1048576 < k) (hb : Bd_RouteS a) : w_eqRouteS k (a, (b, ())) = some (dq a b, ((), ((), ()))) := by
  unfold w_eqRouteS
  have hl : a.length ≤ 1048576 := hb.1
  by_cases hab : a.length = b.length
  · simp only [hab, decide_true, Bool.not_true]
    refine (loop_dq (t := RT_Route) (R := Bool × Unit × Unit × Unit) a b hab (false, ((), ((), ()))) (true, ((), ((), ()))) ?_ ?_ k (by omega)).trans ?_
    · intro again i hi hl'
      have w : wi64 (i + 1) = i + 1 := w64_id _ (by omega)
      have hlb : i < (b.length : Int) := by omega
      have hr := rd_get (t := RT_Route) a i (by omega)
      have e := eqRoute_is k (ag_Route (Ty.rd (t := RT_Route) a i)) (ag_Route (Ty.rd (t := RT_Route) b i)) hk (by rw [hr]; exact hb.2 _ (List.getElem_mem _))
      rw [show (dq (ag_Route (Ty.rd (t := RT_Route) a i)) (ag_Route (Ty.rd (t := RT_Route) b i))) = dq (Ty.rd (t := RT_Route) a i) (Ty.rd (t := RT_Route) b i) from dq_of (ag_Route_inj _ _)] at e
      simp only [ag_Route] at e
      simp only [hl', hi, hlb, e, w, decide_true, and_self, if_true, Option.bind_some]
      cases dq (Ty.rd (t := RT_Route) a i) (Ty.rd (t := RT_Route) b i) <;> simp
    · intro again i hi
      have : ¬ i < (a.length : Int) := by omega
      simp only [this, decide_false]
      rfl
    · cases dq a b <;> simp
  · have : ¬ ((a.length : Int) = (b.length : Int)) := by omega
    have h2 : a ≠ b := fun h => hab (by rw [h])
    simp [this, dq_false h2]
theorem eqIntS_is (k : Nat) (a b : List ((.int .i64) : Ty).den) (hk : 1048576 < k) (hb : Bd_IntS a) : w_eqIntS k (a, (b, ())) = some (dq a b, ((), ((), ()))) := by
  unfold w_eqIntS
  have hl : a.length ≤ 1048576 := hb
  by_cases hab : a.length = b.length
  · simp only [hab, decide_true, Bool.not_true]
    refine (loop_dq (t := (.int .i64)) (R := Bool × Unit × Unit × Unit) a b hab (false, ((), ((), ()))) (true, ((), ((), ()))) ?_ ?_ k (by omega)).trans ?_
    · intro again i hi hl'
      have w : wi64 (i + 1) = i + 1 := w64_id _ (by omega)
      have hlb : i < (b.length : Int) := by omega
      simp only [hl', hi, hlb, w, decide_true, and_self, if_true]
      by_cases e : Ty.rd (t := (.int .i64)) a i = Ty.rd (t := (.int .i64)) b i <;> simp [e, dq_self, dq_false]
    · intro again i hi
      have : ¬ i < (a.length : Int) := by omega
      simp only [this, decide_false]
      rfl
    · cases dq a b <;> simp
  · have : ¬ ((a.length : Int) = (b.length : Int)) := by omega
    have h2 : a ≠ b := fun h => hab (by rw [h])
    simp [this, dq_false h2]
theorem eqSlot_is (k : Nat) (x y : Int × ByteArray × ByteArray × Int × List (Int) × Int × Unit) (hk : 1048576 < k) (hb : Bd_Slot x) : w_eqSlot k (x, (y, ())) = some (dq x y, ((), ((), ()))) := by
  obtain ⟨a0, a1, a2, a3, a4, a5, u⟩ := x
  obtain ⟨b0, b1, b2, b3, b4, b5, u'⟩ := y
  unfold w_eqSlot
  unfold Bd_Slot at hb
  obtain ⟨w1, w2, w4, _⟩ := hb
  simp only [] at w1 w2 w4
  simp only [eqIntS_is k a4 b4 hk w4, Option.bind_some]
  by_cases h0 : a0 = b0
  rotate_left
  · have hn : (a0, (a1, (a2, (a3, (a4, (a5, ())))))) ≠ (b0, (b1, (b2, (b3, (b4, (b5, ())))))) := fun h => h0 (by simp only [Prod.mk.injEq] at h; simp_all)
    rw [dq_false hn]
    simp [h0]
  subst h0
  by_cases h1 : a1 = b1
  rotate_left
  · have hn : (a0, (a1, (a2, (a3, (a4, (a5, ())))))) ≠ (a0, (b1, (b2, (b3, (b4, (b5, ())))))) := fun h => h1 (by simp only [Prod.mk.injEq] at h; simp_all)
    rw [dq_false hn]
    simp [h1]
  subst h1
  by_cases h2 : a2 = b2
  rotate_left
  · have hn : (a0, (a1, (a2, (a3, (a4, (a5, ())))))) ≠ (a0, (a1, (b2, (b3, (b4, (b5, ())))))) := fun h => h2 (by simp only [Prod.mk.injEq] at h; simp_all)
    rw [dq_false hn]
    simp [h2]
  subst h2
  by_cases h3 : a3 = b3
  rotate_left
  · have hn : (a0, (a1, (a2, (a3, (a4, (a5, ())))))) ≠ (a0, (a1, (a2, (b3, (b4, (b5, ())))))) := fun h => h3 (by simp only [Prod.mk.injEq] at h; simp_all)
    rw [dq_false hn]
    simp [h3]
  subst h3
  by_cases h4 : a4 = b4
  rotate_left
  · have hn : (a0, (a1, (a2, (a3, (a4, (a5, ())))))) ≠ (a0, (a1, (a2, (a3, (b4, (b5, ())))))) := fun h => h4 (by simp only [Prod.mk.injEq] at h; simp_all)
    rw [dq_false hn]
    simp [h4, dq_false]
  subst h4
  by_cases h5 : a5 = b5
  rotate_left
  · have hn : (a0, (a1, (a2, (a3, (a4, (a5, ())))))) ≠ (a0, (a1, (a2, (a3, (a4, (b5, ())))))) := fun h => h5 (by simp only [Prod.mk.injEq] at h; simp_all)
    rw [dq_false hn]
    simp [h5]
  subst h5
  simp [dq_self]
theorem eqSlots_is (k : Nat) (x y : Int × ByteArray × ByteArray × Int × List (Int) × Int × Int × ByteArray × ByteArray × Int × List (Int) × Int × Unit) (hk : 1048576 < k) (hb : Bd_Slots x) : w_eqSlots k (x, (y, ())) = some (dq x y, ((), ((), ()))) := by
  obtain ⟨a0, a1, a2, a3, a4, a5, a6, a7, a8, a9, a10, a11, u⟩ := x
  obtain ⟨b0, b1, b2, b3, b4, b5, b6, b7, b8, b9, b10, b11, u'⟩ := y
  unfold w_eqSlots
  unfold Bd_Slots at hb
  obtain ⟨w1, w2, w4, w7, w8, w10, _⟩ := hb
  simp only [] at w1 w2 w4 w7 w8 w10
  simp only [eqSlot_is k (a0, (a1, (a2, (a3, (a4, (a5, ())))))) (b0, (b1, (b2, (b3, (b4, (b5, ())))))) hk ⟨w1, w2, w4, trivial⟩, eqSlot_is k (a6, (a7, (a8, (a9, (a10, (a11, ())))))) (b6, (b7, (b8, (b9, (b10, (b11, ())))))) hk ⟨w7, w8, w10, trivial⟩, Option.bind_some]
  by_cases h0 : (a0, (a1, (a2, (a3, (a4, (a5, ())))))) = (b0, (b1, (b2, (b3, (b4, (b5, ()))))))
  rotate_left
  · have hn : (a0, (a1, (a2, (a3, (a4, (a5, (a6, (a7, (a8, (a9, (a10, (a11, ())))))))))))) ≠ (b0, (b1, (b2, (b3, (b4, (b5, (b6, (b7, (b8, (b9, (b10, (b11, ())))))))))))) := fun h => h0 (by simp only [Prod.mk.injEq] at h; simp_all)
    rw [dq_false hn]
    simp [h0, dq_false]
  simp only [Prod.mk.injEq, and_true] at h0
  obtain ⟨rfl, rfl, rfl, rfl, rfl, rfl⟩ := h0
  by_cases h1 : (a6, (a7, (a8, (a9, (a10, (a11, ())))))) = (b6, (b7, (b8, (b9, (b10, (b11, ()))))))
  rotate_left
  · have hn : (a0, (a1, (a2, (a3, (a4, (a5, (a6, (a7, (a8, (a9, (a10, (a11, ())))))))))))) ≠ (a0, (a1, (a2, (a3, (a4, (a5, (b6, (b7, (b8, (b9, (b10, (b11, ())))))))))))) := fun h => h1 (by simp only [Prod.mk.injEq] at h; simp_all)
    rw [dq_false hn]
    simp [h1, dq_false]
  simp only [Prod.mk.injEq, and_true] at h1
  obtain ⟨rfl, rfl, rfl, rfl, rfl, rfl⟩ := h1
  simp [dq_self]
theorem eqStringS_is (k : Nat) (a b : List (.str : Ty).den) (hk : 1048576 < k) (hb : Bd_StringS a) : w_eqStringS k (a, (b, ())) = some (dq a b, ((), ((), ()))) := by
  unfold w_eqStringS
  have hl : a.length ≤ 1048576 := hb
  by_cases hab : a.length = b.length
  · simp only [hab, decide_true, Bool.not_true]
    refine (loop_dq (t := .str) (R := Bool × Unit × Unit × Unit) a b hab (false, ((), ((), ()))) (true, ((), ((), ()))) ?_ ?_ k (by omega)).trans ?_
    · intro again i hi hl'
      have w : wi64 (i + 1) = i + 1 := w64_id _ (by omega)
      have hlb : i < (b.length : Int) := by omega
      simp only [hl', hi, hlb, w, decide_true, and_self, if_true]
      by_cases e : Ty.rd (t := .str) a i = Ty.rd (t := .str) b i <;> simp [e, dq_self, dq_false]
    · intro again i hi
      have : ¬ i < (a.length : Int) := by omega
      simp only [this, decide_false]
      rfl
    · cases dq a b <;> simp
  · have : ¬ ((a.length : Int) = (b.length : Int)) := by omega
    have h2 : a ≠ b := fun h => hab (by rw [h])
    simp [this, dq_false h2]
theorem eqBoolS_is (k : Nat) (a b : List (.bool : Ty).den) (hk : 1048576 < k) (hb : Bd_BoolS a) : w_eqBoolS k (a, (b, ())) = some (dq a b, ((), ((), ()))) := by
  unfold w_eqBoolS
  have hl : a.length ≤ 1048576 := hb
  by_cases hab : a.length = b.length
  · simp only [hab, decide_true, Bool.not_true]
    refine (loop_dq (t := .bool) (R := Bool × Unit × Unit × Unit) a b hab (false, ((), ((), ()))) (true, ((), ((), ()))) ?_ ?_ k (by omega)).trans ?_
    · intro again i hi hl'
      have w : wi64 (i + 1) = i + 1 := w64_id _ (by omega)
      have hlb : i < (b.length : Int) := by omega
      simp only [hl', hi, hlb, w, decide_true, and_self, if_true]
      by_cases e : Ty.rd (t := .bool) a i = Ty.rd (t := .bool) b i <;> simp [e, dq_self, dq_false]
    · intro again i hi
      have : ¬ i < (a.length : Int) := by omega
      simp only [this, decide_false]
      rfl
    · cases dq a b <;> simp
  · have : ¬ ((a.length : Int) = (b.length : Int)) := by omega
    have h2 : a ≠ b := fun h => hab (by rw [h])
    simp [this, dq_false h2]
theorem eqHeld_is (k : Nat) (x y : Int × Int × Int × List (ByteArray) × List (Bool) × Int × Unit) (hk : 1048576 < k) (hb : Bd_Held x) : w_eqHeld k (x, (y, ())) = some (dq x y, ((), ((), ()))) := by
  obtain ⟨a0, a1, a2, a3, a4, a5, u⟩ := x
  obtain ⟨b0, b1, b2, b3, b4, b5, u'⟩ := y
  unfold w_eqHeld
  unfold Bd_Held at hb
  obtain ⟨w3, w4, _⟩ := hb
  simp only [] at w3 w4
  simp only [eqStringS_is k a3 b3 hk w3, eqBoolS_is k a4 b4 hk w4, Option.bind_some]
  by_cases h0 : a0 = b0
  rotate_left
  · have hn : (a0, (a1, (a2, (a3, (a4, (a5, ())))))) ≠ (b0, (b1, (b2, (b3, (b4, (b5, ())))))) := fun h => h0 (by simp only [Prod.mk.injEq] at h; simp_all)
    rw [dq_false hn]
    simp [h0]
  subst h0
  by_cases h1 : a1 = b1
  rotate_left
  · have hn : (a0, (a1, (a2, (a3, (a4, (a5, ())))))) ≠ (a0, (b1, (b2, (b3, (b4, (b5, ())))))) := fun h => h1 (by simp only [Prod.mk.injEq] at h; simp_all)
    rw [dq_false hn]
    simp [h1]
  subst h1
  by_cases h2 : a2 = b2
  rotate_left
  · have hn : (a0, (a1, (a2, (a3, (a4, (a5, ())))))) ≠ (a0, (a1, (b2, (b3, (b4, (b5, ())))))) := fun h => h2 (by simp only [Prod.mk.injEq] at h; simp_all)
    rw [dq_false hn]
    simp [h2]
  subst h2
  by_cases h3 : a3 = b3
  rotate_left
  · have hn : (a0, (a1, (a2, (a3, (a4, (a5, ())))))) ≠ (a0, (a1, (a2, (b3, (b4, (b5, ())))))) := fun h => h3 (by simp only [Prod.mk.injEq] at h; simp_all)
    rw [dq_false hn]
    simp [h3, dq_false]
  subst h3
  by_cases h4 : a4 = b4
  rotate_left
  · have hn : (a0, (a1, (a2, (a3, (a4, (a5, ())))))) ≠ (a0, (a1, (a2, (a3, (b4, (b5, ())))))) := fun h => h4 (by simp only [Prod.mk.injEq] at h; simp_all)
    rw [dq_false hn]
    simp [h4, dq_false]
  subst h4
  by_cases h5 : a5 = b5
  rotate_left
  · have hn : (a0, (a1, (a2, (a3, (a4, (a5, ())))))) ≠ (a0, (a1, (a2, (a3, (a4, (b5, ())))))) := fun h => h5 (by simp only [Prod.mk.injEq] at h; simp_all)
    rw [dq_false hn]
    simp [h5]
  subst h5
  simp [dq_self]
theorem eqHeldS_is (k : Nat) (a b : List RT_Held.den) (hk : 1048576 < k) (hb : Bd_HeldS a) : w_eqHeldS k (a, (b, ())) = some (dq a b, ((), ((), ()))) := by
  unfold w_eqHeldS
  have hl : a.length ≤ 1048576 := hb.1
  by_cases hab : a.length = b.length
  · simp only [hab, decide_true, Bool.not_true]
    refine (loop_dq (t := RT_Held) (R := Bool × Unit × Unit × Unit) a b hab (false, ((), ((), ()))) (true, ((), ((), ()))) ?_ ?_ k (by omega)).trans ?_
    · intro again i hi hl'
      have w : wi64 (i + 1) = i + 1 := w64_id _ (by omega)
      have hlb : i < (b.length : Int) := by omega
      have hr := rd_get (t := RT_Held) a i (by omega)
      have e := eqHeld_is k (ag_Held (Ty.rd (t := RT_Held) a i)) (ag_Held (Ty.rd (t := RT_Held) b i)) hk (by rw [hr]; exact hb.2 _ (List.getElem_mem _))
      rw [show (dq (ag_Held (Ty.rd (t := RT_Held) a i)) (ag_Held (Ty.rd (t := RT_Held) b i))) = dq (Ty.rd (t := RT_Held) a i) (Ty.rd (t := RT_Held) b i) from dq_of (ag_Held_inj _ _)] at e
      simp only [ag_Held] at e
      simp only [hl', hi, hlb, e, w, decide_true, and_self, if_true, Option.bind_some]
      cases dq (Ty.rd (t := RT_Held) a i) (Ty.rd (t := RT_Held) b i) <;> simp
    · intro again i hi
      have : ¬ i < (a.length : Int) := by omega
      simp only [this, decide_false]
      rfl
    · cases dq a b <;> simp
  · have : ¬ ((a.length : Int) = (b.length : Int)) := by omega
    have h2 : a ≠ b := fun h => hab (by rw [h])
    simp [this, dq_false h2]
theorem eqShelf_is (k : Nat) (x y : (List (Int × Int × Int × List (ByteArray) × List (Bool) × Int)) × Unit) (hk : 1048576 < k) (hb : Bd_Shelf x) : w_eqShelf k (x, (y, ())) = some (dq x y, ((), ((), ()))) := by
  obtain ⟨a0, u⟩ := x
  obtain ⟨b0, u'⟩ := y
  unfold w_eqShelf
  unfold Bd_Shelf at hb
  obtain ⟨w0, _⟩ := hb
  simp only [] at w0
  simp only [eqHeldS_is k a0 b0 hk w0, Option.bind_some]
  by_cases h0 : a0 = b0
  rotate_left
  · have hn : (a0, ()) ≠ (b0, ()) := fun h => h0 (by simp only [Prod.mk.injEq] at h; simp_all)
    rw [dq_false hn]
    simp [h0, dq_false]
  subst h0
  simp [dq_self]
theorem eqUser_is (k : Nat) (x y : Int × Int × Int × ByteArray × ByteArray × Int × List (Int) × Int × Int × ByteArray × ByteArray × Int × List (Int) × Int × (List (Int × Int × Int × List (ByteArray) × List (Bool) × Int)) × Int × Unit) (hk : 1048576 < k) (hb : Bd_User x) : w_eqUser k (x, (y, ())) = some (dq x y, ((), ((), ()))) := by
  obtain ⟨a0, a1, a2, a3, a4, a5, a6, a7, a8, a9, a10, a11, a12, a13, a14, a15, u⟩ := x
  obtain ⟨b0, b1, b2, b3, b4, b5, b6, b7, b8, b9, b10, b11, b12, b13, b14, b15, u'⟩ := y
  unfold w_eqUser
  unfold Bd_User at hb
  obtain ⟨w3, w4, w6, w9, w10, w12, w14, _⟩ := hb
  simp only [] at w3 w4 w6 w9 w10 w12 w14
  simp only [eqSlots_is k (a2, (a3, (a4, (a5, (a6, (a7, (a8, (a9, (a10, (a11, (a12, (a13, ())))))))))))) (b2, (b3, (b4, (b5, (b6, (b7, (b8, (b9, (b10, (b11, (b12, (b13, ())))))))))))) hk ⟨w3, w4, w6, w9, w10, w12, trivial⟩, eqShelf_is k (a14, ()) (b14, ()) hk ⟨w14, trivial⟩, Option.bind_some]
  by_cases h0 : a0 = b0
  rotate_left
  · have hn : (a0, (a1, (a2, (a3, (a4, (a5, (a6, (a7, (a8, (a9, (a10, (a11, (a12, (a13, (a14, (a15, ())))))))))))))))) ≠ (b0, (b1, (b2, (b3, (b4, (b5, (b6, (b7, (b8, (b9, (b10, (b11, (b12, (b13, (b14, (b15, ())))))))))))))))) := fun h => h0 (by simp only [Prod.mk.injEq] at h; simp_all)
    rw [dq_false hn]
    simp [h0]
  subst h0
  by_cases h1 : a1 = b1
  rotate_left
  · have hn : (a0, (a1, (a2, (a3, (a4, (a5, (a6, (a7, (a8, (a9, (a10, (a11, (a12, (a13, (a14, (a15, ())))))))))))))))) ≠ (a0, (b1, (b2, (b3, (b4, (b5, (b6, (b7, (b8, (b9, (b10, (b11, (b12, (b13, (b14, (b15, ())))))))))))))))) := fun h => h1 (by simp only [Prod.mk.injEq] at h; simp_all)
    rw [dq_false hn]
    simp [h1]
  subst h1
  by_cases h2 : (a2, (a3, (a4, (a5, (a6, (a7, (a8, (a9, (a10, (a11, (a12, (a13, ())))))))))))) = (b2, (b3, (b4, (b5, (b6, (b7, (b8, (b9, (b10, (b11, (b12, (b13, ()))))))))))))
  rotate_left
  · have hn : (a0, (a1, (a2, (a3, (a4, (a5, (a6, (a7, (a8, (a9, (a10, (a11, (a12, (a13, (a14, (a15, ())))))))))))))))) ≠ (a0, (a1, (b2, (b3, (b4, (b5, (b6, (b7, (b8, (b9, (b10, (b11, (b12, (b13, (b14, (b15, ())))))))))))))))) := fun h => h2 (by simp only [Prod.mk.injEq] at h; simp_all)
    rw [dq_false hn]
    simp [h2, dq_false]
  simp only [Prod.mk.injEq, and_true] at h2
  obtain ⟨rfl, rfl, rfl, rfl, rfl, rfl, rfl, rfl, rfl, rfl, rfl, rfl⟩ := h2
  by_cases h3 : (a14, ()) = (b14, ())
  rotate_left
  · have hn : (a0, (a1, (a2, (a3, (a4, (a5, (a6, (a7, (a8, (a9, (a10, (a11, (a12, (a13, (a14, (a15, ())))))))))))))))) ≠ (a0, (a1, (a2, (a3, (a4, (a5, (a6, (a7, (a8, (a9, (a10, (a11, (a12, (a13, (b14, (b15, ())))))))))))))))) := fun h => h3 (by simp only [Prod.mk.injEq] at h; simp_all)
    rw [dq_false hn]
    simp [h3, dq_false]
  simp only [Prod.mk.injEq, and_true] at h3
  obtain ⟨rfl⟩ := h3
  by_cases h4 : a15 = b15
  rotate_left
  · have hn : (a0, (a1, (a2, (a3, (a4, (a5, (a6, (a7, (a8, (a9, (a10, (a11, (a12, (a13, (a14, (a15, ())))))))))))))))) ≠ (a0, (a1, (a2, (a3, (a4, (a5, (a6, (a7, (a8, (a9, (a10, (a11, (a12, (a13, (a14, (b15, ())))))))))))))))) := fun h => h4 (by simp only [Prod.mk.injEq] at h; simp_all)
    rw [dq_false hn]
    simp [h4]
  subst h4
  simp [dq_self]
theorem eqUserS_is (k : Nat) (a b : List RT_User.den) (hk : 1048576 < k) (hb : Bd_UserS a) : w_eqUserS k (a, (b, ())) = some (dq a b, ((), ((), ()))) := by
  unfold w_eqUserS
  have hl : a.length ≤ 1048576 := hb.1
  by_cases hab : a.length = b.length
  · simp only [hab, decide_true, Bool.not_true]
    refine (loop_dq (t := RT_User) (R := Bool × Unit × Unit × Unit) a b hab (false, ((), ((), ()))) (true, ((), ((), ()))) ?_ ?_ k (by omega)).trans ?_
    · intro again i hi hl'
      have w : wi64 (i + 1) = i + 1 := w64_id _ (by omega)
      have hlb : i < (b.length : Int) := by omega
      have hr := rd_get (t := RT_User) a i (by omega)
      have e := eqUser_is k (ag_User (Ty.rd (t := RT_User) a i)) (ag_User (Ty.rd (t := RT_User) b i)) hk (by rw [hr]; exact hb.2 _ (List.getElem_mem _))
      rw [show (dq (ag_User (Ty.rd (t := RT_User) a i)) (ag_User (Ty.rd (t := RT_User) b i))) = dq (Ty.rd (t := RT_User) a i) (Ty.rd (t := RT_User) b i) from dq_of (ag_User_inj _ _)] at e
      simp only [ag_User] at e
      simp only [hl', hi, hlb, e, w, decide_true, and_self, if_true, Option.bind_some]
      cases dq (Ty.rd (t := RT_User) a i) (Ty.rd (t := RT_User) b i) <;> simp
    · intro again i hi
      have : ¬ i < (a.length : Int) := by omega
      simp only [this, decide_false]
      rfl
    · cases dq a b <;> simp
  · have : ¬ ((a.length : Int) = (b.length : Int)) := by omega
    have h2 : a ≠ b := fun h => hab (by rw [h])
    simp [this, dq_false h2]
theorem eqHub_is (k : Nat) (x y : Int × Int × (List (Int × Int × Int)) × (List (Int × Int)) × (List ((Int × Int) × Int)) × (List (Int × Int × ((Int × ByteArray × ByteArray × Int × List (Int) × Int) × Int × ByteArray × ByteArray × Int × List (Int) × Int) × List (Int × Int × Int × List (ByteArray) × List (Bool) × Int) × Int)) × Unit) (hk : 1048576 < k) (hb : Bd_Hub x) : w_eqHub k (x, (y, ())) = some (dq x y, ((), ((), ()))) := by
  obtain ⟨a0, a1, a2, a3, a4, a5, u⟩ := x
  obtain ⟨b0, b1, b2, b3, b4, b5, u'⟩ := y
  unfold w_eqHub
  unfold Bd_Hub at hb
  obtain ⟨w2, w3, w4, w5, _⟩ := hb
  simp only [] at w2 w3 w4 w5
  simp only [eqPool_is k (a0, (a1, (a2, (a3, ())))) (b0, (b1, (b2, (b3, ())))) hk ⟨w2, w3, trivial⟩, eqRouteS_is k a4 b4 hk w4, eqUserS_is k a5 b5 hk w5, Option.bind_some]
  by_cases h0 : (a0, (a1, (a2, (a3, ())))) = (b0, (b1, (b2, (b3, ()))))
  rotate_left
  · have hn : (a0, (a1, (a2, (a3, (a4, (a5, ())))))) ≠ (b0, (b1, (b2, (b3, (b4, (b5, ())))))) := fun h => h0 (by simp only [Prod.mk.injEq] at h; simp_all)
    rw [dq_false hn]
    simp [h0, dq_false]
  simp only [Prod.mk.injEq, and_true] at h0
  obtain ⟨rfl, rfl, rfl, rfl⟩ := h0
  by_cases h1 : a4 = b4
  rotate_left
  · have hn : (a0, (a1, (a2, (a3, (a4, (a5, ())))))) ≠ (a0, (a1, (a2, (a3, (b4, (b5, ())))))) := fun h => h1 (by simp only [Prod.mk.injEq] at h; simp_all)
    rw [dq_false hn]
    simp [h1, dq_false]
  subst h1
  by_cases h2 : a5 = b5
  rotate_left
  · have hn : (a0, (a1, (a2, (a3, (a4, (a5, ())))))) ≠ (a0, (a1, (a2, (a3, (a4, (b5, ())))))) := fun h => h2 (by simp only [Prod.mk.injEq] at h; simp_all)
    rw [dq_false hn]
    simp [h2, dq_false]
  subst h2
  simp [dq_self]
theorem eqPacket_is (k : Nat) (x y : Int × Int × Int × Int × Int × List (Int) × ByteArray × Unit) (hk : 1048576 < k) (hb : Bd_Packet x) : w_eqPacket k (x, (y, ())) = some (dq x y, ((), ((), ()))) := by
  obtain ⟨a0, a1, a2, a3, a4, a5, a6, u⟩ := x
  obtain ⟨b0, b1, b2, b3, b4, b5, b6, u'⟩ := y
  unfold w_eqPacket
  unfold Bd_Packet at hb
  obtain ⟨w5, w6, _⟩ := hb
  simp only [] at w5 w6
  simp only [eqIntS_is k a5 b5 hk w5, Option.bind_some]
  by_cases h0 : a0 = b0
  rotate_left
  · have hn : (a0, (a1, (a2, (a3, (a4, (a5, (a6, ()))))))) ≠ (b0, (b1, (b2, (b3, (b4, (b5, (b6, ()))))))) := fun h => h0 (by simp only [Prod.mk.injEq] at h; simp_all)
    rw [dq_false hn]
    simp [h0]
  subst h0
  by_cases h1 : a1 = b1
  rotate_left
  · have hn : (a0, (a1, (a2, (a3, (a4, (a5, (a6, ()))))))) ≠ (a0, (b1, (b2, (b3, (b4, (b5, (b6, ()))))))) := fun h => h1 (by simp only [Prod.mk.injEq] at h; simp_all)
    rw [dq_false hn]
    simp [h1]
  subst h1
  by_cases h2 : a2 = b2
  rotate_left
  · have hn : (a0, (a1, (a2, (a3, (a4, (a5, (a6, ()))))))) ≠ (a0, (a1, (b2, (b3, (b4, (b5, (b6, ()))))))) := fun h => h2 (by simp only [Prod.mk.injEq] at h; simp_all)
    rw [dq_false hn]
    simp [h2]
  subst h2
  by_cases h3 : a3 = b3
  rotate_left
  · have hn : (a0, (a1, (a2, (a3, (a4, (a5, (a6, ()))))))) ≠ (a0, (a1, (a2, (b3, (b4, (b5, (b6, ()))))))) := fun h => h3 (by simp only [Prod.mk.injEq] at h; simp_all)
    rw [dq_false hn]
    simp [h3]
  subst h3
  by_cases h4 : a4 = b4
  rotate_left
  · have hn : (a0, (a1, (a2, (a3, (a4, (a5, (a6, ()))))))) ≠ (a0, (a1, (a2, (a3, (b4, (b5, (b6, ()))))))) := fun h => h4 (by simp only [Prod.mk.injEq] at h; simp_all)
    rw [dq_false hn]
    simp [h4]
  subst h4
  by_cases h5 : a5 = b5
  rotate_left
  · have hn : (a0, (a1, (a2, (a3, (a4, (a5, (a6, ()))))))) ≠ (a0, (a1, (a2, (a3, (a4, (b5, (b6, ()))))))) := fun h => h5 (by simp only [Prod.mk.injEq] at h; simp_all)
    rw [dq_false hn]
    simp [h5, dq_false]
  subst h5
  by_cases h6 : a6 = b6
  rotate_left
  · have hn : (a0, (a1, (a2, (a3, (a4, (a5, (a6, ()))))))) ≠ (a0, (a1, (a2, (a3, (a4, (a5, (b6, ()))))))) := fun h => h6 (by simp only [Prod.mk.injEq] at h; simp_all)
    rw [dq_false hn]
    simp [h6]
  subst h6
  simp [dq_self]
theorem eqFlight_is (k : Nat) (x y : Int × Int × Bool × Int × Int × Int × Int × Int × List (Int) × ByteArray × Unit) (hk : 1048576 < k) (hb : Bd_Flight x) : w_eqFlight k (x, (y, ())) = some (dq x y, ((), ((), ()))) := by
  obtain ⟨a0, a1, a2, a3, a4, a5, a6, a7, a8, a9, u⟩ := x
  obtain ⟨b0, b1, b2, b3, b4, b5, b6, b7, b8, b9, u'⟩ := y
  unfold w_eqFlight
  unfold Bd_Flight at hb
  obtain ⟨w8, w9, _⟩ := hb
  simp only [] at w8 w9
  simp only [eqPacket_is k (a3, (a4, (a5, (a6, (a7, (a8, (a9, ()))))))) (b3, (b4, (b5, (b6, (b7, (b8, (b9, ()))))))) hk ⟨w8, w9, trivial⟩, Option.bind_some]
  by_cases h0 : a0 = b0
  rotate_left
  · have hn : (a0, (a1, (a2, (a3, (a4, (a5, (a6, (a7, (a8, (a9, ())))))))))) ≠ (b0, (b1, (b2, (b3, (b4, (b5, (b6, (b7, (b8, (b9, ())))))))))) := fun h => h0 (by simp only [Prod.mk.injEq] at h; simp_all)
    rw [dq_false hn]
    simp [h0]
  subst h0
  by_cases h1 : a1 = b1
  rotate_left
  · have hn : (a0, (a1, (a2, (a3, (a4, (a5, (a6, (a7, (a8, (a9, ())))))))))) ≠ (a0, (b1, (b2, (b3, (b4, (b5, (b6, (b7, (b8, (b9, ())))))))))) := fun h => h1 (by simp only [Prod.mk.injEq] at h; simp_all)
    rw [dq_false hn]
    simp [h1]
  subst h1
  by_cases h2 : a2 = b2
  rotate_left
  · have hn : (a0, (a1, (a2, (a3, (a4, (a5, (a6, (a7, (a8, (a9, ())))))))))) ≠ (a0, (a1, (b2, (b3, (b4, (b5, (b6, (b7, (b8, (b9, ())))))))))) := fun h => h2 (by simp only [Prod.mk.injEq] at h; simp_all)
    rw [dq_false hn]
    simp [h2]
  subst h2
  by_cases h3 : (a3, (a4, (a5, (a6, (a7, (a8, (a9, ()))))))) = (b3, (b4, (b5, (b6, (b7, (b8, (b9, ())))))))
  rotate_left
  · have hn : (a0, (a1, (a2, (a3, (a4, (a5, (a6, (a7, (a8, (a9, ())))))))))) ≠ (a0, (a1, (a2, (b3, (b4, (b5, (b6, (b7, (b8, (b9, ())))))))))) := fun h => h3 (by simp only [Prod.mk.injEq] at h; simp_all)
    rw [dq_false hn]
    simp [h3, dq_false]
  simp only [Prod.mk.injEq, and_true] at h3
  obtain ⟨rfl, rfl, rfl, rfl, rfl, rfl, rfl⟩ := h3
  simp [dq_self]
theorem eqFlightS_is (k : Nat) (a b : List RT_Flight.den) (hk : 1048576 < k) (hb : Bd_FlightS a) : w_eqFlightS k (a, (b, ())) = some (dq a b, ((), ((), ()))) := by
  unfold w_eqFlightS
  have hl : a.length ≤ 1048576 := hb.1
  by_cases hab : a.length = b.length
  · simp only [hab, decide_true, Bool.not_true]
    refine (loop_dq (t := RT_Flight) (R := Bool × Unit × Unit × Unit) a b hab (false, ((), ((), ()))) (true, ((), ((), ()))) ?_ ?_ k (by omega)).trans ?_
    · intro again i hi hl'
      have w : wi64 (i + 1) = i + 1 := w64_id _ (by omega)
      have hlb : i < (b.length : Int) := by omega
      have hr := rd_get (t := RT_Flight) a i (by omega)
      have e := eqFlight_is k (ag_Flight (Ty.rd (t := RT_Flight) a i)) (ag_Flight (Ty.rd (t := RT_Flight) b i)) hk (by rw [hr]; exact hb.2 _ (List.getElem_mem _))
      rw [show (dq (ag_Flight (Ty.rd (t := RT_Flight) a i)) (ag_Flight (Ty.rd (t := RT_Flight) b i))) = dq (Ty.rd (t := RT_Flight) a i) (Ty.rd (t := RT_Flight) b i) from dq_of (ag_Flight_inj _ _)] at e
      simp only [ag_Flight] at e
      simp only [hl', hi, hlb, e, w, decide_true, and_self, if_true, Option.bind_some]
      cases dq (Ty.rd (t := RT_Flight) a i) (Ty.rd (t := RT_Flight) b i) <;> simp
    · intro again i hi
      have : ¬ i < (a.length : Int) := by omega
      simp only [this, decide_false]
      rfl
    · cases dq a b <;> simp
  · have : ¬ ((a.length : Int) = (b.length : Int)) := by omega
    have h2 : a ≠ b := fun h => hab (by rw [h])
    simp [this, dq_false h2]
theorem eqInner_is (k : Nat) (x y : Int × Int × ByteArray × Unit) (hk : 1048576 < k) (hb : Bd_Inner x) : w_eqInner k (x, (y, ())) = some (dq x y, ((), ((), ()))) := by
  obtain ⟨a0, a1, a2, u⟩ := x
  obtain ⟨b0, b1, b2, u'⟩ := y
  unfold w_eqInner
  by_cases h0 : a0 = b0
  rotate_left
  · have hn : (a0, (a1, (a2, ()))) ≠ (b0, (b1, (b2, ()))) := fun h => h0 (by simp only [Prod.mk.injEq] at h; simp_all)
    rw [dq_false hn]
    simp [h0]
  subst h0
  by_cases h1 : a1 = b1
  rotate_left
  · have hn : (a0, (a1, (a2, ()))) ≠ (a0, (b1, (b2, ()))) := fun h => h1 (by simp only [Prod.mk.injEq] at h; simp_all)
    rw [dq_false hn]
    simp [h1]
  subst h1
  by_cases h2 : a2 = b2
  rotate_left
  · have hn : (a0, (a1, (a2, ()))) ≠ (a0, (a1, (b2, ()))) := fun h => h2 (by simp only [Prod.mk.injEq] at h; simp_all)
    rw [dq_false hn]
    simp [h2]
  subst h2
  simp [dq_self]
theorem eqCarried_is (k : Nat) (x y : Int × Int × Int × ByteArray × Unit) (hk : 1048576 < k) (hb : Bd_Carried x) : w_eqCarried k (x, (y, ())) = some (dq x y, ((), ((), ()))) := by
  obtain ⟨a0, a1, a2, a3, u⟩ := x
  obtain ⟨b0, b1, b2, b3, u'⟩ := y
  unfold w_eqCarried
  unfold Bd_Carried at hb
  obtain ⟨w3, _⟩ := hb
  simp only [] at w3
  simp only [eqInner_is k (a1, (a2, (a3, ()))) (b1, (b2, (b3, ()))) hk ⟨w3, trivial⟩, Option.bind_some]
  by_cases h0 : a0 = b0
  rotate_left
  · have hn : (a0, (a1, (a2, (a3, ())))) ≠ (b0, (b1, (b2, (b3, ())))) := fun h => h0 (by simp only [Prod.mk.injEq] at h; simp_all)
    rw [dq_false hn]
    simp [h0]
  subst h0
  by_cases h1 : (a1, (a2, (a3, ()))) = (b1, (b2, (b3, ())))
  rotate_left
  · have hn : (a0, (a1, (a2, (a3, ())))) ≠ (a0, (b1, (b2, (b3, ())))) := fun h => h1 (by simp only [Prod.mk.injEq] at h; simp_all)
    rw [dq_false hn]
    simp [h1, dq_false]
  simp only [Prod.mk.injEq, and_true] at h1
  obtain ⟨rfl, rfl, rfl⟩ := h1
  simp [dq_self]
theorem eqCarriedS_is (k : Nat) (a b : List RT_Carried.den) (hk : 1048576 < k) (hb : Bd_CarriedS a) : w_eqCarriedS k (a, (b, ())) = some (dq a b, ((), ((), ()))) := by
  unfold w_eqCarriedS
  have hl : a.length ≤ 1048576 := hb.1
  by_cases hab : a.length = b.length
  · simp only [hab, decide_true, Bool.not_true]
    refine (loop_dq (t := RT_Carried) (R := Bool × Unit × Unit × Unit) a b hab (false, ((), ((), ()))) (true, ((), ((), ()))) ?_ ?_ k (by omega)).trans ?_
    · intro again i hi hl'
      have w : wi64 (i + 1) = i + 1 := w64_id _ (by omega)
      have hlb : i < (b.length : Int) := by omega
      have hr := rd_get (t := RT_Carried) a i (by omega)
      have e := eqCarried_is k (ag_Carried (Ty.rd (t := RT_Carried) a i)) (ag_Carried (Ty.rd (t := RT_Carried) b i)) hk (by rw [hr]; exact hb.2 _ (List.getElem_mem _))
      rw [show (dq (ag_Carried (Ty.rd (t := RT_Carried) a i)) (ag_Carried (Ty.rd (t := RT_Carried) b i))) = dq (Ty.rd (t := RT_Carried) a i) (Ty.rd (t := RT_Carried) b i) from dq_of (ag_Carried_inj _ _)] at e
      simp only [ag_Carried] at e
      simp only [hl', hi, hlb, e, w, decide_true, and_self, if_true, Option.bind_some]
      cases dq (Ty.rd (t := RT_Carried) a i) (Ty.rd (t := RT_Carried) b i) <;> simp
    · intro again i hi
      have : ¬ i < (a.length : Int) := by omega
      simp only [this, decide_false]
      rfl
    · cases dq a b <;> simp
  · have : ¬ ((a.length : Int) = (b.length : Int)) := by omega
    have h2 : a ≠ b := fun h => hab (by rw [h])
    simp [this, dq_false h2]
theorem eqSealing_is (k : Nat) (x y : Int × Bool × Int × Int × Unit) (hk : 1048576 < k) (hb : Bd_Sealing x) : w_eqSealing k (x, (y, ())) = some (dq x y, ((), ((), ()))) := by
  obtain ⟨a0, a1, a2, a3, u⟩ := x
  obtain ⟨b0, b1, b2, b3, u'⟩ := y
  unfold w_eqSealing
  by_cases h0 : a0 = b0
  rotate_left
  · have hn : (a0, (a1, (a2, (a3, ())))) ≠ (b0, (b1, (b2, (b3, ())))) := fun h => h0 (by simp only [Prod.mk.injEq] at h; simp_all)
    rw [dq_false hn]
    simp [h0]
  subst h0
  by_cases h1 : a1 = b1
  rotate_left
  · have hn : (a0, (a1, (a2, (a3, ())))) ≠ (a0, (b1, (b2, (b3, ())))) := fun h => h1 (by simp only [Prod.mk.injEq] at h; simp_all)
    rw [dq_false hn]
    simp [h1]
  subst h1
  by_cases h2 : a2 = b2
  rotate_left
  · have hn : (a0, (a1, (a2, (a3, ())))) ≠ (a0, (a1, (b2, (b3, ())))) := fun h => h2 (by simp only [Prod.mk.injEq] at h; simp_all)
    rw [dq_false hn]
    simp [h2]
  subst h2
  by_cases h3 : a3 = b3
  rotate_left
  · have hn : (a0, (a1, (a2, (a3, ())))) ≠ (a0, (a1, (a2, (b3, ())))) := fun h => h3 (by simp only [Prod.mk.injEq] at h; simp_all)
    rw [dq_false hn]
    simp [h3]
  subst h3
  simp [dq_self]
theorem eqSealingS_is (k : Nat) (a b : List RT_Sealing.den) (hk : 1048576 < k) (hb : Bd_SealingS a) : w_eqSealingS k (a, (b, ())) = some (dq a b, ((), ((), ()))) := by
  unfold w_eqSealingS
  have hl : a.length ≤ 1048576 := hb.1
  by_cases hab : a.length = b.length
  · simp only [hab, decide_true, Bool.not_true]
    refine (loop_dq (t := RT_Sealing) (R := Bool × Unit × Unit × Unit) a b hab (false, ((), ((), ()))) (true, ((), ((), ()))) ?_ ?_ k (by omega)).trans ?_
    · intro again i hi hl'
      have w : wi64 (i + 1) = i + 1 := w64_id _ (by omega)
      have hlb : i < (b.length : Int) := by omega
      have hr := rd_get (t := RT_Sealing) a i (by omega)
      have e := eqSealing_is k (ag_Sealing (Ty.rd (t := RT_Sealing) a i)) (ag_Sealing (Ty.rd (t := RT_Sealing) b i)) hk (by rw [hr]; exact hb.2 _ (List.getElem_mem _))
      rw [show (dq (ag_Sealing (Ty.rd (t := RT_Sealing) a i)) (ag_Sealing (Ty.rd (t := RT_Sealing) b i))) = dq (Ty.rd (t := RT_Sealing) a i) (Ty.rd (t := RT_Sealing) b i) from dq_of (ag_Sealing_inj _ _)] at e
      simp only [ag_Sealing] at e
      simp only [hl', hi, hlb, e, w, decide_true, and_self, if_true, Option.bind_some]
      cases dq (Ty.rd (t := RT_Sealing) a i) (Ty.rd (t := RT_Sealing) b i) <;> simp
    · intro again i hi
      have : ¬ i < (a.length : Int) := by omega
      simp only [this, decide_false]
      rfl
    · cases dq a b <;> simp
  · have : ¬ ((a.length : Int) = (b.length : Int)) := by omega
    have h2 : a ≠ b := fun h => hab (by rw [h])
    simp [this, dq_false h2]
theorem eqLife_is (k : Nat) (x y : Int × Int × (List (Int × Int × Int)) × (List (Int × Int)) × (List ((Int × Int) × Int)) × (List (Int × Int × ((Int × ByteArray × ByteArray × Int × List (Int) × Int) × Int × ByteArray × ByteArray × Int × List (Int) × Int) × List (Int × Int × Int × List (ByteArray) × List (Bool) × Int) × Int)) × (List (Int × Int × ((Int × ByteArray × ByteArray × Int × List (Int) × Int) × Int × ByteArray × ByteArray × Int × List (Int) × Int) × List (Int × Int × Int × List (ByteArray) × List (Bool) × Int) × Int)) × List (Int) × Int × (List (Int × Int × Bool × Int × Int × Int × Int × Int × List (Int) × ByteArray)) × Int × (List (Int × Int × Int × ByteArray)) × (List (Int × Int × Int × ByteArray)) × Int × (List (Int × Bool × Int × Int)) × Unit) (hk : 1048576 < k) (hb : Bd_Life x) : w_eqLife k (x, (y, ())) = some (dq x y, ((), ((), ()))) := by
  obtain ⟨a0, a1, a2, a3, a4, a5, a6, a7, a8, a9, a10, a11, a12, a13, a14, u⟩ := x
  obtain ⟨b0, b1, b2, b3, b4, b5, b6, b7, b8, b9, b10, b11, b12, b13, b14, u'⟩ := y
  unfold w_eqLife
  unfold Bd_Life at hb
  obtain ⟨w2, w3, w4, w5, w6, w7, w9, w11, w12, w14, _⟩ := hb
  simp only [] at w2 w3 w4 w5 w6 w7 w9 w11 w12 w14
  simp only [eqHub_is k (a0, (a1, (a2, (a3, (a4, (a5, ())))))) (b0, (b1, (b2, (b3, (b4, (b5, ())))))) hk ⟨w2, w3, w4, w5, trivial⟩, eqUserS_is k a6 b6 hk w6, eqIntS_is k a7 b7 hk w7, eqFlightS_is k a9 b9 hk w9, eqCarriedS_is k a11 b11 hk w11, eqCarriedS_is k a12 b12 hk w12, eqSealingS_is k a14 b14 hk w14, Option.bind_some]
  by_cases h0 : (a0, (a1, (a2, (a3, (a4, (a5, ())))))) = (b0, (b1, (b2, (b3, (b4, (b5, ()))))))
  rotate_left
  · have hn : (a0, (a1, (a2, (a3, (a4, (a5, (a6, (a7, (a8, (a9, (a10, (a11, (a12, (a13, (a14, ()))))))))))))))) ≠ (b0, (b1, (b2, (b3, (b4, (b5, (b6, (b7, (b8, (b9, (b10, (b11, (b12, (b13, (b14, ()))))))))))))))) := fun h => h0 (by simp only [Prod.mk.injEq] at h; simp_all)
    rw [dq_false hn]
    simp [h0, dq_false]
  simp only [Prod.mk.injEq, and_true] at h0
  obtain ⟨rfl, rfl, rfl, rfl, rfl, rfl⟩ := h0
  by_cases h1 : a6 = b6
  rotate_left
  · have hn : (a0, (a1, (a2, (a3, (a4, (a5, (a6, (a7, (a8, (a9, (a10, (a11, (a12, (a13, (a14, ()))))))))))))))) ≠ (a0, (a1, (a2, (a3, (a4, (a5, (b6, (b7, (b8, (b9, (b10, (b11, (b12, (b13, (b14, ()))))))))))))))) := fun h => h1 (by simp only [Prod.mk.injEq] at h; simp_all)
    rw [dq_false hn]
    simp [h1, dq_false]
  subst h1
  by_cases h2 : a7 = b7
  rotate_left
  · have hn : (a0, (a1, (a2, (a3, (a4, (a5, (a6, (a7, (a8, (a9, (a10, (a11, (a12, (a13, (a14, ()))))))))))))))) ≠ (a0, (a1, (a2, (a3, (a4, (a5, (a6, (b7, (b8, (b9, (b10, (b11, (b12, (b13, (b14, ()))))))))))))))) := fun h => h2 (by simp only [Prod.mk.injEq] at h; simp_all)
    rw [dq_false hn]
    simp [h2, dq_false]
  subst h2
  by_cases h3 : a8 = b8
  rotate_left
  · have hn : (a0, (a1, (a2, (a3, (a4, (a5, (a6, (a7, (a8, (a9, (a10, (a11, (a12, (a13, (a14, ()))))))))))))))) ≠ (a0, (a1, (a2, (a3, (a4, (a5, (a6, (a7, (b8, (b9, (b10, (b11, (b12, (b13, (b14, ()))))))))))))))) := fun h => h3 (by simp only [Prod.mk.injEq] at h; simp_all)
    rw [dq_false hn]
    simp [h3]
  subst h3
  by_cases h4 : a9 = b9
  rotate_left
  · have hn : (a0, (a1, (a2, (a3, (a4, (a5, (a6, (a7, (a8, (a9, (a10, (a11, (a12, (a13, (a14, ()))))))))))))))) ≠ (a0, (a1, (a2, (a3, (a4, (a5, (a6, (a7, (a8, (b9, (b10, (b11, (b12, (b13, (b14, ()))))))))))))))) := fun h => h4 (by simp only [Prod.mk.injEq] at h; simp_all)
    rw [dq_false hn]
    simp [h4, dq_false]
  subst h4
  by_cases h5 : a10 = b10
  rotate_left
  · have hn : (a0, (a1, (a2, (a3, (a4, (a5, (a6, (a7, (a8, (a9, (a10, (a11, (a12, (a13, (a14, ()))))))))))))))) ≠ (a0, (a1, (a2, (a3, (a4, (a5, (a6, (a7, (a8, (a9, (b10, (b11, (b12, (b13, (b14, ()))))))))))))))) := fun h => h5 (by simp only [Prod.mk.injEq] at h; simp_all)
    rw [dq_false hn]
    simp [h5]
  subst h5
  by_cases h6 : a11 = b11
  rotate_left
  · have hn : (a0, (a1, (a2, (a3, (a4, (a5, (a6, (a7, (a8, (a9, (a10, (a11, (a12, (a13, (a14, ()))))))))))))))) ≠ (a0, (a1, (a2, (a3, (a4, (a5, (a6, (a7, (a8, (a9, (a10, (b11, (b12, (b13, (b14, ()))))))))))))))) := fun h => h6 (by simp only [Prod.mk.injEq] at h; simp_all)
    rw [dq_false hn]
    simp [h6, dq_false]
  subst h6
  by_cases h7 : a12 = b12
  rotate_left
  · have hn : (a0, (a1, (a2, (a3, (a4, (a5, (a6, (a7, (a8, (a9, (a10, (a11, (a12, (a13, (a14, ()))))))))))))))) ≠ (a0, (a1, (a2, (a3, (a4, (a5, (a6, (a7, (a8, (a9, (a10, (a11, (b12, (b13, (b14, ()))))))))))))))) := fun h => h7 (by simp only [Prod.mk.injEq] at h; simp_all)
    rw [dq_false hn]
    simp [h7, dq_false]
  subst h7
  by_cases h8 : a13 = b13
  rotate_left
  · have hn : (a0, (a1, (a2, (a3, (a4, (a5, (a6, (a7, (a8, (a9, (a10, (a11, (a12, (a13, (a14, ()))))))))))))))) ≠ (a0, (a1, (a2, (a3, (a4, (a5, (a6, (a7, (a8, (a9, (a10, (a11, (a12, (b13, (b14, ()))))))))))))))) := fun h => h8 (by simp only [Prod.mk.injEq] at h; simp_all)
    rw [dq_false hn]
    simp [h8]
  subst h8
  by_cases h9 : a14 = b14
  rotate_left
  · have hn : (a0, (a1, (a2, (a3, (a4, (a5, (a6, (a7, (a8, (a9, (a10, (a11, (a12, (a13, (a14, ()))))))))))))))) ≠ (a0, (a1, (a2, (a3, (a4, (a5, (a6, (a7, (a8, (a9, (a10, (a11, (a12, (a13, (b14, ()))))))))))))))) := fun h => h9 (by simp only [Prod.mk.injEq] at h; simp_all)
    rw [dq_false hn]
    simp [h9, dq_false]
  subst h9
  simp [dq_self]
abbrev RT_Life : Ty := (.pair (.pair (.pair (.pair (.int .i64) (.int .i64)) (.pair (.list (.pair (.int .i64) (.pair (.int .i64) (.int .i64)))) (.list (.pair (.int .i64) (.int .i64))))) (.pair (.list (.pair (.pair (.int .i64) (.int .i64)) (.int .i64))) (.list (.pair (.int .i64) (.pair (.int .i64) (.pair (.pair (.pair (.int .i64) (.pair .str (.pair .str (.pair (.int .i64) (.pair (.list (.int .i64)) (.int .i64)))))) (.pair (.int .i64) (.pair .str (.pair .str (.pair (.int .i64) (.pair (.list (.int .i64)) (.int .i64))))))) (.pair (.list (.pair (.int .i64) (.pair (.int .i64) (.pair (.int .i64) (.pair (.list .str) (.pair (.list .bool) (.int .i64))))))) (.int .i64)))))))) (.pair (.list (.pair (.int .i64) (.pair (.int .i64) (.pair (.pair (.pair (.int .i64) (.pair .str (.pair .str (.pair (.int .i64) (.pair (.list (.int .i64)) (.int .i64)))))) (.pair (.int .i64) (.pair .str (.pair .str (.pair (.int .i64) (.pair (.list (.int .i64)) (.int .i64))))))) (.pair (.list (.pair (.int .i64) (.pair (.int .i64) (.pair (.int .i64) (.pair (.list .str) (.pair (.list .bool) (.int .i64))))))) (.int .i64)))))) (.pair (.list (.int .i64)) (.pair (.int .i64) (.pair (.list (.pair (.int .i64) (.pair (.int .i64) (.pair .bool (.pair (.int .i64) (.pair (.int .i64) (.pair (.int .i64) (.pair (.int .i64) (.pair (.int .i64) (.pair (.list (.int .i64)) .str)))))))))) (.pair (.int .i64) (.pair (.list (.pair (.int .i64) (.pair (.int .i64) (.pair (.int .i64) .str)))) (.pair (.list (.pair (.int .i64) (.pair (.int .i64) (.pair (.int .i64) .str)))) (.pair (.int .i64) (.list (.pair (.int .i64) (.pair .bool (.pair (.int .i64) (.int .i64))))))))))))))
def ag_Life (r : RT_Life.den) : Int × Int × (List (Int × Int × Int)) × (List (Int × Int)) × (List ((Int × Int) × Int)) × (List (Int × Int × ((Int × ByteArray × ByteArray × Int × List (Int) × Int) × Int × ByteArray × ByteArray × Int × List (Int) × Int) × List (Int × Int × Int × List (ByteArray) × List (Bool) × Int) × Int)) × (List (Int × Int × ((Int × ByteArray × ByteArray × Int × List (Int) × Int) × Int × ByteArray × ByteArray × Int × List (Int) × Int) × List (Int × Int × Int × List (ByteArray) × List (Bool) × Int) × Int)) × List (Int) × Int × (List (Int × Int × Bool × Int × Int × Int × Int × Int × List (Int) × ByteArray)) × Int × (List (Int × Int × Int × ByteArray)) × (List (Int × Int × Int × ByteArray)) × Int × (List (Int × Bool × Int × Int)) × Unit := (r.1.1.1.1, (r.1.1.1.2, (r.1.1.2.1, (r.1.1.2.2, (r.1.2.1, (r.1.2.2, (r.2.1, (r.2.2.1, (r.2.2.2.1, (r.2.2.2.2.1, (r.2.2.2.2.2.1, (r.2.2.2.2.2.2.1, (r.2.2.2.2.2.2.2.1, (r.2.2.2.2.2.2.2.2.1, (r.2.2.2.2.2.2.2.2.2, ())))))))))))))))
theorem ag_Life_inj (r r' : RT_Life.den) : (ag_Life r = ag_Life r') ↔ r = r' := by
  constructor
  · intro h
    obtain ⟨⟨⟨⟨x0, x1⟩, ⟨x2, x3⟩⟩, ⟨x4, x5⟩⟩, ⟨x6, ⟨x7, ⟨x8, ⟨x9, ⟨x10, ⟨x11, ⟨x12, ⟨x13, x14⟩⟩⟩⟩⟩⟩⟩⟩⟩ := r
    obtain ⟨⟨⟨⟨y0, y1⟩, ⟨y2, y3⟩⟩, ⟨y4, y5⟩⟩, ⟨y6, ⟨y7, ⟨y8, ⟨y9, ⟨y10, ⟨y11, ⟨y12, ⟨y13, y14⟩⟩⟩⟩⟩⟩⟩⟩⟩ := r'
    simp only [ag_Life, Prod.mk.injEq, and_true] at h
    simp only [Prod.mk.injEq]
    simp_all
  · intro h
    rw [h]
theorem wfr_Lease (r : RT_Lease.den) (h : RT_Lease.wf r) : Wf_Lease (ag_Lease r) := trivial
theorem wfr_Fixed (r : RT_Fixed.den) (h : RT_Fixed.wf r) : Wf_Fixed (ag_Fixed r) := trivial
theorem wfr_Route (r : RT_Route.den) (h : RT_Route.wf r) : Wf_Route (ag_Route r) := trivial
theorem wfr_Held (r : RT_Held.den) (h : RT_Held.wf r) : Wf_Held (ag_Held r) := ⟨h.2.2.2.1, h.2.2.2.2.1.1, trivial⟩
theorem wfr_User (r : RT_User.den) (h : RT_User.wf r) : Wf_User (ag_User r) := ⟨h.2.2.1.1.2.1, h.2.2.1.1.2.2.1, h.2.2.1.1.2.2.2.2.1.1, h.2.2.1.2.2.1, h.2.2.1.2.2.2.1, h.2.2.1.2.2.2.2.2.1.1, ⟨h.2.2.2.1.1, fun r hr => wfr_Held r (h.2.2.2.1.2 r hr)⟩, trivial⟩
theorem wfr_Flight (r : RT_Flight.den) (h : RT_Flight.wf r) : Wf_Flight (ag_Flight r) := ⟨h.2.2.2.2.2.2.2.2.1.1, h.2.2.2.2.2.2.2.2.2, trivial⟩
theorem wfr_Carried (r : RT_Carried.den) (h : RT_Carried.wf r) : Wf_Carried (ag_Carried r) := ⟨h.2.2.2, trivial⟩
theorem wfr_Sealing (r : RT_Sealing.den) (h : RT_Sealing.wf r) : Wf_Sealing (ag_Sealing r) := trivial
theorem wfr_Life (r : RT_Life.den) (h : RT_Life.wf r) : Wf_Life (ag_Life r) := ⟨⟨h.1.1.2.1.1, fun r hr => wfr_Lease r (h.1.1.2.1.2 r hr)⟩, ⟨h.1.1.2.2.1, fun r hr => wfr_Fixed r (h.1.1.2.2.2 r hr)⟩, ⟨h.1.2.1.1, fun r hr => wfr_Route r (h.1.2.1.2 r hr)⟩, ⟨h.1.2.2.1, fun r hr => wfr_User r (h.1.2.2.2 r hr)⟩, ⟨h.2.1.1, fun r hr => wfr_User r (h.2.1.2 r hr)⟩, h.2.2.1.1, ⟨h.2.2.2.2.1.1, fun r hr => wfr_Flight r (h.2.2.2.2.1.2 r hr)⟩, ⟨h.2.2.2.2.2.2.1.1, fun r hr => wfr_Carried r (h.2.2.2.2.2.2.1.2 r hr)⟩, ⟨h.2.2.2.2.2.2.2.1.1, fun r hr => wfr_Carried r (h.2.2.2.2.2.2.2.1.2 r hr)⟩, ⟨h.2.2.2.2.2.2.2.2.2.1, fun r hr => wfr_Sealing r (h.2.2.2.2.2.2.2.2.2.2 r hr)⟩, trivial⟩
abbrev hubOf (r : RT_Life.den) : List RT_User.den := (ag_Life r).2.2.2.2.2.1
abbrev endsOf (r : RT_Life.den) : List RT_User.den := (ag_Life r).2.2.2.2.2.2.1
def atB (q : List RT_User.den) (id : Int) : Int := match (List.range q.length).find? (fun j => decide ((Ty.rd (t := RT_User) q (j : Nat)).1 = id)) with | some j => ((j : Nat) : Int) | none => -1
theorem l22At_is (k : Nat) (q : List RT_User.den) (id : Int) (hk : 1048576 < k) (hl : q.length ≤ 1048576) : s_l22At k (q, (id, ())) = some (atB q id, ((), ((), ()))) := by
  unfold s_l22At atB
  refine (loop_find (R := Int × Unit × Unit × Unit) (fun j => (q, (id, (((j : Nat) : Int), ())))) q.length (fun j => decide ((Ty.rd (t := RT_User) q (j : Nat)).1 = id)) (fun j => (((j : Nat) : Int), ((), ((), ())))) (-1, ((), ((), ()))) ?_ ?_ k (by omega)).trans ?_
  · intro ag j hj
    have q1 : (0 : Int) ≤ (j : Int) ∧ (j : Int) < (q.length : Int) := by omega
    have w3 : wi64 ((j : Int) + 1) = ((j + 1 : Nat) : Int) := (w64_id _ (by omega)).trans (by omega)
    simp only [q1, w3, and_self, decide_true, if_true]
  · intro ag
    simp only [Int.lt_irrefl, decide_false, Bool.false_eq_true, if_false]
  · cases (List.range q.length).find? (fun j => decide ((Ty.rd (t := RT_User) q (j : Nat)).1 = id)) <;> rfl
theorem userAt_is (k : Nat) (q : List RT_User.den) (id : Int) (hk : 1048576 < k) (hl : q.length ≤ 1048576) : i_userAt k (q, (id, ())) = some (atB q id, ((), ((), ()))) := by
  unfold i_userAt atB
  have h : x_slices_IndexFunc_impl_User_impl_User_of_i_userAt_1 k (q, (((id, ()), ()), ())) = some ((match (List.range q.length).find? (fun j => decide ((Ty.rd (t := RT_User) q (j : Nat)).1 = id)) with | some j => ((j : Nat) : Int) | none => -1), ((), ((((id, ()), ()), ())))) := by
    unfold x_slices_IndexFunc_impl_User_impl_User_of_i_userAt_1
    refine (loop_find (R := Int × Unit × ((Int × Unit) × Unit) × Unit) (fun j => (q, ((((id, ()), ())), ((q.length : Int), (((j : Nat) : Int), ()))))) q.length (fun j => decide ((Ty.rd (t := RT_User) q (j : Nat)).1 = id)) (fun j => (((j : Nat) : Int), ((), ((((id, ()), ()), ()))))) (-1, ((), ((((id, ()), ()), ())))) ?_ ?_ k (by omega)).trans ?_
    · intro ag j hj
      have q1 : (0 : Int) ≤ (j : Int) ∧ (j : Int) < (q.length : Int) := by omega
      have w3 : wi64 ((j : Int) + 1) = ((j + 1 : Nat) : Int) := (w64_id _ (by omega)).trans (by omega)
      simp only [q1, w3, i_userAt_1, and_self, decide_true, if_true, Option.bind_some]
    · intro ag
      simp only [Int.lt_irrefl, decide_false, Bool.false_eq_true, if_false]
    · cases (List.range q.length).find? (fun j => decide ((Ty.rd (t := RT_User) q (j : Nat)).1 = id)) <;> rfl
  rw [h]
  rfl
theorem atB_lt (q : List RT_User.den) (id : Int) (h : ¬ atB q id < 0) : 0 ≤ atB q id ∧ atB q id < (q.length : Int) := by
  unfold atB at h ⊢
  cases hf : (List.range q.length).find? (fun j => decide ((Ty.rd (t := RT_User) q (j : Nat)).1 = id)) with
  | none => rw [hf] at h; simp at h
  | some j =>
    have := List.mem_of_find?_eq_some hf
    simp at this
    simp only []
    omega
def gKeys (u h : List RT_User.den) (i : Nat) (_ : Unit) : (Bool × Unit × Unit) ⊕ Unit :=
  let a := (Ty.rd (t := RT_User) u i).2.2.1.1
  let p := atB h (Ty.rd (t := RT_User) u i).1
  let b := (Ty.rd (t := RT_User) h p).2.2.1.1
  if p < 0 then .inr () else if decide (a.1 = b.1) && (!decide (a.2.1 = b.2.2.1) || !decide (a.2.2.1 = b.2.1)) then .inl (false, ((), ())) else .inr ()
def keysB (u h : List RT_User.den) : Bool := (foldE (gKeys u h) (fun _ => (true, ((), ()))) u.length 0 ()).1
theorem s_KeysMeet_is (k : Nat) (r : RT_Life.den) (hk : 1048576 < k) (hl : (endsOf r).length ≤ 1048576) (hl' : (hubOf r).length ≤ 1048576) : s_KeysMeet k (ag_Life r, ()) = some (keysB (endsOf r) (hubOf r), ((), ())) := by
  unfold s_KeysMeet keysB
  refine (loop_fold (A := Unit) (fun i _ => (ag_Life r, (((i : Nat) : Int), ()))) (endsOf r).length (gKeys (endsOf r) (hubOf r)) (fun _ => (true, ((), ()))) (fun _ _ => True) ?_ (fun _ _ _ _ _ _ => trivial) ?_ k () trivial (by omega)).trans rfl
  · intro again i _ hi _
    have w2 : wi64 ((i : Int) + 1) = ((i + 1 : Nat) : Int) := (w64_id _ (by omega)).trans (by omega)
    have g1 : (0 : Int) ≤ (i : Int) ∧ (i : Int) < ((endsOf r).length : Int) := by omega
    simp only [g1, l22At_is k (hubOf r) _ hk hl', w2, and_self, decide_true, if_true, Option.bind_some]
    by_cases hp : atB (hubOf r) (Ty.rd (t := RT_User) (endsOf r) i).1 < 0
    · rw [show gKeys (endsOf r) (hubOf r) i () = .inr () from if_pos hp]
      simp only [hp, decide_true, if_true]
    · have hb := atB_lt _ _ hp
      rw [show gKeys (endsOf r) (hubOf r) i () = _ from if_neg hp]
      simp only [hp, hb, and_self, decide_false, Bool.false_eq_true, if_false, if_true]
      generalize atB (hubOf r) (Ty.rd (t := RT_User) (endsOf r) i).1 = p
      by_cases c1 : (Ty.rd (t := RT_User) (endsOf r) i).2.2.1.1.1 = (Ty.rd (t := RT_User) (hubOf r) p).2.2.1.1.1
      · by_cases c2 : (Ty.rd (t := RT_User) (endsOf r) i).2.2.1.1.2.1 = (Ty.rd (t := RT_User) (hubOf r) p).2.2.1.1.2.2.1
        · by_cases c3 : (Ty.rd (t := RT_User) (endsOf r) i).2.2.1.1.2.2.1 = (Ty.rd (t := RT_User) (hubOf r) p).2.2.1.1.2.1
          · simp only [c1, c2, c3, decide_true, if_true, Bool.not_true, Bool.or_self, Bool.and_false, Bool.false_eq_true, if_false]
          · simp only [c1, c2, c3, decide_true, decide_false, if_true, Bool.not_true, Bool.not_false, Bool.or_true, Bool.and_true]
        · simp only [c1, c2, decide_true, decide_false, if_true, Bool.not_false, Bool.true_or, Bool.and_true, Bool.true_eq_false, if_false]
      · simp only [c1, decide_false, Bool.false_and, Bool.false_eq_true, if_false]
  · intro again _ _
    simp only [Int.lt_irrefl, decide_false, Bool.false_eq_true, if_false]
theorem i_KeysMeet_is (k : Nat) (r : RT_Life.den) (hk : 1048576 < k) (hl : (endsOf r).length ≤ 1048576) (hl' : (hubOf r).length ≤ 1048576) : i_KeysMeet k (ag_Life r, ()) = some (keysB (endsOf r) (hubOf r), ((), ())) := by
  unfold i_KeysMeet keysB
  refine (loop_fold (A := Unit) (fun i _ => (ag_Life r, (endsOf r, (((endsOf r).length : Int), (((i : Nat) : Int), ()))))) (endsOf r).length (gKeys (endsOf r) (hubOf r)) (fun _ => (true, ((), ()))) (fun _ _ => True) ?_ (fun _ _ _ _ _ _ => trivial) ?_ k () trivial (by omega)).trans rfl
  · intro again i _ hi _
    have w2 : wi64 ((i : Int) + 1) = ((i + 1 : Nat) : Int) := (w64_id _ (by omega)).trans (by omega)
    have g1 : (0 : Int) ≤ (i : Int) ∧ (i : Int) < ((endsOf r).length : Int) := by omega
    simp only [g1, userAt_is k (hubOf r) _ hk hl', w2, and_self, decide_true, if_true, Option.bind_some]
    by_cases hp : atB (hubOf r) (Ty.rd (t := RT_User) (endsOf r) i).1 < 0
    · rw [show gKeys (endsOf r) (hubOf r) i () = .inr () from if_pos hp]
      simp only [hp, decide_true, if_true]
    · have hb := atB_lt _ _ hp
      rw [show gKeys (endsOf r) (hubOf r) i () = _ from if_neg hp]
      simp only [hp, hb, and_self, decide_false, Bool.false_eq_true, if_false, if_true]
      generalize atB (hubOf r) (Ty.rd (t := RT_User) (endsOf r) i).1 = p
      by_cases c1 : (Ty.rd (t := RT_User) (endsOf r) i).2.2.1.1.1 = (Ty.rd (t := RT_User) (hubOf r) p).2.2.1.1.1
      · by_cases c2 : (Ty.rd (t := RT_User) (endsOf r) i).2.2.1.1.2.1 = (Ty.rd (t := RT_User) (hubOf r) p).2.2.1.1.2.2.1
        · by_cases c3 : (Ty.rd (t := RT_User) (endsOf r) i).2.2.1.1.2.2.1 = (Ty.rd (t := RT_User) (hubOf r) p).2.2.1.1.2.1
          · simp only [c1, c2, c3, decide_true, if_true, Bool.not_true, Bool.or_self, Bool.and_false, Bool.false_eq_true, if_false]
          · simp only [c1, c2, c3, decide_true, decide_false, if_true, Bool.not_true, Bool.not_false, Bool.or_true, Bool.and_true]
        · simp only [c1, c2, decide_true, decide_false, if_true, Bool.not_false, Bool.true_or, Bool.and_true, Bool.true_eq_false, if_false]
      · simp only [c1, decide_false, Bool.false_and, Bool.false_eq_true, if_false]
  · intro again _ _
    simp only [Int.lt_irrefl, decide_false, Bool.false_eq_true, if_false]
theorem pure_FnExactKeysMeet (x : argsDen pars_FnExactKeysMeet) (hx : argsWf pars_FnExactKeysMeet x) : ∃ k o, w_FnExactKeysMeet k (argsX pars_FnExactKeysMeet x) = some (true, o) := by
  obtain ⟨h0, u⟩ := x
  refine ⟨1048577, ((), ()), ?_⟩
  show w_FnExactKeysMeet 1048577 (ag_Life h0, ()) = _
  have hw := wfr_Life h0 hx.1
  unfold w_FnExactKeysMeet
  obtain ⟨m, h1, h2⟩ := szLife_le 1048577 (ag_Life h0) 1048576 (by omega) (by decide) hw
  have e0 := toLife_is 1048577 (ag_Life h0) (by decide)
  have e1 := eqLife_is 1048577 (ag_Life h0) (ag_Life h0) (by decide)
  by_cases hm : m < 0
  · refine (congrArg (fun o => Option.bind o _) h1).trans ?_
    simp [hm]
  obtain ⟨_, hb⟩ := h2 (by omega)
  have hl : (endsOf h0).length ≤ 1048576 := hb.2.2.2.2.1.1
  have hl' : (hubOf h0).length ≤ 1048576 := hb.2.2.2.1.1
  have es := s_KeysMeet_is 1048577 h0 (by decide) hl hl'
  have ei := i_KeysMeet_is 1048577 h0 (by decide) hl hl'
  refine (congrArg (fun o => Option.bind o _) h1).trans ?_
  simp only [hm, decide_false, Option.bind_some, Bool.false_eq_true, if_false]
  refine (congrArg (fun o => Option.bind o _) (e0 hb)).trans ?_
  simp only [Option.bind_some]
  refine (congrArg (fun o => Option.bind o _) es).trans ?_
  simp only [Option.bind_some]
  refine (congrArg (fun o => Option.bind o _) (e0 hb)).trans ?_
  simp only [Option.bind_some]
  refine (congrArg (fun o => Option.bind o _) ei).trans ?_
  simp only [Option.bind_some, decide_true, Bool.not_true, Bool.false_eq_true, if_false]
  refine (congrArg (fun o => Option.bind o _) (e0 hb)).trans ?_
  simp only [Option.bind_some]
  refine (congrArg (fun o => Option.bind o _) (e1 hb)).trans ?_
  simp only [dq_self, Option.bind_some, Bool.not_true, Bool.false_eq_true, if_false]
open Go.ChangeShapes Go.WideShapes Go.ChangeAt Go.RowKit
theorem own_FnExactKeysMeet : ownKnob Try.prog.godebug = none := by kernel_rfl
theorem lifted_FnExactKeysMeet (os : Os) (started : os.Started) (H : Type) (enc : TypeId × Value → H) :
    ReturnsInHanded {} Try.checked os 12 .any (Rows.fnExactKeysMeetSpec.pre6 enc Try.prog Try.f12 Rows.fnExactKeysMeetRow.domain false) (Rows.fnExactKeysMeetSpec.post enc Try.prog Try.f12 false true false false) :=
  law_lifted (C := Try.checked) (l := pars_FnExactKeysMeet) (rb := 4) own_FnExactKeysMeet started (by kernel_rfl) Try.func12
    (ChangeSpec.witness6 (enc := enc) (C := Try.checked) false ⟨#[], #[.agg #[.int .i64 0, .int .i64 0, .slice none 0 0, .slice none 0 0, .slice none 0 0, .slice none 0 0, .slice none 0 0, .slice none 0 0, .int .i64 0, .slice none 0 0, .int .i64 0, .slice none 0 0, .slice none 0 0, .int .i64 0, .slice none 0 0]], []⟩ 8 (by kernel_rfl) (by kernel_rfl) (by kernel_rfl) (by kernel_rfl))
    e_w_FnExactKeysMeet rfl (by decide) pure_FnExactKeysMeet (by kernel_rfl) rfl Try.underlying4 (by kernel_rfl) (by kernel_rfl) rfl
    (fun ds h => match ds, h with | [_], _ => rfl)
theorem inPlace_FnExactKeysMeet : Try.prog.inPlace 12 = Rows.fnExactKeysMeetRow.inPlace := by kernel_rfl
theorem unfollowed_FnExactKeysMeet : Try.prog.unfollowed 12 = Rows.fnExactKeysMeetRow.unfollowed := by kernel_rfl
theorem recurses_FnExactKeysMeet : Try.prog.recurses 12 = Rows.fnExactKeysMeetRow.recurses := by kernel_rfl
theorem named_FnExactKeysMeet : Try.prog.varsNamed 12 = Rows.fnExactKeysMeetRow.named := by kernel_rfl
theorem facts_FnExactKeysMeet : joinedFacts Try.prog 12 Try.f12 Rows.fnExactKeysMeetSpec Rows.fnExactKeysMeetRow = true := by
  unfold joinedFacts
  rw [seat_laid, seat_maps, seat_heard, seat_enter, inPlace_FnExactKeysMeet, unfollowed_FnExactKeysMeet, recurses_FnExactKeysMeet, named_FnExactKeysMeet]
  kernel_rfl
theorem fnExactKeysMeet_holds : Rows.FnExactKeysMeetSaid :=
  OpenClaim.holds_of_wide 12 Try.f12 rfl rfl rfl rfl rfl rfl rfl ⟨rfl, rfl, rfl, rfl, rfl⟩ rfl rfl rfl rfl rfl (by kernel_rfl) Try.func12 facts_FnExactKeysMeet (of_decide_eq_true (by kernel_rfl))
    (by unfold Func.isWrapper; first | (rw [if_pos (by decide +kernel)]; kernel_rfl) | (rw [if_neg (by decide +kernel)]; exact ⟨rfl, rfl⟩)) (fun os started H enc _ => lifted_FnExactKeysMeet os started H enc)
#print axioms fnExactKeysMeet_holds
end Go.Proofs.Ytfponeljjihkbaa
