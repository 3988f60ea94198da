-- written by wip/tools/drive.py, a driver round the kit's printer, and made smaller by wip/tools/slim.py
import Derived.Test.YtfoengihiaegoaaDoorP0
namespace Go.Proofs.YtfoengihiaegoaaDoor.P
open Go.RowKit Go.Proofs.YtfoengihiaegoaaDoorW.PrintWords Go.Proofs.YtfoengihiaegoaaDoorW.PrintLast Go.Proofs.YtfoengihiaegoaaDoorW.PrintMore
set_option linter.unusedVariables false
set_option linter.unusedSimpArgs false
mutual
def cloakroomref15_Long.j0 : Nat → Bool → Int → Int → Int → List (S56) → Int → Bool → ByteArray → Option (Bool)
 | 0, _, _, _, _, _, _, _, _ => none
 | k + 1, x14, x102000, x102001, x102002, x102003, x102004, x102005, x102006 => if x14 = true then (some true) else (cloakroomref15_Long.l0 k 0 x102000 x102001 x102002 x102003 x102004 x102005 x102006)
def cloakroomref15_Long.l0 : Nat → Int → Int → Int → Int → List (S56) → Int → Bool → ByteArray → Option (Bool)
 | 0, _, _, _, _, _, _, _, _ => none
 | k + 1, x3, x102000, x102001, x102002, x102003, x102004, x102005, x102006 => if x3 < (x102003.length : Int) then (if 0 ≤ x3 then (if (((rd_T56 x102003 x3).f0).size : Int) > 1000 then (some true) else (if (((rd_T56 x102003 x3).f1).size : Int) > 1000 then (some true) else (cloakroomref15_Long.l0 k (wrap64 (x3 + 1)) x102000 x102001 x102002 x102003 x102004 x102005 x102006))) else (none)) else (some false)
end
def cloakroomref15_Long.f (k : Nat) (a0_0 : Int) (a0_1 : Int) (a0_2 : Int) (l0_3 : List (S56)) (a0_4 : Int) (a0_5 : Bool) (a0_6 : ByteArray) : Option (Bool) := if (a0_6.size : Int) > 1000 then (cloakroomref15_Long.j0 k true a0_0 a0_1 a0_2 l0_3 a0_4 a0_5 a0_6) else (cloakroomref15_Long.j0 k (decide ((l0_3.length : Int) > 40)) a0_0 a0_1 a0_2 l0_3 a0_4 a0_5 a0_6)
theorem cloakroomref15_Long.mono_l : ∀ k, (∀ y0 y1 y2 y3 y4 y5 y6 y7, LeO (cloakroomref15_Long.j0 k y0 y1 y2 y3 y4 y5 y6 y7) (cloakroomref15_Long.j0 (k + 1) y0 y1 y2 y3 y4 y5 y6 y7)) ∧ (∀ y0 y1 y2 y3 y4 y5 y6 y7, LeO (cloakroomref15_Long.l0 k y0 y1 y2 y3 y4 y5 y6 y7) (cloakroomref15_Long.l0 (k + 1) y0 y1 y2 y3 y4 y5 y6 y7))
 | 0 => ⟨fun _ _ _ _ _ _ _ _ r h => by simp [cloakroomref15_Long.j0] at h, fun _ _ _ _ _ _ _ _ r h => by simp [cloakroomref15_Long.l0] at h⟩
 | k + 1 => by
  obtain ⟨ih0, ih1⟩ := cloakroomref15_Long.mono_l k
  refine ⟨?_, ?_⟩
  all_goals intros
  all_goals (first | unfold cloakroomref15_Long.j0 | unfold cloakroomref15_Long.l0)
  all_goals repeat' first | (with_reducible first | apply ih0 | apply ih1 | exact LeO.refl _ | exact LeO.none _ | refine LeO.ite ?_ ?_ | refine LeO.bind ?_ (fun _ => ?_)) | exact LeO.none _ | refine LeO.ite ?_ ?_ | refine LeO.bind ?_ (fun _ => ?_)
theorem cloakroomref15_Long.mono : ∀ a0 a1 a2 a3 a4 a5 a6 k, LeO (cloakroomref15_Long.f k a0 a1 a2 a3 a4 a5 a6) (cloakroomref15_Long.f (k + 1) a0 a1 a2 a3 a4 a5 a6) := by
 intro a0 a1 a2 a3 a4 a5 a6 k
 obtain ⟨ih0, ih1⟩ := cloakroomref15_Long.mono_l k
 unfold cloakroomref15_Long.f
 repeat' first | (with_reducible first | apply ih0 | apply ih1 | exact LeO.refl _ | exact LeO.none _ | refine LeO.ite ?_ ?_ | refine LeO.bind ?_ (fun _ => ?_)) | exact LeO.none _ | refine LeO.ite ?_ ?_ | refine LeO.bind ?_ (fun _ => ?_)
end Go.Proofs.YtfoengihiaegoaaDoor.P
