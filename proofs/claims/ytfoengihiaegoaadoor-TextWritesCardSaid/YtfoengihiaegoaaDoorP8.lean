-- written by wip/tools/drive.py, a driver round the kit's printer, and made smaller by wip/tools/slim.py
import Derived.Test.YtfoengihiaegoaaDoorP0
namespace Go.Proofs.YtfoengihiaegoaaDoor.P
open Go.RowKit Go.Proofs.YtfoengihiaegoaaDoorW.PrintWords Go.Proofs.YtfoengihiaegoaaDoorW.PrintLast Go.Proofs.YtfoengihiaegoaaDoorW.PrintMore
set_option linter.unusedVariables false
set_option linter.unusedSimpArgs false
def cloakroomref15_counts.f (a0 : Int) : Option (Bool) := if a0 = 6 then (some true) else (if a0 = 7 then (some true) else (some (a0 == 10)))
def cloakroomref09_Moment.f (a0 : Int) : Option (Bool) := if a0 ≥ 0 then (some (decide (a0 ≤ 1099511627776))) else (some false)
def cloakroomref09_Check.j0 : Nat → Bool → ByteArray → ByteArray → Int → Int → Int → Option (Int)
 | 0, _, _, _, _, _, _ => none
 | k + 1, x18, x114000, x114001, x114002, x114003, x114004 => if x18 = true then (some 3) else ((cloakroomref09_Moment.f x114003).bind fun t114 => (if t114 = true then (some 0) else (some 2)))
def cloakroomref09_Check.f (k : Nat) (a0_0 : ByteArray) (a0_1 : ByteArray) (a0_2 : Int) (a0_3 : Int) (a0_4 : Int) : Option (Int) := if (a0_0.size : Int) < 1 then (cloakroomref09_Check.j0 k true a0_0 a0_1 a0_2 a0_3 a0_4) else (if (a0_0.size : Int) > 32 then (cloakroomref09_Check.j0 k true a0_0 a0_1 a0_2 a0_3 a0_4) else (cloakroomref09_Check.j0 k (decide ((a0_1.size : Int) > 512)) a0_0 a0_1 a0_2 a0_3 a0_4))
theorem cloakroomref09_Check.mono_l : ∀ k, (∀ y0 y1 y2 y3 y4 y5, LeO (cloakroomref09_Check.j0 k y0 y1 y2 y3 y4 y5) (cloakroomref09_Check.j0 (k + 1) y0 y1 y2 y3 y4 y5))
 | 0 => fun _ _ _ _ _ _ r h => by simp [cloakroomref09_Check.j0] at h
 | k + 1 => by
  have ih0 := cloakroomref09_Check.mono_l k
  ·intro y0 y1 y2 y3 y4 y5
   unfold cloakroomref09_Check.j0
   repeat' first | (with_reducible first | apply ih0 | exact LeO.refl _ | exact LeO.none _ | refine LeO.ite ?_ ?_ | refine LeO.bind ?_ (fun _ => ?_)) | exact LeO.none _ | refine LeO.ite ?_ ?_ | refine LeO.bind ?_ (fun _ => ?_)
theorem cloakroomref09_Check.mono : ∀ a0 a1 a2 a3 a4 k, LeO (cloakroomref09_Check.f k a0 a1 a2 a3 a4) (cloakroomref09_Check.f (k + 1) a0 a1 a2 a3 a4) := by
 intro a0 a1 a2 a3 a4 k
 have ih0 := cloakroomref09_Check.mono_l k
 unfold cloakroomref09_Check.f
 repeat' first | (with_reducible first | apply ih0 | exact LeO.refl _ | exact LeO.none _ | refine LeO.ite ?_ ?_ | refine LeO.bind ?_ (fun _ => ?_)) | exact LeO.none _ | refine LeO.ite ?_ ?_ | refine LeO.bind ?_ (fun _ => ?_)
end Go.Proofs.YtfoengihiaegoaaDoor.P
