-- written by wip/tools/drive.py, a driver round the kit's printer, and made smaller by wip/tools/slim.py
import Derived.Test.YtfoengihiaegoaaDoorP0
import Derived.Test.YtfoengihiaegoaaDoorP8
namespace Go.Proofs.YtfoengihiaegoaaDoor.P
open Go.RowKit Go.Proofs.YtfoengihiaegoaaDoorW.PrintWords Go.Proofs.YtfoengihiaegoaaDoorW.PrintLast Go.Proofs.YtfoengihiaegoaaDoorW.PrintMore
set_option linter.unusedVariables false
set_option linter.unusedSimpArgs false
mutual
def cloakroomref15_May.j0 : Nat → Bool → Int → Int → Int → List (S56) → Int → Bool → ByteArray → Option (Bool)
 | 0, _, _, _, _, _, _, _, _ => none
 | k + 1, x26, x116000, x116001, x116002, x116003, x116004, x116005, x116006 => if x26 = true then (some false) else (if x116000 = 7 then (if (x116006.size : Int) < 1 then (cloakroomref15_May.j1 k true x116000 x116001 x116002 x116003 x116004 x116005 x116006) else (if (x116006.size : Int) > 32 then (cloakroomref15_May.j1 k true x116000 x116001 x116002 x116003 x116004 x116005 x116006) else (cloakroomref15_May.j1 k false x116000 x116001 x116002 x116003 x116004 x116005 x116006))) else (cloakroomref15_May.j1 k (x116006.toList != ([] : List UInt8)) x116000 x116001 x116002 x116003 x116004 x116005 x116006))
def cloakroomref15_May.j1 : Nat → Bool → Int → Int → Int → List (S56) → Int → Bool → ByteArray → Option (Bool)
 | 0, _, _, _, _, _, _, _, _ => none
 | k + 1, x51, x116000, x116001, x116002, x116003, x116004, x116005, x116006 => if x51 = true then (some false) else (if x116000 = 1 then (if x116001 < 1 then (cloakroomref15_May.j2 k true x116000 x116001 x116002 x116003 x116004 x116005 x116006 x116002 x116003 x116004) else (if x116001 > 11 then (cloakroomref15_May.j2 k true x116000 x116001 x116002 x116003 x116004 x116005 x116006 x116002 x116003 x116004) else (if x116002 < 1 then (cloakroomref15_May.j2 k true x116000 x116001 x116002 x116003 x116004 x116005 x116006 x116002 x116003 x116004) else (if x116002 > 7 then (cloakroomref15_May.j2 k true x116000 x116001 x116002 x116003 x116004 x116005 x116006 x116002 x116003 x116004) else (cloakroomref15_May.j2 k (decide ((x116003.length : Int) > 8)) x116000 x116001 x116002 x116003 x116004 x116005 x116006 x116002 x116003 x116004))))) else (if x116001 = 0 then (if x116002 = 0 then (if x116004 = 0 then (some ((x116003.length : Int) == 0)) else (some false)) else (some false)) else (some false)))
def cloakroomref15_May.j2 : Nat → Bool → Int → Int → Int → List (S56) → Int → Bool → ByteArray → Int → List (S56) → Int → Option (Bool)
 | 0, _, _, _, _, _, _, _, _, _, _, _ => none
 | k + 1, x99, x116000, x116001, x116002, x116003, x116004, x116005, x116006, x117000, x117001, x117002 => if x99 = true then (some false) else (if (x117001.length : Int) > 0 then (if x116001 = 1 then (if x117000 = 1 then (if x117002 = 0 then (if x116001 = 10 then (cloakroomref15_May.j3 k (decide (x117002 > 8)) x117000 x117001 x117002) else (cloakroomref15_May.j3 k false x117000 x117001 x117002)) else ((cloakroomref15_counts.f x116001).bind fun t117 => (if t117 = true then (if x116001 = 10 then (cloakroomref15_May.j3 k (decide (x117002 > 8)) x117000 x117001 x117002) else (cloakroomref15_May.j3 k false x117000 x117001 x117002)) else (cloakroomref15_May.j3 k true x117000 x117001 x117002)))) else (cloakroomref15_May.j3 k true x117000 x117001 x117002)) else (cloakroomref15_May.j3 k true x117000 x117001 x117002)) else (if x117002 = 0 then (if x116001 = 10 then (cloakroomref15_May.j3 k (decide (x117002 > 8)) x117000 x117001 x117002) else (cloakroomref15_May.j3 k false x117000 x117001 x117002)) else ((cloakroomref15_counts.f x116001).bind fun t118 => (if t118 = true then (if x117000 = 1 then (if x116001 = 10 then (cloakroomref15_May.j3 k (decide (x117002 > 8)) x117000 x117001 x117002) else (cloakroomref15_May.j3 k false x117000 x117001 x117002)) else (cloakroomref15_May.j3 k true x117000 x117001 x117002)) else (cloakroomref15_May.j3 k true x117000 x117001 x117002)))))
def cloakroomref15_May.j3 : Nat → Bool → Int → List (S56) → Int → Option (Bool)
 | 0, _, _, _, _ => none
 | k + 1, x139, x117000, x117001, x117002 => if x139 = true then (some false) else (cloakroomref15_May.l0 k 0 x117000 x117001 x117002)
def cloakroomref15_May.l0 : Nat → Int → Int → List (S56) → Int → Option (Bool)
 | 0, _, _, _, _ => none
 | k + 1, x4, x117000, x117001, x117002 => if x4 < (x117001.length : Int) then (if 0 ≤ x4 then ((cloakroomref09_Check.f k ((rd_T56 x117001 x4).f0) ((rd_T56 x117001 x4).f1) ((rd_T56 x117001 x4).f2) ((rd_T56 x117001 x4).f3) ((rd_T56 x117001 x4).f4)).bind fun t120 => (if t120 = 0 then (cloakroomref15_May.l0 k (wrap64 (x4 + 1)) x117000 x117001 x117002) else (some false))) else (none)) else (some true)
end
def cloakroomref15_May.f (k : Nat) (a0_0 : Int) (a0_1 : Int) (a0_2 : Int) (l0_3 : List (S56)) (a0_4 : Int) (a0_5 : Bool) (a0_6 : ByteArray) : Option (Bool) := if a0_0 < 1 then (cloakroomref15_May.j0 k true a0_0 a0_1 a0_2 l0_3 a0_4 a0_5 a0_6) else (if a0_0 > 7 then (cloakroomref15_May.j0 k true a0_0 a0_1 a0_2 l0_3 a0_4 a0_5 a0_6) else (if a0_5 = true then (if a0_0 = 2 then (cloakroomref15_May.j0 k false a0_0 a0_1 a0_2 l0_3 a0_4 a0_5 a0_6) else (cloakroomref15_May.j0 k (a0_0 != 3) a0_0 a0_1 a0_2 l0_3 a0_4 a0_5 a0_6)) else (cloakroomref15_May.j0 k false a0_0 a0_1 a0_2 l0_3 a0_4 a0_5 a0_6)))
theorem cloakroomref15_May.mono_l : ∀ k, (∀ y0 y1 y2 y3 y4 y5 y6 y7, LeO (cloakroomref15_May.j0 k y0 y1 y2 y3 y4 y5 y6 y7) (cloakroomref15_May.j0 (k + 1) y0 y1 y2 y3 y4 y5 y6 y7)) ∧ (∀ y0 y1 y2 y3 y4 y5 y6 y7, LeO (cloakroomref15_May.j1 k y0 y1 y2 y3 y4 y5 y6 y7) (cloakroomref15_May.j1 (k + 1) y0 y1 y2 y3 y4 y5 y6 y7)) ∧ (∀ y0 y1 y2 y3 y4 y5 y6 y7 y8 y9 y10, LeO (cloakroomref15_May.j2 k y0 y1 y2 y3 y4 y5 y6 y7 y8 y9 y10) (cloakroomref15_May.j2 (k + 1) y0 y1 y2 y3 y4 y5 y6 y7 y8 y9 y10)) ∧ (∀ y0 y1 y2 y3, LeO (cloakroomref15_May.j3 k y0 y1 y2 y3) (cloakroomref15_May.j3 (k + 1) y0 y1 y2 y3)) ∧ (∀ y0 y1 y2 y3, LeO (cloakroomref15_May.l0 k y0 y1 y2 y3) (cloakroomref15_May.l0 (k + 1) y0 y1 y2 y3))
 | 0 => ⟨fun _ _ _ _ _ _ _ _ r h => by simp [cloakroomref15_May.j0] at h, fun _ _ _ _ _ _ _ _ r h => by simp [cloakroomref15_May.j1] at h, fun _ _ _ _ _ _ _ _ _ _ _ r h => by simp [cloakroomref15_May.j2] at h, fun _ _ _ _ r h => by simp [cloakroomref15_May.j3] at h, fun _ _ _ _ r h => by simp [cloakroomref15_May.l0] at h⟩
 | k + 1 => by
  obtain ⟨ih0, ih1, ih2, ih3, ih4⟩ := cloakroomref15_May.mono_l k
  refine ⟨?_, ?_, ?_, ?_, ?_⟩
  all_goals intros
  all_goals (first | unfold cloakroomref15_May.j0 | unfold cloakroomref15_May.j1 | unfold cloakroomref15_May.j2 | unfold cloakroomref15_May.j3 | unfold cloakroomref15_May.l0)
  all_goals repeat' first | (with_reducible first | apply ih0 | apply ih1 | apply ih2 | apply ih3 | apply ih4 | apply cloakroomref09_Check.mono | exact LeO.refl _ | exact LeO.none _ | refine LeO.ite ?_ ?_ | refine LeO.bind ?_ (fun _ => ?_)) | exact LeO.none _ | refine LeO.ite ?_ ?_ | refine LeO.bind ?_ (fun _ => ?_)
theorem cloakroomref15_May.mono : ∀ a0 a1 a2 a3 a4 a5 a6 k, LeO (cloakroomref15_May.f k a0 a1 a2 a3 a4 a5 a6) (cloakroomref15_May.f (k + 1) a0 a1 a2 a3 a4 a5 a6) := by
 intro a0 a1 a2 a3 a4 a5 a6 k
 obtain ⟨ih0, ih1, ih2, ih3, ih4⟩ := cloakroomref15_May.mono_l k
 unfold cloakroomref15_May.f
 repeat' first | (with_reducible first | apply ih0 | apply ih1 | apply ih2 | apply ih3 | apply ih4 | apply cloakroomref09_Check.mono | exact LeO.refl _ | exact LeO.none _ | refine LeO.ite ?_ ?_ | refine LeO.bind ?_ (fun _ => ?_)) | exact LeO.none _ | refine LeO.ite ?_ ?_ | refine LeO.bind ?_ (fun _ => ?_)
end Go.Proofs.YtfoengihiaegoaaDoor.P
