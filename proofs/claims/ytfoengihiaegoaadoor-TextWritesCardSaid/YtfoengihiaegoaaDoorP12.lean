-- written by wip/tools/drive.py, a driver round the kit's printer, and made smaller by wip/tools/slim.py
import Derived.Test.YtfoengihiaegoaaDoorP0
import Derived.Test.YtfoengihiaegoaaDoorP9
import Derived.Test.YtfoengihiaegoaaDoorP10
import Derived.Test.YtfoengihiaegoaaDoorP11
namespace Go.Proofs.YtfoengihiaegoaaDoor.P
open Go.RowKit Go.Proofs.YtfoengihiaegoaaDoorW.PrintWords Go.Proofs.YtfoengihiaegoaaDoorW.PrintLast Go.Proofs.YtfoengihiaegoaaDoorW.PrintMore
set_option linter.unusedVariables false
set_option linter.unusedSimpArgs false
mutual
def cloakroomref15_Write.j0 : Nat → Bool → Int → Int → Int → List (S56) → Int → Bool → ByteArray → Option (List Int × Int)
 | 0, _, _, _, _, _, _, _, _ => none
 | k + 1, x13, x136000, x136001, x136002, x136003, x136004, x136005, x136006 => if x13 = true then (some (([] : List Int), 8)) else (cloakroomref15_Write.l0 k 0 x136000 x136001 x136002 x136003 x136004 x136005 x136006)
def cloakroomref15_Write.l0 : Nat → Int → Int → Int → Int → List (S56) → Int → Bool → ByteArray → Option (List Int × Int)
 | 0, _, _, _, _, _, _, _, _ => none
 | k + 1, x4, x136000, x136001, x136002, x136003, x136004, x136005, x136006 => if x4 < (x136003.length : Int) then (if 0 ≤ x4 then ((cloakroomref15_plain.f k ((rd_T56 x136003 x4).f0)).bind fun t139 => (if t139 = true then (cloakroomref15_Write.l0 k (wrap64 (x4 + 1)) x136000 x136001 x136002 x136003 x136004 x136005 x136006) else (some (([] : List Int), 8)))) else (none)) else ((cloakroomref15_Lines.f k x136000 x136001 x136002 x136003 x136004 x136005 x136006).bind fun t140 => (if t140.size + 2 ≤ 9223372036854775807 then (if (t140 ++ (⟨#[13, 10]⟩ : ByteArray)).size ≤ 9223372036854775807 then (some ((bytesOf (t140 ++ (⟨#[13, 10]⟩ : ByteArray))), 0)) else (none)) else (none)))
end
def cloakroomref15_Write.f (k : Nat) (a0_0 : Int) (a0_1 : Int) (a0_2 : Int) (l0_3 : List (S56)) (a0_4 : Int) (a0_5 : Bool) (a0_6 : ByteArray) : Option (List Int × Int) := (cloakroomref15_May.f k a0_0 a0_1 a0_2 l0_3 a0_4 a0_5 a0_6).bind fun t136 => (if t136 = true then ((cloakroomref15_plain.f k a0_6).bind fun t137 => (cloakroomref15_Write.j0 k (!t137) a0_0 a0_1 a0_2 l0_3 a0_4 a0_5 a0_6)) else (cloakroomref15_Write.j0 k true a0_0 a0_1 a0_2 l0_3 a0_4 a0_5 a0_6))
theorem cloakroomref15_Write.mono_l : ∀ k, (∀ y0 y1 y2 y3 y4 y5 y6 y7, LeO (cloakroomref15_Write.j0 k y0 y1 y2 y3 y4 y5 y6 y7) (cloakroomref15_Write.j0 (k + 1) y0 y1 y2 y3 y4 y5 y6 y7)) ∧ (∀ y0 y1 y2 y3 y4 y5 y6 y7, LeO (cloakroomref15_Write.l0 k y0 y1 y2 y3 y4 y5 y6 y7) (cloakroomref15_Write.l0 (k + 1) y0 y1 y2 y3 y4 y5 y6 y7))
 | 0 => ⟨fun _ _ _ _ _ _ _ _ r h => by simp [cloakroomref15_Write.j0] at h, fun _ _ _ _ _ _ _ _ r h => by simp [cloakroomref15_Write.l0] at h⟩
 | k + 1 => by
  obtain ⟨ih0, ih1⟩ := cloakroomref15_Write.mono_l k
  refine ⟨?_, ?_⟩
  all_goals intros
  all_goals (first | unfold cloakroomref15_Write.j0 | unfold cloakroomref15_Write.l0)
  all_goals repeat' first | (with_reducible first | apply ih0 | apply ih1 | apply cloakroomref15_Lines.mono | apply cloakroomref15_May.mono | apply cloakroomref15_plain.mono | exact LeO.refl _ | exact LeO.none _ | refine LeO.ite ?_ ?_ | refine LeO.bind ?_ (fun _ => ?_)) | exact LeO.none _ | refine LeO.ite ?_ ?_ | refine LeO.bind ?_ (fun _ => ?_)
theorem cloakroomref15_Write.mono : ∀ a0 a1 a2 a3 a4 a5 a6 k, LeO (cloakroomref15_Write.f k a0 a1 a2 a3 a4 a5 a6) (cloakroomref15_Write.f (k + 1) a0 a1 a2 a3 a4 a5 a6) := by
 intro a0 a1 a2 a3 a4 a5 a6 k
 obtain ⟨ih0, ih1⟩ := cloakroomref15_Write.mono_l k
 unfold cloakroomref15_Write.f
 repeat' first | (with_reducible first | apply ih0 | apply ih1 | apply cloakroomref15_Lines.mono | apply cloakroomref15_May.mono | apply cloakroomref15_plain.mono | exact LeO.refl _ | exact LeO.none _ | refine LeO.ite ?_ ?_ | refine LeO.bind ?_ (fun _ => ?_)) | exact LeO.none _ | refine LeO.ite ?_ ?_ | refine LeO.bind ?_ (fun _ => ?_)
end Go.Proofs.YtfoengihiaegoaaDoor.P
