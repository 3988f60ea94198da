-- written by wip/tools/drive.py, a driver round the kit's printer, and made smaller by wip/tools/slim.py
import Derived.Test.YtfoengihiaegoaaDoorP0
import Derived.Test.YtfoengihiaegoaaDoorP3
import Derived.Test.YtfoengihiaegoaaDoorXContains
import Derived.Test.YtfoengihiaegoaaDoorXDefs
namespace Go.Proofs.YtfoengihiaegoaaDoor.P
open Go.RowKit Go.Proofs.YtfoengihiaegoaaDoorW.PrintWords Go.Proofs.YtfoengihiaegoaaDoorW.PrintLast Go.Proofs.YtfoengihiaegoaaDoorW.PrintMore
set_option linter.unusedVariables false
set_option linter.unusedSimpArgs false
mutual
def words_result.j0 : Nat → Int → Bool → Bool → Int → List (S56) → Int → Option (Bool)
 | 0, _, _, _, _, _, _ => none
 | k + 1, x0, x5, x9, x105000, x105001, x105002 => if x9 = true then (some false) else (if (x105001.length : Int) > 0 then (if x5 = true then (words_result.j1 k x0 x5 (!(x0 == 1)) x105000 x105001 x105002) else (words_result.j1 k x0 x5 (!false) x105000 x105001 x105002)) else (words_result.j1 k x0 x5 false x105000 x105001 x105002))
def words_result.j1 : Nat → Int → Bool → Bool → Int → List (S56) → Int → Option (Bool)
 | 0, _, _, _, _, _, _ => none
 | k + 1, x0, x5, x20, x105000, x105001, x105002 => if x20 = true then (words_result.j2 k x0 x5 x20 x105000 x105001 x105002) else (words_result.j2 k x0 x5 (decide ((x105001.length : Int) > 8)) x105000 x105001 x105002)
def words_result.j2 : Nat → Int → Bool → Bool → Int → List (S56) → Int → Option (Bool)
 | 0, _, _, _, _, _, _ => none
 | k + 1, x0, x5, x20, x105000, x105001, x105002 => if x20 = true then (some false) else (if x105002 = 0 then (words_result.j3 k x0 false x105000 x105001 x105002) else (if x5 = true then ((words_counts.f x0).bind fun t105 => (words_result.j3 k x0 (!t105) x105000 x105001 x105002)) else (words_result.j3 k x0 (!false) x105000 x105001 x105002)))
def words_result.j3 : Nat → Int → Bool → Int → List (S56) → Int → Option (Bool)
 | 0, _, _, _, _, _ => none
 | k + 1, x0, x37, x105000, x105001, x105002 => if x37 = true then (some false) else (if x0 = 10 then (if x105002 > 8 then (some false) else ((anyBadItem.f x105001 ()).bind fun t106 => (some (!t106)))) else ((anyBadItem.f x105001 ()).bind fun t107 => (some (!t107))))
end
def words_result.f (k : Nat) (a0 : Int) (a1_0 : Int) (l1_1 : List (S56)) (a1_2 : Int) : Option (Bool) := if a0 < 1 then (words_result.j0 k a0 (a1_0 == 1) (decide (a0 < 1)) a1_0 l1_1 a1_2) else (if a0 > 11 then (words_result.j0 k a0 (a1_0 == 1) (decide (a0 > 11)) a1_0 l1_1 a1_2) else (if a1_0 < 1 then (words_result.j0 k a0 (a1_0 == 1) (decide (a1_0 < 1)) a1_0 l1_1 a1_2) else (words_result.j0 k a0 (a1_0 == 1) (decide (a1_0 > 7)) a1_0 l1_1 a1_2)))
theorem words_result.mono_l : ∀ k, (∀ y0 y1 y2 y3 y4 y5, LeO (words_result.j0 k y0 y1 y2 y3 y4 y5) (words_result.j0 (k + 1) y0 y1 y2 y3 y4 y5)) ∧ (∀ y0 y1 y2 y3 y4 y5, LeO (words_result.j1 k y0 y1 y2 y3 y4 y5) (words_result.j1 (k + 1) y0 y1 y2 y3 y4 y5)) ∧ (∀ y0 y1 y2 y3 y4 y5, LeO (words_result.j2 k y0 y1 y2 y3 y4 y5) (words_result.j2 (k + 1) y0 y1 y2 y3 y4 y5)) ∧ (∀ y0 y1 y2 y3 y4, LeO (words_result.j3 k y0 y1 y2 y3 y4) (words_result.j3 (k + 1) y0 y1 y2 y3 y4))
 | 0 => ⟨fun _ _ _ _ _ _ r h => by simp [words_result.j0] at h, fun _ _ _ _ _ _ r h => by simp [words_result.j1] at h, fun _ _ _ _ _ _ r h => by simp [words_result.j2] at h, fun _ _ _ _ _ r h => by simp [words_result.j3] at h⟩
 | k + 1 => by
  obtain ⟨ih0, ih1, ih2, ih3⟩ := words_result.mono_l k
  refine ⟨?_, ?_, ?_, ?_⟩
  all_goals intros
  all_goals (first | unfold words_result.j0 | unfold words_result.j1 | unfold words_result.j2 | unfold words_result.j3)
  all_goals repeat' first | (with_reducible first | apply ih0 | apply ih1 | apply ih2 | apply ih3 | exact LeO.refl _ | exact LeO.none _ | refine LeO.ite ?_ ?_ | refine LeO.bind ?_ (fun _ => ?_)) | exact LeO.none _ | refine LeO.ite ?_ ?_ | refine LeO.bind ?_ (fun _ => ?_)
theorem words_result.mono : ∀ a0 a1 a2 a3 k, LeO (words_result.f k a0 a1 a2 a3) (words_result.f (k + 1) a0 a1 a2 a3) := by
 intro a0 a1 a2 a3 k
 obtain ⟨ih0, ih1, ih2, ih3⟩ := words_result.mono_l k
 unfold words_result.f
 repeat' first | (with_reducible first | apply ih0 | apply ih1 | apply ih2 | apply ih3 | exact LeO.refl _ | exact LeO.none _ | refine LeO.ite ?_ ?_ | refine LeO.bind ?_ (fun _ => ?_)) | exact LeO.none _ | refine LeO.ite ?_ ?_ | refine LeO.bind ?_ (fun _ => ?_)
end Go.Proofs.YtfoengihiaegoaaDoor.P
