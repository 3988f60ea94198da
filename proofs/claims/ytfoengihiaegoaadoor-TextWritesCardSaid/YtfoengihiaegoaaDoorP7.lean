-- written by wip/tools/drive.py, a driver round the kit's printer, and made smaller by wip/tools/slim.py
import Derived.Test.YtfoengihiaegoaaDoorP0
namespace Go.Proofs.YtfoengihiaegoaaDoor.P
open Go.RowKit Go.Proofs.YtfoengihiaegoaaDoorW.PrintWords Go.Proofs.YtfoengihiaegoaaDoorW.PrintLast Go.Proofs.YtfoengihiaegoaaDoorW.PrintMore
set_option linter.unusedVariables false
set_option linter.unusedSimpArgs false
mutual
def words_of.j0 : Nat → ByteArray → Int → Bool → Option (Bool)
 | 0, _, _, _ => none
 | k + 1, x0, x5, x6 => if x6 = true then (some (x0.toList == ([83, 84, 79, 82, 69, 68] : List UInt8))) else (if x5 = 6 then (words_of.j1 k x0 x5 (x5 == 6)) else (words_of.j1 k x0 x5 (x5 == 7)))
def words_of.j1 : Nat → ByteArray → Int → Bool → Option (Bool)
 | 0, _, _, _ => none
 | k + 1, x0, x5, x14 => if x14 = true then (some (x0.toList == ([78, 85, 77, 66, 69, 82] : List UInt8))) else (if x5 = 9 then (some (x0.toList == ([84, 79, 85, 67, 72, 69, 68] : List UInt8))) else (if x5 = 10 then (some (x0.toList == ([68, 69, 76, 69, 84, 69, 68] : List UInt8))) else (if x5 = 11 then (some (x0.toList == ([70, 76, 85, 83, 72, 69, 68] : List UInt8))) else (if x5 = 1 then (some (x0.toList == ([69, 78, 68] : List UInt8))) else (some false)))))
end
def words_of.f (k : Nat) (a0 : ByteArray) (a1 : Int) : Option (Bool) := if a1 = 2 then (words_of.j0 k a0 a1 (a1 == 2)) else (if a1 = 3 then (words_of.j0 k a0 a1 (a1 == 3)) else (if a1 = 4 then (words_of.j0 k a0 a1 (a1 == 4)) else (if a1 = 5 then (words_of.j0 k a0 a1 (a1 == 5)) else (words_of.j0 k a0 a1 (a1 == 8)))))
theorem words_of.mono_l : ∀ k, (∀ y0 y1 y2, LeO (words_of.j0 k y0 y1 y2) (words_of.j0 (k + 1) y0 y1 y2)) ∧ (∀ y0 y1 y2, LeO (words_of.j1 k y0 y1 y2) (words_of.j1 (k + 1) y0 y1 y2))
 | 0 => ⟨fun _ _ _ r h => by simp [words_of.j0] at h, fun _ _ _ r h => by simp [words_of.j1] at h⟩
 | k + 1 => by
  obtain ⟨ih0, ih1⟩ := words_of.mono_l k
  refine ⟨?_, ?_⟩
  all_goals intros
  all_goals (first | unfold words_of.j0 | unfold words_of.j1)
  all_goals repeat' first | (with_reducible first | apply ih0 | apply ih1 | exact LeO.refl _ | exact LeO.none _ | refine LeO.ite ?_ ?_ | refine LeO.bind ?_ (fun _ => ?_)) | exact LeO.none _ | refine LeO.ite ?_ ?_ | refine LeO.bind ?_ (fun _ => ?_)
theorem words_of.mono : ∀ a0 a1 k, LeO (words_of.f k a0 a1) (words_of.f (k + 1) a0 a1) := by
 intro a0 a1 k
 obtain ⟨ih0, ih1⟩ := words_of.mono_l k
 unfold words_of.f
 repeat' first | (with_reducible first | apply ih0 | apply ih1 | exact LeO.refl _ | exact LeO.none _ | refine LeO.ite ?_ ?_ | refine LeO.bind ?_ (fun _ => ?_)) | exact LeO.none _ | refine LeO.ite ?_ ?_ | refine LeO.bind ?_ (fun _ => ?_)
end Go.Proofs.YtfoengihiaegoaaDoor.P
