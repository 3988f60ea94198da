-- written by wip/tools/drive.py, a driver round the kit's printer, and made smaller by wip/tools/slim.py
import Derived.Test.YtfoengihiaegoaaDoorP0
import Derived.Test.YtfoengihiaegoaaDoorP4
namespace Go.Proofs.YtfoengihiaegoaaDoor.P
open Go.RowKit Go.Proofs.YtfoengihiaegoaaDoorW.PrintWords Go.Proofs.YtfoengihiaegoaaDoorW.PrintLast Go.Proofs.YtfoengihiaegoaaDoorW.PrintMore
set_option linter.unusedVariables false
set_option linter.unusedSimpArgs false
def words_Check.j0 : Nat → Bool → Int → Int → Int → List (S56) → Int → Bool → ByteArray → Option (Int)
 | 0, _, _, _, _, _, _, _, _ => none
 | k + 1, x3, x109000, x109001, x109002, x109003, x109004, x109005, x109006 => if x109000 = 7 then (if x3 = true then (if (x109006.size : Int) ≥ 1 then (if ((x109006.size : Int) ≤ 32) then (if x109005 = true then (if x109000 = 2 then (some 0) else (if x109000 = 3 then (some 0) else (some 8))) else (some 0)) else (some 8)) else (some 8)) else (some 8)) else (if x3 = true then (if (x109006.toList = ([] : List UInt8)) then (if x109005 = true then (if x109000 = 2 then (some 0) else (if x109000 = 3 then (some 0) else (some 8))) else (some 0)) else (some 8)) else (some 8))
def words_Check.f (k : Nat) (a0_0 : Int) (a0_1 : Int) (a0_2 : Int) (l0_3 : List (S56)) (a0_4 : Int) (a0_5 : Bool) (a0_6 : ByteArray) : Option (Int) := if a0_0 = 1 then ((words_result.f k a0_1 a0_2 l0_3 a0_4).bind fun t109 => (words_Check.j0 k t109 a0_0 a0_1 a0_2 l0_3 a0_4 a0_5 a0_6)) else (if a0_0 > 1 then (if a0_0 ≤ 7 then (if a0_1 = 0 then (if a0_2 = 0 then (if a0_4 = 0 then (words_Check.j0 k ((l0_3.length : Int) == 0) a0_0 a0_1 a0_2 l0_3 a0_4 a0_5 a0_6) else (words_Check.j0 k false a0_0 a0_1 a0_2 l0_3 a0_4 a0_5 a0_6)) else (words_Check.j0 k false a0_0 a0_1 a0_2 l0_3 a0_4 a0_5 a0_6)) else (words_Check.j0 k false a0_0 a0_1 a0_2 l0_3 a0_4 a0_5 a0_6)) else (words_Check.j0 k false a0_0 a0_1 a0_2 l0_3 a0_4 a0_5 a0_6)) else (words_Check.j0 k false a0_0 a0_1 a0_2 l0_3 a0_4 a0_5 a0_6))
theorem words_Check.mono_l : ∀ k, (∀ y0 y1 y2 y3 y4 y5 y6 y7, LeO (words_Check.j0 k y0 y1 y2 y3 y4 y5 y6 y7) (words_Check.j0 (k + 1) y0 y1 y2 y3 y4 y5 y6 y7))
 | 0 => fun _ _ _ _ _ _ _ _ r h => by simp [words_Check.j0] at h
 | k + 1 => by
  have ih0 := words_Check.mono_l k
  ·intro y0 y1 y2 y3 y4 y5 y6 y7
   unfold words_Check.j0
   repeat' first | (with_reducible first | apply ih0 | apply words_result.mono | exact LeO.refl _ | exact LeO.none _ | refine LeO.ite ?_ ?_ | refine LeO.bind ?_ (fun _ => ?_)) | exact LeO.none _ | refine LeO.ite ?_ ?_ | refine LeO.bind ?_ (fun _ => ?_)
theorem words_Check.mono : ∀ a0 a1 a2 a3 a4 a5 a6 k, LeO (words_Check.f k a0 a1 a2 a3 a4 a5 a6) (words_Check.f (k + 1) a0 a1 a2 a3 a4 a5 a6) := by
 intro a0 a1 a2 a3 a4 a5 a6 k
 have ih0 := words_Check.mono_l k
 unfold words_Check.f
 repeat' first | (with_reducible first | apply ih0 | apply words_result.mono | exact LeO.refl _ | exact LeO.none _ | refine LeO.ite ?_ ?_ | refine LeO.bind ?_ (fun _ => ?_)) | exact LeO.none _ | refine LeO.ite ?_ ?_ | refine LeO.bind ?_ (fun _ => ?_)
end Go.Proofs.YtfoengihiaegoaaDoor.P
