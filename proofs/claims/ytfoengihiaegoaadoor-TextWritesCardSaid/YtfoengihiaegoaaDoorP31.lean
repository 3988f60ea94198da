-- written by wip/tools/drive.py, a driver round the kit's printer, and made smaller by wip/tools/slim.py
import Derived.Test.YtfoengihiaegoaaDoorP0
import Derived.Test.YtfoengihiaegoaaDoorP10
import Derived.Test.YtfoengihiaegoaaDoorP26
import Derived.Test.YtfoengihiaegoaaDoorP29
import Derived.Test.YtfoengihiaegoaaDoorP30
namespace Go.Proofs.YtfoengihiaegoaaDoor.P
open Go.RowKit Go.Proofs.YtfoengihiaegoaaDoorW.PrintWords Go.Proofs.YtfoengihiaegoaaDoorW.PrintLast Go.Proofs.YtfoengihiaegoaaDoorW.PrintMore
set_option linter.unusedVariables false
set_option linter.unusedSimpArgs false
theorem t31_0 {p : Prop} (h : p := by repeat (first | (with_reducible first | exact HB.out | apply below_alloc | apply pw_below_drewN | apply below_drew1 | refine below_set ?_ GE320.out) | exact HB.out)) : p := h
theorem t31_1 {p : Prop} (h : p := by (with_reducible repeat (first | refine blk_drewN ?_ _ | refine blk_drew ?_ | refine blk_alloc ?_ _)); exact BK320.out) : p := h
theorem t31_2 {p : Prop} (h : p := by first | rfl | (simp; done) | (simp [*]; done) | exact x_nonempty _ | (simp [x_nonempty]; done)) : p := h
theorem t31_3 {p : Prop} (h : p := by first | rfl | (simp [errW_none, errW_some] <;> rfl) | (simp [*, errW_none, errW_some] <;> rfl)) : p := h
theorem t31_4 {p : Prop} (h : p := by first | exact Kd.V_nil _ _ _ _ _ | exact Kd.R_nil _ _ _ _ _ | exact Kd.N_nil _ _ _ _ _ | exact Kd.V_nil _ _ _ _ _ | exact Kd.Q_nil _ _ _ _ _ | exact Kd.S_nil _ _ _ _ _) : p := h
theorem t31_5 {p : Prop} (h : p := by (try simp only [List.map_toArray, List.map_cons, List.map_nil]); first | done | rfl | (simp only [List.length_drop, List.length_take]; rfl)) : p := h
theorem t31_6 {p : Prop} (h : p := by first | omega | exact Nat.le_refl _) : p := h
theorem t31_7 {p : Prop} (h : p := by repeat (first | (with_reducible first | exact HB.out | apply below_alloc | apply pw_below_drewN | apply below_drew1) | exact HB.out)) : p := h
theorem t31_8 {p : Prop} (h : p := by first | (with_reducible assumption) | assumption) : p := h
theorem t31_9 {p : Prop} (h : p := by first | (with_reducible assumption) | exact of_eq_true (by assumption) | (simp only [ByteArray.size_append] at *; omega) | omega) : p := h
mutual
def cloakroomref14_Write.j0 : Nat → Bool → Int → Int → Int → List ByteArray → ByteArray → Int → Int → Int → Int → Int → ByteArray → Bool → Bool → Option (List Int × Int)
 | 0, _, _, _, _, _, _, _, _, _, _, _, _, _, _ => none
 | k + 1, x42, x321000, x321001, x321002, x321003, x321004, x321005, x321006, x321007, x321008, x321009, x321010, x321011, x321012 => if x42 = true then (some (([] : List Int), 8)) else (if x321000 = 1 then ((cloakroomref10_Check.f k x321001 x321002 x321003 x321004 x321005 x321006 x321007 x321008).bind fun t325 => (if t325 = 0 then (cloakroomref14_Write.l0 k 0 x321000 x321001 x321002 x321003 x321004 x321005 x321006 x321007 x321008 x321009 x321010 x321011 x321012) else (some (([] : List Int), t325)))) else (if x321000 = 2 then (if x321009 < 0 then (some (([] : List Int), 8)) else (if x321009 ≥ 4 then (some (([] : List Int), 8)) else ((cloakroomref14_Plain.f k x321010 16).bind fun t332 => (if t332 = true then ((cloakroomref09_Text.f k (IntKind.u64.wrap (x321009))).bind fun t333 => (if 5 + t333.size ≤ 9223372036854775807 then (if ((⟨#[117, 115, 101, 114, 32]⟩ : ByteArray) ++ t333).size + 1 ≤ 9223372036854775807 then (if (((⟨#[117, 115, 101, 114, 32]⟩ : ByteArray) ++ t333) ++ (⟨#[32]⟩ : ByteArray)).size + x321010.size ≤ 9223372036854775807 then (if ((((⟨#[117, 115, 101, 114, 32]⟩ : ByteArray) ++ t333) ++ (⟨#[32]⟩ : ByteArray)) ++ x321010).size + 2 ≤ 9223372036854775807 then (if (((((⟨#[117, 115, 101, 114, 32]⟩ : ByteArray) ++ t333) ++ (⟨#[32]⟩ : ByteArray)) ++ x321010) ++ (⟨#[13, 10]⟩ : ByteArray)).size ≤ 9223372036854775807 then (some ((bytesOf (((((⟨#[117, 115, 101, 114, 32]⟩ : ByteArray) ++ t333) ++ (⟨#[32]⟩ : ByteArray)) ++ x321010) ++ (⟨#[13, 10]⟩ : ByteArray))), 0)) else (none)) else (none)) else (none)) else (none)) else (none))) else (some (([] : List Int), 8)))))) else (if x321000 = 3 then (if x321011 = true then (some ((([116, 114, 97, 99, 107, 32, 111, 110, 13, 10] : List Int)), 0)) else (some ((([116, 114, 97, 99, 107, 32, 111, 102, 102, 13, 10] : List Int)), 0))) else (if x321000 = 4 then (some ((([112, 105, 110, 103, 13, 10] : List Int)), 0)) else (if x321000 = 5 then (some ((([113, 117, 105, 116, 13, 10] : List Int)), 0)) else (some (([] : List Int), 8)))))))
def cloakroomref14_Write.l0 : Nat → Int → Int → Int → Int → List ByteArray → ByteArray → Int → Int → Int → Int → Int → ByteArray → Bool → Bool → Option (List Int × Int)
 | 0, _, _, _, _, _, _, _, _, _, _, _, _, _, _ => none
 | k + 1, x5, x321000, x321001, x321002, x321003, x321004, x321005, x321006, x321007, x321008, x321009, x321010, x321011, x321012 => if x5 < (x321003.length : Int) then (if 0 ≤ x5 then ((cloakroomref14_Plain.f k (rdOf ByteArray.empty x321003 x5) 32).bind fun t327 => (if t327 = true then (cloakroomref14_Write.l0 k (wrap64 (x5 + 1)) x321000 x321001 x321002 x321003 x321004 x321005 x321006 x321007 x321008 x321009 x321010 x321011 x321012) else (some (([] : List Int), 8)))) else (none)) else (if x321002 = 0 then ((cloakroomref14_line.f k x321001 x321002 x321003 x321004 x321005 x321006 x321007 x321008).bind fun t328 => (if t328.size ≤ 9223372036854775807 then (some ((bytesOf t328), 0)) else (none))) else (some (([] : List Int), 8)))
end
def cloakroomref14_Write.f (k : Nat) (a0_0 : Int) (a0_1 : Int) (a0_2 : Int) (l0_3 : List ByteArray) (a0_4 : ByteArray) (a0_5 : Int) (a0_6 : Int) (a0_7 : Int) (a0_8 : Int) (a0_9 : Int) (a0_10 : ByteArray) (a0_11 : Bool) (a0_12 : Bool) : Option (List Int × Int) := if a0_12 = true then (cloakroomref14_Write.j0 k true a0_0 a0_1 a0_2 l0_3 a0_4 a0_5 a0_6 a0_7 a0_8 a0_9 a0_10 a0_11 a0_12) else (if a0_11 = true then (if a0_0 = 3 then (if a0_0 = 2 then (if a0_0 = 1 then (cloakroomref14_Write.j0 k false a0_0 a0_1 a0_2 l0_3 a0_4 a0_5 a0_6 a0_7 a0_8 a0_9 a0_10 a0_11 a0_12) else ((cloakroomref14_none.f k a0_1 a0_2 l0_3 a0_4 a0_5 a0_6 a0_7 a0_8).bind fun t321 => (cloakroomref14_Write.j0 k (!t321) a0_0 a0_1 a0_2 l0_3 a0_4 a0_5 a0_6 a0_7 a0_8 a0_9 a0_10 a0_11 a0_12))) else (if a0_9 = 0 then (if a0_10.toList = ([] : List UInt8) then (if a0_0 = 1 then (cloakroomref14_Write.j0 k false a0_0 a0_1 a0_2 l0_3 a0_4 a0_5 a0_6 a0_7 a0_8 a0_9 a0_10 a0_11 a0_12) else ((cloakroomref14_none.f k a0_1 a0_2 l0_3 a0_4 a0_5 a0_6 a0_7 a0_8).bind fun t322 => (cloakroomref14_Write.j0 k (!t322) a0_0 a0_1 a0_2 l0_3 a0_4 a0_5 a0_6 a0_7 a0_8 a0_9 a0_10 a0_11 a0_12))) else (cloakroomref14_Write.j0 k true a0_0 a0_1 a0_2 l0_3 a0_4 a0_5 a0_6 a0_7 a0_8 a0_9 a0_10 a0_11 a0_12)) else (cloakroomref14_Write.j0 k true a0_0 a0_1 a0_2 l0_3 a0_4 a0_5 a0_6 a0_7 a0_8 a0_9 a0_10 a0_11 a0_12))) else (cloakroomref14_Write.j0 k true a0_0 a0_1 a0_2 l0_3 a0_4 a0_5 a0_6 a0_7 a0_8 a0_9 a0_10 a0_11 a0_12)) else (if a0_0 = 2 then (if a0_0 = 1 then (cloakroomref14_Write.j0 k false a0_0 a0_1 a0_2 l0_3 a0_4 a0_5 a0_6 a0_7 a0_8 a0_9 a0_10 a0_11 a0_12) else ((cloakroomref14_none.f k a0_1 a0_2 l0_3 a0_4 a0_5 a0_6 a0_7 a0_8).bind fun t323 => (cloakroomref14_Write.j0 k (!t323) a0_0 a0_1 a0_2 l0_3 a0_4 a0_5 a0_6 a0_7 a0_8 a0_9 a0_10 a0_11 a0_12))) else (if a0_9 = 0 then (if a0_10.toList = ([] : List UInt8) then (if a0_0 = 1 then (cloakroomref14_Write.j0 k false a0_0 a0_1 a0_2 l0_3 a0_4 a0_5 a0_6 a0_7 a0_8 a0_9 a0_10 a0_11 a0_12) else ((cloakroomref14_none.f k a0_1 a0_2 l0_3 a0_4 a0_5 a0_6 a0_7 a0_8).bind fun t324 => (cloakroomref14_Write.j0 k (!t324) a0_0 a0_1 a0_2 l0_3 a0_4 a0_5 a0_6 a0_7 a0_8 a0_9 a0_10 a0_11 a0_12))) else (cloakroomref14_Write.j0 k true a0_0 a0_1 a0_2 l0_3 a0_4 a0_5 a0_6 a0_7 a0_8 a0_9 a0_10 a0_11 a0_12)) else (cloakroomref14_Write.j0 k true a0_0 a0_1 a0_2 l0_3 a0_4 a0_5 a0_6 a0_7 a0_8 a0_9 a0_10 a0_11 a0_12))))
theorem cloakroomref14_Write.mono_l : ∀ k, (∀ y0 y1 y2 y3 y4 y5 y6 y7 y8 y9 y10 y11 y12 y13, LeO (cloakroomref14_Write.j0 k y0 y1 y2 y3 y4 y5 y6 y7 y8 y9 y10 y11 y12 y13) (cloakroomref14_Write.j0 (k + 1) y0 y1 y2 y3 y4 y5 y6 y7 y8 y9 y10 y11 y12 y13)) ∧ (∀ y0 y1 y2 y3 y4 y5 y6 y7 y8 y9 y10 y11 y12 y13, LeO (cloakroomref14_Write.l0 k y0 y1 y2 y3 y4 y5 y6 y7 y8 y9 y10 y11 y12 y13) (cloakroomref14_Write.l0 (k + 1) y0 y1 y2 y3 y4 y5 y6 y7 y8 y9 y10 y11 y12 y13))
 | 0 => ⟨fun _ _ _ _ _ _ _ _ _ _ _ _ _ _ r h => by simp [cloakroomref14_Write.j0] at h, fun _ _ _ _ _ _ _ _ _ _ _ _ _ _ r h => by simp [cloakroomref14_Write.l0] at h⟩
 | k + 1 => by
  obtain ⟨ih0, ih1⟩ := cloakroomref14_Write.mono_l k
  refine ⟨?_, ?_⟩
  all_goals intros
  all_goals (first | unfold cloakroomref14_Write.j0 | unfold cloakroomref14_Write.l0)
  all_goals repeat' first | (with_reducible first | apply ih0 | apply ih1 | apply cloakroomref09_Text.mono | apply cloakroomref10_Check.mono | apply cloakroomref14_Plain.mono | apply cloakroomref14_line.mono | apply cloakroomref14_none.mono | exact LeO.refl _ | exact LeO.none _ | refine LeO.ite ?_ ?_ | refine LeO.bind ?_ (fun _ => ?_)) | exact LeO.none _ | refine LeO.ite ?_ ?_ | refine LeO.bind ?_ (fun _ => ?_)
theorem cloakroomref14_Write.mono : ∀ a0 a1 a2 a3 a4 a5 a6 a7 a8 a9 a10 a11 a12 k, LeO (cloakroomref14_Write.f k a0 a1 a2 a3 a4 a5 a6 a7 a8 a9 a10 a11 a12) (cloakroomref14_Write.f (k + 1) a0 a1 a2 a3 a4 a5 a6 a7 a8 a9 a10 a11 a12) := by
 intro a0 a1 a2 a3 a4 a5 a6 a7 a8 a9 a10 a11 a12 k
 obtain ⟨ih0, ih1⟩ := cloakroomref14_Write.mono_l k
 unfold cloakroomref14_Write.f
 repeat' first | (with_reducible first | apply ih0 | apply ih1 | apply cloakroomref09_Text.mono | apply cloakroomref10_Check.mono | apply cloakroomref14_Plain.mono | apply cloakroomref14_line.mono | apply cloakroomref14_none.mono | exact LeO.refl _ | exact LeO.none _ | refine LeO.ite ?_ ?_ | refine LeO.bind ?_ (fun _ => ?_)) | exact LeO.none _ | refine LeO.ite ?_ ?_ | refine LeO.bind ?_ (fun _ => ?_)
def cloakroomref14_Write.T19 : Bool × List (List Nat × List Nat) := (true, [([], []), ([0], [0]), ([1], [1]), ([2], [2]), ([3], [3]), ([4], [4]), ([], []), ([6], [6]), ([5, 7], [5, 7]), ([8], [8]), ([9], [9]), ([10, 3, 0, 1, 2, 3, 4, 5, 6, 7, 8, 9, 10], [10]), ([11, 0, 1, 2, 3, 4, 5, 6, 7, 8, 9, 10, 11], [])])
def cloakroomref14_Write.B19 : List Nat := [0, 1, 3, 7, 15, 31, 0, 64, 255, 511, 1023, 2047, 4095]
theorem cloakroomref14_Write.tab19 : rtab .any (opsOf Tryd.f15 19) = cloakroomref14_Write.T19 := by kernel_rfl
theorem cloakroomref14_Write.bits19 : waitsOk cloakroomref14_Write.T19.2 cloakroomref14_Write.B19 = true := by kernel_rfl
set_option maxHeartbeats 40000000 in
set_option maxRecDepth 100000 in
theorem cloakroomref14_Write.calls (k : Nat) (a0_0 : Int) (a0_1 : Int) (a0_2 : Int) (A0_3 : Option Addr) (c0_3 : Nat) (l0_3 : List ByteArray) (a0_4 : ByteArray) (a0_5 : Int) (a0_6 : Int) (a0_7 : Int) (a0_8 : Int) (a0_9 : Int) (a0_10 : ByteArray) (a0_11 : Bool) (a0_12 : Bool) (r1 : List Int) (r2 : Int) (w : World) (hr0_3 : Kd.C Kd.string w A0_3 l0_3.length l0_3) (hc0_3 : l0_3.length ≤ c0_3) (h : cloakroomref14_Write.f k a0_0 a0_1 a0_2 l0_3 a0_4 a0_5 a0_6 a0_7 a0_8 a0_9 a0_10 a0_11 a0_12 = some (r1, r2)) :
  Calls Tryd.prog 15 #[.agg #[.int .u8 a0_0, .int .u8 a0_1, .int .i64 a0_2, .slice A0_3 l0_3.length c0_3, .string a0_4, .int .u32 a0_5, .int .i64 a0_6, .int .u64 a0_7, .int .u64 a0_8, .int .i64 a0_9, .string a0_10, .bool a0_11, .bool a0_12]] w fun e w' => ∃ v0_ : Value, e = .returned (.tuple #[v0_, .int .i64 r2]) ∧ Kd.V (Kd.int .u8) 5 w' w.heap.size (fun k_ => (w.heap.size ≤ k_)) v0_ r1 ∧ Below w.heap.size w w' := by
 have hu42 := Tryd.underlying42
 have hu40 := Tryd.underlying40
 have HR0_3 := Aside0.mk hr0_3
 have HC0_3 := Aside0.mk hc0_3
 clear hr0_3 hc0_3
 have HB := Aside0.mk (Below.refl w.heap.size w)
 have H : (if a0_12 = true then (cloakroomref14_Write.j0 k true a0_0 a0_1 a0_2 l0_3 a0_4 a0_5 a0_6 a0_7 a0_8 a0_9 a0_10 a0_11 a0_12) else (if a0_11 = true then (if a0_0 = 3 then (if a0_0 = 2 then (if a0_0 = 1 then (cloakroomref14_Write.j0 k false a0_0 a0_1 a0_2 l0_3 a0_4 a0_5 a0_6 a0_7 a0_8 a0_9 a0_10 a0_11 a0_12) else ((cloakroomref14_none.f k a0_1 a0_2 l0_3 a0_4 a0_5 a0_6 a0_7 a0_8).bind fun t321 => (cloakroomref14_Write.j0 k (!t321) a0_0 a0_1 a0_2 l0_3 a0_4 a0_5 a0_6 a0_7 a0_8 a0_9 a0_10 a0_11 a0_12))) else (if a0_9 = 0 then (if a0_10.toList = ([] : List UInt8) then (if a0_0 = 1 then (cloakroomref14_Write.j0 k false a0_0 a0_1 a0_2 l0_3 a0_4 a0_5 a0_6 a0_7 a0_8 a0_9 a0_10 a0_11 a0_12) else ((cloakroomref14_none.f k a0_1 a0_2 l0_3 a0_4 a0_5 a0_6 a0_7 a0_8).bind fun t322 => (cloakroomref14_Write.j0 k (!t322) a0_0 a0_1 a0_2 l0_3 a0_4 a0_5 a0_6 a0_7 a0_8 a0_9 a0_10 a0_11 a0_12))) else (cloakroomref14_Write.j0 k true a0_0 a0_1 a0_2 l0_3 a0_4 a0_5 a0_6 a0_7 a0_8 a0_9 a0_10 a0_11 a0_12)) else (cloakroomref14_Write.j0 k true a0_0 a0_1 a0_2 l0_3 a0_4 a0_5 a0_6 a0_7 a0_8 a0_9 a0_10 a0_11 a0_12))) else (cloakroomref14_Write.j0 k true a0_0 a0_1 a0_2 l0_3 a0_4 a0_5 a0_6 a0_7 a0_8 a0_9 a0_10 a0_11 a0_12)) else (if a0_0 = 2 then (if a0_0 = 1 then (cloakroomref14_Write.j0 k false a0_0 a0_1 a0_2 l0_3 a0_4 a0_5 a0_6 a0_7 a0_8 a0_9 a0_10 a0_11 a0_12) else ((cloakroomref14_none.f k a0_1 a0_2 l0_3 a0_4 a0_5 a0_6 a0_7 a0_8).bind fun t323 => (cloakroomref14_Write.j0 k (!t323) a0_0 a0_1 a0_2 l0_3 a0_4 a0_5 a0_6 a0_7 a0_8 a0_9 a0_10 a0_11 a0_12))) else (if a0_9 = 0 then (if a0_10.toList = ([] : List UInt8) then (if a0_0 = 1 then (cloakroomref14_Write.j0 k false a0_0 a0_1 a0_2 l0_3 a0_4 a0_5 a0_6 a0_7 a0_8 a0_9 a0_10 a0_11 a0_12) else ((cloakroomref14_none.f k a0_1 a0_2 l0_3 a0_4 a0_5 a0_6 a0_7 a0_8).bind fun t324 => (cloakroomref14_Write.j0 k (!t324) a0_0 a0_1 a0_2 l0_3 a0_4 a0_5 a0_6 a0_7 a0_8 a0_9 a0_10 a0_11 a0_12))) else (cloakroomref14_Write.j0 k true a0_0 a0_1 a0_2 l0_3 a0_4 a0_5 a0_6 a0_7 a0_8 a0_9 a0_10 a0_11 a0_12)) else (cloakroomref14_Write.j0 k true a0_0 a0_1 a0_2 l0_3 a0_4 a0_5 a0_6 a0_7 a0_8 a0_9 a0_10 a0_11 a0_12))))) = some (r1, r2) := h
 clear h
 have HC2 := Aside0.mk H
 clear H
 go_enter Tryd.func15, Tryd.ntmps15
 go_upto_region 1 with (first | ((with_reducible refine gate_dst (N := 1) rfl ?_); refine box_event ?hg (N := 1) ?hd (cs := #[.int .u8 a0_0, .int .u8 a0_1, .int .i64 a0_2, .slice A0_3 l0_3.length c0_3, .string a0_4, .int .u32 a0_5, .int .i64 a0_6, .int .u64 a0_7, .int .u64 a0_8, .int .i64 a0_9, .string a0_10, .bool a0_11, .bool a0_12]) (t := 42) ?hr ?_; (case hd => rfl); (case hg => rfl); (case hr => first | (go_simp; done) | (go_simp; rfl)); intro gb320 hg w3 hbox hb; have n0_ := Aside0.mk (below_step t31_7 hb); have n1_ := Aside0.mk (hbox); have n2_ := Aside0.mk ((by rw [hg]; exact (below_size t31_7) : w.heap.size ≤ gb320)); have n3_ := Aside0.mk ((by rw [hg]; exact (below_size t31_7) : w.heap.size ≤ gb320)); clear HB; have HB := n0_; have BK320 := n1_; have GW320 := n2_; have GE320 := n3_; clear n0_ n1_ n2_ n3_; clear hb hbox hg))
 (try simp only [Act.put, List.setIfInBounds_toArray, List.set_cons_zero, List.set_cons_succ])
 go_cut [42] (fun v42 wc => ∃ (kq : Nat) (x42_1 : Bool), v42 = .bool x42_1 ∧ Aside0 (cloakroomref14_Write.j0 kq x42_1 a0_0 a0_1 a0_2 l0_3 a0_4 a0_5 a0_6 a0_7 a0_8 a0_9 a0_10 a0_11 a0_12 = some (r1, r2)) ∧ Aside0 (kq ≤ k) ∧ Aside0 (wc.heap[gb320]? = some (.cells #[.int .u8 a0_0, .int .u8 a0_1, .int .i64 a0_2, (.slice A0_3 l0_3.length c0_3), .string a0_4, .int .u32 a0_5, .int .i64 a0_6, .int .u64 a0_7, .int .u64 a0_8, .int .i64 a0_9, .string a0_10, .bool a0_11, .bool a0_12] 42 (0, 0))) ∧ Aside0 (Below w.heap.size w wc))
 case first =>
  have H := HC2.out
  clear HC2
  by_cases c4 : a0_12 = true
  ·subst c4
   rw [if_pos rfl] at H
   have H' := Aside0.mk H
   clear H
   have hz5 := blk13 BK320.out
   go_wp2
   go_meet
   case rel => exact ⟨_, (true), t31_2, H', ⟨t31_6⟩, ⟨t31_1⟩, ⟨t31_0⟩⟩
  ·replace c4 := Bool.eq_false_iff.mpr c4
   subst c4
   rw [if_neg (show ¬ (false = true) by decide)] at H
   by_cases c6 : a0_11 = true
   ·subst c6
    rw [if_pos rfl] at H
    by_cases c7 : a0_0 = 3
    ·rw [if_pos c7] at H
     have c7b0 : (a0_0 == 3) = true := beq_iff_eq.mpr c7
     have c7b1 : (a0_0 != 3) = false := bne_eq_false_iff_eq.mpr c7
     clear c7
     (first | rw [c7b0] | (simp only [i64_w, i32_w]; rw [c7b0]) | rw [c7b1] | skip)
     by_cases c8 : a0_0 = 2
     ·rw [if_pos c8] at H
      have c8b0 : (a0_0 == 2) = true := beq_iff_eq.mpr c8
      have c8b1 : (a0_0 != 2) = false := bne_eq_false_iff_eq.mpr c8
      clear c8
      by_cases c9 : a0_0 = 1
      ·rw [if_pos c9] at H
       have c9b0 : (a0_0 == 1) = true := beq_iff_eq.mpr c9
       have c9b1 : (a0_0 != 1) = false := bne_eq_false_iff_eq.mpr c9
       clear c9
       have H' := Aside0.mk H
       clear H
       have hz10 := blk13 BK320.out
       go_wp2
       go_meet
       case rel => exact ⟨_, (false), t31_2, H', ⟨t31_6⟩, ⟨t31_1⟩, ⟨t31_0⟩⟩
      ·rw [if_neg c9] at H
       have c9b0 : (a0_0 == 1) = false := beq_eq_false_iff_ne.mpr c9
       have c9b1 : (a0_0 != 1) = true := bne_iff_ne.mpr c9
       replace H := Option.bind_eq_some_iff.mp H
       obtain ⟨t321, A110, H⟩ := H
       replace H : (cloakroomref14_Write.j0 k (!t321) a0_0 a0_1 a0_2 l0_3 a0_4 a0_5 a0_6 a0_7 a0_8 a0_9 a0_10 true false) = some (r1, r2) := H
       have A11 := Aside0.mk A110
       clear A110
       have H' := Aside0.mk H
       clear H
       have hz12 := blk13 BK320.out
       go_wp2_with (first | (go_at_call 38; (with_reducible refine (cloakroomref14_none.calls k a0_1 a0_2 _ _ l0_3 a0_4 a0_5 a0_6 a0_7 a0_8 t321 _ ?side1 ?side2 A11.out).mono ?_); (case side1 => repeat (first | exact (Kd.C_below HR0_3.out HB.out) | (with_reducible refine Kd.C_alloc ?_ _) | (with_reducible refine Kd.C_drewN ?_ _) | (with_reducible refine Kd.C_drew ?_))); (case side2 => exact HC0_3.out); rintro e w13 ⟨rfl, hb⟩; have n0_ := Aside0.mk (blk_below (g := gb320) (o := .cells #[.int .u8 a0_0, .int .u8 a0_1, .int .i64 a0_2, .slice A0_3 l0_3.length c0_3, .string a0_4, .int .u32 a0_5, .int .i64 a0_6, .int .u64 a0_7, .int .u64 a0_8, .int .i64 a0_9, .string a0_10, .bool true, .bool false] 42 (0, 0)) t31_1 hb); have n1_ := Aside0.mk (below_step t31_0 hb); clear BK320; clear HB; have BK320 := n0_; have HB := n1_; clear n0_ n1_; (try clear hb); (try clear hb2); (try clear hk); (try clear hi)))
       go_meet
       case rel => exact ⟨_, (!t321), t31_2, H', ⟨t31_6⟩, ⟨t31_1⟩, ⟨t31_0⟩⟩
     ·rw [if_neg c8] at H
      have c8b0 : (a0_0 == 2) = false := beq_eq_false_iff_ne.mpr c8
      have c8b1 : (a0_0 != 2) = true := bne_iff_ne.mpr c8
      by_cases c14 : a0_9 = 0
      ·rw [if_pos c14] at H
       have c14b0 : (a0_9 == 0) = true := beq_iff_eq.mpr c14
       have c14b1 : (a0_9 != 0) = false := bne_eq_false_iff_eq.mpr c14
       clear c14
       by_cases c15 : a0_10.toList = ([] : List UInt8)
       ·rw [if_pos c15] at H
        have c15b0 : (a0_10.toList == ([] : List UInt8)) = true := beq_iff_eq.mpr c15
        have c15b1 : (a0_10.toList != ([] : List UInt8)) = false := bne_eq_false_iff_eq.mpr c15
        clear c15
        by_cases c16 : a0_0 = 1
        ·rw [if_pos c16] at H
         have c16b0 : (a0_0 == 1) = true := beq_iff_eq.mpr c16
         have c16b1 : (a0_0 != 1) = false := bne_eq_false_iff_eq.mpr c16
         clear c16
         have H' := Aside0.mk H
         clear H
         have hz17 := blk13 BK320.out
         go_wp2
         go_meet
         case rel => exact ⟨_, (false), t31_2, H', ⟨t31_6⟩, ⟨t31_1⟩, ⟨t31_0⟩⟩
        ·rw [if_neg c16] at H
         have c16b0 : (a0_0 == 1) = false := beq_eq_false_iff_ne.mpr c16
         have c16b1 : (a0_0 != 1) = true := bne_iff_ne.mpr c16
         replace H := Option.bind_eq_some_iff.mp H
         obtain ⟨t322, A180, H⟩ := H
         replace H : (cloakroomref14_Write.j0 k (!t322) a0_0 a0_1 a0_2 l0_3 a0_4 a0_5 a0_6 a0_7 a0_8 a0_9 a0_10 true false) = some (r1, r2) := H
         have A18 := Aside0.mk A180
         clear A180
         have H' := Aside0.mk H
         clear H
         have hz19 := blk13 BK320.out
         go_wp2_with (first | (go_at_call 38; (with_reducible refine (cloakroomref14_none.calls k a0_1 a0_2 _ _ l0_3 a0_4 a0_5 a0_6 a0_7 a0_8 t322 _ ?side1 ?side2 A18.out).mono ?_); (case side1 => repeat (first | exact (Kd.C_below HR0_3.out HB.out) | (with_reducible refine Kd.C_alloc ?_ _) | (with_reducible refine Kd.C_drewN ?_ _) | (with_reducible refine Kd.C_drew ?_))); (case side2 => exact HC0_3.out); rintro e w20 ⟨rfl, hb⟩; have n0_ := Aside0.mk (blk_below (g := gb320) (o := .cells #[.int .u8 a0_0, .int .u8 a0_1, .int .i64 a0_2, .slice A0_3 l0_3.length c0_3, .string a0_4, .int .u32 a0_5, .int .i64 a0_6, .int .u64 a0_7, .int .u64 a0_8, .int .i64 a0_9, .string a0_10, .bool true, .bool false] 42 (0, 0)) t31_1 hb); have n1_ := Aside0.mk (below_step t31_0 hb); clear BK320; clear HB; have BK320 := n0_; have HB := n1_; clear n0_ n1_; (try clear hb); (try clear hb2); (try clear hk); (try clear hi)))
         go_meet
         case rel => exact ⟨_, (!t322), t31_2, H', ⟨t31_6⟩, ⟨t31_1⟩, ⟨t31_0⟩⟩
       ·rw [if_neg c15] at H
        have c15b0 : (a0_10.toList == ([] : List UInt8)) = false := beq_eq_false_iff_ne.mpr c15
        have c15b1 : (a0_10.toList != ([] : List UInt8)) = true := bne_iff_ne.mpr c15
        have H' := Aside0.mk H
        clear H
        have hz21 := blk13 BK320.out
        go_wp2
        go_meet
        case rel => exact ⟨_, (true), t31_2, H', ⟨t31_6⟩, ⟨t31_1⟩, ⟨t31_0⟩⟩
      ·rw [if_neg c14] at H
       have c14b0 : (a0_9 == 0) = false := beq_eq_false_iff_ne.mpr c14
       have c14b1 : (a0_9 != 0) = true := bne_iff_ne.mpr c14
       have H' := Aside0.mk H
       clear H
       have hz22 := blk13 BK320.out
       go_wp2
       go_meet
       case rel => exact ⟨_, (true), t31_2, H', ⟨t31_6⟩, ⟨t31_1⟩, ⟨t31_0⟩⟩
    ·rw [if_neg c7] at H
     have c7b0 : (a0_0 == 3) = false := beq_eq_false_iff_ne.mpr c7
     have c7b1 : (a0_0 != 3) = true := bne_iff_ne.mpr c7
     (first | rw [c7b0] | (simp only [i64_w, i32_w]; rw [c7b0]) | rw [c7b1] | skip)
     have H' := Aside0.mk H
     clear H
     have hz23 := blk13 BK320.out
     go_wp2
     go_meet
     case rel => exact ⟨_, (true), t31_2, H', ⟨t31_6⟩, ⟨t31_1⟩, ⟨t31_0⟩⟩
   ·replace c6 := Bool.eq_false_iff.mpr c6
    subst c6
    rw [if_neg (show ¬ (false = true) by decide)] at H
    by_cases c24 : a0_0 = 2
    ·rw [if_pos c24] at H
     have c24b0 : (a0_0 == 2) = true := beq_iff_eq.mpr c24
     have c24b1 : (a0_0 != 2) = false := bne_eq_false_iff_eq.mpr c24
     clear c24
     by_cases c25 : a0_0 = 1
     ·rw [if_pos c25] at H
      have c25b0 : (a0_0 == 1) = true := beq_iff_eq.mpr c25
      have c25b1 : (a0_0 != 1) = false := bne_eq_false_iff_eq.mpr c25
      clear c25
      have H' := Aside0.mk H
      clear H
      have hz26 := blk13 BK320.out
      go_wp2
      go_meet
      case rel => exact ⟨_, (false), t31_2, H', ⟨t31_6⟩, ⟨t31_1⟩, ⟨t31_0⟩⟩
     ·rw [if_neg c25] at H
      have c25b0 : (a0_0 == 1) = false := beq_eq_false_iff_ne.mpr c25
      have c25b1 : (a0_0 != 1) = true := bne_iff_ne.mpr c25
      replace H := Option.bind_eq_some_iff.mp H
      obtain ⟨t323, A270, H⟩ := H
      replace H : (cloakroomref14_Write.j0 k (!t323) a0_0 a0_1 a0_2 l0_3 a0_4 a0_5 a0_6 a0_7 a0_8 a0_9 a0_10 false false) = some (r1, r2) := H
      have A27 := Aside0.mk A270
      clear A270
      have H' := Aside0.mk H
      clear H
      have hz28 := blk13 BK320.out
      go_wp2_with (first | (go_at_call 38; (with_reducible refine (cloakroomref14_none.calls k a0_1 a0_2 _ _ l0_3 a0_4 a0_5 a0_6 a0_7 a0_8 t323 _ ?side1 ?side2 A27.out).mono ?_); (case side1 => repeat (first | exact (Kd.C_below HR0_3.out HB.out) | (with_reducible refine Kd.C_alloc ?_ _) | (with_reducible refine Kd.C_drewN ?_ _) | (with_reducible refine Kd.C_drew ?_))); (case side2 => exact HC0_3.out); rintro e w29 ⟨rfl, hb⟩; have n0_ := Aside0.mk (blk_below (g := gb320) (o := .cells #[.int .u8 a0_0, .int .u8 a0_1, .int .i64 a0_2, .slice A0_3 l0_3.length c0_3, .string a0_4, .int .u32 a0_5, .int .i64 a0_6, .int .u64 a0_7, .int .u64 a0_8, .int .i64 a0_9, .string a0_10, .bool false, .bool false] 42 (0, 0)) t31_1 hb); have n1_ := Aside0.mk (below_step t31_0 hb); clear BK320; clear HB; have BK320 := n0_; have HB := n1_; clear n0_ n1_; (try clear hb); (try clear hb2); (try clear hk); (try clear hi)))
      go_meet
      case rel => exact ⟨_, (!t323), t31_2, H', ⟨t31_6⟩, ⟨t31_1⟩, ⟨t31_0⟩⟩
    ·rw [if_neg c24] at H
     have c24b0 : (a0_0 == 2) = false := beq_eq_false_iff_ne.mpr c24
     have c24b1 : (a0_0 != 2) = true := bne_iff_ne.mpr c24
     by_cases c30 : a0_9 = 0
     ·rw [if_pos c30] at H
      have c30b0 : (a0_9 == 0) = true := beq_iff_eq.mpr c30
      have c30b1 : (a0_9 != 0) = false := bne_eq_false_iff_eq.mpr c30
      clear c30
      by_cases c31 : a0_10.toList = ([] : List UInt8)
      ·rw [if_pos c31] at H
       have c31b0 : (a0_10.toList == ([] : List UInt8)) = true := beq_iff_eq.mpr c31
       have c31b1 : (a0_10.toList != ([] : List UInt8)) = false := bne_eq_false_iff_eq.mpr c31
       clear c31
       by_cases c32 : a0_0 = 1
       ·rw [if_pos c32] at H
        have c32b0 : (a0_0 == 1) = true := beq_iff_eq.mpr c32
        have c32b1 : (a0_0 != 1) = false := bne_eq_false_iff_eq.mpr c32
        clear c32
        have H' := Aside0.mk H
        clear H
        have hz33 := blk13 BK320.out
        go_wp2
        go_meet
        case rel => exact ⟨_, (false), t31_2, H', ⟨t31_6⟩, ⟨t31_1⟩, ⟨t31_0⟩⟩
       ·rw [if_neg c32] at H
        have c32b0 : (a0_0 == 1) = false := beq_eq_false_iff_ne.mpr c32
        have c32b1 : (a0_0 != 1) = true := bne_iff_ne.mpr c32
        replace H := Option.bind_eq_some_iff.mp H
        obtain ⟨t324, A340, H⟩ := H
        replace H : (cloakroomref14_Write.j0 k (!t324) a0_0 a0_1 a0_2 l0_3 a0_4 a0_5 a0_6 a0_7 a0_8 a0_9 a0_10 false false) = some (r1, r2) := H
        have A34 := Aside0.mk A340
        clear A340
        have H' := Aside0.mk H
        clear H
        have hz35 := blk13 BK320.out
        go_wp2_with (first | (go_at_call 38; (with_reducible refine (cloakroomref14_none.calls k a0_1 a0_2 _ _ l0_3 a0_4 a0_5 a0_6 a0_7 a0_8 t324 _ ?side1 ?side2 A34.out).mono ?_); (case side1 => repeat (first | exact (Kd.C_below HR0_3.out HB.out) | (with_reducible refine Kd.C_alloc ?_ _) | (with_reducible refine Kd.C_drewN ?_ _) | (with_reducible refine Kd.C_drew ?_))); (case side2 => exact HC0_3.out); rintro e w36 ⟨rfl, hb⟩; have n0_ := Aside0.mk (blk_below (g := gb320) (o := .cells #[.int .u8 a0_0, .int .u8 a0_1, .int .i64 a0_2, .slice A0_3 l0_3.length c0_3, .string a0_4, .int .u32 a0_5, .int .i64 a0_6, .int .u64 a0_7, .int .u64 a0_8, .int .i64 a0_9, .string a0_10, .bool false, .bool false] 42 (0, 0)) t31_1 hb); have n1_ := Aside0.mk (below_step t31_0 hb); clear BK320; clear HB; have BK320 := n0_; have HB := n1_; clear n0_ n1_; (try clear hb); (try clear hb2); (try clear hk); (try clear hi)))
        go_meet
        case rel => exact ⟨_, (!t324), t31_2, H', ⟨t31_6⟩, ⟨t31_1⟩, ⟨t31_0⟩⟩
      ·rw [if_neg c31] at H
       have c31b0 : (a0_10.toList == ([] : List UInt8)) = false := beq_eq_false_iff_ne.mpr c31
       have c31b1 : (a0_10.toList != ([] : List UInt8)) = true := bne_iff_ne.mpr c31
       have H' := Aside0.mk H
       clear H
       have hz37 := blk13 BK320.out
       go_wp2
       go_meet
       case rel => exact ⟨_, (true), t31_2, H', ⟨t31_6⟩, ⟨t31_1⟩, ⟨t31_0⟩⟩
     ·rw [if_neg c30] at H
      have c30b0 : (a0_9 == 0) = false := beq_eq_false_iff_ne.mpr c30
      have c30b1 : (a0_9 != 0) = true := bne_iff_ne.mpr c30
      have H' := Aside0.mk H
      clear H
      have hz38 := blk13 BK320.out
      go_wp2
      go_meet
      case rel => exact ⟨_, (true), t31_2, H', ⟨t31_6⟩, ⟨t31_1⟩, ⟨t31_0⟩⟩
 case rest =>
  clear HC2
  obtain ⟨kq, x42_1, rfl, HA, HJ1, BK320, HB⟩ := hcut
  cases kq with
  | zero => exact absurd HA.out (by simp [cloakroomref14_Write.j0])
  | succ kj1 =>
   have H := HA.out
   clear HA
   simp only [cloakroomref14_Write.j0] at H
   by_cases c39 : x42_1 = true
   ·subst c39
    rw [if_pos rfl] at H
    simp only [Option.some.injEq, Prod.mk.injEq] at H
    obtain ⟨rfl, rfl⟩ := H
    go_wp2
    go_ret2
    exact ⟨_, t31_3, t31_4, t31_0⟩
   ·replace c39 := Bool.eq_false_iff.mpr c39
    subst c39
    rw [if_neg (show ¬ (false = true) by decide)] at H
    by_cases c40 : a0_0 = 1
    ·rw [if_pos c40] at H
     have c40b0 : (a0_0 == 1) = true := beq_iff_eq.mpr c40
     have c40b1 : (a0_0 != 1) = false := bne_eq_false_iff_eq.mpr c40
     clear c40
     replace H := Option.bind_eq_some_iff.mp H
     obtain ⟨t325, A410, H⟩ := H
     replace H : (if t325 = 0 then (cloakroomref14_Write.l0 kj1 0 a0_0 a0_1 a0_2 l0_3 a0_4 a0_5 a0_6 a0_7 a0_8 a0_9 a0_10 a0_11 a0_12) else (some (([] : List Int), t325))) = some (r1, r2) := H
     have A41 := Aside0.mk A410
     clear A410
     by_cases c42 : t325 = 0
     ·rw [if_pos c42] at H
      have c42b0 : (t325 == 0) = true := beq_iff_eq.mpr c42
      have c42b1 : (t325 != 0) = false := bne_eq_false_iff_eq.mpr c42
      clear c42
      have H' := Aside0.mk H
      clear H
      have hz43 := blk13 BK320.out
      go_wp2_with (first | ((with_reducible refine gate_callee (f := 39) rfl ?_); refine goesL_ (some 49) rfl rfl Tryd.func39 (by kernel_rfl) rfl #[.agg #[.int .u8 a0_1, .int .i64 a0_2, .slice A0_3 l0_3.length c0_3, .string a0_4, .int .u32 a0_5, .int .i64 a0_6, .int .u64 a0_7, .int .u64 a0_8]] rfl t31_5 ?_; (with_reducible refine (cloakroomref10_Check.calls kj1 a0_1 a0_2 _ _ l0_3 a0_4 a0_5 a0_6 a0_7 a0_8 t325 _ ?side1 ?side2 A41.out).mono ?_); (case side1 => repeat (first | exact (Kd.C_below HR0_3.out HB.out) | (with_reducible refine Kd.C_alloc ?_ _) | (with_reducible refine Kd.C_drewN ?_ _) | (with_reducible refine Kd.C_drew ?_))); (case side2 => exact HC0_3.out); rintro e w44 ⟨rfl, hb⟩; refine ⟨_, rfl, ?_⟩; have n0_ := Aside0.mk (blk_below (g := gb320) (o := .cells #[.int .u8 a0_0, .int .u8 a0_1, .int .i64 a0_2, .slice A0_3 l0_3.length c0_3, .string a0_4, .int .u32 a0_5, .int .i64 a0_6, .int .u64 a0_7, .int .u64 a0_8, .int .i64 a0_9, .string a0_10, .bool a0_11, .bool a0_12] 42 (0, 0)) t31_1 hb); have n1_ := Aside0.mk (below_step t31_0 hb); clear BK320; clear HB; have BK320 := n0_; have HB := n1_; clear n0_ n1_; (try clear hb); (try clear hb2); (try clear hk); (try clear hi)))
      go_loopg [5] kj1 (fun kq v5 w' => ∃ (x5_2 : Int), v5 = .int .i64 x5_2 ∧ Aside0 (cloakroomref14_Write.l0 kq x5_2 a0_0 a0_1 a0_2 l0_3 a0_4 a0_5 a0_6 a0_7 a0_8 a0_9 a0_10 a0_11 a0_12 = some (r1, r2)) ∧ Aside0 (kq ≤ kj1) ∧ Aside0 (w'.heap[gb320]? = some (.cells #[.int .u8 a0_0, .int .u8 a0_1, .int .i64 a0_2, (.slice A0_3 l0_3.length c0_3), .string a0_4, .int .u32 a0_5, .int .i64 a0_6, .int .u64 a0_7, .int .u64 a0_8, .int .i64 a0_9, .string a0_10, .bool a0_11, .bool a0_12] 42 (0, 0))) ∧ Aside0 (Below w.heap.size w w'))
      case atStart => exact ⟨(0), t31_2, H', ⟨Nat.le_refl _⟩, ⟨t31_1⟩, ⟨t31_0⟩⟩
      case round =>
       clear H'
       (try clear c39); (try clear c40); (try clear c40b0); (try clear c40b1); (try clear c42); (try clear c42b0); (try clear c42b1); (try clear hz43)
       obtain ⟨x5_2, rfl, HA, HK2, BK320, HB⟩ := hrel
       cases gk with
       | zero => exact absurd HA.out (by simp [cloakroomref14_Write.l0])
       | succ k2 =>
        have H := HA.out
        clear HA
        simp only [cloakroomref14_Write.l0] at H
        by_cases c45 : x5_2 < (l0_3.length : Int)
        ·rw [if_pos c45] at H
         have c45b0 : decide (x5_2 < (l0_3.length : Int)) = true := decide_eq_true c45
         clear c45
         by_cases c46 : 0 ≤ x5_2
         ·rw [if_pos c46] at H
          have c46b0 : decide (0 ≤ x5_2) = true := decide_eq_true c46
          clear c46
          replace H := Option.bind_eq_some_iff.mp H
          obtain ⟨t327, A470, H⟩ := H
          replace H : (if t327 = true then (cloakroomref14_Write.l0 k2 (wrap64 (x5_2 + 1)) a0_0 a0_1 a0_2 l0_3 a0_4 a0_5 a0_6 a0_7 a0_8 a0_9 a0_10 a0_11 a0_12) else (some (([] : List Int), 8))) = some (r1, r2) := H
          have A47 := Aside0.mk A470
          clear A470
          by_cases c48 : t327 = true
          ·subst c48
           rw [if_pos rfl] at H
           have H' := Aside0.mk H
           clear H
           have hz49 := blk13 BK320.out
           have p326 : 0 ≤ (x5_2 : Int) := of_decide_eq_true t31_8
           have q326 : x5_2 < (l0_3.length : Int) := of_decide_eq_true t31_8
           obtain ⟨ad326, e326, hx326_0⟩ := Kd.at_string HR0_3.out x5_2 p326 q326
           cases e326
           replace hx326_0 := (HB.out.cell (World.block_lt_of_cell? w _ hx326_0)).trans hx326_0
           replace p326 := eq_true p326
           replace q326 := eq_true q326
           go_wp2_with (first | ((with_reducible refine gate_callee (f := 40) rfl ?_); refine goesL_ (some 67) rfl rfl Tryd.func40 (by kernel_rfl) rfl #[.string (rdOf ByteArray.empty l0_3 x5_2), .int .i64 32] rfl t31_5 ?_; (with_reducible refine (cloakroomref14_Plain.calls k2 (rdOf ByteArray.empty l0_3 x5_2) 32 true _ A47.out).mono ?_); rintro e w' ⟨rfl, ⟨nd, rfl⟩⟩; refine ⟨_, rfl, ?_⟩))
           go_roundg k2
           case measure => have := HJ1.out; have := HK2.out; omega
           case rel => exact ⟨(wrap64 (x5_2 + 1)), t31_2, H', ⟨by have := HJ1.out; have := HK2.out; omega⟩, ⟨t31_1⟩, ⟨t31_0⟩⟩
          ·replace c48 := Bool.eq_false_iff.mpr c48
           subst c48
           rw [if_neg (show ¬ (false = true) by decide)] at H
           simp only [Option.some.injEq, Prod.mk.injEq] at H
           obtain ⟨rfl, rfl⟩ := H
           have hz50 := blk13 BK320.out
           have p326 : 0 ≤ (x5_2 : Int) := of_decide_eq_true t31_8
           have q326 : x5_2 < (l0_3.length : Int) := of_decide_eq_true t31_8
           obtain ⟨ad326, e326, hx326_0⟩ := Kd.at_string HR0_3.out x5_2 p326 q326
           cases e326
           replace hx326_0 := (HB.out.cell (World.block_lt_of_cell? w _ hx326_0)).trans hx326_0
           replace p326 := eq_true p326
           replace q326 := eq_true q326
           go_wp2_with (first | ((with_reducible refine gate_callee (f := 40) rfl ?_); refine goesL_ (some 67) rfl rfl Tryd.func40 (by kernel_rfl) rfl #[.string (rdOf ByteArray.empty l0_3 x5_2), .int .i64 32] rfl t31_5 ?_; (with_reducible refine (cloakroomref14_Plain.calls k2 (rdOf ByteArray.empty l0_3 x5_2) 32 false _ A47.out).mono ?_); rintro e w' ⟨rfl, ⟨nd, rfl⟩⟩; refine ⟨_, rfl, ?_⟩))
           go_ret2
           exact ⟨_, t31_3, t31_4, t31_0⟩
         ·rw [if_neg c46] at H
          exact absurd H (by simp)
        ·rw [if_neg c45] at H
         have c45b0 : decide (x5_2 < (l0_3.length : Int)) = false := decide_eq_false c45
         clear c45
         by_cases c51 : a0_2 = 0
         ·rw [if_pos c51] at H
          have c51b0 : (a0_2 == 0) = true := beq_iff_eq.mpr c51
          have c51b1 : (a0_2 != 0) = false := bne_eq_false_iff_eq.mpr c51
          clear c51
          replace H := Option.bind_eq_some_iff.mp H
          obtain ⟨t328, A520, H⟩ := H
          replace H : (if t328.size ≤ 9223372036854775807 then (some ((bytesOf t328), 0)) else (none)) = some (r1, r2) := H
          have A52 := Aside0.mk A520
          clear A520
          by_cases c53 : t328.size ≤ 9223372036854775807
          ·rw [if_pos c53] at H
           have c53b0 := eq_true c53
           have c53b1 : decide (t328.size ≤ 9223372036854775807) = true := decide_eq_true c53
           try have c53b2 : (9223372036854775807 < t328.size) = False := eq_false (Nat.not_lt.2 c53)
           try (have c53b3 := c53b2; simp only [ByteArray.size_append, x_size_lit, List.size_toArray, List.length_cons, List.length_nil, Nat.zero_add, Nat.reduceAdd] at c53b3)
           clear c53
           obtain ⟨y329, hy329⟩ : ∃ y_ : List Int, y_ = (bytesOf t328) := ⟨_, rfl⟩
           replace H : (some (y329, 0)) = some (r1, r2) := by first | (rw [hy329]; with_reducible exact H) | (have H2_ := (Option.bind_some _ _).symm.trans H; rw [hy329]; with_reducible exact H2_) | (have H2_ := (Option.bind_some _ _).symm.trans H; with_reducible exact H2_) | with_reducible exact H | (rw [hy329]; exact H) | exact H
           have Ny329 := Aside0.mk hy329
           clear hy329
           simp only [Option.some.injEq, Prod.mk.injEq] at H
           obtain ⟨rfl, rfl⟩ := H
           have hz54 := blk13 BK320.out
           go_wp2_with (first | ((with_reducible refine gate_callee (f := 41) rfl ?_); refine goesL_ (some 75) rfl rfl Tryd.func41 (by kernel_rfl) rfl #[.agg #[.int .u8 a0_1, .int .i64 a0_2, .slice A0_3 l0_3.length c0_3, .string a0_4, .int .u32 a0_5, .int .i64 a0_6, .int .u64 a0_7, .int .u64 a0_8]] rfl t31_5 ?_; (with_reducible refine (cloakroomref14_line.calls k2 a0_1 a0_2 _ _ l0_3 a0_4 a0_5 a0_6 a0_7 a0_8 t328 _ ?side1 ?side2 A52.out).mono ?_); (case side1 => repeat (first | exact (Kd.C_below HR0_3.out HB.out) | (with_reducible refine Kd.C_alloc ?_ _) | (with_reducible refine Kd.C_drewN ?_ _) | (with_reducible refine Kd.C_drew ?_))); (case side2 => exact HC0_3.out); rintro e w55 ⟨rfl, hb⟩; refine ⟨_, rfl, ?_⟩; have n0_ := Aside0.mk (blk_below (g := gb320) (o := .cells #[.int .u8 a0_0, .int .u8 a0_1, .int .i64 a0_2, .slice A0_3 l0_3.length c0_3, .string a0_4, .int .u32 a0_5, .int .i64 a0_6, .int .u64 a0_7, .int .u64 a0_8, .int .i64 a0_9, .string a0_10, .bool a0_11, .bool a0_12] 42 (0, 0)) t31_1 hb); have n1_ := Aside0.mk (below_step t31_0 hb); clear BK320; clear HB; have BK320 := n0_; have HB := n1_; clear n0_ n1_; (try clear hb); (try clear hb2); (try clear hk); (try clear hi)) | ((with_reducible refine gate_dst (N := 76) rfl ?_); refine x_conv _ 5 rfl (N := 76) rfl 9 29 _ rfl (s := t328) rfl Tryd.underlying9 Tryd.underlying29 Tryd.underlying5 t31_9 (Below.refl _ _) (Nat.le_refl _) ?_; intro v330 w56 ho57 hb hg_ hnew_; clear hg_ hnew_; (first | rw [← Ny329.out] at ho57 | (simp only [Int.reduceToNat] at ho57; rw [← Ny329.out] at ho57)); have n0_ := Aside0.mk (Kd.V_lower (Kd.V_mono (ok' := fun k_ => (w.heap.size ≤ k_) ∧ k_ ≠ gb320) ho57 (fun k_ hk_ => ⟨(Nat.le_trans (below_size t31_0) hk_), (Kd.freshB (g := gb320) (o := .cells #[.int .u8 a0_0, .int .u8 a0_1, .int .i64 a0_2, .slice A0_3 l0_3.length c0_3, .string a0_4, .int .u32 a0_5, .int .i64 a0_6, .int .u64 a0_7, .int .u64 a0_8, .int .i64 a0_9, .string a0_10, .bool a0_11, .bool a0_12] 42 (0, 0)) t31_1 k_ hk_)⟩)) (below_size t31_0)); have n1_ := Aside0.mk (blk_below (g := gb320) (o := .cells #[.int .u8 a0_0, .int .u8 a0_1, .int .i64 a0_2, .slice A0_3 l0_3.length c0_3, .string a0_4, .int .u32 a0_5, .int .i64 a0_6, .int .u64 a0_7, .int .u64 a0_8, .int .i64 a0_9, .string a0_10, .bool a0_11, .bool a0_12] 42 (0, 0)) t31_1 hb); have n2_ := Aside0.mk (below_step t31_0 hb); clear BK320; clear HB; have HO331 := n0_; have BK320 := n1_; have HB := n2_; clear n0_ n1_ n2_; clear hb ho57))
           go_ret2
           exact ⟨_, t31_3, by (with_reducible repeat (first | apply Kd.V_alloc | apply Kd.V_drewN | apply Kd.V_drew)); exact Kd.V_mono HO331.out (fun _ hk => hk.1), t31_0⟩
          ·rw [if_neg c53] at H
           exact absurd H (by simp)
         ·rw [if_neg c51] at H
          have c51b0 : (a0_2 == 0) = false := beq_eq_false_iff_ne.mpr c51
          have c51b1 : (a0_2 != 0) = true := bne_iff_ne.mpr c51
          simp only [Option.some.injEq, Prod.mk.injEq] at H
          obtain ⟨rfl, rfl⟩ := H
          have hz58 := blk13 BK320.out
          go_wp2
          go_ret2
          exact ⟨_, t31_3, t31_4, t31_0⟩
     ·rw [if_neg c42] at H
      have c42b0 : (t325 == 0) = false := beq_eq_false_iff_ne.mpr c42
      have c42b1 : (t325 != 0) = true := bne_iff_ne.mpr c42
      simp only [Option.some.injEq, Prod.mk.injEq] at H
      obtain ⟨rfl, rfl⟩ := H
      have hz59 := blk13 BK320.out
      go_wp2_with (first | ((with_reducible refine gate_callee (f := 39) rfl ?_); refine goesL_ (some 49) rfl rfl Tryd.func39 (by kernel_rfl) rfl #[.agg #[.int .u8 a0_1, .int .i64 a0_2, .slice A0_3 l0_3.length c0_3, .string a0_4, .int .u32 a0_5, .int .i64 a0_6, .int .u64 a0_7, .int .u64 a0_8]] rfl t31_5 ?_; (with_reducible refine (cloakroomref10_Check.calls kj1 a0_1 a0_2 _ _ l0_3 a0_4 a0_5 a0_6 a0_7 a0_8 t325 _ ?side1 ?side2 A41.out).mono ?_); (case side1 => repeat (first | exact (Kd.C_below HR0_3.out HB.out) | (with_reducible refine Kd.C_alloc ?_ _) | (with_reducible refine Kd.C_drewN ?_ _) | (with_reducible refine Kd.C_drew ?_))); (case side2 => exact HC0_3.out); rintro e w60 ⟨rfl, hb⟩; refine ⟨_, rfl, ?_⟩; have n0_ := Aside0.mk (blk_below (g := gb320) (o := .cells #[.int .u8 a0_0, .int .u8 a0_1, .int .i64 a0_2, .slice A0_3 l0_3.length c0_3, .string a0_4, .int .u32 a0_5, .int .i64 a0_6, .int .u64 a0_7, .int .u64 a0_8, .int .i64 a0_9, .string a0_10, .bool a0_11, .bool a0_12] 42 (0, 0)) t31_1 hb); have n1_ := Aside0.mk (below_step t31_0 hb); clear BK320; clear HB; have BK320 := n0_; have HB := n1_; clear n0_ n1_; (try clear hb); (try clear hb2); (try clear hk); (try clear hi)))
      go_ret2
      exact ⟨_, t31_3, t31_4, t31_0⟩
    ·rw [if_neg c40] at H
     have c40b0 : (a0_0 == 1) = false := beq_eq_false_iff_ne.mpr c40
     have c40b1 : (a0_0 != 1) = true := bne_iff_ne.mpr c40
     by_cases c61 : a0_0 = 2
     ·rw [if_pos c61] at H
      have c61b0 : (a0_0 == 2) = true := beq_iff_eq.mpr c61
      have c61b1 : (a0_0 != 2) = false := bne_eq_false_iff_eq.mpr c61
      clear c61
      by_cases c62 : a0_9 < 0
      ·rw [if_pos c62] at H
       have c62b0 : decide (a0_9 < 0) = true := decide_eq_true c62
       clear c62
       simp only [Option.some.injEq, Prod.mk.injEq] at H
       obtain ⟨rfl, rfl⟩ := H
       have hz63 := blk13 BK320.out
       go_wp2
       go_ret2
       exact ⟨_, t31_3, t31_4, t31_0⟩
      ·rw [if_neg c62] at H
       have c62b0 : decide (a0_9 < 0) = false := decide_eq_false c62
       clear c62
       by_cases c64 : a0_9 ≥ 4
       ·rw [if_pos c64] at H
        have c64b0 : decide (4 ≤ a0_9) = true := decide_eq_true c64
        clear c64
        simp only [Option.some.injEq, Prod.mk.injEq] at H
        obtain ⟨rfl, rfl⟩ := H
        have hz65 := blk13 BK320.out
        go_wp2
        go_ret2
        exact ⟨_, t31_3, t31_4, t31_0⟩
       ·rw [if_neg c64] at H
        have c64b0 : decide (4 ≤ a0_9) = false := decide_eq_false c64
        clear c64
        replace H := Option.bind_eq_some_iff.mp H
        obtain ⟨t332, A660, H⟩ := H
        replace H : (if t332 = true then ((cloakroomref09_Text.f kj1 (IntKind.u64.wrap (a0_9))).bind fun t333 => (if 5 + t333.size ≤ 9223372036854775807 then (if ((⟨#[117, 115, 101, 114, 32]⟩ : ByteArray) ++ t333).size + 1 ≤ 9223372036854775807 then (if (((⟨#[117, 115, 101, 114, 32]⟩ : ByteArray) ++ t333) ++ (⟨#[32]⟩ : ByteArray)).size + a0_10.size ≤ 9223372036854775807 then (if ((((⟨#[117, 115, 101, 114, 32]⟩ : ByteArray) ++ t333) ++ (⟨#[32]⟩ : ByteArray)) ++ a0_10).size + 2 ≤ 9223372036854775807 then (if (((((⟨#[117, 115, 101, 114, 32]⟩ : ByteArray) ++ t333) ++ (⟨#[32]⟩ : ByteArray)) ++ a0_10) ++ (⟨#[13, 10]⟩ : ByteArray)).size ≤ 9223372036854775807 then (some ((bytesOf (((((⟨#[117, 115, 101, 114, 32]⟩ : ByteArray) ++ t333) ++ (⟨#[32]⟩ : ByteArray)) ++ a0_10) ++ (⟨#[13, 10]⟩ : ByteArray))), 0)) else (none)) else (none)) else (none)) else (none)) else (none))) else (some (([] : List Int), 8))) = some (r1, r2) := H
        have A66 := Aside0.mk A660
        clear A660
        by_cases c67 : t332 = true
        ·subst c67
         rw [if_pos rfl] at H
         replace H := Option.bind_eq_some_iff.mp H
         obtain ⟨t333, A680, H⟩ := H
         replace H : (if 5 + t333.size ≤ 9223372036854775807 then (if ((⟨#[117, 115, 101, 114, 32]⟩ : ByteArray) ++ t333).size + 1 ≤ 9223372036854775807 then (if (((⟨#[117, 115, 101, 114, 32]⟩ : ByteArray) ++ t333) ++ (⟨#[32]⟩ : ByteArray)).size + a0_10.size ≤ 9223372036854775807 then (if ((((⟨#[117, 115, 101, 114, 32]⟩ : ByteArray) ++ t333) ++ (⟨#[32]⟩ : ByteArray)) ++ a0_10).size + 2 ≤ 9223372036854775807 then (if (((((⟨#[117, 115, 101, 114, 32]⟩ : ByteArray) ++ t333) ++ (⟨#[32]⟩ : ByteArray)) ++ a0_10) ++ (⟨#[13, 10]⟩ : ByteArray)).size ≤ 9223372036854775807 then (some ((bytesOf (((((⟨#[117, 115, 101, 114, 32]⟩ : ByteArray) ++ t333) ++ (⟨#[32]⟩ : ByteArray)) ++ a0_10) ++ (⟨#[13, 10]⟩ : ByteArray))), 0)) else (none)) else (none)) else (none)) else (none)) else (none)) = some (r1, r2) := H
         have A68 := Aside0.mk A680
         clear A680
         by_cases c69 : 5 + t333.size ≤ 9223372036854775807
         ·rw [if_pos c69] at H
          have c69b0 := eq_true c69
          have c69b1 : decide (5 + t333.size ≤ 9223372036854775807) = true := decide_eq_true c69
          try have c69b2 : (9223372036854775807 < 5 + t333.size) = False := eq_false (Nat.not_lt.2 c69)
          try (have c69b3 := c69b2; simp only [ByteArray.size_append, x_size_lit, List.size_toArray, List.length_cons, List.length_nil, Nat.zero_add, Nat.reduceAdd] at c69b3)
          by_cases c70 : ((⟨#[117, 115, 101, 114, 32]⟩ : ByteArray) ++ t333).size + 1 ≤ 9223372036854775807
          ·rw [if_pos c70] at H
           have c70b0 := eq_true c70
           have c70b1 : decide (((⟨#[117, 115, 101, 114, 32]⟩ : ByteArray) ++ t333).size + 1 ≤ 9223372036854775807) = true := decide_eq_true c70
           try have c70b2 : (9223372036854775807 < ((⟨#[117, 115, 101, 114, 32]⟩ : ByteArray) ++ t333).size + 1) = False := eq_false (Nat.not_lt.2 c70)
           try (have c70b3 := c70b2; simp only [ByteArray.size_append, x_size_lit, List.size_toArray, List.length_cons, List.length_nil, Nat.zero_add, Nat.reduceAdd] at c70b3)
           by_cases c71 : (((⟨#[117, 115, 101, 114, 32]⟩ : ByteArray) ++ t333) ++ (⟨#[32]⟩ : ByteArray)).size + a0_10.size ≤ 9223372036854775807
           ·rw [if_pos c71] at H
            have c71b0 := eq_true c71
            have c71b1 : decide ((((⟨#[117, 115, 101, 114, 32]⟩ : ByteArray) ++ t333) ++ (⟨#[32]⟩ : ByteArray)).size + a0_10.size ≤ 9223372036854775807) = true := decide_eq_true c71
            try have c71b2 : (9223372036854775807 < (((⟨#[117, 115, 101, 114, 32]⟩ : ByteArray) ++ t333) ++ (⟨#[32]⟩ : ByteArray)).size + a0_10.size) = False := eq_false (Nat.not_lt.2 c71)
            try (have c71b3 := c71b2; simp only [ByteArray.size_append, x_size_lit, List.size_toArray, List.length_cons, List.length_nil, Nat.zero_add, Nat.reduceAdd] at c71b3)
            by_cases c72 : ((((⟨#[117, 115, 101, 114, 32]⟩ : ByteArray) ++ t333) ++ (⟨#[32]⟩ : ByteArray)) ++ a0_10).size + 2 ≤ 9223372036854775807
            ·rw [if_pos c72] at H
             have c72b0 := eq_true c72
             have c72b1 : decide (((((⟨#[117, 115, 101, 114, 32]⟩ : ByteArray) ++ t333) ++ (⟨#[32]⟩ : ByteArray)) ++ a0_10).size + 2 ≤ 9223372036854775807) = true := decide_eq_true c72
             try have c72b2 : (9223372036854775807 < ((((⟨#[117, 115, 101, 114, 32]⟩ : ByteArray) ++ t333) ++ (⟨#[32]⟩ : ByteArray)) ++ a0_10).size + 2) = False := eq_false (Nat.not_lt.2 c72)
             try (have c72b3 := c72b2; simp only [ByteArray.size_append, x_size_lit, List.size_toArray, List.length_cons, List.length_nil, Nat.zero_add, Nat.reduceAdd] at c72b3)
             by_cases c73 : (((((⟨#[117, 115, 101, 114, 32]⟩ : ByteArray) ++ t333) ++ (⟨#[32]⟩ : ByteArray)) ++ a0_10) ++ (⟨#[13, 10]⟩ : ByteArray)).size ≤ 9223372036854775807
             ·rw [if_pos c73] at H
              have c73b0 := eq_true c73
              have c73b1 : decide ((((((⟨#[117, 115, 101, 114, 32]⟩ : ByteArray) ++ t333) ++ (⟨#[32]⟩ : ByteArray)) ++ a0_10) ++ (⟨#[13, 10]⟩ : ByteArray)).size ≤ 9223372036854775807) = true := decide_eq_true c73
              try have c73b2 : (9223372036854775807 < (((((⟨#[117, 115, 101, 114, 32]⟩ : ByteArray) ++ t333) ++ (⟨#[32]⟩ : ByteArray)) ++ a0_10) ++ (⟨#[13, 10]⟩ : ByteArray)).size) = False := eq_false (Nat.not_lt.2 c73)
              try (have c73b3 := c73b2; simp only [ByteArray.size_append, x_size_lit, List.size_toArray, List.length_cons, List.length_nil, Nat.zero_add, Nat.reduceAdd] at c73b3)
              obtain ⟨y334, hy334⟩ : ∃ y_ : List Int, y_ = (bytesOf (((((⟨#[117, 115, 101, 114, 32]⟩ : ByteArray) ++ t333) ++ (⟨#[32]⟩ : ByteArray)) ++ a0_10) ++ (⟨#[13, 10]⟩ : ByteArray))) := ⟨_, rfl⟩
              replace H : (some (y334, 0)) = some (r1, r2) := by first | (rw [hy334]; with_reducible exact H) | (have H2_ := (Option.bind_some _ _).symm.trans H; rw [hy334]; with_reducible exact H2_) | (have H2_ := (Option.bind_some _ _).symm.trans H; with_reducible exact H2_) | with_reducible exact H | (rw [hy334]; exact H) | exact H
              have Ny334 := Aside0.mk hy334
              clear hy334
              simp only [Option.some.injEq, Prod.mk.injEq] at H
              obtain ⟨rfl, rfl⟩ := H
              have hz74 := blk13 BK320.out
              try go_wp2_with (first | (go_at_call 40; (with_reducible refine (cloakroomref14_Plain.calls kj1 a0_10 16 true _ A66.out).mono ?_); rintro e w' ⟨rfl, ⟨nd, rfl⟩⟩))
              (try (rw [drewN_self wc]; generalize hq_ : World.drewN wc _ = wc; have n0_ : Aside0 (wc.heap[gb320]? = some (.cells #[.int .u8 a0_0, .int .u8 a0_1, .int .i64 a0_2, .slice A0_3 l0_3.length c0_3, .string a0_4, .int .u32 a0_5, .int .i64 a0_6, .int .u64 a0_7, .int .u64 a0_8, .int .i64 a0_9, .string a0_10, .bool a0_11, .bool a0_12] 42 (0, 0))) := ⟨by rw [← hq_]; exact t31_1⟩; have n1_ : Aside0 (Below w.heap.size w wc) := ⟨by rw [← hq_]; exact t31_0⟩; clear BK320 HB hq_; have BK320 := n0_; have HB := n1_; clear n0_ n1_))
              have n0_ := Aside0.mk (blk_drew BK320.out)
              have n1_ := Aside0.mk (below_drew1 HB.out)
              clear BK320
              clear HB
              have BK320 := n0_
              have HB := n1_
              clear n0_ n1_
              refine start_ (n := 13) (S := fun w' => w'.cell? ⟨gb320, 0, none⟩ = some (.int .u8 a0_0) ∧ w'.cell? ⟨gb320, 1, none⟩ = some (.int .u8 a0_1) ∧ w'.cell? ⟨gb320, 2, none⟩ = some (.int .i64 a0_2) ∧ w'.cell? ⟨gb320, 3, none⟩ = some (.slice A0_3 l0_3.length c0_3) ∧ w'.cell? ⟨gb320, 4, none⟩ = some (.string a0_4) ∧ w'.cell? ⟨gb320, 5, none⟩ = some (.int .u32 a0_5) ∧ w'.cell? ⟨gb320, 6, none⟩ = some (.int .i64 a0_6) ∧ w'.cell? ⟨gb320, 7, none⟩ = some (.int .u64 a0_7) ∧ w'.cell? ⟨gb320, 8, none⟩ = some (.int .u64 a0_8) ∧ w'.cell? ⟨gb320, 9, none⟩ = some (.int .i64 a0_9) ∧ w'.cell? ⟨gb320, 10, none⟩ = some (.string a0_10) ∧ w'.cell? ⟨gb320, 11, none⟩ = some (.bool a0_11) ∧ w'.cell? ⟨gb320, 12, none⟩ = some (.bool a0_12)) (ds := []) #[false, false, false, false, false, false, false, false, false, false, false, false, false] (by kernel_rfl) rfl rfl ⟨(blk_cell BK320.out 0).trans rfl, (blk_cell BK320.out 1).trans rfl, (blk_cell BK320.out 2).trans rfl, (blk_cell BK320.out 3).trans rfl, (blk_cell BK320.out 4).trans rfl, (blk_cell BK320.out 5).trans rfl, (blk_cell BK320.out 6).trans rfl, (blk_cell BK320.out 7).trans rfl, (blk_cell BK320.out 8).trans rfl, (blk_cell BK320.out 9).trans rfl, (blk_cell BK320.out 10).trans rfl, (blk_cell BK320.out 11).trans rfl, (blk_cell BK320.out 12).trans rfl⟩ (fun hHeld => ?_); refine with_tabW cloakroomref14_Write.tab19 cloakroomref14_Write.bits19 (fun HT_ HW_ => ?_)
              generalize wc.drew = w75 at BK320 HB hHeld ⊢
              refine pure_ (i := 0) (N := some 93) (v := ?_) (a' := ?_) #[true, false, false, false, false, false, false, false, false, false, false, false, false] rfl rfl (any_of HT_.out (by kernel_rfl)) (fun _ _ _ h => h) (Or.inl ⟨by rfl, ?_⟩) ?_ ?_
              rotate_left
              ·intro w'
               go_simp
               with_reducible rfl
              rotate_left
              ·simp only [Act.put, List.setIfInBounds_toArray, List.set_cons_zero, List.set_cons_succ, i64_w, i32_w]
               rfl
              refine pure_ (i := 6) (N := some 99) (v := ?_) (a' := ?_) #[true, false, false, false, false, false, true, false, false, false, false, false, false] rfl rfl (any_of HT_.out (by kernel_rfl)) (fun _ _ _ h => h) (Or.inl ⟨by rfl, ?_⟩) ?_ ?_
              rotate_left
              ·intro w'
               go_simp
               with_reducible rfl
              rotate_left
              ·simp only [Act.put, List.setIfInBounds_toArray, List.set_cons_zero, List.set_cons_succ, i64_w, i32_w]
               rfl
              refine take_ (i := 1) (N := some 94) (v := ?_) (a' := ?_) #[true, true, false, false, false, false, true, false, false, false, false, false, false] rfl rfl (take_ofW HT_.out HW_.out (by kernel_rfl)) (fun _ _ _ h => h) (Or.inl ⟨by rfl, ?_⟩) hHeld ?_ ?_
              rotate_left
              ·rintro w' ⟨s0, s1, s2, s3, s4, s5, s6, s7, s8, s9, s10, s11, s12⟩
               go_simp
               with_reducible rfl
              rotate_left
              ·simp only [Act.put, List.setIfInBounds_toArray, List.set_cons_zero, List.set_cons_succ, i64_w, i32_w]
               rfl
              refine pure_ (i := 2) (N := some 95) (v := ?_) (a' := ?_) #[true, true, true, false, false, false, true, false, false, false, false, false, false] rfl rfl (any_of HT_.out (by kernel_rfl)) (fun _ _ _ h => h) (Or.inl ⟨by rfl, ?_⟩) ?_ ?_
              rotate_left
              ·intro w'
               go_simp
               with_reducible rfl
              rotate_left
              ·simp only [Act.put, List.setIfInBounds_toArray, List.set_cons_zero, List.set_cons_succ, i64_w, i32_w]
               rfl
              refine take_ (i := 7) (N := some 100) (v := ?_) (a' := ?_) #[true, true, true, false, false, false, true, true, false, false, false, false, false] rfl rfl (take_ofW HT_.out HW_.out (by kernel_rfl)) (fun _ _ _ h => h) (Or.inl ⟨by rfl, ?_⟩) hHeld ?_ ?_
              rotate_left
              ·rintro w' ⟨s0, s1, s2, s3, s4, s5, s6, s7, s8, s9, s10, s11, s12⟩
               go_simp
               with_reducible rfl
              rotate_left
              ·simp only [Act.put, List.setIfInBounds_toArray, List.set_cons_zero, List.set_cons_succ, i64_w, i32_w]
               rfl
              refine one_ (i := 3) (N := some 96) #[true, true, true, true, false, false, true, true, false, false, false, false, false] rfl rfl (one_of HT_.out (by kernel_rfl)) (by decide) (fun K hK => ?_)
              refine goes_ Tryd.func42 (by kernel_rfl) rfl #[.int .u64 (IntKind.u64.wrap (a0_9))] (by rfl) rfl rfl t31_5 ?_
              with_reducible refine (cloakroomref09_Text.calls kj1 (IntKind.u64.wrap (a0_9)) t333 _ A68.out).mono ?_
              rintro e w' ⟨rfl, ⟨nd, rfl⟩⟩
              refine ⟨_, rfl, ?_⟩
              refine hK.out _ _ ⟨(blk_cell BK320.out 0).trans rfl, (blk_cell BK320.out 1).trans rfl, (blk_cell BK320.out 2).trans rfl, (blk_cell BK320.out 3).trans rfl, (blk_cell BK320.out 4).trans rfl, (blk_cell BK320.out 5).trans rfl, (blk_cell BK320.out 6).trans rfl, (blk_cell BK320.out 7).trans rfl, (blk_cell BK320.out 8).trans rfl, (blk_cell BK320.out 9).trans rfl, (blk_cell BK320.out 10).trans rfl, (blk_cell BK320.out 11).trans rfl, (blk_cell BK320.out 12).trans rfl⟩ (fun hHeld => ?_)
              clear hK K
              refine norm_ (a' := ?_) ?_ ?_
              rotate_left
              ·show Act.put _ (some 96) _ = _
               simp only [Act.put, List.setIfInBounds_toArray, List.set_cons_zero, List.set_cons_succ, i64_w, i32_w]
               rfl
              refine pure_ (i := 4) (N := some 97) (v := ?_) (a' := ?_) #[true, true, true, true, true, false, true, true, false, false, false, false, false] rfl rfl (any_of HT_.out (by kernel_rfl)) (fun _ _ _ h => h) (Or.inl ⟨by rfl, ?_⟩) ?_ ?_
              rotate_left
              ·intro w'
               go_simp
               with_reducible rfl
              rotate_left
              ·simp only [Act.put, List.setIfInBounds_toArray, List.set_cons_zero, List.set_cons_succ, i64_w, i32_w]
               rfl
              refine pure_ (i := 5) (N := some 98) (v := ?_) (a' := ?_) #[true, true, true, true, true, true, true, true, false, false, false, false, false] rfl rfl (any_of HT_.out (by kernel_rfl)) (fun _ _ _ h => h) (Or.inl ⟨by rfl, ?_⟩) ?_ ?_
              rotate_left
              ·intro w'
               go_simp
               with_reducible rfl
              rotate_left
              ·simp only [Act.put, List.setIfInBounds_toArray, List.set_cons_zero, List.set_cons_succ, i64_w, i32_w]
               rfl
              refine pure_ (i := 8) (N := some 101) (v := ?_) (a' := ?_) #[true, true, true, true, true, true, true, true, true, false, false, false, false] rfl rfl (any_of HT_.out (by kernel_rfl)) (fun _ _ _ h => h) (Or.inl ⟨by rfl, ?_⟩) ?_ ?_
              rotate_left
              ·intro w'
               go_simp
               with_reducible rfl
              rotate_left
              ·simp only [Act.put, List.setIfInBounds_toArray, List.set_cons_zero, List.set_cons_succ, i64_w, i32_w]
               rfl
              refine pure_ (i := 9) (N := some 102) (v := ?_) (a' := ?_) #[true, true, true, true, true, true, true, true, true, true, false, false, false] rfl rfl (any_of HT_.out (by kernel_rfl)) (fun _ _ _ h => h) (Or.inl ⟨by rfl, ?_⟩) ?_ ?_
              rotate_left
              ·intro w'
               go_simp
               with_reducible rfl
              rotate_left
              ·simp only [Act.put, List.setIfInBounds_toArray, List.set_cons_zero, List.set_cons_succ, i64_w, i32_w]
               rfl
              refine one_ (i := 10) (N := some 103) #[true, true, true, true, true, true, true, true, true, true, true, false, false] rfl rfl (one_of HT_.out (by kernel_rfl)) (by decide) (fun K hK => ?_)
              refine x_conv_step _ 5 (by rfl) (N := 103) rfl 9 29 _ rfl (s := (((((⟨#[117, 115, 101, 114, 32]⟩ : ByteArray) ++ t333) ++ (⟨#[32]⟩ : ByteArray)) ++ a0_10) ++ (⟨#[13, 10]⟩ : ByteArray))) rfl Tryd.underlying9 Tryd.underlying29 Tryd.underlying5 t31_9 (Below.refl _ _) (Nat.le_refl _) ?_
              intro v335 w76 ho77 hb hg_ hnew_
              clear hg_ hnew_
              (first | rw [← Ny334.out] at ho77 | (simp only [Int.reduceToNat] at ho77; rw [← Ny334.out] at ho77))
              have n0_ := Aside0.mk (Kd.V_lower (Kd.V_mono (ok' := fun k_ => (w.heap.size ≤ k_) ∧ k_ ≠ gb320) ho77 (fun k_ hk_ => ⟨(Nat.le_trans (below_size t31_0) hk_), (Kd.freshB (g := gb320) (o := .cells #[.int .u8 a0_0, .int .u8 a0_1, .int .i64 a0_2, .slice A0_3 l0_3.length c0_3, .string a0_4, .int .u32 a0_5, .int .i64 a0_6, .int .u64 a0_7, .int .u64 a0_8, .int .i64 a0_9, .string a0_10, .bool a0_11, .bool a0_12] 42 (0, 0)) t31_1 k_ hk_)⟩)) (below_size t31_0))
              have n1_ := Aside0.mk (blk_below (g := gb320) (o := .cells #[.int .u8 a0_0, .int .u8 a0_1, .int .i64 a0_2, .slice A0_3 l0_3.length c0_3, .string a0_4, .int .u32 a0_5, .int .i64 a0_6, .int .u64 a0_7, .int .u64 a0_8, .int .i64 a0_9, .string a0_10, .bool a0_11, .bool a0_12] 42 (0, 0)) t31_1 hb)
              have n2_ := Aside0.mk (below_step t31_0 hb)
              clear BK320
              clear HB
              have HO336 := n0_
              have BK320 := n1_
              have HB := n2_
              clear n0_ n1_ n2_
              clear hb ho77
              refine hK.out _ _ ⟨(blk_cell BK320.out 0).trans rfl, (blk_cell BK320.out 1).trans rfl, (blk_cell BK320.out 2).trans rfl, (blk_cell BK320.out 3).trans rfl, (blk_cell BK320.out 4).trans rfl, (blk_cell BK320.out 5).trans rfl, (blk_cell BK320.out 6).trans rfl, (blk_cell BK320.out 7).trans rfl, (blk_cell BK320.out 8).trans rfl, (blk_cell BK320.out 9).trans rfl, (blk_cell BK320.out 10).trans rfl, (blk_cell BK320.out 11).trans rfl, (blk_cell BK320.out 12).trans rfl⟩ (fun hHeld => ?_)
              clear hK K
              refine norm_ (a' := ?_) ?_ ?_
              rotate_left
              ·show Act.put _ (some 103) _ = _
               simp only [Act.put, List.setIfInBounds_toArray, List.set_cons_zero, List.set_cons_succ, i64_w, i32_w]
               rfl
              refine pure_ (i := 11) (N := some 2) (v := ?_) (a' := ?_) #[true, true, true, true, true, true, true, true, true, true, true, true, false] rfl rfl (any_of HT_.out (by kernel_rfl)) (fun _ _ _ h => h) (Or.inl ⟨by rfl, ?_⟩) ?_ ?_
              rotate_left
              ·intro w'
               go_simp
               with_reducible rfl
              rotate_left
              ·simp only [Act.put, List.setIfInBounds_toArray, List.set_cons_zero, List.set_cons_succ, i64_w, i32_w]
               rfl
              refine pure_ (i := 12) (N := some 3) (v := ?_) (a' := ?_) #[true, true, true, true, true, true, true, true, true, true, true, true, true] rfl rfl (any_of HT_.out (by kernel_rfl)) (fun _ _ _ h => h) (Or.inl ⟨by rfl, ?_⟩) ?_ ?_
              rotate_left
              ·intro w'
               go_simp
               with_reducible rfl
              rotate_left
              ·simp only [Act.put, List.setIfInBounds_toArray, List.set_cons_zero, List.set_cons_succ, i64_w, i32_w]
               rfl
              refine done_ (done_of HT_.out (by kernel_rfl)) ?_
              try go_wp2
              go_ret2
              exact ⟨_, t31_3, by (with_reducible repeat (first | apply Kd.V_alloc | apply Kd.V_drewN | apply Kd.V_drew)); exact Kd.V_mono HO336.out (fun _ hk => hk.1), t31_0⟩
             ·rw [if_neg c73] at H
              exact absurd H (by simp)
            ·rw [if_neg c72] at H
             exact absurd H (by simp)
           ·rw [if_neg c71] at H
            exact absurd H (by simp)
          ·rw [if_neg c70] at H
           exact absurd H (by simp)
         ·rw [if_neg c69] at H
          exact absurd H (by simp)
        ·replace c67 := Bool.eq_false_iff.mpr c67
         subst c67
         rw [if_neg (show ¬ (false = true) by decide)] at H
         simp only [Option.some.injEq, Prod.mk.injEq] at H
         obtain ⟨rfl, rfl⟩ := H
         have hz78 := blk13 BK320.out
         go_wp2_with (first | (go_at_call 40; (with_reducible refine (cloakroomref14_Plain.calls kj1 a0_10 16 false _ A66.out).mono ?_); rintro e w' ⟨rfl, ⟨nd, rfl⟩⟩))
         go_ret2
         exact ⟨_, t31_3, t31_4, t31_0⟩
     ·rw [if_neg c61] at H
      have c61b0 : (a0_0 == 2) = false := beq_eq_false_iff_ne.mpr c61
      have c61b1 : (a0_0 != 2) = true := bne_iff_ne.mpr c61
      by_cases c79 : a0_0 = 3
      ·rw [if_pos c79] at H
       have c79b0 : (a0_0 == 3) = true := beq_iff_eq.mpr c79
       have c79b1 : (a0_0 != 3) = false := bne_eq_false_iff_eq.mpr c79
       clear c79
       by_cases c80 : a0_11 = true
       ·subst c80
        rw [if_pos rfl] at H
        obtain ⟨y337, hy337⟩ : ∃ y_ : List Int, y_ = (([116, 114, 97, 99, 107, 32, 111, 110, 13, 10] : List Int)) := ⟨_, rfl⟩
        replace H : (some (y337, 0)) = some (r1, r2) := by first | (rw [hy337]; with_reducible exact H) | (have H2_ := (Option.bind_some _ _).symm.trans H; rw [hy337]; with_reducible exact H2_) | (have H2_ := (Option.bind_some _ _).symm.trans H; with_reducible exact H2_) | with_reducible exact H | (rw [hy337]; exact H) | exact H
        have Ny337 := Aside0.mk hy337
        clear hy337
        simp only [Option.some.injEq, Prod.mk.injEq] at H
        obtain ⟨rfl, rfl⟩ := H
        have hz81 := blk13 BK320.out
        go_wp2_with (first | ((with_reducible refine gate_dst (N := 109) rfl ?_); refine x_const 5 rfl (N := 109) rfl 29 _ rfl (xs := [116, 114, 97, 99, 107, 32, 111, 110, 13, 10]) rfl rfl (by decide) Tryd.underlying29 Tryd.underlying5 ?_; intro v338 w82 ho83 hb hg_ hnew_; clear hg_ hnew_; (first | rw [← Ny337.out] at ho83 | (simp only [Int.reduceToNat] at ho83; rw [← Ny337.out] at ho83)); have n0_ := Aside0.mk (Kd.V_lower (Kd.V_mono (ok' := fun k_ => (w.heap.size ≤ k_) ∧ k_ ≠ gb320) ho83 (fun k_ hk_ => ⟨(Nat.le_trans (below_size t31_0) hk_), (Kd.freshB (g := gb320) (o := .cells #[.int .u8 a0_0, .int .u8 a0_1, .int .i64 a0_2, .slice A0_3 l0_3.length c0_3, .string a0_4, .int .u32 a0_5, .int .i64 a0_6, .int .u64 a0_7, .int .u64 a0_8, .int .i64 a0_9, .string a0_10, .bool true, .bool a0_12] 42 (0, 0)) t31_1 k_ hk_)⟩)) (below_size t31_0)); have n1_ := Aside0.mk (blk_below (g := gb320) (o := .cells #[.int .u8 a0_0, .int .u8 a0_1, .int .i64 a0_2, .slice A0_3 l0_3.length c0_3, .string a0_4, .int .u32 a0_5, .int .i64 a0_6, .int .u64 a0_7, .int .u64 a0_8, .int .i64 a0_9, .string a0_10, .bool true, .bool a0_12] 42 (0, 0)) t31_1 hb); have n2_ := Aside0.mk (below_step t31_0 hb); clear BK320; clear HB; have HO339 := n0_; have BK320 := n1_; have HB := n2_; clear n0_ n1_ n2_; clear hb ho83))
        go_ret2
        exact ⟨_, t31_3, by (with_reducible repeat (first | apply Kd.V_alloc | apply Kd.V_drewN | apply Kd.V_drew)); exact Kd.V_mono HO339.out (fun _ hk => hk.1), t31_0⟩
       ·replace c80 := Bool.eq_false_iff.mpr c80
        subst c80
        rw [if_neg (show ¬ (false = true) by decide)] at H
        obtain ⟨y340, hy340⟩ : ∃ y_ : List Int, y_ = (([116, 114, 97, 99, 107, 32, 111, 102, 102, 13, 10] : List Int)) := ⟨_, rfl⟩
        replace H : (some (y340, 0)) = some (r1, r2) := by first | (rw [hy340]; with_reducible exact H) | (have H2_ := (Option.bind_some _ _).symm.trans H; rw [hy340]; with_reducible exact H2_) | (have H2_ := (Option.bind_some _ _).symm.trans H; with_reducible exact H2_) | with_reducible exact H | (rw [hy340]; exact H) | exact H
        have Ny340 := Aside0.mk hy340
        clear hy340
        simp only [Option.some.injEq, Prod.mk.injEq] at H
        obtain ⟨rfl, rfl⟩ := H
        have hz84 := blk13 BK320.out
        go_wp2_with (first | ((with_reducible refine gate_dst (N := 111) rfl ?_); refine x_const 5 rfl (N := 111) rfl 29 _ rfl (xs := [116, 114, 97, 99, 107, 32, 111, 102, 102, 13, 10]) rfl rfl (by decide) Tryd.underlying29 Tryd.underlying5 ?_; intro v341 w85 ho86 hb hg_ hnew_; clear hg_ hnew_; (first | rw [← Ny340.out] at ho86 | (simp only [Int.reduceToNat] at ho86; rw [← Ny340.out] at ho86)); have n0_ := Aside0.mk (Kd.V_lower (Kd.V_mono (ok' := fun k_ => (w.heap.size ≤ k_) ∧ k_ ≠ gb320) ho86 (fun k_ hk_ => ⟨(Nat.le_trans (below_size t31_0) hk_), (Kd.freshB (g := gb320) (o := .cells #[.int .u8 a0_0, .int .u8 a0_1, .int .i64 a0_2, .slice A0_3 l0_3.length c0_3, .string a0_4, .int .u32 a0_5, .int .i64 a0_6, .int .u64 a0_7, .int .u64 a0_8, .int .i64 a0_9, .string a0_10, .bool false, .bool a0_12] 42 (0, 0)) t31_1 k_ hk_)⟩)) (below_size t31_0)); have n1_ := Aside0.mk (blk_below (g := gb320) (o := .cells #[.int .u8 a0_0, .int .u8 a0_1, .int .i64 a0_2, .slice A0_3 l0_3.length c0_3, .string a0_4, .int .u32 a0_5, .int .i64 a0_6, .int .u64 a0_7, .int .u64 a0_8, .int .i64 a0_9, .string a0_10, .bool false, .bool a0_12] 42 (0, 0)) t31_1 hb); have n2_ := Aside0.mk (below_step t31_0 hb); clear BK320; clear HB; have HO342 := n0_; have BK320 := n1_; have HB := n2_; clear n0_ n1_ n2_; clear hb ho86))
        go_ret2
        exact ⟨_, t31_3, by (with_reducible repeat (first | apply Kd.V_alloc | apply Kd.V_drewN | apply Kd.V_drew)); exact Kd.V_mono HO342.out (fun _ hk => hk.1), t31_0⟩
      ·rw [if_neg c79] at H
       have c79b0 : (a0_0 == 3) = false := beq_eq_false_iff_ne.mpr c79
       have c79b1 : (a0_0 != 3) = true := bne_iff_ne.mpr c79
       by_cases c87 : a0_0 = 4
       ·rw [if_pos c87] at H
        have c87b0 : (a0_0 == 4) = true := beq_iff_eq.mpr c87
        have c87b1 : (a0_0 != 4) = false := bne_eq_false_iff_eq.mpr c87
        clear c87
        obtain ⟨y343, hy343⟩ : ∃ y_ : List Int, y_ = (([112, 105, 110, 103, 13, 10] : List Int)) := ⟨_, rfl⟩
        replace H : (some (y343, 0)) = some (r1, r2) := by first | (rw [hy343]; with_reducible exact H) | (have H2_ := (Option.bind_some _ _).symm.trans H; rw [hy343]; with_reducible exact H2_) | (have H2_ := (Option.bind_some _ _).symm.trans H; with_reducible exact H2_) | with_reducible exact H | (rw [hy343]; exact H) | exact H
        have Ny343 := Aside0.mk hy343
        clear hy343
        simp only [Option.some.injEq, Prod.mk.injEq] at H
        obtain ⟨rfl, rfl⟩ := H
        have hz88 := blk13 BK320.out
        go_wp2_with (first | ((with_reducible refine gate_dst (N := 115) rfl ?_); refine x_const 5 rfl (N := 115) rfl 29 _ rfl (xs := [112, 105, 110, 103, 13, 10]) rfl rfl (by decide) Tryd.underlying29 Tryd.underlying5 ?_; intro v344 w89 ho90 hb hg_ hnew_; clear hg_ hnew_; (first | rw [← Ny343.out] at ho90 | (simp only [Int.reduceToNat] at ho90; rw [← Ny343.out] at ho90)); have n0_ := Aside0.mk (Kd.V_lower (Kd.V_mono (ok' := fun k_ => (w.heap.size ≤ k_) ∧ k_ ≠ gb320) ho90 (fun k_ hk_ => ⟨(Nat.le_trans (below_size t31_0) hk_), (Kd.freshB (g := gb320) (o := .cells #[.int .u8 a0_0, .int .u8 a0_1, .int .i64 a0_2, .slice A0_3 l0_3.length c0_3, .string a0_4, .int .u32 a0_5, .int .i64 a0_6, .int .u64 a0_7, .int .u64 a0_8, .int .i64 a0_9, .string a0_10, .bool a0_11, .bool a0_12] 42 (0, 0)) t31_1 k_ hk_)⟩)) (below_size t31_0)); have n1_ := Aside0.mk (blk_below (g := gb320) (o := .cells #[.int .u8 a0_0, .int .u8 a0_1, .int .i64 a0_2, .slice A0_3 l0_3.length c0_3, .string a0_4, .int .u32 a0_5, .int .i64 a0_6, .int .u64 a0_7, .int .u64 a0_8, .int .i64 a0_9, .string a0_10, .bool a0_11, .bool a0_12] 42 (0, 0)) t31_1 hb); have n2_ := Aside0.mk (below_step t31_0 hb); clear BK320; clear HB; have HO345 := n0_; have BK320 := n1_; have HB := n2_; clear n0_ n1_ n2_; clear hb ho90))
        go_ret2
        exact ⟨_, t31_3, by (with_reducible repeat (first | apply Kd.V_alloc | apply Kd.V_drewN | apply Kd.V_drew)); exact Kd.V_mono HO345.out (fun _ hk => hk.1), t31_0⟩
       ·rw [if_neg c87] at H
        have c87b0 : (a0_0 == 4) = false := beq_eq_false_iff_ne.mpr c87
        have c87b1 : (a0_0 != 4) = true := bne_iff_ne.mpr c87
        by_cases c91 : a0_0 = 5
        ·rw [if_pos c91] at H
         have c91b0 : (a0_0 == 5) = true := beq_iff_eq.mpr c91
         have c91b1 : (a0_0 != 5) = false := bne_eq_false_iff_eq.mpr c91
         clear c91
         obtain ⟨y346, hy346⟩ : ∃ y_ : List Int, y_ = (([113, 117, 105, 116, 13, 10] : List Int)) := ⟨_, rfl⟩
         replace H : (some (y346, 0)) = some (r1, r2) := by first | (rw [hy346]; with_reducible exact H) | (have H2_ := (Option.bind_some _ _).symm.trans H; rw [hy346]; with_reducible exact H2_) | (have H2_ := (Option.bind_some _ _).symm.trans H; with_reducible exact H2_) | with_reducible exact H | (rw [hy346]; exact H) | exact H
         have Ny346 := Aside0.mk hy346
         clear hy346
         simp only [Option.some.injEq, Prod.mk.injEq] at H
         obtain ⟨rfl, rfl⟩ := H
         have hz92 := blk13 BK320.out
         go_wp2_with (first | ((with_reducible refine gate_dst (N := 119) rfl ?_); refine x_const 5 rfl (N := 119) rfl 29 _ rfl (xs := [113, 117, 105, 116, 13, 10]) rfl rfl (by decide) Tryd.underlying29 Tryd.underlying5 ?_; intro v347 w93 ho94 hb hg_ hnew_; clear hg_ hnew_; (first | rw [← Ny346.out] at ho94 | (simp only [Int.reduceToNat] at ho94; rw [← Ny346.out] at ho94)); have n0_ := Aside0.mk (Kd.V_lower (Kd.V_mono (ok' := fun k_ => (w.heap.size ≤ k_) ∧ k_ ≠ gb320) ho94 (fun k_ hk_ => ⟨(Nat.le_trans (below_size t31_0) hk_), (Kd.freshB (g := gb320) (o := .cells #[.int .u8 a0_0, .int .u8 a0_1, .int .i64 a0_2, .slice A0_3 l0_3.length c0_3, .string a0_4, .int .u32 a0_5, .int .i64 a0_6, .int .u64 a0_7, .int .u64 a0_8, .int .i64 a0_9, .string a0_10, .bool a0_11, .bool a0_12] 42 (0, 0)) t31_1 k_ hk_)⟩)) (below_size t31_0)); have n1_ := Aside0.mk (blk_below (g := gb320) (o := .cells #[.int .u8 a0_0, .int .u8 a0_1, .int .i64 a0_2, .slice A0_3 l0_3.length c0_3, .string a0_4, .int .u32 a0_5, .int .i64 a0_6, .int .u64 a0_7, .int .u64 a0_8, .int .i64 a0_9, .string a0_10, .bool a0_11, .bool a0_12] 42 (0, 0)) t31_1 hb); have n2_ := Aside0.mk (below_step t31_0 hb); clear BK320; clear HB; have HO348 := n0_; have BK320 := n1_; have HB := n2_; clear n0_ n1_ n2_; clear hb ho94))
         go_ret2
         exact ⟨_, t31_3, by (with_reducible repeat (first | apply Kd.V_alloc | apply Kd.V_drewN | apply Kd.V_drew)); exact Kd.V_mono HO348.out (fun _ hk => hk.1), t31_0⟩
        ·rw [if_neg c91] at H
         have c91b0 : (a0_0 == 5) = false := beq_eq_false_iff_ne.mpr c91
         have c91b1 : (a0_0 != 5) = true := bne_iff_ne.mpr c91
         simp only [Option.some.injEq, Prod.mk.injEq] at H
         obtain ⟨rfl, rfl⟩ := H
         have hz95 := blk13 BK320.out
         go_wp2
         go_ret2
         exact ⟨_, t31_3, t31_4, t31_0⟩
end Go.Proofs.YtfoengihiaegoaaDoor.P
