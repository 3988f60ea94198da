-- written by wip/tools/drive.py, a driver round the kit's printer
import Derived.Test.YtfoengihiaegoaaDoorP0
import Derived.Test.YtfoengihiaegoaaDoorP7
import Derived.Test.YtfoengihiaegoaaDoorP9
import Derived.Test.YtfoengihiaegoaaDoorXArr
import Derived.Test.YtfoengihiaegoaaDoorXDefs
namespace Go.Proofs.YtfoengihiaegoaaDoor.P
open Go.RowKit Go.Proofs.YtfoengihiaegoaaDoorW.PrintWords Go.Proofs.YtfoengihiaegoaaDoorW.PrintLast Go.Proofs.YtfoengihiaegoaaDoorW.PrintMore
attribute [local go_sem] max2_int min2_int max_two min_two max_three min_three max_four min_four   -- for this text's walks alone
set_option linter.unusedVariables false
set_option linter.unusedSimpArgs false

/-! ### cloakroomref15_Lines: function 28 -/
def cloakroomref15_Lines.l0 : Nat → ByteArray → Int → Int → Int → Int → List (S56) → Int → Bool → ByteArray → Option (ByteArray)
  | 0, _, _, _, _, _, _, _, _, _ => none
  | k + 1, x3, x4, x123000, x123001, x123002, x123003, x123004, x123005, x123006 => if x4 < (x123003.length : Int) then (if 0 ≤ x4 then (if x3.size + 6 ≤ 9223372036854775807 then (if (x3 ++ (⟨#[86, 65, 76, 85, 69, 32]⟩ : ByteArray)).size + ((rd_T56 x123003 x4).f0).size ≤ 9223372036854775807 then (if ((x3 ++ (⟨#[86, 65, 76, 85, 69, 32]⟩ : ByteArray)) ++ ((rd_T56 x123003 x4).f0)).size + 1 ≤ 9223372036854775807 then ((cloakroomref09_Text.f k (IntKind.u64.wrap ((rd_T56 x123003 x4).f2))).bind fun t126 => (if (((x3 ++ (⟨#[86, 65, 76, 85, 69, 32]⟩ : ByteArray)) ++ ((rd_T56 x123003 x4).f0)) ++ (⟨#[32]⟩ : ByteArray)).size + t126.size ≤ 9223372036854775807 then (if ((((x3 ++ (⟨#[86, 65, 76, 85, 69, 32]⟩ : ByteArray)) ++ ((rd_T56 x123003 x4).f0)) ++ (⟨#[32]⟩ : ByteArray)) ++ t126).size + 1 ≤ 9223372036854775807 then ((cloakroomref09_Text.f k (IntKind.u64.wrap ((rd_T56 x123003 x4).f3))).bind fun t127 => (if (((((x3 ++ (⟨#[86, 65, 76, 85, 69, 32]⟩ : ByteArray)) ++ ((rd_T56 x123003 x4).f0)) ++ (⟨#[32]⟩ : ByteArray)) ++ t126) ++ (⟨#[32]⟩ : ByteArray)).size + t127.size ≤ 9223372036854775807 then (if ((((((x3 ++ (⟨#[86, 65, 76, 85, 69, 32]⟩ : ByteArray)) ++ ((rd_T56 x123003 x4).f0)) ++ (⟨#[32]⟩ : ByteArray)) ++ t126) ++ (⟨#[32]⟩ : ByteArray)) ++ t127).size + 1 ≤ 9223372036854775807 then ((cloakroomref09_Text.f k ((rd_T56 x123003 x4).f4)).bind fun t128 => (if (((((((x3 ++ (⟨#[86, 65, 76, 85, 69, 32]⟩ : ByteArray)) ++ ((rd_T56 x123003 x4).f0)) ++ (⟨#[32]⟩ : ByteArray)) ++ t126) ++ (⟨#[32]⟩ : ByteArray)) ++ t127) ++ (⟨#[32]⟩ : ByteArray)).size + t128.size ≤ 9223372036854775807 then (if ((((((((x3 ++ (⟨#[86, 65, 76, 85, 69, 32]⟩ : ByteArray)) ++ ((rd_T56 x123003 x4).f0)) ++ (⟨#[32]⟩ : ByteArray)) ++ t126) ++ (⟨#[32]⟩ : ByteArray)) ++ t127) ++ (⟨#[32]⟩ : ByteArray)) ++ t128).size + 1 ≤ 9223372036854775807 then ((cloakroomref09_Text.f k (IntKind.u64.wrap ((((rd_T56 x123003 x4).f1).size : Int)))).bind fun t129 => (if (((((((((x3 ++ (⟨#[86, 65, 76, 85, 69, 32]⟩ : ByteArray)) ++ ((rd_T56 x123003 x4).f0)) ++ (⟨#[32]⟩ : ByteArray)) ++ t126) ++ (⟨#[32]⟩ : ByteArray)) ++ t127) ++ (⟨#[32]⟩ : ByteArray)) ++ t128) ++ (⟨#[32]⟩ : ByteArray)).size + t129.size ≤ 9223372036854775807 then (if ((((((((((x3 ++ (⟨#[86, 65, 76, 85, 69, 32]⟩ : ByteArray)) ++ ((rd_T56 x123003 x4).f0)) ++ (⟨#[32]⟩ : ByteArray)) ++ t126) ++ (⟨#[32]⟩ : ByteArray)) ++ t127) ++ (⟨#[32]⟩ : ByteArray)) ++ t128) ++ (⟨#[32]⟩ : ByteArray)) ++ t129).size + 2 ≤ 9223372036854775807 then (if (((((((((((x3 ++ (⟨#[86, 65, 76, 85, 69, 32]⟩ : ByteArray)) ++ ((rd_T56 x123003 x4).f0)) ++ (⟨#[32]⟩ : ByteArray)) ++ t126) ++ (⟨#[32]⟩ : ByteArray)) ++ t127) ++ (⟨#[32]⟩ : ByteArray)) ++ t128) ++ (⟨#[32]⟩ : ByteArray)) ++ t129) ++ (⟨#[13, 10]⟩ : ByteArray)).size + ((rd_T56 x123003 x4).f1).size ≤ 9223372036854775807 then (if ((((((((((((x3 ++ (⟨#[86, 65, 76, 85, 69, 32]⟩ : ByteArray)) ++ ((rd_T56 x123003 x4).f0)) ++ (⟨#[32]⟩ : ByteArray)) ++ t126) ++ (⟨#[32]⟩ : ByteArray)) ++ t127) ++ (⟨#[32]⟩ : ByteArray)) ++ t128) ++ (⟨#[32]⟩ : ByteArray)) ++ t129) ++ (⟨#[13, 10]⟩ : ByteArray)) ++ ((rd_T56 x123003 x4).f1)).size + 2 ≤ 9223372036854775807 then (cloakroomref15_Lines.l0 k (((((((((((((x3 ++ (⟨#[86, 65, 76, 85, 69, 32]⟩ : ByteArray)) ++ ((rd_T56 x123003 x4).f0)) ++ (⟨#[32]⟩ : ByteArray)) ++ t126) ++ (⟨#[32]⟩ : ByteArray)) ++ t127) ++ (⟨#[32]⟩ : ByteArray)) ++ t128) ++ (⟨#[32]⟩ : ByteArray)) ++ t129) ++ (⟨#[13, 10]⟩ : ByteArray)) ++ ((rd_T56 x123003 x4).f1)) ++ (⟨#[13, 10]⟩ : ByteArray)) (wrap64 (x4 + 1)) x123000 x123001 x123002 x123003 x123004 x123005 x123006) else (none)) else (none)) else (none)) else (none))) else (none)) else (none))) else (none)) else (none))) else (none)) else (none))) else (none)) else (none)) else (none)) else (none)) else ((cloakroomref15_row.f x123001).bind fun t130 => (if x3.size + t130.size ≤ 9223372036854775807 then ((cloakroomref15_counts.f x123001).bind fun t131 => (if t131 = true then (if (x3 ++ t130).size + 1 ≤ 9223372036854775807 then ((cloakroomref09_Text.f k x123004).bind fun t132 => (if ((x3 ++ t130) ++ (⟨#[32]⟩ : ByteArray)).size + t132.size ≤ 9223372036854775807 then (some (((x3 ++ t130) ++ (⟨#[32]⟩ : ByteArray)) ++ t132)) else (none))) else (none)) else (some (x3 ++ t130)))) else (none)))
def cloakroomref15_Lines.f (k : Nat) (a0_0 : Int) (a0_1 : Int) (a0_2 : Int) (l0_3 : List (S56)) (a0_4 : Int) (a0_5 : Bool) (a0_6 : ByteArray) : Option (ByteArray) := if a0_0 = 2 then (if a0_5 = true then (some (⟨#[87, 69, 76, 67, 79, 77, 69]⟩ : ByteArray)) else (some (⟨#[85, 78, 75, 78, 79, 87, 78]⟩ : ByteArray))) else (if a0_0 = 3 then (if a0_5 = true then (some (⟨#[84, 82, 65, 67, 75, 69, 68]⟩ : ByteArray)) else (some (⟨#[85, 78, 84, 82, 65, 67, 75, 69, 68]⟩ : ByteArray))) else (if a0_0 = 4 then (some (⟨#[80, 79, 78, 71]⟩ : ByteArray)) else (if a0_0 = 5 then (some (⟨#[66, 89, 69]⟩ : ByteArray)) else (if a0_0 = 6 then (some (⟨#[69, 82, 82, 79, 82]⟩ : ByteArray)) else (if a0_0 = 7 then (if 5 + a0_6.size ≤ 9223372036854775807 then (some ((⟨#[80, 85, 83, 72, 32]⟩ : ByteArray) ++ a0_6)) else (none)) else (if a0_2 = 1 then (cloakroomref15_Lines.l0 k (⟨#[]⟩ : ByteArray) 0 a0_0 a0_1 a0_2 l0_3 a0_4 a0_5 a0_6) else ((cloakroomref15_word.f a0_2).bind fun t123 => (some t123))))))))
theorem cloakroomref15_Lines.mono_l : ∀ k, (∀ y0 y1 y2 y3 y4 y5 y6 y7 y8, LeO (cloakroomref15_Lines.l0 k y0 y1 y2 y3 y4 y5 y6 y7 y8) (cloakroomref15_Lines.l0 (k + 1) y0 y1 y2 y3 y4 y5 y6 y7 y8))
  | 0 => fun _ _ _ _ _ _ _ _ _ r h => by simp [cloakroomref15_Lines.l0] at h
  | k + 1 => by
    have ih0 := cloakroomref15_Lines.mono_l k
    · intro y0 y1 y2 y3 y4 y5 y6 y7 y8
      unfold cloakroomref15_Lines.l0
      repeat' first
      | (with_reducible exact ih0 _ _ _ _ _ _ _ _ _)
      | (with_reducible exact cloakroomref09_Text.mono _ _)
      | (with_reducible exact LeO.refl _)
      | (with_reducible exact LeO.none _)
      | (with_reducible refine LeO.ite ?_ ?_)
      | (with_reducible refine LeO.bind ?_ (fun _ => ?_))
      | exact ih0 _ _ _ _ _ _ _ _ _
      | exact cloakroomref09_Text.mono _ _
      | exact LeO.none _
      | refine LeO.ite ?_ ?_
      | refine LeO.bind ?_ (fun _ => ?_)
theorem cloakroomref15_Lines.mono : ∀ a0 a1 a2 a3 a4 a5 a6 k, LeO (cloakroomref15_Lines.f k a0 a1 a2 a3 a4 a5 a6) (cloakroomref15_Lines.f (k + 1) a0 a1 a2 a3 a4 a5 a6) := by
  intro a0 a1 a2 a3 a4 a5 a6 k
  have ih0 := cloakroomref15_Lines.mono_l k
  unfold cloakroomref15_Lines.f
  repeat' first
      | (with_reducible exact ih0 _ _ _ _ _ _ _ _ _)
      | (with_reducible exact cloakroomref09_Text.mono _ _)
      | (with_reducible exact LeO.refl _)
      | (with_reducible exact LeO.none _)
      | (with_reducible refine LeO.ite ?_ ?_)
      | (with_reducible refine LeO.bind ?_ (fun _ => ?_))
      | exact ih0 _ _ _ _ _ _ _ _ _
      | exact cloakroomref09_Text.mono _ _
      | exact LeO.none _
      | refine LeO.ite ?_ ?_
      | refine LeO.bind ?_ (fun _ => ?_)
def cloakroomref15_Lines.T25 : Bool × List (List Nat × List Nat) := (true, [([], []), ([0], [0]), ([], []), ([2], [2]), ([1, 3], [1, 3]), ([4], [4]), ([], []), ([6], [6]), ([7], [7]), ([8], [8]), ([5, 9], [5, 9]), ([10], [10]), ([], []), ([12], [12]), ([13], [13]), ([14, 9], [14]), ([11, 15], [11, 15]), ([16], [16]), ([], []), ([18], [18]), ([19, 15], [19]), ([17, 20], [17, 20]), ([21], [21]), ([], []), ([23], [23]), ([24], [24]), ([25], [25]), ([26, 20], [26]), ([22, 27], [22, 27]), ([28], [28]), ([], []), ([30], [30]), ([29, 31], [29, 31]), ([32], [32]), ([33, 27, 0, 1, 2, 3, 4, 5, 6, 7, 8, 9, 10, 11, 12, 13, 14, 15, 16, 17, 18, 19, 20, 21, 22, 23, 24, 25, 26, 27, 28, 29, 30, 31, 32, 33], [0, 33])])
def cloakroomref15_Lines.B25 : List Nat := [0, 1, 0, 4, 15, 31, 0, 64, 192, 448, 1023, 2047, 0, 4096, 12288, 29632, 65535, 131071, 0, 262144, 848832, 2097151, 4194303, 0, 8388608, 25165824, 58720256, 127726528, 268435455, 536870911, 0, 1073741824, 4294967295, 8589934591, 17179869183]
theorem cloakroomref15_Lines.tab25 : rtab .any (opsOf Tryd.f28 25) = cloakroomref15_Lines.T25 := by kernel_rfl
theorem cloakroomref15_Lines.bits25 : waitsOk cloakroomref15_Lines.T25.2 cloakroomref15_Lines.B25 = true := by kernel_rfl
set_option maxHeartbeats 8000000 in
set_option maxRecDepth 100000 in
theorem cloakroomref15_Lines.calls (k : Nat) (a0_0 : Int) (a0_1 : Int) (a0_2 : Int) (A0_3 : Option Addr) (c0_3 : Nat) (l0_3 : List (S56)) (a0_4 : Int) (a0_5 : Bool) (a0_6 : ByteArray) (r : ByteArray) (w : World) (hr0_3 : Kd.C k56 w A0_3 l0_3.length l0_3) (hc0_3 : l0_3.length ≤ c0_3) (h : cloakroomref15_Lines.f k a0_0 a0_1 a0_2 l0_3 a0_4 a0_5 a0_6 = some r) :
    Calls Tryd.prog 28 #[.agg #[.int .u8 a0_0, .int .u8 a0_1, .int .u8 a0_2, .slice A0_3 l0_3.length c0_3, .int .u64 a0_4, .bool a0_5, .string a0_6]] w fun e w' => e = .returned (.string r) ∧ Below w.heap.size w w' := by
  have hu27 := Tryd.underlying27
  have hu56 := Tryd.underlying56
  have HR0_3 := Aside0.mk hr0_3
  have HC0_3 := Aside0.mk hc0_3
  clear hr0_3 hc0_3
  have HB := Aside0.mk (Below.refl w.heap.size w)
  have H : (if a0_0 = 2 then (if a0_5 = true then (some (⟨#[87, 69, 76, 67, 79, 77, 69]⟩ : ByteArray)) else (some (⟨#[85, 78, 75, 78, 79, 87, 78]⟩ : ByteArray))) else (if a0_0 = 3 then (if a0_5 = true then (some (⟨#[84, 82, 65, 67, 75, 69, 68]⟩ : ByteArray)) else (some (⟨#[85, 78, 84, 82, 65, 67, 75, 69, 68]⟩ : ByteArray))) else (if a0_0 = 4 then (some (⟨#[80, 79, 78, 71]⟩ : ByteArray)) else (if a0_0 = 5 then (some (⟨#[66, 89, 69]⟩ : ByteArray)) else (if a0_0 = 6 then (some (⟨#[69, 82, 82, 79, 82]⟩ : ByteArray)) else (if a0_0 = 7 then (if 5 + a0_6.size ≤ 9223372036854775807 then (some ((⟨#[80, 85, 83, 72, 32]⟩ : ByteArray) ++ a0_6)) else (none)) else (if a0_2 = 1 then (cloakroomref15_Lines.l0 k (⟨#[]⟩ : ByteArray) 0 a0_0 a0_1 a0_2 l0_3 a0_4 a0_5 a0_6) else ((cloakroomref15_word.f a0_2).bind fun t123 => (some t123))))))))) = some r := h
  clear h
  by_cases c2 : a0_0 = 2
  · rw [if_pos c2] at H
    have c2b0 : (a0_0 == 2) = true := beq_iff_eq.mpr c2
    have c2b1 : (a0_0 != 2) = false := bne_eq_false_iff_eq.mpr c2
    clear c2
    by_cases c3 : a0_5 = true
    · subst c3
      have H1 : (some (⟨#[87, 69, 76, 67, 79, 77, 69]⟩ : ByteArray)) = some r := by rw [if_pos rfl] at H; exact H
      clear H
      have H := H1
      clear H1
      obtain rfl := Option.some.inj H
      go_enter Tryd.func28, Tryd.ntmps28
      go_wp2_with (first | ((with_reducible refine gate_dst (N := 1) rfl ?_); refine box_event ?hg (N := 1) ?hd (cs := #[.int .u8 a0_0, .int .u8 a0_1, .int .u8 a0_2, .slice A0_3 l0_3.length c0_3, .int .u64 a0_4, .bool true, .string a0_6]) (t := 27) ?hr ?_; (case hd => rfl); (case hg => rfl); (case hr => first | (go_simp; done) | (go_simp; rfl)); intro gb122 hg w4 hbox hb; have n0_ := Aside0.mk (below_step (by repeat (first | (with_reducible first | exact HB.out | apply below_alloc | apply pw_below_drewN | apply below_drew1) | exact HB.out)) hb); have n1_ := Aside0.mk (hbox); have n2_ := Aside0.mk ((by rw [hg]; exact (below_size (by repeat (first | (with_reducible first | exact HB.out | apply below_alloc | apply pw_below_drewN | apply below_drew1) | exact HB.out))) : w.heap.size ≤ gb122)); have n3_ := Aside0.mk ((by rw [hg]; exact (below_size (by repeat (first | (with_reducible first | exact HB.out | apply below_alloc | apply pw_below_drewN | apply below_drew1) | exact HB.out))) : w.heap.size ≤ gb122)); clear HB; have HB := n0_; have BK122 := n1_; have GW122 := n2_; have GE122 := n3_; clear n0_ n1_ n2_ n3_; clear hb hbox hg; have hcz5_0 : w4.cell? ⟨gb122, 0, none⟩ = some (.int .u8 a0_0) := (blk_cell BK122.out 0).trans rfl; have hcz5_1 : w4.cell? ⟨gb122, 1, none⟩ = some (.int .u8 a0_1) := (blk_cell BK122.out 1).trans rfl; have hcz5_2 : w4.cell? ⟨gb122, 2, none⟩ = some (.int .u8 a0_2) := (blk_cell BK122.out 2).trans rfl; have hcz5_3 : w4.cell? ⟨gb122, 3, none⟩ = some (.slice A0_3 l0_3.length c0_3) := (blk_cell BK122.out 3).trans rfl; have hcz5_4 : w4.cell? ⟨gb122, 4, none⟩ = some (.int .u64 a0_4) := (blk_cell BK122.out 4).trans rfl; have hcz5_5 : w4.cell? ⟨gb122, 5, none⟩ = some (.bool true) := (blk_cell BK122.out 5).trans rfl; have hcz5_6 : w4.cell? ⟨gb122, 6, none⟩ = some (.string a0_6) := (blk_cell BK122.out 6).trans rfl; have hfz5_0 := blk_frozen BK122.out 0; have hfz5_1 := blk_frozen BK122.out 1; have hfz5_2 := blk_frozen BK122.out 2; have hfz5_3 := blk_frozen BK122.out 3; have hfz5_4 := blk_frozen BK122.out 4; have hfz5_5 := blk_frozen BK122.out 5; have hfz5_6 := blk_frozen BK122.out 6))
      go_ret
      exact ⟨by first | rfl | (simp [errW_none, errW_some] <;> rfl) | (simp [*, errW_none, errW_some] <;> rfl), by repeat (first | (with_reducible first | exact HB.out | apply below_alloc | apply pw_below_drewN | apply below_drew1 | refine below_set ?_ GE122.out) | exact HB.out)⟩
    · replace c3 := Bool.eq_false_iff.mpr c3
      subst c3
      have H1 : (some (⟨#[85, 78, 75, 78, 79, 87, 78]⟩ : ByteArray)) = some r := by rw [if_neg (show ¬ (false = true) by decide)] at H; exact H
      clear H
      have H := H1
      clear H1
      obtain rfl := Option.some.inj H
      go_enter Tryd.func28, Tryd.ntmps28
      go_wp2_with (first | ((with_reducible refine gate_dst (N := 1) rfl ?_); refine box_event ?hg (N := 1) ?hd (cs := #[.int .u8 a0_0, .int .u8 a0_1, .int .u8 a0_2, .slice A0_3 l0_3.length c0_3, .int .u64 a0_4, .bool false, .string a0_6]) (t := 27) ?hr ?_; (case hd => rfl); (case hg => rfl); (case hr => first | (go_simp; done) | (go_simp; rfl)); intro gb122 hg w6 hbox hb; have n0_ := Aside0.mk (below_step (by repeat (first | (with_reducible first | exact HB.out | apply below_alloc | apply pw_below_drewN | apply below_drew1) | exact HB.out)) hb); have n1_ := Aside0.mk (hbox); have n2_ := Aside0.mk ((by rw [hg]; exact (below_size (by repeat (first | (with_reducible first | exact HB.out | apply below_alloc | apply pw_below_drewN | apply below_drew1) | exact HB.out))) : w.heap.size ≤ gb122)); have n3_ := Aside0.mk ((by rw [hg]; exact (below_size (by repeat (first | (with_reducible first | exact HB.out | apply below_alloc | apply pw_below_drewN | apply below_drew1) | exact HB.out))) : w.heap.size ≤ gb122)); clear HB; have HB := n0_; have BK122 := n1_; have GW122 := n2_; have GE122 := n3_; clear n0_ n1_ n2_ n3_; clear hb hbox hg; have hcz7_0 : w6.cell? ⟨gb122, 0, none⟩ = some (.int .u8 a0_0) := (blk_cell BK122.out 0).trans rfl; have hcz7_1 : w6.cell? ⟨gb122, 1, none⟩ = some (.int .u8 a0_1) := (blk_cell BK122.out 1).trans rfl; have hcz7_2 : w6.cell? ⟨gb122, 2, none⟩ = some (.int .u8 a0_2) := (blk_cell BK122.out 2).trans rfl; have hcz7_3 : w6.cell? ⟨gb122, 3, none⟩ = some (.slice A0_3 l0_3.length c0_3) := (blk_cell BK122.out 3).trans rfl; have hcz7_4 : w6.cell? ⟨gb122, 4, none⟩ = some (.int .u64 a0_4) := (blk_cell BK122.out 4).trans rfl; have hcz7_5 : w6.cell? ⟨gb122, 5, none⟩ = some (.bool false) := (blk_cell BK122.out 5).trans rfl; have hcz7_6 : w6.cell? ⟨gb122, 6, none⟩ = some (.string a0_6) := (blk_cell BK122.out 6).trans rfl; have hfz7_0 := blk_frozen BK122.out 0; have hfz7_1 := blk_frozen BK122.out 1; have hfz7_2 := blk_frozen BK122.out 2; have hfz7_3 := blk_frozen BK122.out 3; have hfz7_4 := blk_frozen BK122.out 4; have hfz7_5 := blk_frozen BK122.out 5; have hfz7_6 := blk_frozen BK122.out 6))
      go_ret
      exact ⟨by first | rfl | (simp [errW_none, errW_some] <;> rfl) | (simp [*, errW_none, errW_some] <;> rfl), by repeat (first | (with_reducible first | exact HB.out | apply below_alloc | apply pw_below_drewN | apply below_drew1 | refine below_set ?_ GE122.out) | exact HB.out)⟩
  · rw [if_neg c2] at H
    have c2b0 : (a0_0 == 2) = false := beq_eq_false_iff_ne.mpr c2
    have c2b1 : (a0_0 != 2) = true := bne_iff_ne.mpr c2
    by_cases c8 : a0_0 = 3
    · rw [if_pos c8] at H
      have c8b0 : (a0_0 == 3) = true := beq_iff_eq.mpr c8
      have c8b1 : (a0_0 != 3) = false := bne_eq_false_iff_eq.mpr c8
      clear c8
      by_cases c9 : a0_5 = true
      · subst c9
        have H1 : (some (⟨#[84, 82, 65, 67, 75, 69, 68]⟩ : ByteArray)) = some r := by rw [if_pos rfl] at H; exact H
        clear H
        have H := H1
        clear H1
        obtain rfl := Option.some.inj H
        go_enter Tryd.func28, Tryd.ntmps28
        go_wp2_with (first | ((with_reducible refine gate_dst (N := 1) rfl ?_); refine box_event ?hg (N := 1) ?hd (cs := #[.int .u8 a0_0, .int .u8 a0_1, .int .u8 a0_2, .slice A0_3 l0_3.length c0_3, .int .u64 a0_4, .bool true, .string a0_6]) (t := 27) ?hr ?_; (case hd => rfl); (case hg => rfl); (case hr => first | (go_simp; done) | (go_simp; rfl)); intro gb122 hg w10 hbox hb; have n0_ := Aside0.mk (below_step (by repeat (first | (with_reducible first | exact HB.out | apply below_alloc | apply pw_below_drewN | apply below_drew1) | exact HB.out)) hb); have n1_ := Aside0.mk (hbox); have n2_ := Aside0.mk ((by rw [hg]; exact (below_size (by repeat (first | (with_reducible first | exact HB.out | apply below_alloc | apply pw_below_drewN | apply below_drew1) | exact HB.out))) : w.heap.size ≤ gb122)); have n3_ := Aside0.mk ((by rw [hg]; exact (below_size (by repeat (first | (with_reducible first | exact HB.out | apply below_alloc | apply pw_below_drewN | apply below_drew1) | exact HB.out))) : w.heap.size ≤ gb122)); clear HB; have HB := n0_; have BK122 := n1_; have GW122 := n2_; have GE122 := n3_; clear n0_ n1_ n2_ n3_; clear hb hbox hg; have hcz11_0 : w10.cell? ⟨gb122, 0, none⟩ = some (.int .u8 a0_0) := (blk_cell BK122.out 0).trans rfl; have hcz11_1 : w10.cell? ⟨gb122, 1, none⟩ = some (.int .u8 a0_1) := (blk_cell BK122.out 1).trans rfl; have hcz11_2 : w10.cell? ⟨gb122, 2, none⟩ = some (.int .u8 a0_2) := (blk_cell BK122.out 2).trans rfl; have hcz11_3 : w10.cell? ⟨gb122, 3, none⟩ = some (.slice A0_3 l0_3.length c0_3) := (blk_cell BK122.out 3).trans rfl; have hcz11_4 : w10.cell? ⟨gb122, 4, none⟩ = some (.int .u64 a0_4) := (blk_cell BK122.out 4).trans rfl; have hcz11_5 : w10.cell? ⟨gb122, 5, none⟩ = some (.bool true) := (blk_cell BK122.out 5).trans rfl; have hcz11_6 : w10.cell? ⟨gb122, 6, none⟩ = some (.string a0_6) := (blk_cell BK122.out 6).trans rfl; have hfz11_0 := blk_frozen BK122.out 0; have hfz11_1 := blk_frozen BK122.out 1; have hfz11_2 := blk_frozen BK122.out 2; have hfz11_3 := blk_frozen BK122.out 3; have hfz11_4 := blk_frozen BK122.out 4; have hfz11_5 := blk_frozen BK122.out 5; have hfz11_6 := blk_frozen BK122.out 6))
        go_ret
        exact ⟨by first | rfl | (simp [errW_none, errW_some] <;> rfl) | (simp [*, errW_none, errW_some] <;> rfl), by repeat (first | (with_reducible first | exact HB.out | apply below_alloc | apply pw_below_drewN | apply below_drew1 | refine below_set ?_ GE122.out) | exact HB.out)⟩
      · replace c9 := Bool.eq_false_iff.mpr c9
        subst c9
        have H1 : (some (⟨#[85, 78, 84, 82, 65, 67, 75, 69, 68]⟩ : ByteArray)) = some r := by rw [if_neg (show ¬ (false = true) by decide)] at H; exact H
        clear H
        have H := H1
        clear H1
        obtain rfl := Option.some.inj H
        go_enter Tryd.func28, Tryd.ntmps28
        go_wp2_with (first | ((with_reducible refine gate_dst (N := 1) rfl ?_); refine box_event ?hg (N := 1) ?hd (cs := #[.int .u8 a0_0, .int .u8 a0_1, .int .u8 a0_2, .slice A0_3 l0_3.length c0_3, .int .u64 a0_4, .bool false, .string a0_6]) (t := 27) ?hr ?_; (case hd => rfl); (case hg => rfl); (case hr => first | (go_simp; done) | (go_simp; rfl)); intro gb122 hg w12 hbox hb; have n0_ := Aside0.mk (below_step (by repeat (first | (with_reducible first | exact HB.out | apply below_alloc | apply pw_below_drewN | apply below_drew1) | exact HB.out)) hb); have n1_ := Aside0.mk (hbox); have n2_ := Aside0.mk ((by rw [hg]; exact (below_size (by repeat (first | (with_reducible first | exact HB.out | apply below_alloc | apply pw_below_drewN | apply below_drew1) | exact HB.out))) : w.heap.size ≤ gb122)); have n3_ := Aside0.mk ((by rw [hg]; exact (below_size (by repeat (first | (with_reducible first | exact HB.out | apply below_alloc | apply pw_below_drewN | apply below_drew1) | exact HB.out))) : w.heap.size ≤ gb122)); clear HB; have HB := n0_; have BK122 := n1_; have GW122 := n2_; have GE122 := n3_; clear n0_ n1_ n2_ n3_; clear hb hbox hg; have hcz13_0 : w12.cell? ⟨gb122, 0, none⟩ = some (.int .u8 a0_0) := (blk_cell BK122.out 0).trans rfl; have hcz13_1 : w12.cell? ⟨gb122, 1, none⟩ = some (.int .u8 a0_1) := (blk_cell BK122.out 1).trans rfl; have hcz13_2 : w12.cell? ⟨gb122, 2, none⟩ = some (.int .u8 a0_2) := (blk_cell BK122.out 2).trans rfl; have hcz13_3 : w12.cell? ⟨gb122, 3, none⟩ = some (.slice A0_3 l0_3.length c0_3) := (blk_cell BK122.out 3).trans rfl; have hcz13_4 : w12.cell? ⟨gb122, 4, none⟩ = some (.int .u64 a0_4) := (blk_cell BK122.out 4).trans rfl; have hcz13_5 : w12.cell? ⟨gb122, 5, none⟩ = some (.bool false) := (blk_cell BK122.out 5).trans rfl; have hcz13_6 : w12.cell? ⟨gb122, 6, none⟩ = some (.string a0_6) := (blk_cell BK122.out 6).trans rfl; have hfz13_0 := blk_frozen BK122.out 0; have hfz13_1 := blk_frozen BK122.out 1; have hfz13_2 := blk_frozen BK122.out 2; have hfz13_3 := blk_frozen BK122.out 3; have hfz13_4 := blk_frozen BK122.out 4; have hfz13_5 := blk_frozen BK122.out 5; have hfz13_6 := blk_frozen BK122.out 6))
        go_ret
        exact ⟨by first | rfl | (simp [errW_none, errW_some] <;> rfl) | (simp [*, errW_none, errW_some] <;> rfl), by repeat (first | (with_reducible first | exact HB.out | apply below_alloc | apply pw_below_drewN | apply below_drew1 | refine below_set ?_ GE122.out) | exact HB.out)⟩
    · rw [if_neg c8] at H
      have c8b0 : (a0_0 == 3) = false := beq_eq_false_iff_ne.mpr c8
      have c8b1 : (a0_0 != 3) = true := bne_iff_ne.mpr c8
      by_cases c14 : a0_0 = 4
      · rw [if_pos c14] at H
        have c14b0 : (a0_0 == 4) = true := beq_iff_eq.mpr c14
        have c14b1 : (a0_0 != 4) = false := bne_eq_false_iff_eq.mpr c14
        clear c14
        obtain rfl := Option.some.inj H
        go_enter Tryd.func28, Tryd.ntmps28
        go_wp2_with (first | ((with_reducible refine gate_dst (N := 1) rfl ?_); refine box_event ?hg (N := 1) ?hd (cs := #[.int .u8 a0_0, .int .u8 a0_1, .int .u8 a0_2, .slice A0_3 l0_3.length c0_3, .int .u64 a0_4, .bool a0_5, .string a0_6]) (t := 27) ?hr ?_; (case hd => rfl); (case hg => rfl); (case hr => first | (go_simp; done) | (go_simp; rfl)); intro gb122 hg w15 hbox hb; have n0_ := Aside0.mk (below_step (by repeat (first | (with_reducible first | exact HB.out | apply below_alloc | apply pw_below_drewN | apply below_drew1) | exact HB.out)) hb); have n1_ := Aside0.mk (hbox); have n2_ := Aside0.mk ((by rw [hg]; exact (below_size (by repeat (first | (with_reducible first | exact HB.out | apply below_alloc | apply pw_below_drewN | apply below_drew1) | exact HB.out))) : w.heap.size ≤ gb122)); have n3_ := Aside0.mk ((by rw [hg]; exact (below_size (by repeat (first | (with_reducible first | exact HB.out | apply below_alloc | apply pw_below_drewN | apply below_drew1) | exact HB.out))) : w.heap.size ≤ gb122)); clear HB; have HB := n0_; have BK122 := n1_; have GW122 := n2_; have GE122 := n3_; clear n0_ n1_ n2_ n3_; clear hb hbox hg; have hcz16_0 : w15.cell? ⟨gb122, 0, none⟩ = some (.int .u8 a0_0) := (blk_cell BK122.out 0).trans rfl; have hcz16_1 : w15.cell? ⟨gb122, 1, none⟩ = some (.int .u8 a0_1) := (blk_cell BK122.out 1).trans rfl; have hcz16_2 : w15.cell? ⟨gb122, 2, none⟩ = some (.int .u8 a0_2) := (blk_cell BK122.out 2).trans rfl; have hcz16_3 : w15.cell? ⟨gb122, 3, none⟩ = some (.slice A0_3 l0_3.length c0_3) := (blk_cell BK122.out 3).trans rfl; have hcz16_4 : w15.cell? ⟨gb122, 4, none⟩ = some (.int .u64 a0_4) := (blk_cell BK122.out 4).trans rfl; have hcz16_5 : w15.cell? ⟨gb122, 5, none⟩ = some (.bool a0_5) := (blk_cell BK122.out 5).trans rfl; have hcz16_6 : w15.cell? ⟨gb122, 6, none⟩ = some (.string a0_6) := (blk_cell BK122.out 6).trans rfl; have hfz16_0 := blk_frozen BK122.out 0; have hfz16_1 := blk_frozen BK122.out 1; have hfz16_2 := blk_frozen BK122.out 2; have hfz16_3 := blk_frozen BK122.out 3; have hfz16_4 := blk_frozen BK122.out 4; have hfz16_5 := blk_frozen BK122.out 5; have hfz16_6 := blk_frozen BK122.out 6))
        go_ret
        exact ⟨by first | rfl | (simp [errW_none, errW_some] <;> rfl) | (simp [*, errW_none, errW_some] <;> rfl), by repeat (first | (with_reducible first | exact HB.out | apply below_alloc | apply pw_below_drewN | apply below_drew1 | refine below_set ?_ GE122.out) | exact HB.out)⟩
      · rw [if_neg c14] at H
        have c14b0 : (a0_0 == 4) = false := beq_eq_false_iff_ne.mpr c14
        have c14b1 : (a0_0 != 4) = true := bne_iff_ne.mpr c14
        by_cases c17 : a0_0 = 5
        · rw [if_pos c17] at H
          have c17b0 : (a0_0 == 5) = true := beq_iff_eq.mpr c17
          have c17b1 : (a0_0 != 5) = false := bne_eq_false_iff_eq.mpr c17
          clear c17
          obtain rfl := Option.some.inj H
          go_enter Tryd.func28, Tryd.ntmps28
          go_wp2_with (first | ((with_reducible refine gate_dst (N := 1) rfl ?_); refine box_event ?hg (N := 1) ?hd (cs := #[.int .u8 a0_0, .int .u8 a0_1, .int .u8 a0_2, .slice A0_3 l0_3.length c0_3, .int .u64 a0_4, .bool a0_5, .string a0_6]) (t := 27) ?hr ?_; (case hd => rfl); (case hg => rfl); (case hr => first | (go_simp; done) | (go_simp; rfl)); intro gb122 hg w18 hbox hb; have n0_ := Aside0.mk (below_step (by repeat (first | (with_reducible first | exact HB.out | apply below_alloc | apply pw_below_drewN | apply below_drew1) | exact HB.out)) hb); have n1_ := Aside0.mk (hbox); have n2_ := Aside0.mk ((by rw [hg]; exact (below_size (by repeat (first | (with_reducible first | exact HB.out | apply below_alloc | apply pw_below_drewN | apply below_drew1) | exact HB.out))) : w.heap.size ≤ gb122)); have n3_ := Aside0.mk ((by rw [hg]; exact (below_size (by repeat (first | (with_reducible first | exact HB.out | apply below_alloc | apply pw_below_drewN | apply below_drew1) | exact HB.out))) : w.heap.size ≤ gb122)); clear HB; have HB := n0_; have BK122 := n1_; have GW122 := n2_; have GE122 := n3_; clear n0_ n1_ n2_ n3_; clear hb hbox hg; have hcz19_0 : w18.cell? ⟨gb122, 0, none⟩ = some (.int .u8 a0_0) := (blk_cell BK122.out 0).trans rfl; have hcz19_1 : w18.cell? ⟨gb122, 1, none⟩ = some (.int .u8 a0_1) := (blk_cell BK122.out 1).trans rfl; have hcz19_2 : w18.cell? ⟨gb122, 2, none⟩ = some (.int .u8 a0_2) := (blk_cell BK122.out 2).trans rfl; have hcz19_3 : w18.cell? ⟨gb122, 3, none⟩ = some (.slice A0_3 l0_3.length c0_3) := (blk_cell BK122.out 3).trans rfl; have hcz19_4 : w18.cell? ⟨gb122, 4, none⟩ = some (.int .u64 a0_4) := (blk_cell BK122.out 4).trans rfl; have hcz19_5 : w18.cell? ⟨gb122, 5, none⟩ = some (.bool a0_5) := (blk_cell BK122.out 5).trans rfl; have hcz19_6 : w18.cell? ⟨gb122, 6, none⟩ = some (.string a0_6) := (blk_cell BK122.out 6).trans rfl; have hfz19_0 := blk_frozen BK122.out 0; have hfz19_1 := blk_frozen BK122.out 1; have hfz19_2 := blk_frozen BK122.out 2; have hfz19_3 := blk_frozen BK122.out 3; have hfz19_4 := blk_frozen BK122.out 4; have hfz19_5 := blk_frozen BK122.out 5; have hfz19_6 := blk_frozen BK122.out 6))
          go_ret
          exact ⟨by first | rfl | (simp [errW_none, errW_some] <;> rfl) | (simp [*, errW_none, errW_some] <;> rfl), by repeat (first | (with_reducible first | exact HB.out | apply below_alloc | apply pw_below_drewN | apply below_drew1 | refine below_set ?_ GE122.out) | exact HB.out)⟩
        · rw [if_neg c17] at H
          have c17b0 : (a0_0 == 5) = false := beq_eq_false_iff_ne.mpr c17
          have c17b1 : (a0_0 != 5) = true := bne_iff_ne.mpr c17
          by_cases c20 : a0_0 = 6
          · rw [if_pos c20] at H
            have c20b0 : (a0_0 == 6) = true := beq_iff_eq.mpr c20
            have c20b1 : (a0_0 != 6) = false := bne_eq_false_iff_eq.mpr c20
            clear c20
            obtain rfl := Option.some.inj H
            go_enter Tryd.func28, Tryd.ntmps28
            go_wp2_with (first | ((with_reducible refine gate_dst (N := 1) rfl ?_); refine box_event ?hg (N := 1) ?hd (cs := #[.int .u8 a0_0, .int .u8 a0_1, .int .u8 a0_2, .slice A0_3 l0_3.length c0_3, .int .u64 a0_4, .bool a0_5, .string a0_6]) (t := 27) ?hr ?_; (case hd => rfl); (case hg => rfl); (case hr => first | (go_simp; done) | (go_simp; rfl)); intro gb122 hg w21 hbox hb; have n0_ := Aside0.mk (below_step (by repeat (first | (with_reducible first | exact HB.out | apply below_alloc | apply pw_below_drewN | apply below_drew1) | exact HB.out)) hb); have n1_ := Aside0.mk (hbox); have n2_ := Aside0.mk ((by rw [hg]; exact (below_size (by repeat (first | (with_reducible first | exact HB.out | apply below_alloc | apply pw_below_drewN | apply below_drew1) | exact HB.out))) : w.heap.size ≤ gb122)); have n3_ := Aside0.mk ((by rw [hg]; exact (below_size (by repeat (first | (with_reducible first | exact HB.out | apply below_alloc | apply pw_below_drewN | apply below_drew1) | exact HB.out))) : w.heap.size ≤ gb122)); clear HB; have HB := n0_; have BK122 := n1_; have GW122 := n2_; have GE122 := n3_; clear n0_ n1_ n2_ n3_; clear hb hbox hg; have hcz22_0 : w21.cell? ⟨gb122, 0, none⟩ = some (.int .u8 a0_0) := (blk_cell BK122.out 0).trans rfl; have hcz22_1 : w21.cell? ⟨gb122, 1, none⟩ = some (.int .u8 a0_1) := (blk_cell BK122.out 1).trans rfl; have hcz22_2 : w21.cell? ⟨gb122, 2, none⟩ = some (.int .u8 a0_2) := (blk_cell BK122.out 2).trans rfl; have hcz22_3 : w21.cell? ⟨gb122, 3, none⟩ = some (.slice A0_3 l0_3.length c0_3) := (blk_cell BK122.out 3).trans rfl; have hcz22_4 : w21.cell? ⟨gb122, 4, none⟩ = some (.int .u64 a0_4) := (blk_cell BK122.out 4).trans rfl; have hcz22_5 : w21.cell? ⟨gb122, 5, none⟩ = some (.bool a0_5) := (blk_cell BK122.out 5).trans rfl; have hcz22_6 : w21.cell? ⟨gb122, 6, none⟩ = some (.string a0_6) := (blk_cell BK122.out 6).trans rfl; have hfz22_0 := blk_frozen BK122.out 0; have hfz22_1 := blk_frozen BK122.out 1; have hfz22_2 := blk_frozen BK122.out 2; have hfz22_3 := blk_frozen BK122.out 3; have hfz22_4 := blk_frozen BK122.out 4; have hfz22_5 := blk_frozen BK122.out 5; have hfz22_6 := blk_frozen BK122.out 6))
            go_ret
            exact ⟨by first | rfl | (simp [errW_none, errW_some] <;> rfl) | (simp [*, errW_none, errW_some] <;> rfl), by repeat (first | (with_reducible first | exact HB.out | apply below_alloc | apply pw_below_drewN | apply below_drew1 | refine below_set ?_ GE122.out) | exact HB.out)⟩
          · rw [if_neg c20] at H
            have c20b0 : (a0_0 == 6) = false := beq_eq_false_iff_ne.mpr c20
            have c20b1 : (a0_0 != 6) = true := bne_iff_ne.mpr c20
            by_cases c23 : a0_0 = 7
            · rw [if_pos c23] at H
              have c23b0 : (a0_0 == 7) = true := beq_iff_eq.mpr c23
              have c23b1 : (a0_0 != 7) = false := bne_eq_false_iff_eq.mpr c23
              clear c23
              by_cases c24 : 5 + a0_6.size ≤ 9223372036854775807
              · rw [if_pos c24] at H
                have c24b0 := eq_true c24
                have c24b1 : decide (5 + a0_6.size ≤ 9223372036854775807) = true := decide_eq_true c24
                try have c24b2 : (9223372036854775807 < 5 + a0_6.size) = False := eq_false (Nat.not_lt.2 c24)
                try (have c24b3 := c24b2; simp only [ByteArray.size_append, x_size_lit, List.size_toArray, List.length_cons, List.length_nil, Nat.zero_add, Nat.reduceAdd] at c24b3)
                obtain rfl := Option.some.inj H
                go_enter Tryd.func28, Tryd.ntmps28
                go_wp2_with (first | ((with_reducible refine gate_dst (N := 1) rfl ?_); refine box_event ?hg (N := 1) ?hd (cs := #[.int .u8 a0_0, .int .u8 a0_1, .int .u8 a0_2, .slice A0_3 l0_3.length c0_3, .int .u64 a0_4, .bool a0_5, .string a0_6]) (t := 27) ?hr ?_; (case hd => rfl); (case hg => rfl); (case hr => first | (go_simp; done) | (go_simp; rfl)); intro gb122 hg w25 hbox hb; have n0_ := Aside0.mk (below_step (by repeat (first | (with_reducible first | exact HB.out | apply below_alloc | apply pw_below_drewN | apply below_drew1) | exact HB.out)) hb); have n1_ := Aside0.mk (hbox); have n2_ := Aside0.mk ((by rw [hg]; exact (below_size (by repeat (first | (with_reducible first | exact HB.out | apply below_alloc | apply pw_below_drewN | apply below_drew1) | exact HB.out))) : w.heap.size ≤ gb122)); have n3_ := Aside0.mk ((by rw [hg]; exact (below_size (by repeat (first | (with_reducible first | exact HB.out | apply below_alloc | apply pw_below_drewN | apply below_drew1) | exact HB.out))) : w.heap.size ≤ gb122)); clear HB; have HB := n0_; have BK122 := n1_; have GW122 := n2_; have GE122 := n3_; clear n0_ n1_ n2_ n3_; clear hb hbox hg; have hcz26_0 : w25.cell? ⟨gb122, 0, none⟩ = some (.int .u8 a0_0) := (blk_cell BK122.out 0).trans rfl; have hcz26_1 : w25.cell? ⟨gb122, 1, none⟩ = some (.int .u8 a0_1) := (blk_cell BK122.out 1).trans rfl; have hcz26_2 : w25.cell? ⟨gb122, 2, none⟩ = some (.int .u8 a0_2) := (blk_cell BK122.out 2).trans rfl; have hcz26_3 : w25.cell? ⟨gb122, 3, none⟩ = some (.slice A0_3 l0_3.length c0_3) := (blk_cell BK122.out 3).trans rfl; have hcz26_4 : w25.cell? ⟨gb122, 4, none⟩ = some (.int .u64 a0_4) := (blk_cell BK122.out 4).trans rfl; have hcz26_5 : w25.cell? ⟨gb122, 5, none⟩ = some (.bool a0_5) := (blk_cell BK122.out 5).trans rfl; have hcz26_6 : w25.cell? ⟨gb122, 6, none⟩ = some (.string a0_6) := (blk_cell BK122.out 6).trans rfl; have hfz26_0 := blk_frozen BK122.out 0; have hfz26_1 := blk_frozen BK122.out 1; have hfz26_2 := blk_frozen BK122.out 2; have hfz26_3 := blk_frozen BK122.out 3; have hfz26_4 := blk_frozen BK122.out 4; have hfz26_5 := blk_frozen BK122.out 5; have hfz26_6 := blk_frozen BK122.out 6))
                go_ret
                exact ⟨by first | rfl | (simp [errW_none, errW_some] <;> rfl) | (simp [*, errW_none, errW_some] <;> rfl), by repeat (first | (with_reducible first | exact HB.out | apply below_alloc | apply pw_below_drewN | apply below_drew1 | refine below_set ?_ GE122.out) | exact HB.out)⟩
              · rw [if_neg c24] at H
                exact absurd H (by simp)
            · rw [if_neg c23] at H
              have c23b0 : (a0_0 == 7) = false := beq_eq_false_iff_ne.mpr c23
              have c23b1 : (a0_0 != 7) = true := bne_iff_ne.mpr c23
              by_cases c27 : a0_2 = 1
              · rw [if_pos c27] at H
                have c27b0 : (a0_2 == 1) = true := beq_iff_eq.mpr c27
                have c27b1 : (a0_2 != 1) = false := bne_eq_false_iff_eq.mpr c27
                clear c27
                have H' := Aside0.mk H
                clear H
                go_enter Tryd.func28, Tryd.ntmps28
                go_wp2_with (first | ((with_reducible refine gate_dst (N := 1) rfl ?_); refine box_event ?hg (N := 1) ?hd (cs := #[.int .u8 a0_0, .int .u8 a0_1, .int .u8 a0_2, .slice A0_3 l0_3.length c0_3, .int .u64 a0_4, .bool a0_5, .string a0_6]) (t := 27) ?hr ?_; (case hd => rfl); (case hg => rfl); (case hr => first | (go_simp; done) | (go_simp; rfl)); intro gb122 hg w28 hbox hb; have n0_ := Aside0.mk (below_step (by repeat (first | (with_reducible first | exact HB.out | apply below_alloc | apply pw_below_drewN | apply below_drew1) | exact HB.out)) hb); have n1_ := Aside0.mk (hbox); have n2_ := Aside0.mk ((by rw [hg]; exact (below_size (by repeat (first | (with_reducible first | exact HB.out | apply below_alloc | apply pw_below_drewN | apply below_drew1) | exact HB.out))) : w.heap.size ≤ gb122)); have n3_ := Aside0.mk ((by rw [hg]; exact (below_size (by repeat (first | (with_reducible first | exact HB.out | apply below_alloc | apply pw_below_drewN | apply below_drew1) | exact HB.out))) : w.heap.size ≤ gb122)); clear HB; have HB := n0_; have BK122 := n1_; have GW122 := n2_; have GE122 := n3_; clear n0_ n1_ n2_ n3_; clear hb hbox hg; have hcz29_0 : w28.cell? ⟨gb122, 0, none⟩ = some (.int .u8 a0_0) := (blk_cell BK122.out 0).trans rfl; have hcz29_1 : w28.cell? ⟨gb122, 1, none⟩ = some (.int .u8 a0_1) := (blk_cell BK122.out 1).trans rfl; have hcz29_2 : w28.cell? ⟨gb122, 2, none⟩ = some (.int .u8 a0_2) := (blk_cell BK122.out 2).trans rfl; have hcz29_3 : w28.cell? ⟨gb122, 3, none⟩ = some (.slice A0_3 l0_3.length c0_3) := (blk_cell BK122.out 3).trans rfl; have hcz29_4 : w28.cell? ⟨gb122, 4, none⟩ = some (.int .u64 a0_4) := (blk_cell BK122.out 4).trans rfl; have hcz29_5 : w28.cell? ⟨gb122, 5, none⟩ = some (.bool a0_5) := (blk_cell BK122.out 5).trans rfl; have hcz29_6 : w28.cell? ⟨gb122, 6, none⟩ = some (.string a0_6) := (blk_cell BK122.out 6).trans rfl; have hfz29_0 := blk_frozen BK122.out 0; have hfz29_1 := blk_frozen BK122.out 1; have hfz29_2 := blk_frozen BK122.out 2; have hfz29_3 := blk_frozen BK122.out 3; have hfz29_4 := blk_frozen BK122.out 4; have hfz29_5 := blk_frozen BK122.out 5; have hfz29_6 := blk_frozen BK122.out 6))
                go_loopg [3, 4] k (fun kq v3 v4 w' => ∃ (x3_1 : ByteArray) (x4_1 : Int), v3 = .string x3_1 ∧ v4 = .int .i64 x4_1 ∧ Aside0 (cloakroomref15_Lines.l0 kq x3_1 x4_1 a0_0 a0_1 a0_2 l0_3 a0_4 a0_5 a0_6 = some r) ∧ Aside0 (kq ≤ k) ∧ Aside0 (w'.heap[gb122]? = some (.cells #[.int .u8 a0_0, .int .u8 a0_1, .int .u8 a0_2, (.slice A0_3 l0_3.length c0_3), .int .u64 a0_4, .bool a0_5, .string a0_6] 27 (0, 0))) ∧ Aside0 (Below w.heap.size w w'))
                case atStart => exact ⟨((⟨#[]⟩ : ByteArray)), (0), (by first | rfl | (simp; done) | (simp [*]; done) | exact x_nonempty _ | (simp [x_nonempty]; done)), (by first | rfl | (simp; done) | (simp [*]; done) | exact x_nonempty _ | (simp [x_nonempty]; done)), H', ⟨Nat.le_refl _⟩, ⟨by (with_reducible repeat (first | refine blk_drewN ?_ _ | refine blk_drew ?_ | refine blk_alloc ?_ _)); exact BK122.out⟩, ⟨by repeat (first | (with_reducible first | exact HB.out | apply below_alloc | apply pw_below_drewN | apply below_drew1 | refine below_set ?_ GE122.out) | exact HB.out)⟩⟩
                case round =>
                  clear H'
                  (try clear c1); (try clear c2); (try clear c2b0); (try clear c2b1); (try clear p2); (try clear c3); (try clear c8); (try clear c8b0); (try clear c8b1); (try clear c9); (try clear c14); (try clear c14b0); (try clear c14b1); (try clear c17); (try clear c17b0); (try clear c17b1); (try clear c20); (try clear c20b0); (try clear c20b1); (try clear c23); (try clear c23b0); (try clear c23b1); (try clear c24); (try clear c24b0); (try clear c24b1); (try clear c24b2); (try clear c27); (try clear c27b0); (try clear c27b1); (try clear c28); (try clear hcz11_0); (try clear hcz11_1); (try clear hcz11_2); (try clear hcz11_3); (try clear hcz11_4); (try clear hcz11_5); (try clear hcz11_6); (try clear hcz13_0); (try clear hcz13_1); (try clear hcz13_2); (try clear hcz13_3); (try clear hcz13_4); (try clear hcz13_5); (try clear hcz13_6); (try clear hcz16_0); (try clear hcz16_1); (try clear hcz16_2); (try clear hcz16_3); (try clear hcz16_4); (try clear hcz16_5); (try clear hcz16_6); (try clear hcz19_0); (try clear hcz19_1); (try clear hcz19_2); (try clear hcz19_3); (try clear hcz19_4); (try clear hcz19_5); (try clear hcz19_6); (try clear hcz22_0); (try clear hcz22_1); (try clear hcz22_2); (try clear hcz22_3); (try clear hcz22_4); (try clear hcz22_5); (try clear hcz22_6); (try clear hcz26_0); (try clear hcz26_1); (try clear hcz26_2); (try clear hcz26_3); (try clear hcz26_4); (try clear hcz26_5); (try clear hcz26_6); (try clear hcz29_0); (try clear hcz29_1); (try clear hcz29_2); (try clear hcz29_3); (try clear hcz29_4); (try clear hcz29_5); (try clear hcz29_6); (try clear hcz5_0); (try clear hcz5_1); (try clear hcz5_2); (try clear hcz5_3); (try clear hcz5_4); (try clear hcz5_5); (try clear hcz5_6); (try clear hcz7_0); (try clear hcz7_1); (try clear hcz7_2); (try clear hcz7_3); (try clear hcz7_4); (try clear hcz7_5); (try clear hcz7_6); (try clear hfz11_0); (try clear hfz11_1); (try clear hfz11_2); (try clear hfz11_3); (try clear hfz11_4); (try clear hfz11_5); (try clear hfz11_6); (try clear hfz13_0); (try clear hfz13_1); (try clear hfz13_2); (try clear hfz13_3); (try clear hfz13_4); (try clear hfz13_5); (try clear hfz13_6); (try clear hfz16_0); (try clear hfz16_1); (try clear hfz16_2); (try clear hfz16_3); (try clear hfz16_4); (try clear hfz16_5); (try clear hfz16_6); (try clear hfz19_0); (try clear hfz19_1); (try clear hfz19_2); (try clear hfz19_3); (try clear hfz19_4); (try clear hfz19_5); (try clear hfz19_6); (try clear hfz22_0); (try clear hfz22_1); (try clear hfz22_2); (try clear hfz22_3); (try clear hfz22_4); (try clear hfz22_5); (try clear hfz22_6); (try clear hfz26_0); (try clear hfz26_1); (try clear hfz26_2); (try clear hfz26_3); (try clear hfz26_4); (try clear hfz26_5); (try clear hfz26_6); (try clear hfz29_0); (try clear hfz29_1); (try clear hfz29_2); (try clear hfz29_3); (try clear hfz29_4); (try clear hfz29_5); (try clear hfz29_6); (try clear hfz5_0); (try clear hfz5_1); (try clear hfz5_2); (try clear hfz5_3); (try clear hfz5_4); (try clear hfz5_5); (try clear hfz5_6); (try clear hfz7_0); (try clear hfz7_1); (try clear hfz7_2); (try clear hfz7_3); (try clear hfz7_4); (try clear hfz7_5); (try clear hfz7_6)
                  obtain ⟨x3_1, x4_1, rfl, rfl, HA, HK1, BK122, HB⟩ := hrel
                  cases gk with
                  | zero => exact absurd HA.out (by simp [cloakroomref15_Lines.l0])
                  | succ k1 =>
                    have H := HA.out
                    clear HA
                    simp only [cloakroomref15_Lines.l0] at H
                    by_cases c30 : x4_1 < (l0_3.length : Int)
                    · rw [if_pos c30] at H
                      have c30b0 : decide (x4_1 < (l0_3.length : Int)) = true := decide_eq_true c30
                      clear c30
                      by_cases c31 : 0 ≤ x4_1
                      · rw [if_pos c31] at H
                        have c31b0 : decide (0 ≤ x4_1) = true := decide_eq_true c31
                        clear c31
                        by_cases c32 : x3_1.size + 6 ≤ 9223372036854775807
                        · rw [if_pos c32] at H
                          have c32b0 := eq_true c32
                          have c32b1 : decide (x3_1.size + 6 ≤ 9223372036854775807) = true := decide_eq_true c32
                          try have c32b2 : (9223372036854775807 < x3_1.size + 6) = False := eq_false (Nat.not_lt.2 c32)
                          try (have c32b3 := c32b2; simp only [ByteArray.size_append, x_size_lit, List.size_toArray, List.length_cons, List.length_nil, Nat.zero_add, Nat.reduceAdd] at c32b3)
                          by_cases c33 : (x3_1 ++ (⟨#[86, 65, 76, 85, 69, 32]⟩ : ByteArray)).size + ((rd_T56 l0_3 x4_1).f0).size ≤ 9223372036854775807
                          · rw [if_pos c33] at H
                            have c33b0 := eq_true c33
                            have c33b1 : decide ((x3_1 ++ (⟨#[86, 65, 76, 85, 69, 32]⟩ : ByteArray)).size + ((rd_T56 l0_3 x4_1).f0).size ≤ 9223372036854775807) = true := decide_eq_true c33
                            try have c33b2 : (9223372036854775807 < (x3_1 ++ (⟨#[86, 65, 76, 85, 69, 32]⟩ : ByteArray)).size + ((rd_T56 l0_3 x4_1).f0).size) = False := eq_false (Nat.not_lt.2 c33)
                            try (have c33b3 := c33b2; simp only [ByteArray.size_append, x_size_lit, List.size_toArray, List.length_cons, List.length_nil, Nat.zero_add, Nat.reduceAdd] at c33b3)
                            by_cases c34 : ((x3_1 ++ (⟨#[86, 65, 76, 85, 69, 32]⟩ : ByteArray)) ++ ((rd_T56 l0_3 x4_1).f0)).size + 1 ≤ 9223372036854775807
                            · rw [if_pos c34] at H
                              have c34b0 := eq_true c34
                              have c34b1 : decide (((x3_1 ++ (⟨#[86, 65, 76, 85, 69, 32]⟩ : ByteArray)) ++ ((rd_T56 l0_3 x4_1).f0)).size + 1 ≤ 9223372036854775807) = true := decide_eq_true c34
                              try have c34b2 : (9223372036854775807 < ((x3_1 ++ (⟨#[86, 65, 76, 85, 69, 32]⟩ : ByteArray)) ++ ((rd_T56 l0_3 x4_1).f0)).size + 1) = False := eq_false (Nat.not_lt.2 c34)
                              try (have c34b3 := c34b2; simp only [ByteArray.size_append, x_size_lit, List.size_toArray, List.length_cons, List.length_nil, Nat.zero_add, Nat.reduceAdd] at c34b3)
                              replace H := Option.bind_eq_some_iff.mp H
                              obtain ⟨t126, A350, H⟩ := H
                              replace H : (if (((x3_1 ++ (⟨#[86, 65, 76, 85, 69, 32]⟩ : ByteArray)) ++ ((rd_T56 l0_3 x4_1).f0)) ++ (⟨#[32]⟩ : ByteArray)).size + t126.size ≤ 9223372036854775807 then (if ((((x3_1 ++ (⟨#[86, 65, 76, 85, 69, 32]⟩ : ByteArray)) ++ ((rd_T56 l0_3 x4_1).f0)) ++ (⟨#[32]⟩ : ByteArray)) ++ t126).size + 1 ≤ 9223372036854775807 then ((cloakroomref09_Text.f k1 (IntKind.u64.wrap ((rd_T56 l0_3 x4_1).f3))).bind fun t127 => (if (((((x3_1 ++ (⟨#[86, 65, 76, 85, 69, 32]⟩ : ByteArray)) ++ ((rd_T56 l0_3 x4_1).f0)) ++ (⟨#[32]⟩ : ByteArray)) ++ t126) ++ (⟨#[32]⟩ : ByteArray)).size + t127.size ≤ 9223372036854775807 then (if ((((((x3_1 ++ (⟨#[86, 65, 76, 85, 69, 32]⟩ : ByteArray)) ++ ((rd_T56 l0_3 x4_1).f0)) ++ (⟨#[32]⟩ : ByteArray)) ++ t126) ++ (⟨#[32]⟩ : ByteArray)) ++ t127).size + 1 ≤ 9223372036854775807 then ((cloakroomref09_Text.f k1 ((rd_T56 l0_3 x4_1).f4)).bind fun t128 => (if (((((((x3_1 ++ (⟨#[86, 65, 76, 85, 69, 32]⟩ : ByteArray)) ++ ((rd_T56 l0_3 x4_1).f0)) ++ (⟨#[32]⟩ : ByteArray)) ++ t126) ++ (⟨#[32]⟩ : ByteArray)) ++ t127) ++ (⟨#[32]⟩ : ByteArray)).size + t128.size ≤ 9223372036854775807 then (if ((((((((x3_1 ++ (⟨#[86, 65, 76, 85, 69, 32]⟩ : ByteArray)) ++ ((rd_T56 l0_3 x4_1).f0)) ++ (⟨#[32]⟩ : ByteArray)) ++ t126) ++ (⟨#[32]⟩ : ByteArray)) ++ t127) ++ (⟨#[32]⟩ : ByteArray)) ++ t128).size + 1 ≤ 9223372036854775807 then ((cloakroomref09_Text.f k1 (IntKind.u64.wrap ((((rd_T56 l0_3 x4_1).f1).size : Int)))).bind fun t129 => (if (((((((((x3_1 ++ (⟨#[86, 65, 76, 85, 69, 32]⟩ : ByteArray)) ++ ((rd_T56 l0_3 x4_1).f0)) ++ (⟨#[32]⟩ : ByteArray)) ++ t126) ++ (⟨#[32]⟩ : ByteArray)) ++ t127) ++ (⟨#[32]⟩ : ByteArray)) ++ t128) ++ (⟨#[32]⟩ : ByteArray)).size + t129.size ≤ 9223372036854775807 then (if ((((((((((x3_1 ++ (⟨#[86, 65, 76, 85, 69, 32]⟩ : ByteArray)) ++ ((rd_T56 l0_3 x4_1).f0)) ++ (⟨#[32]⟩ : ByteArray)) ++ t126) ++ (⟨#[32]⟩ : ByteArray)) ++ t127) ++ (⟨#[32]⟩ : ByteArray)) ++ t128) ++ (⟨#[32]⟩ : ByteArray)) ++ t129).size + 2 ≤ 9223372036854775807 then (if (((((((((((x3_1 ++ (⟨#[86, 65, 76, 85, 69, 32]⟩ : ByteArray)) ++ ((rd_T56 l0_3 x4_1).f0)) ++ (⟨#[32]⟩ : ByteArray)) ++ t126) ++ (⟨#[32]⟩ : ByteArray)) ++ t127) ++ (⟨#[32]⟩ : ByteArray)) ++ t128) ++ (⟨#[32]⟩ : ByteArray)) ++ t129) ++ (⟨#[13, 10]⟩ : ByteArray)).size + ((rd_T56 l0_3 x4_1).f1).size ≤ 9223372036854775807 then (if ((((((((((((x3_1 ++ (⟨#[86, 65, 76, 85, 69, 32]⟩ : ByteArray)) ++ ((rd_T56 l0_3 x4_1).f0)) ++ (⟨#[32]⟩ : ByteArray)) ++ t126) ++ (⟨#[32]⟩ : ByteArray)) ++ t127) ++ (⟨#[32]⟩ : ByteArray)) ++ t128) ++ (⟨#[32]⟩ : ByteArray)) ++ t129) ++ (⟨#[13, 10]⟩ : ByteArray)) ++ ((rd_T56 l0_3 x4_1).f1)).size + 2 ≤ 9223372036854775807 then (cloakroomref15_Lines.l0 k1 (((((((((((((x3_1 ++ (⟨#[86, 65, 76, 85, 69, 32]⟩ : ByteArray)) ++ ((rd_T56 l0_3 x4_1).f0)) ++ (⟨#[32]⟩ : ByteArray)) ++ t126) ++ (⟨#[32]⟩ : ByteArray)) ++ t127) ++ (⟨#[32]⟩ : ByteArray)) ++ t128) ++ (⟨#[32]⟩ : ByteArray)) ++ t129) ++ (⟨#[13, 10]⟩ : ByteArray)) ++ ((rd_T56 l0_3 x4_1).f1)) ++ (⟨#[13, 10]⟩ : ByteArray)) (wrap64 (x4_1 + 1)) a0_0 a0_1 a0_2 l0_3 a0_4 a0_5 a0_6) else (none)) else (none)) else (none)) else (none))) else (none)) else (none))) else (none)) else (none))) else (none)) else (none)) = some r := H
                              have A35 := Aside0.mk A350
                              clear A350
                              by_cases c36 : (((x3_1 ++ (⟨#[86, 65, 76, 85, 69, 32]⟩ : ByteArray)) ++ ((rd_T56 l0_3 x4_1).f0)) ++ (⟨#[32]⟩ : ByteArray)).size + t126.size ≤ 9223372036854775807
                              · rw [if_pos c36] at H
                                have c36b0 := eq_true c36
                                have c36b1 : decide ((((x3_1 ++ (⟨#[86, 65, 76, 85, 69, 32]⟩ : ByteArray)) ++ ((rd_T56 l0_3 x4_1).f0)) ++ (⟨#[32]⟩ : ByteArray)).size + t126.size ≤ 9223372036854775807) = true := decide_eq_true c36
                                try have c36b2 : (9223372036854775807 < (((x3_1 ++ (⟨#[86, 65, 76, 85, 69, 32]⟩ : ByteArray)) ++ ((rd_T56 l0_3 x4_1).f0)) ++ (⟨#[32]⟩ : ByteArray)).size + t126.size) = False := eq_false (Nat.not_lt.2 c36)
                                try (have c36b3 := c36b2; simp only [ByteArray.size_append, x_size_lit, List.size_toArray, List.length_cons, List.length_nil, Nat.zero_add, Nat.reduceAdd] at c36b3)
                                by_cases c37 : ((((x3_1 ++ (⟨#[86, 65, 76, 85, 69, 32]⟩ : ByteArray)) ++ ((rd_T56 l0_3 x4_1).f0)) ++ (⟨#[32]⟩ : ByteArray)) ++ t126).size + 1 ≤ 9223372036854775807
                                · rw [if_pos c37] at H
                                  have c37b0 := eq_true c37
                                  have c37b1 : decide (((((x3_1 ++ (⟨#[86, 65, 76, 85, 69, 32]⟩ : ByteArray)) ++ ((rd_T56 l0_3 x4_1).f0)) ++ (⟨#[32]⟩ : ByteArray)) ++ t126).size + 1 ≤ 9223372036854775807) = true := decide_eq_true c37
                                  try have c37b2 : (9223372036854775807 < ((((x3_1 ++ (⟨#[86, 65, 76, 85, 69, 32]⟩ : ByteArray)) ++ ((rd_T56 l0_3 x4_1).f0)) ++ (⟨#[32]⟩ : ByteArray)) ++ t126).size + 1) = False := eq_false (Nat.not_lt.2 c37)
                                  try (have c37b3 := c37b2; simp only [ByteArray.size_append, x_size_lit, List.size_toArray, List.length_cons, List.length_nil, Nat.zero_add, Nat.reduceAdd] at c37b3)
                                  replace H := Option.bind_eq_some_iff.mp H
                                  obtain ⟨t127, A380, H⟩ := H
                                  replace H : (if (((((x3_1 ++ (⟨#[86, 65, 76, 85, 69, 32]⟩ : ByteArray)) ++ ((rd_T56 l0_3 x4_1).f0)) ++ (⟨#[32]⟩ : ByteArray)) ++ t126) ++ (⟨#[32]⟩ : ByteArray)).size + t127.size ≤ 9223372036854775807 then (if ((((((x3_1 ++ (⟨#[86, 65, 76, 85, 69, 32]⟩ : ByteArray)) ++ ((rd_T56 l0_3 x4_1).f0)) ++ (⟨#[32]⟩ : ByteArray)) ++ t126) ++ (⟨#[32]⟩ : ByteArray)) ++ t127).size + 1 ≤ 9223372036854775807 then ((cloakroomref09_Text.f k1 ((rd_T56 l0_3 x4_1).f4)).bind fun t128 => (if (((((((x3_1 ++ (⟨#[86, 65, 76, 85, 69, 32]⟩ : ByteArray)) ++ ((rd_T56 l0_3 x4_1).f0)) ++ (⟨#[32]⟩ : ByteArray)) ++ t126) ++ (⟨#[32]⟩ : ByteArray)) ++ t127) ++ (⟨#[32]⟩ : ByteArray)).size + t128.size ≤ 9223372036854775807 then (if ((((((((x3_1 ++ (⟨#[86, 65, 76, 85, 69, 32]⟩ : ByteArray)) ++ ((rd_T56 l0_3 x4_1).f0)) ++ (⟨#[32]⟩ : ByteArray)) ++ t126) ++ (⟨#[32]⟩ : ByteArray)) ++ t127) ++ (⟨#[32]⟩ : ByteArray)) ++ t128).size + 1 ≤ 9223372036854775807 then ((cloakroomref09_Text.f k1 (IntKind.u64.wrap ((((rd_T56 l0_3 x4_1).f1).size : Int)))).bind fun t129 => (if (((((((((x3_1 ++ (⟨#[86, 65, 76, 85, 69, 32]⟩ : ByteArray)) ++ ((rd_T56 l0_3 x4_1).f0)) ++ (⟨#[32]⟩ : ByteArray)) ++ t126) ++ (⟨#[32]⟩ : ByteArray)) ++ t127) ++ (⟨#[32]⟩ : ByteArray)) ++ t128) ++ (⟨#[32]⟩ : ByteArray)).size + t129.size ≤ 9223372036854775807 then (if ((((((((((x3_1 ++ (⟨#[86, 65, 76, 85, 69, 32]⟩ : ByteArray)) ++ ((rd_T56 l0_3 x4_1).f0)) ++ (⟨#[32]⟩ : ByteArray)) ++ t126) ++ (⟨#[32]⟩ : ByteArray)) ++ t127) ++ (⟨#[32]⟩ : ByteArray)) ++ t128) ++ (⟨#[32]⟩ : ByteArray)) ++ t129).size + 2 ≤ 9223372036854775807 then (if (((((((((((x3_1 ++ (⟨#[86, 65, 76, 85, 69, 32]⟩ : ByteArray)) ++ ((rd_T56 l0_3 x4_1).f0)) ++ (⟨#[32]⟩ : ByteArray)) ++ t126) ++ (⟨#[32]⟩ : ByteArray)) ++ t127) ++ (⟨#[32]⟩ : ByteArray)) ++ t128) ++ (⟨#[32]⟩ : ByteArray)) ++ t129) ++ (⟨#[13, 10]⟩ : ByteArray)).size + ((rd_T56 l0_3 x4_1).f1).size ≤ 9223372036854775807 then (if ((((((((((((x3_1 ++ (⟨#[86, 65, 76, 85, 69, 32]⟩ : ByteArray)) ++ ((rd_T56 l0_3 x4_1).f0)) ++ (⟨#[32]⟩ : ByteArray)) ++ t126) ++ (⟨#[32]⟩ : ByteArray)) ++ t127) ++ (⟨#[32]⟩ : ByteArray)) ++ t128) ++ (⟨#[32]⟩ : ByteArray)) ++ t129) ++ (⟨#[13, 10]⟩ : ByteArray)) ++ ((rd_T56 l0_3 x4_1).f1)).size + 2 ≤ 9223372036854775807 then (cloakroomref15_Lines.l0 k1 (((((((((((((x3_1 ++ (⟨#[86, 65, 76, 85, 69, 32]⟩ : ByteArray)) ++ ((rd_T56 l0_3 x4_1).f0)) ++ (⟨#[32]⟩ : ByteArray)) ++ t126) ++ (⟨#[32]⟩ : ByteArray)) ++ t127) ++ (⟨#[32]⟩ : ByteArray)) ++ t128) ++ (⟨#[32]⟩ : ByteArray)) ++ t129) ++ (⟨#[13, 10]⟩ : ByteArray)) ++ ((rd_T56 l0_3 x4_1).f1)) ++ (⟨#[13, 10]⟩ : ByteArray)) (wrap64 (x4_1 + 1)) a0_0 a0_1 a0_2 l0_3 a0_4 a0_5 a0_6) else (none)) else (none)) else (none)) else (none))) else (none)) else (none))) else (none)) else (none)) = some r := H
                                  have A38 := Aside0.mk A380
                                  clear A380
                                  by_cases c39 : (((((x3_1 ++ (⟨#[86, 65, 76, 85, 69, 32]⟩ : ByteArray)) ++ ((rd_T56 l0_3 x4_1).f0)) ++ (⟨#[32]⟩ : ByteArray)) ++ t126) ++ (⟨#[32]⟩ : ByteArray)).size + t127.size ≤ 9223372036854775807
                                  · rw [if_pos c39] at H
                                    have c39b0 := eq_true c39
                                    have c39b1 : decide ((((((x3_1 ++ (⟨#[86, 65, 76, 85, 69, 32]⟩ : ByteArray)) ++ ((rd_T56 l0_3 x4_1).f0)) ++ (⟨#[32]⟩ : ByteArray)) ++ t126) ++ (⟨#[32]⟩ : ByteArray)).size + t127.size ≤ 9223372036854775807) = true := decide_eq_true c39
                                    try have c39b2 : (9223372036854775807 < (((((x3_1 ++ (⟨#[86, 65, 76, 85, 69, 32]⟩ : ByteArray)) ++ ((rd_T56 l0_3 x4_1).f0)) ++ (⟨#[32]⟩ : ByteArray)) ++ t126) ++ (⟨#[32]⟩ : ByteArray)).size + t127.size) = False := eq_false (Nat.not_lt.2 c39)
                                    try (have c39b3 := c39b2; simp only [ByteArray.size_append, x_size_lit, List.size_toArray, List.length_cons, List.length_nil, Nat.zero_add, Nat.reduceAdd] at c39b3)
                                    by_cases c40 : ((((((x3_1 ++ (⟨#[86, 65, 76, 85, 69, 32]⟩ : ByteArray)) ++ ((rd_T56 l0_3 x4_1).f0)) ++ (⟨#[32]⟩ : ByteArray)) ++ t126) ++ (⟨#[32]⟩ : ByteArray)) ++ t127).size + 1 ≤ 9223372036854775807
                                    · rw [if_pos c40] at H
                                      have c40b0 := eq_true c40
                                      have c40b1 : decide (((((((x3_1 ++ (⟨#[86, 65, 76, 85, 69, 32]⟩ : ByteArray)) ++ ((rd_T56 l0_3 x4_1).f0)) ++ (⟨#[32]⟩ : ByteArray)) ++ t126) ++ (⟨#[32]⟩ : ByteArray)) ++ t127).size + 1 ≤ 9223372036854775807) = true := decide_eq_true c40
                                      try have c40b2 : (9223372036854775807 < ((((((x3_1 ++ (⟨#[86, 65, 76, 85, 69, 32]⟩ : ByteArray)) ++ ((rd_T56 l0_3 x4_1).f0)) ++ (⟨#[32]⟩ : ByteArray)) ++ t126) ++ (⟨#[32]⟩ : ByteArray)) ++ t127).size + 1) = False := eq_false (Nat.not_lt.2 c40)
                                      try (have c40b3 := c40b2; simp only [ByteArray.size_append, x_size_lit, List.size_toArray, List.length_cons, List.length_nil, Nat.zero_add, Nat.reduceAdd] at c40b3)
                                      replace H := Option.bind_eq_some_iff.mp H
                                      obtain ⟨t128, A410, H⟩ := H
                                      replace H : (if (((((((x3_1 ++ (⟨#[86, 65, 76, 85, 69, 32]⟩ : ByteArray)) ++ ((rd_T56 l0_3 x4_1).f0)) ++ (⟨#[32]⟩ : ByteArray)) ++ t126) ++ (⟨#[32]⟩ : ByteArray)) ++ t127) ++ (⟨#[32]⟩ : ByteArray)).size + t128.size ≤ 9223372036854775807 then (if ((((((((x3_1 ++ (⟨#[86, 65, 76, 85, 69, 32]⟩ : ByteArray)) ++ ((rd_T56 l0_3 x4_1).f0)) ++ (⟨#[32]⟩ : ByteArray)) ++ t126) ++ (⟨#[32]⟩ : ByteArray)) ++ t127) ++ (⟨#[32]⟩ : ByteArray)) ++ t128).size + 1 ≤ 9223372036854775807 then ((cloakroomref09_Text.f k1 (IntKind.u64.wrap ((((rd_T56 l0_3 x4_1).f1).size : Int)))).bind fun t129 => (if (((((((((x3_1 ++ (⟨#[86, 65, 76, 85, 69, 32]⟩ : ByteArray)) ++ ((rd_T56 l0_3 x4_1).f0)) ++ (⟨#[32]⟩ : ByteArray)) ++ t126) ++ (⟨#[32]⟩ : ByteArray)) ++ t127) ++ (⟨#[32]⟩ : ByteArray)) ++ t128) ++ (⟨#[32]⟩ : ByteArray)).size + t129.size ≤ 9223372036854775807 then (if ((((((((((x3_1 ++ (⟨#[86, 65, 76, 85, 69, 32]⟩ : ByteArray)) ++ ((rd_T56 l0_3 x4_1).f0)) ++ (⟨#[32]⟩ : ByteArray)) ++ t126) ++ (⟨#[32]⟩ : ByteArray)) ++ t127) ++ (⟨#[32]⟩ : ByteArray)) ++ t128) ++ (⟨#[32]⟩ : ByteArray)) ++ t129).size + 2 ≤ 9223372036854775807 then (if (((((((((((x3_1 ++ (⟨#[86, 65, 76, 85, 69, 32]⟩ : ByteArray)) ++ ((rd_T56 l0_3 x4_1).f0)) ++ (⟨#[32]⟩ : ByteArray)) ++ t126) ++ (⟨#[32]⟩ : ByteArray)) ++ t127) ++ (⟨#[32]⟩ : ByteArray)) ++ t128) ++ (⟨#[32]⟩ : ByteArray)) ++ t129) ++ (⟨#[13, 10]⟩ : ByteArray)).size + ((rd_T56 l0_3 x4_1).f1).size ≤ 9223372036854775807 then (if ((((((((((((x3_1 ++ (⟨#[86, 65, 76, 85, 69, 32]⟩ : ByteArray)) ++ ((rd_T56 l0_3 x4_1).f0)) ++ (⟨#[32]⟩ : ByteArray)) ++ t126) ++ (⟨#[32]⟩ : ByteArray)) ++ t127) ++ (⟨#[32]⟩ : ByteArray)) ++ t128) ++ (⟨#[32]⟩ : ByteArray)) ++ t129) ++ (⟨#[13, 10]⟩ : ByteArray)) ++ ((rd_T56 l0_3 x4_1).f1)).size + 2 ≤ 9223372036854775807 then (cloakroomref15_Lines.l0 k1 (((((((((((((x3_1 ++ (⟨#[86, 65, 76, 85, 69, 32]⟩ : ByteArray)) ++ ((rd_T56 l0_3 x4_1).f0)) ++ (⟨#[32]⟩ : ByteArray)) ++ t126) ++ (⟨#[32]⟩ : ByteArray)) ++ t127) ++ (⟨#[32]⟩ : ByteArray)) ++ t128) ++ (⟨#[32]⟩ : ByteArray)) ++ t129) ++ (⟨#[13, 10]⟩ : ByteArray)) ++ ((rd_T56 l0_3 x4_1).f1)) ++ (⟨#[13, 10]⟩ : ByteArray)) (wrap64 (x4_1 + 1)) a0_0 a0_1 a0_2 l0_3 a0_4 a0_5 a0_6) else (none)) else (none)) else (none)) else (none))) else (none)) else (none)) = some r := H
                                      have A41 := Aside0.mk A410
                                      clear A410
                                      by_cases c42 : (((((((x3_1 ++ (⟨#[86, 65, 76, 85, 69, 32]⟩ : ByteArray)) ++ ((rd_T56 l0_3 x4_1).f0)) ++ (⟨#[32]⟩ : ByteArray)) ++ t126) ++ (⟨#[32]⟩ : ByteArray)) ++ t127) ++ (⟨#[32]⟩ : ByteArray)).size + t128.size ≤ 9223372036854775807
                                      · rw [if_pos c42] at H
                                        have c42b0 := eq_true c42
                                        have c42b1 : decide ((((((((x3_1 ++ (⟨#[86, 65, 76, 85, 69, 32]⟩ : ByteArray)) ++ ((rd_T56 l0_3 x4_1).f0)) ++ (⟨#[32]⟩ : ByteArray)) ++ t126) ++ (⟨#[32]⟩ : ByteArray)) ++ t127) ++ (⟨#[32]⟩ : ByteArray)).size + t128.size ≤ 9223372036854775807) = true := decide_eq_true c42
                                        try have c42b2 : (9223372036854775807 < (((((((x3_1 ++ (⟨#[86, 65, 76, 85, 69, 32]⟩ : ByteArray)) ++ ((rd_T56 l0_3 x4_1).f0)) ++ (⟨#[32]⟩ : ByteArray)) ++ t126) ++ (⟨#[32]⟩ : ByteArray)) ++ t127) ++ (⟨#[32]⟩ : ByteArray)).size + t128.size) = False := eq_false (Nat.not_lt.2 c42)
                                        try (have c42b3 := c42b2; simp only [ByteArray.size_append, x_size_lit, List.size_toArray, List.length_cons, List.length_nil, Nat.zero_add, Nat.reduceAdd] at c42b3)
                                        by_cases c43 : ((((((((x3_1 ++ (⟨#[86, 65, 76, 85, 69, 32]⟩ : ByteArray)) ++ ((rd_T56 l0_3 x4_1).f0)) ++ (⟨#[32]⟩ : ByteArray)) ++ t126) ++ (⟨#[32]⟩ : ByteArray)) ++ t127) ++ (⟨#[32]⟩ : ByteArray)) ++ t128).size + 1 ≤ 9223372036854775807
                                        · rw [if_pos c43] at H
                                          have c43b0 := eq_true c43
                                          have c43b1 : decide (((((((((x3_1 ++ (⟨#[86, 65, 76, 85, 69, 32]⟩ : ByteArray)) ++ ((rd_T56 l0_3 x4_1).f0)) ++ (⟨#[32]⟩ : ByteArray)) ++ t126) ++ (⟨#[32]⟩ : ByteArray)) ++ t127) ++ (⟨#[32]⟩ : ByteArray)) ++ t128).size + 1 ≤ 9223372036854775807) = true := decide_eq_true c43
                                          try have c43b2 : (9223372036854775807 < ((((((((x3_1 ++ (⟨#[86, 65, 76, 85, 69, 32]⟩ : ByteArray)) ++ ((rd_T56 l0_3 x4_1).f0)) ++ (⟨#[32]⟩ : ByteArray)) ++ t126) ++ (⟨#[32]⟩ : ByteArray)) ++ t127) ++ (⟨#[32]⟩ : ByteArray)) ++ t128).size + 1) = False := eq_false (Nat.not_lt.2 c43)
                                          try (have c43b3 := c43b2; simp only [ByteArray.size_append, x_size_lit, List.size_toArray, List.length_cons, List.length_nil, Nat.zero_add, Nat.reduceAdd] at c43b3)
                                          replace H := Option.bind_eq_some_iff.mp H
                                          obtain ⟨t129, A440, H⟩ := H
                                          replace H : (if (((((((((x3_1 ++ (⟨#[86, 65, 76, 85, 69, 32]⟩ : ByteArray)) ++ ((rd_T56 l0_3 x4_1).f0)) ++ (⟨#[32]⟩ : ByteArray)) ++ t126) ++ (⟨#[32]⟩ : ByteArray)) ++ t127) ++ (⟨#[32]⟩ : ByteArray)) ++ t128) ++ (⟨#[32]⟩ : ByteArray)).size + t129.size ≤ 9223372036854775807 then (if ((((((((((x3_1 ++ (⟨#[86, 65, 76, 85, 69, 32]⟩ : ByteArray)) ++ ((rd_T56 l0_3 x4_1).f0)) ++ (⟨#[32]⟩ : ByteArray)) ++ t126) ++ (⟨#[32]⟩ : ByteArray)) ++ t127) ++ (⟨#[32]⟩ : ByteArray)) ++ t128) ++ (⟨#[32]⟩ : ByteArray)) ++ t129).size + 2 ≤ 9223372036854775807 then (if (((((((((((x3_1 ++ (⟨#[86, 65, 76, 85, 69, 32]⟩ : ByteArray)) ++ ((rd_T56 l0_3 x4_1).f0)) ++ (⟨#[32]⟩ : ByteArray)) ++ t126) ++ (⟨#[32]⟩ : ByteArray)) ++ t127) ++ (⟨#[32]⟩ : ByteArray)) ++ t128) ++ (⟨#[32]⟩ : ByteArray)) ++ t129) ++ (⟨#[13, 10]⟩ : ByteArray)).size + ((rd_T56 l0_3 x4_1).f1).size ≤ 9223372036854775807 then (if ((((((((((((x3_1 ++ (⟨#[86, 65, 76, 85, 69, 32]⟩ : ByteArray)) ++ ((rd_T56 l0_3 x4_1).f0)) ++ (⟨#[32]⟩ : ByteArray)) ++ t126) ++ (⟨#[32]⟩ : ByteArray)) ++ t127) ++ (⟨#[32]⟩ : ByteArray)) ++ t128) ++ (⟨#[32]⟩ : ByteArray)) ++ t129) ++ (⟨#[13, 10]⟩ : ByteArray)) ++ ((rd_T56 l0_3 x4_1).f1)).size + 2 ≤ 9223372036854775807 then (cloakroomref15_Lines.l0 k1 (((((((((((((x3_1 ++ (⟨#[86, 65, 76, 85, 69, 32]⟩ : ByteArray)) ++ ((rd_T56 l0_3 x4_1).f0)) ++ (⟨#[32]⟩ : ByteArray)) ++ t126) ++ (⟨#[32]⟩ : ByteArray)) ++ t127) ++ (⟨#[32]⟩ : ByteArray)) ++ t128) ++ (⟨#[32]⟩ : ByteArray)) ++ t129) ++ (⟨#[13, 10]⟩ : ByteArray)) ++ ((rd_T56 l0_3 x4_1).f1)) ++ (⟨#[13, 10]⟩ : ByteArray)) (wrap64 (x4_1 + 1)) a0_0 a0_1 a0_2 l0_3 a0_4 a0_5 a0_6) else (none)) else (none)) else (none)) else (none)) = some r := H
                                          have A44 := Aside0.mk A440
                                          clear A440
                                          by_cases c45 : (((((((((x3_1 ++ (⟨#[86, 65, 76, 85, 69, 32]⟩ : ByteArray)) ++ ((rd_T56 l0_3 x4_1).f0)) ++ (⟨#[32]⟩ : ByteArray)) ++ t126) ++ (⟨#[32]⟩ : ByteArray)) ++ t127) ++ (⟨#[32]⟩ : ByteArray)) ++ t128) ++ (⟨#[32]⟩ : ByteArray)).size + t129.size ≤ 9223372036854775807
                                          · rw [if_pos c45] at H
                                            have c45b0 := eq_true c45
                                            have c45b1 : decide ((((((((((x3_1 ++ (⟨#[86, 65, 76, 85, 69, 32]⟩ : ByteArray)) ++ ((rd_T56 l0_3 x4_1).f0)) ++ (⟨#[32]⟩ : ByteArray)) ++ t126) ++ (⟨#[32]⟩ : ByteArray)) ++ t127) ++ (⟨#[32]⟩ : ByteArray)) ++ t128) ++ (⟨#[32]⟩ : ByteArray)).size + t129.size ≤ 9223372036854775807) = true := decide_eq_true c45
                                            try have c45b2 : (9223372036854775807 < (((((((((x3_1 ++ (⟨#[86, 65, 76, 85, 69, 32]⟩ : ByteArray)) ++ ((rd_T56 l0_3 x4_1).f0)) ++ (⟨#[32]⟩ : ByteArray)) ++ t126) ++ (⟨#[32]⟩ : ByteArray)) ++ t127) ++ (⟨#[32]⟩ : ByteArray)) ++ t128) ++ (⟨#[32]⟩ : ByteArray)).size + t129.size) = False := eq_false (Nat.not_lt.2 c45)
                                            try (have c45b3 := c45b2; simp only [ByteArray.size_append, x_size_lit, List.size_toArray, List.length_cons, List.length_nil, Nat.zero_add, Nat.reduceAdd] at c45b3)
                                            by_cases c46 : ((((((((((x3_1 ++ (⟨#[86, 65, 76, 85, 69, 32]⟩ : ByteArray)) ++ ((rd_T56 l0_3 x4_1).f0)) ++ (⟨#[32]⟩ : ByteArray)) ++ t126) ++ (⟨#[32]⟩ : ByteArray)) ++ t127) ++ (⟨#[32]⟩ : ByteArray)) ++ t128) ++ (⟨#[32]⟩ : ByteArray)) ++ t129).size + 2 ≤ 9223372036854775807
                                            · rw [if_pos c46] at H
                                              have c46b0 := eq_true c46
                                              have c46b1 : decide (((((((((((x3_1 ++ (⟨#[86, 65, 76, 85, 69, 32]⟩ : ByteArray)) ++ ((rd_T56 l0_3 x4_1).f0)) ++ (⟨#[32]⟩ : ByteArray)) ++ t126) ++ (⟨#[32]⟩ : ByteArray)) ++ t127) ++ (⟨#[32]⟩ : ByteArray)) ++ t128) ++ (⟨#[32]⟩ : ByteArray)) ++ t129).size + 2 ≤ 9223372036854775807) = true := decide_eq_true c46
                                              try have c46b2 : (9223372036854775807 < ((((((((((x3_1 ++ (⟨#[86, 65, 76, 85, 69, 32]⟩ : ByteArray)) ++ ((rd_T56 l0_3 x4_1).f0)) ++ (⟨#[32]⟩ : ByteArray)) ++ t126) ++ (⟨#[32]⟩ : ByteArray)) ++ t127) ++ (⟨#[32]⟩ : ByteArray)) ++ t128) ++ (⟨#[32]⟩ : ByteArray)) ++ t129).size + 2) = False := eq_false (Nat.not_lt.2 c46)
                                              try (have c46b3 := c46b2; simp only [ByteArray.size_append, x_size_lit, List.size_toArray, List.length_cons, List.length_nil, Nat.zero_add, Nat.reduceAdd] at c46b3)
                                              by_cases c47 : (((((((((((x3_1 ++ (⟨#[86, 65, 76, 85, 69, 32]⟩ : ByteArray)) ++ ((rd_T56 l0_3 x4_1).f0)) ++ (⟨#[32]⟩ : ByteArray)) ++ t126) ++ (⟨#[32]⟩ : ByteArray)) ++ t127) ++ (⟨#[32]⟩ : ByteArray)) ++ t128) ++ (⟨#[32]⟩ : ByteArray)) ++ t129) ++ (⟨#[13, 10]⟩ : ByteArray)).size + ((rd_T56 l0_3 x4_1).f1).size ≤ 9223372036854775807
                                              · rw [if_pos c47] at H
                                                have c47b0 := eq_true c47
                                                have c47b1 : decide ((((((((((((x3_1 ++ (⟨#[86, 65, 76, 85, 69, 32]⟩ : ByteArray)) ++ ((rd_T56 l0_3 x4_1).f0)) ++ (⟨#[32]⟩ : ByteArray)) ++ t126) ++ (⟨#[32]⟩ : ByteArray)) ++ t127) ++ (⟨#[32]⟩ : ByteArray)) ++ t128) ++ (⟨#[32]⟩ : ByteArray)) ++ t129) ++ (⟨#[13, 10]⟩ : ByteArray)).size + ((rd_T56 l0_3 x4_1).f1).size ≤ 9223372036854775807) = true := decide_eq_true c47
                                                try have c47b2 : (9223372036854775807 < (((((((((((x3_1 ++ (⟨#[86, 65, 76, 85, 69, 32]⟩ : ByteArray)) ++ ((rd_T56 l0_3 x4_1).f0)) ++ (⟨#[32]⟩ : ByteArray)) ++ t126) ++ (⟨#[32]⟩ : ByteArray)) ++ t127) ++ (⟨#[32]⟩ : ByteArray)) ++ t128) ++ (⟨#[32]⟩ : ByteArray)) ++ t129) ++ (⟨#[13, 10]⟩ : ByteArray)).size + ((rd_T56 l0_3 x4_1).f1).size) = False := eq_false (Nat.not_lt.2 c47)
                                                try (have c47b3 := c47b2; simp only [ByteArray.size_append, x_size_lit, List.size_toArray, List.length_cons, List.length_nil, Nat.zero_add, Nat.reduceAdd] at c47b3)
                                                by_cases c48 : ((((((((((((x3_1 ++ (⟨#[86, 65, 76, 85, 69, 32]⟩ : ByteArray)) ++ ((rd_T56 l0_3 x4_1).f0)) ++ (⟨#[32]⟩ : ByteArray)) ++ t126) ++ (⟨#[32]⟩ : ByteArray)) ++ t127) ++ (⟨#[32]⟩ : ByteArray)) ++ t128) ++ (⟨#[32]⟩ : ByteArray)) ++ t129) ++ (⟨#[13, 10]⟩ : ByteArray)) ++ ((rd_T56 l0_3 x4_1).f1)).size + 2 ≤ 9223372036854775807
                                                · rw [if_pos c48] at H
                                                  have c48b0 := eq_true c48
                                                  have c48b1 : decide (((((((((((((x3_1 ++ (⟨#[86, 65, 76, 85, 69, 32]⟩ : ByteArray)) ++ ((rd_T56 l0_3 x4_1).f0)) ++ (⟨#[32]⟩ : ByteArray)) ++ t126) ++ (⟨#[32]⟩ : ByteArray)) ++ t127) ++ (⟨#[32]⟩ : ByteArray)) ++ t128) ++ (⟨#[32]⟩ : ByteArray)) ++ t129) ++ (⟨#[13, 10]⟩ : ByteArray)) ++ ((rd_T56 l0_3 x4_1).f1)).size + 2 ≤ 9223372036854775807) = true := decide_eq_true c48
                                                  try have c48b2 : (9223372036854775807 < ((((((((((((x3_1 ++ (⟨#[86, 65, 76, 85, 69, 32]⟩ : ByteArray)) ++ ((rd_T56 l0_3 x4_1).f0)) ++ (⟨#[32]⟩ : ByteArray)) ++ t126) ++ (⟨#[32]⟩ : ByteArray)) ++ t127) ++ (⟨#[32]⟩ : ByteArray)) ++ t128) ++ (⟨#[32]⟩ : ByteArray)) ++ t129) ++ (⟨#[13, 10]⟩ : ByteArray)) ++ ((rd_T56 l0_3 x4_1).f1)).size + 2) = False := eq_false (Nat.not_lt.2 c48)
                                                  try (have c48b3 := c48b2; simp only [ByteArray.size_append, x_size_lit, List.size_toArray, List.length_cons, List.length_nil, Nat.zero_add, Nat.reduceAdd] at c48b3)
                                                  have H' := Aside0.mk H
                                                  clear H
                                                  have hcz49_0 : wr.cell? ⟨gb122, 0, none⟩ = some (.int .u8 a0_0) := (blk_cell BK122.out 0).trans rfl
                                                  have hcz49_1 : wr.cell? ⟨gb122, 1, none⟩ = some (.int .u8 a0_1) := (blk_cell BK122.out 1).trans rfl
                                                  have hcz49_2 : wr.cell? ⟨gb122, 2, none⟩ = some (.int .u8 a0_2) := (blk_cell BK122.out 2).trans rfl
                                                  have hcz49_3 : wr.cell? ⟨gb122, 3, none⟩ = some (.slice A0_3 l0_3.length c0_3) := (blk_cell BK122.out 3).trans rfl
                                                  have hcz49_4 : wr.cell? ⟨gb122, 4, none⟩ = some (.int .u64 a0_4) := (blk_cell BK122.out 4).trans rfl
                                                  have hcz49_5 : wr.cell? ⟨gb122, 5, none⟩ = some (.bool a0_5) := (blk_cell BK122.out 5).trans rfl
                                                  have hcz49_6 : wr.cell? ⟨gb122, 6, none⟩ = some (.string a0_6) := (blk_cell BK122.out 6).trans rfl
                                                  have hfz49_0 := blk_frozen BK122.out 0
                                                  have hfz49_1 := blk_frozen BK122.out 1
                                                  have hfz49_2 := blk_frozen BK122.out 2
                                                  have hfz49_3 := blk_frozen BK122.out 3
                                                  have hfz49_4 := blk_frozen BK122.out 4
                                                  have hfz49_5 := blk_frozen BK122.out 5
                                                  have hfz49_6 := blk_frozen BK122.out 6
                                                  have p124 : 0 ≤ (x4_1 : Int) := of_decide_eq_true (by first | (with_reducible assumption) | assumption)
                                                  have q124 : x4_1 < (l0_3.length : Int) := of_decide_eq_true (by first | (with_reducible assumption) | assumption)
                                                  obtain ⟨ad124, e124, hx124_0, hx124_1, hx124_2, hx124_3, hx124_4⟩ := at_T56 HR0_3.out x4_1 p124 q124
                                                  cases e124
                                                  replace hx124_0 := (HB.out.cell (World.block_lt_of_cell? w _ hx124_0)).trans hx124_0
                                                  replace hx124_1 := (HB.out.cell (World.block_lt_of_cell? w _ hx124_1)).trans hx124_1
                                                  replace hx124_2 := (HB.out.cell (World.block_lt_of_cell? w _ hx124_2)).trans hx124_2
                                                  replace hx124_3 := (HB.out.cell (World.block_lt_of_cell? w _ hx124_3)).trans hx124_3
                                                  replace hx124_4 := (HB.out.cell (World.block_lt_of_cell? w _ hx124_4)).trans hx124_4
                                                  replace p124 := eq_true p124
                                                  replace q124 := eq_true q124
                                                  try go_wp2_with (first | ((with_reducible refine gate_dst (N := 5) rfl ?_); refine box_event ?hg (N := 5) ?hd (cs := #[.string (⟨#[]⟩ : ByteArray), .string (⟨#[]⟩ : ByteArray), .int .u32 0, .int .i64 0, .int .u64 0]) (t := 56) ?hr ?_; (case hd => rfl); (case hg => rfl); (case hr => first | (go_simp; done) | (go_simp; rfl)); intro gb125 hg w50 hbox hb; have n0_ := Aside0.mk (blk_below (g := gb122) (o := .cells #[.int .u8 a0_0, .int .u8 a0_1, .int .u8 a0_2, .slice (some ad124) l0_3.length c0_3, .int .u64 a0_4, .bool a0_5, .string a0_6] 27 (0, 0)) (by (with_reducible repeat (first | refine blk_drewN ?_ _ | refine blk_drew ?_ | refine blk_alloc ?_ _)); exact BK122.out) hb); have n1_ := Aside0.mk (below_step (by repeat (first | (with_reducible first | exact HB.out | apply below_alloc | apply pw_below_drewN | apply below_drew1 | refine below_set ?_ GE122.out) | exact HB.out)) hb); have n2_ := Aside0.mk (hbox); have n3_ := Aside0.mk ((by rw [hg]; exact (below_size (by repeat (first | (with_reducible first | exact HB.out | apply below_alloc | apply pw_below_drewN | apply below_drew1 | refine below_set ?_ GE122.out) | exact HB.out))) : w.heap.size ≤ gb125)); have n4_ := Aside0.mk ((by rw [hg]; exact (below_size (by repeat (first | (with_reducible first | exact HB.out | apply below_alloc | apply pw_below_drewN | apply below_drew1 | refine below_set ?_ GE122.out) | exact HB.out))) : w.heap.size ≤ gb125)); have n5_ := Aside0.mk ((by rw [hg]; exact Nat.ne_of_lt (blk_lt (g := gb122) (o := .cells #[.int .u8 a0_0, .int .u8 a0_1, .int .u8 a0_2, .slice (some ad124) l0_3.length c0_3, .int .u64 a0_4, .bool a0_5, .string a0_6] 27 (0, 0)) (by (with_reducible repeat (first | refine blk_drewN ?_ _ | refine blk_drew ?_ | refine blk_alloc ?_ _)); exact BK122.out)) : gb122 ≠ gb125)); have n6_ := Aside0.mk ((by rw [hg]; exact Nat.ne_of_gt (blk_lt (g := gb122) (o := .cells #[.int .u8 a0_0, .int .u8 a0_1, .int .u8 a0_2, .slice (some ad124) l0_3.length c0_3, .int .u64 a0_4, .bool a0_5, .string a0_6] 27 (0, 0)) (by (with_reducible repeat (first | refine blk_drewN ?_ _ | refine blk_drew ?_ | refine blk_alloc ?_ _)); exact BK122.out)) : gb125 ≠ gb122)); clear BK122; clear HB; have BK122 := n0_; have HB := n1_; have BK125 := n2_; have GW125 := n3_; have GE125 := n4_; have NB122_125 := n5_; have NB125_122 := n6_; clear n0_ n1_ n2_ n3_ n4_ n5_ n6_; clear hb hbox hg; have hnb51 := NB125_122.out; have hnc51 := NB122_125.out; have hcz52_0 : w50.cell? ⟨gb125, 0, none⟩ = some (.string (⟨#[]⟩ : ByteArray)) := (blk_cell BK125.out 0).trans rfl; have hcz52_1 : w50.cell? ⟨gb125, 1, none⟩ = some (.string (⟨#[]⟩ : ByteArray)) := (blk_cell BK125.out 1).trans rfl; have hcz52_2 : w50.cell? ⟨gb125, 2, none⟩ = some (.int .u32 0) := (blk_cell BK125.out 2).trans rfl; have hcz52_3 : w50.cell? ⟨gb125, 3, none⟩ = some (.int .i64 0) := (blk_cell BK125.out 3).trans rfl; have hcz52_4 : w50.cell? ⟨gb125, 4, none⟩ = some (.int .u64 0) := (blk_cell BK125.out 4).trans rfl; have hfz52_0 := blk_frozen BK125.out 0; have hfz52_1 := blk_frozen BK125.out 1; have hfz52_2 := blk_frozen BK125.out 2; have hfz52_3 := blk_frozen BK125.out 3; have hfz52_4 := blk_frozen BK125.out 4))
                                                  have n0_ : Aside0 ((((((w50.setCell ⟨gb125, 0, none⟩ (.string ((rd_T56 l0_3 x4_1).f0))).setCell ⟨gb125, 1, none⟩ (.string ((rd_T56 l0_3 x4_1).f1))).setCell ⟨gb125, 2, none⟩ (.int .u32 ((rd_T56 l0_3 x4_1).f2))).setCell ⟨gb125, 3, none⟩ (.int .i64 ((rd_T56 l0_3 x4_1).f3))).setCell ⟨gb125, 4, none⟩ (.int .u64 ((rd_T56 l0_3 x4_1).f4))).heap[gb122]? = some (.cells #[.int .u8 a0_0, .int .u8 a0_1, .int .u8 a0_2, .slice (some ad124) l0_3.length c0_3, .int .u64 a0_4, .bool a0_5, .string a0_6] 27 (0, 0))) := ⟨by (with_reducible repeat (first | refine blk_drewN ?_ _ | refine blk_drew ?_ | refine blk_alloc ?_ _)); refine blk_far ?_ NB122_125.out _; (with_reducible repeat (first | refine blk_drewN ?_ _ | refine blk_drew ?_ | refine blk_alloc ?_ _)); refine blk_far ?_ NB122_125.out _; (with_reducible repeat (first | refine blk_drewN ?_ _ | refine blk_drew ?_ | refine blk_alloc ?_ _)); refine blk_far ?_ NB122_125.out _; (with_reducible repeat (first | refine blk_drewN ?_ _ | refine blk_drew ?_ | refine blk_alloc ?_ _)); refine blk_far ?_ NB122_125.out _; (with_reducible repeat (first | refine blk_drewN ?_ _ | refine blk_drew ?_ | refine blk_alloc ?_ _)); refine blk_far ?_ NB122_125.out _; (with_reducible repeat (first | refine blk_drewN ?_ _ | refine blk_drew ?_ | refine blk_alloc ?_ _)); exact BK122.out⟩
                                                  have n1_ : Aside0 ((((((w50.setCell ⟨gb125, 0, none⟩ (.string ((rd_T56 l0_3 x4_1).f0))).setCell ⟨gb125, 1, none⟩ (.string ((rd_T56 l0_3 x4_1).f1))).setCell ⟨gb125, 2, none⟩ (.int .u32 ((rd_T56 l0_3 x4_1).f2))).setCell ⟨gb125, 3, none⟩ (.int .i64 ((rd_T56 l0_3 x4_1).f3))).setCell ⟨gb125, 4, none⟩ (.int .u64 ((rd_T56 l0_3 x4_1).f4))).heap[gb125]? = some (.cells #[.string ((rd_T56 l0_3 x4_1).f0), .string ((rd_T56 l0_3 x4_1).f1), .int .u32 ((rd_T56 l0_3 x4_1).f2), .int .i64 ((rd_T56 l0_3 x4_1).f3), .int .u64 ((rd_T56 l0_3 x4_1).f4)] 56 (0, 0))) := ⟨by (with_reducible repeat (first | refine blk_drewN ?_ _ | refine blk_drew ?_ | refine blk_alloc ?_ _)); refine blk_put (cs := #[.string ((rd_T56 l0_3 x4_1).f0), .string ((rd_T56 l0_3 x4_1).f1), .int .u32 ((rd_T56 l0_3 x4_1).f2), .int .i64 ((rd_T56 l0_3 x4_1).f3), .int .u64 0]) ?_ 4 _ rfl; (with_reducible repeat (first | refine blk_drewN ?_ _ | refine blk_drew ?_ | refine blk_alloc ?_ _)); refine blk_put (cs := #[.string ((rd_T56 l0_3 x4_1).f0), .string ((rd_T56 l0_3 x4_1).f1), .int .u32 ((rd_T56 l0_3 x4_1).f2), .int .i64 0, .int .u64 0]) ?_ 3 _ rfl; (with_reducible repeat (first | refine blk_drewN ?_ _ | refine blk_drew ?_ | refine blk_alloc ?_ _)); refine blk_put (cs := #[.string ((rd_T56 l0_3 x4_1).f0), .string ((rd_T56 l0_3 x4_1).f1), .int .u32 0, .int .i64 0, .int .u64 0]) ?_ 2 _ rfl; (with_reducible repeat (first | refine blk_drewN ?_ _ | refine blk_drew ?_ | refine blk_alloc ?_ _)); refine blk_put (cs := #[.string ((rd_T56 l0_3 x4_1).f0), .string (⟨#[]⟩ : ByteArray), .int .u32 0, .int .i64 0, .int .u64 0]) ?_ 1 _ rfl; (with_reducible repeat (first | refine blk_drewN ?_ _ | refine blk_drew ?_ | refine blk_alloc ?_ _)); refine blk_put (cs := #[.string (⟨#[]⟩ : ByteArray), .string (⟨#[]⟩ : ByteArray), .int .u32 0, .int .i64 0, .int .u64 0]) ?_ 0 _ rfl; (with_reducible repeat (first | refine blk_drewN ?_ _ | refine blk_drew ?_ | refine blk_alloc ?_ _)); exact BK125.out⟩
                                                  have n2_ : Aside0 (Below w.heap.size w (((((w50.setCell ⟨gb125, 0, none⟩ (.string ((rd_T56 l0_3 x4_1).f0))).setCell ⟨gb125, 1, none⟩ (.string ((rd_T56 l0_3 x4_1).f1))).setCell ⟨gb125, 2, none⟩ (.int .u32 ((rd_T56 l0_3 x4_1).f2))).setCell ⟨gb125, 3, none⟩ (.int .i64 ((rd_T56 l0_3 x4_1).f3))).setCell ⟨gb125, 4, none⟩ (.int .u64 ((rd_T56 l0_3 x4_1).f4)))) := ⟨by repeat (first | (with_reducible first | exact HB.out | apply below_alloc | apply pw_below_drewN | apply below_drew1 | refine below_set ?_ GE122.out | refine below_set ?_ GE125.out) | exact HB.out)⟩
                                                  (try clear BK122)
                                                  (try clear BK125)
                                                  (try clear HB)
                                                  generalize (((((w50.setCell ⟨gb125, 0, none⟩ (.string ((rd_T56 l0_3 x4_1).f0))).setCell ⟨gb125, 1, none⟩ (.string ((rd_T56 l0_3 x4_1).f1))).setCell ⟨gb125, 2, none⟩ (.int .u32 ((rd_T56 l0_3 x4_1).f2))).setCell ⟨gb125, 3, none⟩ (.int .i64 ((rd_T56 l0_3 x4_1).f3))).setCell ⟨gb125, 4, none⟩ (.int .u64 ((rd_T56 l0_3 x4_1).f4))) = w53 at n0_ n1_ n2_ ⊢
                                                  have BK122 := n0_
                                                  have BK125 := n1_
                                                  have HB := n2_
                                                  clear n0_ n1_ n2_
                                                  have n0_ := Aside0.mk (blk_drew BK122.out)
                                                  have n1_ := Aside0.mk (blk_drew BK125.out)
                                                  have n2_ := Aside0.mk (below_drew1 HB.out)
                                                  clear BK122
                                                  clear BK125
                                                  clear HB
                                                  have BK122 := n0_
                                                  have BK125 := n1_
                                                  have HB := n2_
                                                  clear n0_ n1_ n2_
                                                  refine start_ (n := 35) (S := fun w' => w'.cell? ⟨gb125, 0, none⟩ = some (.string ((rd_T56 l0_3 x4_1).f0)) ∧ w'.cell? ⟨gb125, 1, none⟩ = some (.string ((rd_T56 l0_3 x4_1).f1)) ∧ w'.cell? ⟨gb125, 2, none⟩ = some (.int .u32 ((rd_T56 l0_3 x4_1).f2)) ∧ w'.cell? ⟨gb125, 3, none⟩ = some (.int .i64 ((rd_T56 l0_3 x4_1).f3)) ∧ w'.cell? ⟨gb125, 4, none⟩ = some (.int .u64 ((rd_T56 l0_3 x4_1).f4))) (ds := []) #[false, false, false, false, false, false, false, false, false, false, false, false, false, false, false, false, false, false, false, false, false, false, false, false, false, false, false, false, false, false, false, false, false, false, false] (by kernel_rfl) rfl rfl ⟨(blk_cell BK125.out 0).trans rfl, (blk_cell BK125.out 1).trans rfl, (blk_cell BK125.out 2).trans rfl, (blk_cell BK125.out 3).trans rfl, (blk_cell BK125.out 4).trans rfl⟩ (fun hHeld => ?_); refine with_tabW cloakroomref15_Lines.tab25 cloakroomref15_Lines.bits25 (fun HT_ HW_ => ?_)
                                                  generalize w53.drew = w54 at BK122 BK125 HB hHeld ⊢
                                                  refine pure_ (i := 0) (N := some 49) (v := ?_) (a' := ?_) #[true, false, false, false, false, false, false, false, false, false, false, false, false, false, false, false, false, false, false, false, false, false, false, false, false, false, false, false, false, false, false, false, false, false, false] rfl rfl (any_of HT_.out (by kernel_rfl)) (fun _ _ _ h => h) (Or.inl ⟨by rfl, ?_⟩) ?_ ?_
                                                  rotate_left
                                                  · intro w'
                                                    go_simp
                                                    with_reducible rfl
                                                  rotate_left
                                                  · simp only [Act.put, List.setIfInBounds_toArray, List.set_cons_zero, List.set_cons_succ, i64_w, i32_w]
                                                    rfl
                                                  refine pure_ (i := 1) (N := some 50) (v := ?_) (a' := ?_) #[true, true, false, false, false, false, false, false, false, false, false, false, false, false, false, false, false, false, false, false, false, false, false, false, false, false, false, false, false, false, false, false, false, false, false] rfl rfl (any_of HT_.out (by kernel_rfl)) (fun _ _ _ h => h) (Or.inl ⟨by rfl, ?_⟩) ?_ ?_
                                                  rotate_left
                                                  · intro w'
                                                    go_simp
                                                    with_reducible rfl
                                                  rotate_left
                                                  · simp only [Act.put, List.setIfInBounds_toArray, List.set_cons_zero, List.set_cons_succ, i64_w, i32_w]
                                                    rfl
                                                  refine pure_ (i := 2) (N := some 51) (v := ?_) (a' := ?_) #[true, true, true, false, false, false, false, false, false, false, false, false, false, false, false, false, false, false, false, false, false, false, false, false, false, false, false, false, false, false, false, false, false, false, false] rfl rfl (any_of HT_.out (by kernel_rfl)) (fun _ _ _ h => h) (Or.inl ⟨by rfl, ?_⟩) ?_ ?_
                                                  rotate_left
                                                  · intro w'
                                                    go_simp
                                                    with_reducible rfl
                                                  rotate_left
                                                  · simp only [Act.put, List.setIfInBounds_toArray, List.set_cons_zero, List.set_cons_succ, i64_w, i32_w]
                                                    rfl
                                                  refine pure_ (i := 6) (N := some 55) (v := ?_) (a' := ?_) #[true, true, true, false, false, false, true, false, false, false, false, false, false, false, false, false, false, false, false, false, false, false, false, false, false, false, false, false, false, false, false, false, false, false, false] rfl rfl (any_of HT_.out (by kernel_rfl)) (fun _ _ _ h => h) (Or.inl ⟨by rfl, ?_⟩) ?_ ?_
                                                  rotate_left
                                                  · intro w'
                                                    go_simp
                                                    with_reducible rfl
                                                  rotate_left
                                                  · simp only [Act.put, List.setIfInBounds_toArray, List.set_cons_zero, List.set_cons_succ, i64_w, i32_w]
                                                    rfl
                                                  refine pure_ (i := 12) (N := some 61) (v := ?_) (a' := ?_) #[true, true, true, false, false, false, true, false, false, false, false, false, true, false, false, false, false, false, false, false, false, false, false, false, false, false, false, false, false, false, false, false, false, false, false] rfl rfl (any_of HT_.out (by kernel_rfl)) (fun _ _ _ h => h) (Or.inl ⟨by rfl, ?_⟩) ?_ ?_
                                                  rotate_left
                                                  · intro w'
                                                    go_simp
                                                    with_reducible rfl
                                                  rotate_left
                                                  · simp only [Act.put, List.setIfInBounds_toArray, List.set_cons_zero, List.set_cons_succ, i64_w, i32_w]
                                                    rfl
                                                  refine pure_ (i := 18) (N := some 67) (v := ?_) (a' := ?_) #[true, true, true, false, false, false, true, false, false, false, false, false, true, false, false, false, false, false, true, false, false, false, false, false, false, false, false, false, false, false, false, false, false, false, false] rfl rfl (any_of HT_.out (by kernel_rfl)) (fun _ _ _ h => h) (Or.inl ⟨by rfl, ?_⟩) ?_ ?_
                                                  rotate_left
                                                  · intro w'
                                                    go_simp
                                                    with_reducible rfl
                                                  rotate_left
                                                  · simp only [Act.put, List.setIfInBounds_toArray, List.set_cons_zero, List.set_cons_succ, i64_w, i32_w]
                                                    rfl
                                                  refine pure_ (i := 23) (N := some 72) (v := ?_) (a' := ?_) #[true, true, true, false, false, false, true, false, false, false, false, false, true, false, false, false, false, false, true, false, false, false, false, true, false, false, false, false, false, false, false, false, false, false, false] rfl rfl (any_of HT_.out (by kernel_rfl)) (fun _ _ _ h => h) (Or.inl ⟨by rfl, ?_⟩) ?_ ?_
                                                  rotate_left
                                                  · intro w'
                                                    go_simp
                                                    with_reducible rfl
                                                  rotate_left
                                                  · simp only [Act.put, List.setIfInBounds_toArray, List.set_cons_zero, List.set_cons_succ, i64_w, i32_w]
                                                    rfl
                                                  refine pure_ (i := 30) (N := some 79) (v := ?_) (a' := ?_) #[true, true, true, false, false, false, true, false, false, false, false, false, true, false, false, false, false, false, true, false, false, false, false, true, false, false, false, false, false, false, true, false, false, false, false] rfl rfl (any_of HT_.out (by kernel_rfl)) (fun _ _ _ h => h) (Or.inl ⟨by rfl, ?_⟩) ?_ ?_
                                                  rotate_left
                                                  · intro w'
                                                    go_simp
                                                    with_reducible rfl
                                                  rotate_left
                                                  · simp only [Act.put, List.setIfInBounds_toArray, List.set_cons_zero, List.set_cons_succ, i64_w, i32_w]
                                                    rfl
                                                  refine take_ (i := 3) (N := some 52) (v := ?_) (a' := ?_) #[true, true, true, true, false, false, true, false, false, false, false, false, true, false, false, false, false, false, true, false, false, false, false, true, false, false, false, false, false, false, true, false, false, false, false] rfl rfl (take_ofW HT_.out HW_.out (by kernel_rfl)) (fun _ _ _ h => h) (Or.inl ⟨by rfl, ?_⟩) hHeld ?_ ?_
                                                  rotate_left
                                                  · rintro w' ⟨s0, s1, s2, s3, s4⟩
                                                    go_simp
                                                    with_reducible rfl
                                                  rotate_left
                                                  · simp only [Act.put, List.setIfInBounds_toArray, List.set_cons_zero, List.set_cons_succ, i64_w, i32_w]
                                                    rfl
                                                  refine pure_ (i := 4) (N := some 53) (v := ?_) (a' := ?_) #[true, true, true, true, true, false, true, false, false, false, false, false, true, false, false, false, false, false, true, false, false, false, false, true, false, false, false, false, false, false, true, false, false, false, false] rfl rfl (any_of HT_.out (by kernel_rfl)) (fun _ _ _ h => h) (Or.inl ⟨by rfl, ?_⟩) ?_ ?_
                                                  rotate_left
                                                  · intro w'
                                                    go_simp
                                                    with_reducible rfl
                                                  rotate_left
                                                  · simp only [Act.put, List.setIfInBounds_toArray, List.set_cons_zero, List.set_cons_succ, i64_w, i32_w]
                                                    rfl
                                                  refine pure_ (i := 5) (N := some 54) (v := ?_) (a' := ?_) #[true, true, true, true, true, true, true, false, false, false, false, false, true, false, false, false, false, false, true, false, false, false, false, true, false, false, false, false, false, false, true, false, false, false, false] rfl rfl (any_of HT_.out (by kernel_rfl)) (fun _ _ _ h => h) (Or.inl ⟨by rfl, ?_⟩) ?_ ?_
                                                  rotate_left
                                                  · intro w'
                                                    go_simp
                                                    with_reducible rfl
                                                  rotate_left
                                                  · simp only [Act.put, List.setIfInBounds_toArray, List.set_cons_zero, List.set_cons_succ, i64_w, i32_w]
                                                    rfl
                                                  refine take_ (i := 7) (N := some 56) (v := ?_) (a' := ?_) #[true, true, true, true, true, true, true, true, false, false, false, false, true, false, false, false, false, false, true, false, false, false, false, true, false, false, false, false, false, false, true, false, false, false, false] rfl rfl (take_ofW HT_.out HW_.out (by kernel_rfl)) (fun _ _ _ h => h) (Or.inl ⟨by rfl, ?_⟩) hHeld ?_ ?_
                                                  rotate_left
                                                  · rintro w' ⟨s0, s1, s2, s3, s4⟩
                                                    go_simp
                                                    with_reducible rfl
                                                  rotate_left
                                                  · simp only [Act.put, List.setIfInBounds_toArray, List.set_cons_zero, List.set_cons_succ, i64_w, i32_w]
                                                    rfl
                                                  refine pure_ (i := 8) (N := some 57) (v := ?_) (a' := ?_) #[true, true, true, true, true, true, true, true, true, false, false, false, true, false, false, false, false, false, true, false, false, false, false, true, false, false, false, false, false, false, true, false, false, false, false] rfl rfl (any_of HT_.out (by kernel_rfl)) (fun _ _ _ h => h) (Or.inl ⟨by rfl, ?_⟩) ?_ ?_
                                                  rotate_left
                                                  · intro w'
                                                    go_simp
                                                    with_reducible rfl
                                                  rotate_left
                                                  · simp only [Act.put, List.setIfInBounds_toArray, List.set_cons_zero, List.set_cons_succ, i64_w, i32_w]
                                                    rfl
                                                  refine take_ (i := 13) (N := some 62) (v := ?_) (a' := ?_) #[true, true, true, true, true, true, true, true, true, false, false, false, true, true, false, false, false, false, true, false, false, false, false, true, false, false, false, false, false, false, true, false, false, false, false] rfl rfl (take_ofW HT_.out HW_.out (by kernel_rfl)) (fun _ _ _ h => h) (Or.inl ⟨by rfl, ?_⟩) hHeld ?_ ?_
                                                  rotate_left
                                                  · rintro w' ⟨s0, s1, s2, s3, s4⟩
                                                    go_simp
                                                    with_reducible rfl
                                                  rotate_left
                                                  · simp only [Act.put, List.setIfInBounds_toArray, List.set_cons_zero, List.set_cons_succ, i64_w, i32_w]
                                                    rfl
                                                  refine pure_ (i := 14) (N := some 63) (v := ?_) (a' := ?_) #[true, true, true, true, true, true, true, true, true, false, false, false, true, true, true, false, false, false, true, false, false, false, false, true, false, false, false, false, false, false, true, false, false, false, false] rfl rfl (any_of HT_.out (by kernel_rfl)) (fun _ _ _ h => h) (Or.inl ⟨by rfl, ?_⟩) ?_ ?_
                                                  rotate_left
                                                  · intro w'
                                                    go_simp
                                                    with_reducible rfl
                                                  rotate_left
                                                  · simp only [Act.put, List.setIfInBounds_toArray, List.set_cons_zero, List.set_cons_succ, i64_w, i32_w]
                                                    rfl
                                                  refine take_ (i := 19) (N := some 68) (v := ?_) (a' := ?_) #[true, true, true, true, true, true, true, true, true, false, false, false, true, true, true, false, false, false, true, true, false, false, false, true, false, false, false, false, false, false, true, false, false, false, false] rfl rfl (take_ofW HT_.out HW_.out (by kernel_rfl)) (fun _ _ _ h => h) (Or.inl ⟨by rfl, ?_⟩) hHeld ?_ ?_
                                                  rotate_left
                                                  · rintro w' ⟨s0, s1, s2, s3, s4⟩
                                                    go_simp
                                                    with_reducible rfl
                                                  rotate_left
                                                  · simp only [Act.put, List.setIfInBounds_toArray, List.set_cons_zero, List.set_cons_succ, i64_w, i32_w]
                                                    rfl
                                                  refine take_ (i := 24) (N := some 73) (v := ?_) (a' := ?_) #[true, true, true, true, true, true, true, true, true, false, false, false, true, true, true, false, false, false, true, true, false, false, false, true, true, false, false, false, false, false, true, false, false, false, false] rfl rfl (take_ofW HT_.out HW_.out (by kernel_rfl)) (fun _ _ _ h => h) (Or.inl ⟨by rfl, ?_⟩) hHeld ?_ ?_
                                                  rotate_left
                                                  · rintro w' ⟨s0, s1, s2, s3, s4⟩
                                                    go_simp
                                                    with_reducible rfl
                                                  rotate_left
                                                  · simp only [Act.put, List.setIfInBounds_toArray, List.set_cons_zero, List.set_cons_succ, i64_w, i32_w]
                                                    rfl
                                                  refine pure_ (i := 25) (N := some 74) (v := ?_) (a' := ?_) #[true, true, true, true, true, true, true, true, true, false, false, false, true, true, true, false, false, false, true, true, false, false, false, true, true, true, false, false, false, false, true, false, false, false, false] rfl rfl (any_of HT_.out (by kernel_rfl)) (fun _ _ _ h => h) (Or.inl ⟨by rfl, ?_⟩) ?_ ?_
                                                  rotate_left
                                                  · intro w'
                                                    go_simp
                                                    with_reducible rfl
                                                  rotate_left
                                                  · simp only [Act.put, List.setIfInBounds_toArray, List.set_cons_zero, List.set_cons_succ, i64_w, i32_w]
                                                    rfl
                                                  refine pure_ (i := 26) (N := some 75) (v := ?_) (a' := ?_) #[true, true, true, true, true, true, true, true, true, false, false, false, true, true, true, false, false, false, true, true, false, false, false, true, true, true, true, false, false, false, true, false, false, false, false] rfl rfl (any_of HT_.out (by kernel_rfl)) (fun _ _ _ h => h) (Or.inl ⟨by rfl, ?_⟩) ?_ ?_
                                                  rotate_left
                                                  · intro w'
                                                    go_simp
                                                    with_reducible rfl
                                                  rotate_left
                                                  · simp only [Act.put, List.setIfInBounds_toArray, List.set_cons_zero, List.set_cons_succ, i64_w, i32_w]
                                                    rfl
                                                  refine take_ (i := 31) (N := some 80) (v := ?_) (a' := ?_) #[true, true, true, true, true, true, true, true, true, false, false, false, true, true, true, false, false, false, true, true, false, false, false, true, true, true, true, false, false, false, true, true, false, false, false] rfl rfl (take_ofW HT_.out HW_.out (by kernel_rfl)) (fun _ _ _ h => h) (Or.inl ⟨by rfl, ?_⟩) hHeld ?_ ?_
                                                  rotate_left
                                                  · rintro w' ⟨s0, s1, s2, s3, s4⟩
                                                    go_simp
                                                    with_reducible rfl
                                                  rotate_left
                                                  · simp only [Act.put, List.setIfInBounds_toArray, List.set_cons_zero, List.set_cons_succ, i64_w, i32_w]
                                                    rfl
                                                  refine one_ (i := 9) (N := some 58) #[true, true, true, true, true, true, true, true, true, true, false, false, true, true, true, false, false, false, true, true, false, false, false, true, true, true, true, false, false, false, true, true, false, false, false] rfl rfl (one_of HT_.out (by kernel_rfl)) (by decide) (fun K hK => ?_)
                                                  refine goes_ Tryd.func42 (by kernel_rfl) rfl #[.int .u64 (IntKind.u64.wrap ((rd_T56 l0_3 x4_1).f2))] (by rfl) rfl rfl (by (try simp only [List.map_toArray, List.map_cons, List.map_nil]); first | done | rfl | (simp only [List.length_drop, List.length_take]; rfl)) ?_
                                                  with_reducible refine (cloakroomref09_Text.calls k1 (IntKind.u64.wrap ((rd_T56 l0_3 x4_1).f2)) t126 _ A35.out).mono ?_
                                                  rintro e w' ⟨rfl, ⟨nd, rfl⟩⟩
                                                  refine ⟨_, rfl, ?_⟩
                                                  refine hK.out _ _ ⟨(blk_cell BK125.out 0).trans rfl, (blk_cell BK125.out 1).trans rfl, (blk_cell BK125.out 2).trans rfl, (blk_cell BK125.out 3).trans rfl, (blk_cell BK125.out 4).trans rfl⟩ (fun hHeld => ?_)
                                                  clear hK K
                                                  refine norm_ (a' := ?_) ?_ ?_
                                                  rotate_left
                                                  · show Act.put _ (some 58) _ = _
                                                    simp only [Act.put, List.setIfInBounds_toArray, List.set_cons_zero, List.set_cons_succ, i64_w, i32_w]
                                                    rfl
                                                  refine pure_ (i := 10) (N := some 59) (v := ?_) (a' := ?_) #[true, true, true, true, true, true, true, true, true, true, true, false, true, true, true, false, false, false, true, true, false, false, false, true, true, true, true, false, false, false, true, true, false, false, false] rfl rfl (any_of HT_.out (by kernel_rfl)) (fun _ _ _ h => h) (Or.inl ⟨by rfl, ?_⟩) ?_ ?_
                                                  rotate_left
                                                  · intro w'
                                                    go_simp
                                                    with_reducible rfl
                                                  rotate_left
                                                  · simp only [Act.put, List.setIfInBounds_toArray, List.set_cons_zero, List.set_cons_succ, i64_w, i32_w]
                                                    rfl
                                                  refine pure_ (i := 11) (N := some 60) (v := ?_) (a' := ?_) #[true, true, true, true, true, true, true, true, true, true, true, true, true, true, true, false, false, false, true, true, false, false, false, true, true, true, true, false, false, false, true, true, false, false, false] rfl rfl (any_of HT_.out (by kernel_rfl)) (fun _ _ _ h => h) (Or.inl ⟨by rfl, ?_⟩) ?_ ?_
                                                  rotate_left
                                                  · intro w'
                                                    go_simp
                                                    with_reducible rfl
                                                  rotate_left
                                                  · simp only [Act.put, List.setIfInBounds_toArray, List.set_cons_zero, List.set_cons_succ, i64_w, i32_w]
                                                    rfl
                                                  refine one_ (i := 15) (N := some 64) #[true, true, true, true, true, true, true, true, true, true, true, true, true, true, true, true, false, false, true, true, false, false, false, true, true, true, true, false, false, false, true, true, false, false, false] rfl rfl (one_of HT_.out (by kernel_rfl)) (by decide) (fun K hK => ?_)
                                                  refine goes_ Tryd.func42 (by kernel_rfl) rfl #[.int .u64 (IntKind.u64.wrap ((rd_T56 l0_3 x4_1).f3))] (by rfl) rfl rfl (by (try simp only [List.map_toArray, List.map_cons, List.map_nil]); first | done | rfl | (simp only [List.length_drop, List.length_take]; rfl)) ?_
                                                  with_reducible refine (cloakroomref09_Text.calls k1 (IntKind.u64.wrap ((rd_T56 l0_3 x4_1).f3)) t127 _ A38.out).mono ?_
                                                  rintro e w' ⟨rfl, ⟨nd, rfl⟩⟩
                                                  refine ⟨_, rfl, ?_⟩
                                                  refine hK.out _ _ ⟨(blk_cell BK125.out 0).trans rfl, (blk_cell BK125.out 1).trans rfl, (blk_cell BK125.out 2).trans rfl, (blk_cell BK125.out 3).trans rfl, (blk_cell BK125.out 4).trans rfl⟩ (fun hHeld => ?_)
                                                  clear hK K
                                                  refine norm_ (a' := ?_) ?_ ?_
                                                  rotate_left
                                                  · show Act.put _ (some 64) _ = _
                                                    simp only [Act.put, List.setIfInBounds_toArray, List.set_cons_zero, List.set_cons_succ, i64_w, i32_w]
                                                    rfl
                                                  refine pure_ (i := 16) (N := some 65) (v := ?_) (a' := ?_) #[true, true, true, true, true, true, true, true, true, true, true, true, true, true, true, true, true, false, true, true, false, false, false, true, true, true, true, false, false, false, true, true, false, false, false] rfl rfl (any_of HT_.out (by kernel_rfl)) (fun _ _ _ h => h) (Or.inl ⟨by rfl, ?_⟩) ?_ ?_
                                                  rotate_left
                                                  · intro w'
                                                    go_simp
                                                    with_reducible rfl
                                                  rotate_left
                                                  · simp only [Act.put, List.setIfInBounds_toArray, List.set_cons_zero, List.set_cons_succ, i64_w, i32_w]
                                                    rfl
                                                  refine pure_ (i := 17) (N := some 66) (v := ?_) (a' := ?_) #[true, true, true, true, true, true, true, true, true, true, true, true, true, true, true, true, true, true, true, true, false, false, false, true, true, true, true, false, false, false, true, true, false, false, false] rfl rfl (any_of HT_.out (by kernel_rfl)) (fun _ _ _ h => h) (Or.inl ⟨by rfl, ?_⟩) ?_ ?_
                                                  rotate_left
                                                  · intro w'
                                                    go_simp
                                                    with_reducible rfl
                                                  rotate_left
                                                  · simp only [Act.put, List.setIfInBounds_toArray, List.set_cons_zero, List.set_cons_succ, i64_w, i32_w]
                                                    rfl
                                                  refine one_ (i := 20) (N := some 69) #[true, true, true, true, true, true, true, true, true, true, true, true, true, true, true, true, true, true, true, true, true, false, false, true, true, true, true, false, false, false, true, true, false, false, false] rfl rfl (one_of HT_.out (by kernel_rfl)) (by decide) (fun K hK => ?_)
                                                  refine goes_ Tryd.func42 (by kernel_rfl) rfl #[.int .u64 ((rd_T56 l0_3 x4_1).f4)] (by rfl) rfl rfl (by (try simp only [List.map_toArray, List.map_cons, List.map_nil]); first | done | rfl | (simp only [List.length_drop, List.length_take]; rfl)) ?_
                                                  with_reducible refine (cloakroomref09_Text.calls k1 ((rd_T56 l0_3 x4_1).f4) t128 _ A41.out).mono ?_
                                                  rintro e w' ⟨rfl, ⟨nd, rfl⟩⟩
                                                  refine ⟨_, rfl, ?_⟩
                                                  refine hK.out _ _ ⟨(blk_cell BK125.out 0).trans rfl, (blk_cell BK125.out 1).trans rfl, (blk_cell BK125.out 2).trans rfl, (blk_cell BK125.out 3).trans rfl, (blk_cell BK125.out 4).trans rfl⟩ (fun hHeld => ?_)
                                                  clear hK K
                                                  refine norm_ (a' := ?_) ?_ ?_
                                                  rotate_left
                                                  · show Act.put _ (some 69) _ = _
                                                    simp only [Act.put, List.setIfInBounds_toArray, List.set_cons_zero, List.set_cons_succ, i64_w, i32_w]
                                                    rfl
                                                  refine pure_ (i := 21) (N := some 70) (v := ?_) (a' := ?_) #[true, true, true, true, true, true, true, true, true, true, true, true, true, true, true, true, true, true, true, true, true, true, false, true, true, true, true, false, false, false, true, true, false, false, false] rfl rfl (any_of HT_.out (by kernel_rfl)) (fun _ _ _ h => h) (Or.inl ⟨by rfl, ?_⟩) ?_ ?_
                                                  rotate_left
                                                  · intro w'
                                                    go_simp
                                                    with_reducible rfl
                                                  rotate_left
                                                  · simp only [Act.put, List.setIfInBounds_toArray, List.set_cons_zero, List.set_cons_succ, i64_w, i32_w]
                                                    rfl
                                                  refine pure_ (i := 22) (N := some 71) (v := ?_) (a' := ?_) #[true, true, true, true, true, true, true, true, true, true, true, true, true, true, true, true, true, true, true, true, true, true, true, true, true, true, true, false, false, false, true, true, false, false, false] rfl rfl (any_of HT_.out (by kernel_rfl)) (fun _ _ _ h => h) (Or.inl ⟨by rfl, ?_⟩) ?_ ?_
                                                  rotate_left
                                                  · intro w'
                                                    go_simp
                                                    with_reducible rfl
                                                  rotate_left
                                                  · simp only [Act.put, List.setIfInBounds_toArray, List.set_cons_zero, List.set_cons_succ, i64_w, i32_w]
                                                    rfl
                                                  refine one_ (i := 27) (N := some 76) #[true, true, true, true, true, true, true, true, true, true, true, true, true, true, true, true, true, true, true, true, true, true, true, true, true, true, true, true, false, false, true, true, false, false, false] rfl rfl (one_of HT_.out (by kernel_rfl)) (by decide) (fun K hK => ?_)
                                                  refine goes_ Tryd.func42 (by kernel_rfl) rfl #[.int .u64 (IntKind.u64.wrap ((((rd_T56 l0_3 x4_1).f1).size : Int)))] (by rfl) rfl rfl (by (try simp only [List.map_toArray, List.map_cons, List.map_nil]); first | done | rfl | (simp only [List.length_drop, List.length_take]; rfl)) ?_
                                                  with_reducible refine (cloakroomref09_Text.calls k1 (IntKind.u64.wrap ((((rd_T56 l0_3 x4_1).f1).size : Int))) t129 _ A44.out).mono ?_
                                                  rintro e w' ⟨rfl, ⟨nd, rfl⟩⟩
                                                  refine ⟨_, rfl, ?_⟩
                                                  refine hK.out _ _ ⟨(blk_cell BK125.out 0).trans rfl, (blk_cell BK125.out 1).trans rfl, (blk_cell BK125.out 2).trans rfl, (blk_cell BK125.out 3).trans rfl, (blk_cell BK125.out 4).trans rfl⟩ (fun hHeld => ?_)
                                                  clear hK K
                                                  refine norm_ (a' := ?_) ?_ ?_
                                                  rotate_left
                                                  · show Act.put _ (some 76) _ = _
                                                    simp only [Act.put, List.setIfInBounds_toArray, List.set_cons_zero, List.set_cons_succ, i64_w, i32_w]
                                                    rfl
                                                  refine pure_ (i := 28) (N := some 77) (v := ?_) (a' := ?_) #[true, true, true, true, true, true, true, true, true, true, true, true, true, true, true, true, true, true, true, true, true, true, true, true, true, true, true, true, true, false, true, true, false, false, false] rfl rfl (any_of HT_.out (by kernel_rfl)) (fun _ _ _ h => h) (Or.inl ⟨by rfl, ?_⟩) ?_ ?_
                                                  rotate_left
                                                  · intro w'
                                                    go_simp
                                                    with_reducible rfl
                                                  rotate_left
                                                  · simp only [Act.put, List.setIfInBounds_toArray, List.set_cons_zero, List.set_cons_succ, i64_w, i32_w]
                                                    rfl
                                                  refine pure_ (i := 29) (N := some 78) (v := ?_) (a' := ?_) #[true, true, true, true, true, true, true, true, true, true, true, true, true, true, true, true, true, true, true, true, true, true, true, true, true, true, true, true, true, true, true, true, false, false, false] rfl rfl (any_of HT_.out (by kernel_rfl)) (fun _ _ _ h => h) (Or.inl ⟨by rfl, ?_⟩) ?_ ?_
                                                  rotate_left
                                                  · intro w'
                                                    go_simp
                                                    with_reducible rfl
                                                  rotate_left
                                                  · simp only [Act.put, List.setIfInBounds_toArray, List.set_cons_zero, List.set_cons_succ, i64_w, i32_w]
                                                    rfl
                                                  refine pure_ (i := 32) (N := some 81) (v := ?_) (a' := ?_) #[true, true, true, true, true, true, true, true, true, true, true, true, true, true, true, true, true, true, true, true, true, true, true, true, true, true, true, true, true, true, true, true, true, false, false] rfl rfl (any_of HT_.out (by kernel_rfl)) (fun _ _ _ h => h) (Or.inl ⟨by rfl, ?_⟩) ?_ ?_
                                                  rotate_left
                                                  · intro w'
                                                    go_simp
                                                    with_reducible rfl
                                                  rotate_left
                                                  · simp only [Act.put, List.setIfInBounds_toArray, List.set_cons_zero, List.set_cons_succ, i64_w, i32_w]
                                                    rfl
                                                  refine pure_ (i := 33) (N := some 82) (v := ?_) (a' := ?_) #[true, true, true, true, true, true, true, true, true, true, true, true, true, true, true, true, true, true, true, true, true, true, true, true, true, true, true, true, true, true, true, true, true, true, false] rfl rfl (any_of HT_.out (by kernel_rfl)) (fun _ _ _ h => h) (Or.inl ⟨by rfl, ?_⟩) ?_ ?_
                                                  rotate_left
                                                  · intro w'
                                                    go_simp
                                                    with_reducible rfl
                                                  rotate_left
                                                  · simp only [Act.put, List.setIfInBounds_toArray, List.set_cons_zero, List.set_cons_succ, i64_w, i32_w]
                                                    rfl
                                                  refine pure_ (i := 34) (N := some 3) (v := ?_) (a' := ?_) #[true, true, true, true, true, true, true, true, true, true, true, true, true, true, true, true, true, true, true, true, true, true, true, true, true, true, true, true, true, true, true, true, true, true, true] rfl rfl (any_of HT_.out (by kernel_rfl)) (fun _ _ _ h => h) (Or.inl ⟨by rfl, ?_⟩) ?_ ?_
                                                  rotate_left
                                                  · intro w'
                                                    go_simp
                                                    with_reducible rfl
                                                  rotate_left
                                                  · simp only [Act.put, List.setIfInBounds_toArray, List.set_cons_zero, List.set_cons_succ, i64_w, i32_w]
                                                    rfl
                                                  refine done_ (done_of HT_.out (by kernel_rfl)) ?_
                                                  try go_wp2
                                                  go_roundg k1
                                                  case measure => have := HK1.out; omega
                                                  case rel => exact ⟨(((((((((((((x3_1 ++ (⟨#[86, 65, 76, 85, 69, 32]⟩ : ByteArray)) ++ ((rd_T56 l0_3 x4_1).f0)) ++ (⟨#[32]⟩ : ByteArray)) ++ t126) ++ (⟨#[32]⟩ : ByteArray)) ++ t127) ++ (⟨#[32]⟩ : ByteArray)) ++ t128) ++ (⟨#[32]⟩ : ByteArray)) ++ t129) ++ (⟨#[13, 10]⟩ : ByteArray)) ++ ((rd_T56 l0_3 x4_1).f1)) ++ (⟨#[13, 10]⟩ : ByteArray)), (wrap64 (x4_1 + 1)), (by first | rfl | (simp; done) | (simp [*]; done) | exact x_nonempty _ | (simp [x_nonempty]; done)), (by first | rfl | (simp; done) | (simp [*]; done) | exact x_nonempty _ | (simp [x_nonempty]; done)), H', ⟨by have := HK1.out; omega⟩, ⟨by (with_reducible repeat (first | refine blk_drewN ?_ _ | refine blk_drew ?_ | refine blk_alloc ?_ _)); exact BK122.out⟩, ⟨by repeat (first | (with_reducible first | exact HB.out | apply below_alloc | apply pw_below_drewN | apply below_drew1 | refine below_set ?_ GE122.out | refine below_set ?_ GE125.out) | exact HB.out)⟩⟩
                                                · rw [if_neg c48] at H
                                                  exact absurd H (by simp)
                                              · rw [if_neg c47] at H
                                                exact absurd H (by simp)
                                            · rw [if_neg c46] at H
                                              exact absurd H (by simp)
                                          · rw [if_neg c45] at H
                                            exact absurd H (by simp)
                                        · rw [if_neg c43] at H
                                          exact absurd H (by simp)
                                      · rw [if_neg c42] at H
                                        exact absurd H (by simp)
                                    · rw [if_neg c40] at H
                                      exact absurd H (by simp)
                                  · rw [if_neg c39] at H
                                    exact absurd H (by simp)
                                · rw [if_neg c37] at H
                                  exact absurd H (by simp)
                              · rw [if_neg c36] at H
                                exact absurd H (by simp)
                            · rw [if_neg c34] at H
                              exact absurd H (by simp)
                          · rw [if_neg c33] at H
                            exact absurd H (by simp)
                        · rw [if_neg c32] at H
                          exact absurd H (by simp)
                      · rw [if_neg c31] at H
                        exact absurd H (by simp)
                    · rw [if_neg c30] at H
                      have c30b0 : decide (x4_1 < (l0_3.length : Int)) = false := decide_eq_false c30
                      clear c30
                      replace H := Option.bind_eq_some_iff.mp H
                      obtain ⟨t130, A550, H⟩ := H
                      replace H : (if x3_1.size + t130.size ≤ 9223372036854775807 then ((cloakroomref15_counts.f a0_1).bind fun t131 => (if t131 = true then (if (x3_1 ++ t130).size + 1 ≤ 9223372036854775807 then ((cloakroomref09_Text.f k1 a0_4).bind fun t132 => (if ((x3_1 ++ t130) ++ (⟨#[32]⟩ : ByteArray)).size + t132.size ≤ 9223372036854775807 then (some (((x3_1 ++ t130) ++ (⟨#[32]⟩ : ByteArray)) ++ t132)) else (none))) else (none)) else (some (x3_1 ++ t130)))) else (none)) = some r := H
                      have A55 := Aside0.mk A550
                      clear A550
                      by_cases c56 : x3_1.size + t130.size ≤ 9223372036854775807
                      · rw [if_pos c56] at H
                        have c56b0 := eq_true c56
                        have c56b1 : decide (x3_1.size + t130.size ≤ 9223372036854775807) = true := decide_eq_true c56
                        try have c56b2 : (9223372036854775807 < x3_1.size + t130.size) = False := eq_false (Nat.not_lt.2 c56)
                        try (have c56b3 := c56b2; simp only [ByteArray.size_append, x_size_lit, List.size_toArray, List.length_cons, List.length_nil, Nat.zero_add, Nat.reduceAdd] at c56b3)
                        replace H := Option.bind_eq_some_iff.mp H
                        obtain ⟨t131, A570, H⟩ := H
                        replace H : (if t131 = true then (if (x3_1 ++ t130).size + 1 ≤ 9223372036854775807 then ((cloakroomref09_Text.f k1 a0_4).bind fun t132 => (if ((x3_1 ++ t130) ++ (⟨#[32]⟩ : ByteArray)).size + t132.size ≤ 9223372036854775807 then (some (((x3_1 ++ t130) ++ (⟨#[32]⟩ : ByteArray)) ++ t132)) else (none))) else (none)) else (some (x3_1 ++ t130))) = some r := H
                        have A57 := Aside0.mk A570
                        clear A570
                        by_cases c58 : t131 = true
                        · subst c58
                          have H1 : (if (x3_1 ++ t130).size + 1 ≤ 9223372036854775807 then ((cloakroomref09_Text.f k1 a0_4).bind fun t132 => (if ((x3_1 ++ t130) ++ (⟨#[32]⟩ : ByteArray)).size + t132.size ≤ 9223372036854775807 then (some (((x3_1 ++ t130) ++ (⟨#[32]⟩ : ByteArray)) ++ t132)) else (none))) else (none)) = some r := by rw [if_pos rfl] at H; exact H
                          clear H
                          have H := H1
                          clear H1
                          by_cases c59 : (x3_1 ++ t130).size + 1 ≤ 9223372036854775807
                          · rw [if_pos c59] at H
                            have c59b0 := eq_true c59
                            have c59b1 : decide ((x3_1 ++ t130).size + 1 ≤ 9223372036854775807) = true := decide_eq_true c59
                            try have c59b2 : (9223372036854775807 < (x3_1 ++ t130).size + 1) = False := eq_false (Nat.not_lt.2 c59)
                            try (have c59b3 := c59b2; simp only [ByteArray.size_append, x_size_lit, List.size_toArray, List.length_cons, List.length_nil, Nat.zero_add, Nat.reduceAdd] at c59b3)
                            replace H := Option.bind_eq_some_iff.mp H
                            obtain ⟨t132, A600, H⟩ := H
                            replace H : (if ((x3_1 ++ t130) ++ (⟨#[32]⟩ : ByteArray)).size + t132.size ≤ 9223372036854775807 then (some (((x3_1 ++ t130) ++ (⟨#[32]⟩ : ByteArray)) ++ t132)) else (none)) = some r := H
                            have A60 := Aside0.mk A600
                            clear A600
                            by_cases c61 : ((x3_1 ++ t130) ++ (⟨#[32]⟩ : ByteArray)).size + t132.size ≤ 9223372036854775807
                            · rw [if_pos c61] at H
                              have c61b0 := eq_true c61
                              have c61b1 : decide (((x3_1 ++ t130) ++ (⟨#[32]⟩ : ByteArray)).size + t132.size ≤ 9223372036854775807) = true := decide_eq_true c61
                              try have c61b2 : (9223372036854775807 < ((x3_1 ++ t130) ++ (⟨#[32]⟩ : ByteArray)).size + t132.size) = False := eq_false (Nat.not_lt.2 c61)
                              try (have c61b3 := c61b2; simp only [ByteArray.size_append, x_size_lit, List.size_toArray, List.length_cons, List.length_nil, Nat.zero_add, Nat.reduceAdd] at c61b3)
                              obtain rfl := Option.some.inj H
                              have hcz62_0 : wr.cell? ⟨gb122, 0, none⟩ = some (.int .u8 a0_0) := (blk_cell BK122.out 0).trans rfl
                              have hcz62_1 : wr.cell? ⟨gb122, 1, none⟩ = some (.int .u8 a0_1) := (blk_cell BK122.out 1).trans rfl
                              have hcz62_2 : wr.cell? ⟨gb122, 2, none⟩ = some (.int .u8 a0_2) := (blk_cell BK122.out 2).trans rfl
                              have hcz62_3 : wr.cell? ⟨gb122, 3, none⟩ = some (.slice A0_3 l0_3.length c0_3) := (blk_cell BK122.out 3).trans rfl
                              have hcz62_4 : wr.cell? ⟨gb122, 4, none⟩ = some (.int .u64 a0_4) := (blk_cell BK122.out 4).trans rfl
                              have hcz62_5 : wr.cell? ⟨gb122, 5, none⟩ = some (.bool a0_5) := (blk_cell BK122.out 5).trans rfl
                              have hcz62_6 : wr.cell? ⟨gb122, 6, none⟩ = some (.string a0_6) := (blk_cell BK122.out 6).trans rfl
                              have hfz62_0 := blk_frozen BK122.out 0
                              have hfz62_1 := blk_frozen BK122.out 1
                              have hfz62_2 := blk_frozen BK122.out 2
                              have hfz62_3 := blk_frozen BK122.out 3
                              have hfz62_4 := blk_frozen BK122.out 4
                              have hfz62_5 := blk_frozen BK122.out 5
                              have hfz62_6 := blk_frozen BK122.out 6
                              go_wp2_with (first | ((with_reducible refine gate_callee (f := 65) rfl ?_); refine goesL_ (some 86) rfl rfl Tryd.func65 (by kernel_rfl) rfl #[.int .u8 a0_1] rfl (by (try simp only [List.map_toArray, List.map_cons, List.map_nil]); first | done | rfl | (simp only [List.length_drop, List.length_take]; rfl)) ?_; (with_reducible refine (cloakroomref15_row.calls a0_1 t130 _ A55.out).mono ?_); rintro e w63 ⟨rfl, hb⟩; refine ⟨_, rfl, ?_⟩; have n0_ := Aside0.mk (blk_below (g := gb122) (o := .cells #[.int .u8 a0_0, .int .u8 a0_1, .int .u8 a0_2, .slice A0_3 l0_3.length c0_3, .int .u64 a0_4, .bool a0_5, .string a0_6] 27 (0, 0)) (by (with_reducible repeat (first | refine blk_drewN ?_ _ | refine blk_drew ?_ | refine blk_alloc ?_ _)); exact BK122.out) hb); have n1_ := Aside0.mk (below_step (by repeat (first | (with_reducible first | exact HB.out | apply below_alloc | apply pw_below_drewN | apply below_drew1 | refine below_set ?_ GE122.out) | exact HB.out)) hb); clear BK122; clear HB; have BK122 := n0_; have HB := n1_; clear n0_ n1_; (try clear hb); (try clear hb2); (try clear hk); (try clear hi); have hcz64_0 : w63.cell? ⟨gb122, 0, none⟩ = some (.int .u8 a0_0) := (blk_cell BK122.out 0).trans rfl; have hcz64_1 : w63.cell? ⟨gb122, 1, none⟩ = some (.int .u8 a0_1) := (blk_cell BK122.out 1).trans rfl; have hcz64_2 : w63.cell? ⟨gb122, 2, none⟩ = some (.int .u8 a0_2) := (blk_cell BK122.out 2).trans rfl; have hcz64_3 : w63.cell? ⟨gb122, 3, none⟩ = some (.slice A0_3 l0_3.length c0_3) := (blk_cell BK122.out 3).trans rfl; have hcz64_4 : w63.cell? ⟨gb122, 4, none⟩ = some (.int .u64 a0_4) := (blk_cell BK122.out 4).trans rfl; have hcz64_5 : w63.cell? ⟨gb122, 5, none⟩ = some (.bool a0_5) := (blk_cell BK122.out 5).trans rfl; have hcz64_6 : w63.cell? ⟨gb122, 6, none⟩ = some (.string a0_6) := (blk_cell BK122.out 6).trans rfl; have hfz64_0 := blk_frozen BK122.out 0; have hfz64_1 := blk_frozen BK122.out 1; have hfz64_2 := blk_frozen BK122.out 2; have hfz64_3 := blk_frozen BK122.out 3; have hfz64_4 := blk_frozen BK122.out 4; have hfz64_5 := blk_frozen BK122.out 5; have hfz64_6 := blk_frozen BK122.out 6) | ((with_reducible refine gate_callee (f := 62) rfl ?_); refine goesL_ (some 90) rfl rfl Tryd.func62 (by kernel_rfl) rfl #[.int .u8 a0_1] rfl (by (try simp only [List.map_toArray, List.map_cons, List.map_nil]); first | done | rfl | (simp only [List.length_drop, List.length_take]; rfl)) ?_; (with_reducible refine (cloakroomref15_counts.calls a0_1 true _ A57.out).mono ?_); rintro e w' ⟨rfl, ⟨nd, rfl⟩⟩; refine ⟨_, rfl, ?_⟩) | ((with_reducible refine gate_callee (f := 42) rfl ?_); refine goesL_ (some 96) rfl rfl Tryd.func42 (by kernel_rfl) rfl #[.int .u64 a0_4] rfl (by (try simp only [List.map_toArray, List.map_cons, List.map_nil]); first | done | rfl | (simp only [List.length_drop, List.length_take]; rfl)) ?_; (with_reducible refine (cloakroomref09_Text.calls k1 a0_4 t132 _ A60.out).mono ?_); rintro e w' ⟨rfl, ⟨nd, rfl⟩⟩; refine ⟨_, rfl, ?_⟩))
                              go_ret
                              exact ⟨by first | rfl | (simp [errW_none, errW_some] <;> rfl) | (simp [*, errW_none, errW_some] <;> rfl), by repeat (first | (with_reducible first | exact HB.out | apply below_alloc | apply pw_below_drewN | apply below_drew1 | refine below_set ?_ GE122.out) | exact HB.out)⟩
                            · rw [if_neg c61] at H
                              exact absurd H (by simp)
                          · rw [if_neg c59] at H
                            exact absurd H (by simp)
                        · replace c58 := Bool.eq_false_iff.mpr c58
                          subst c58
                          have H1 : (some (x3_1 ++ t130)) = some r := by rw [if_neg (show ¬ (false = true) by decide)] at H; exact H
                          clear H
                          have H := H1
                          clear H1
                          obtain rfl := Option.some.inj H
                          have hcz65_0 : wr.cell? ⟨gb122, 0, none⟩ = some (.int .u8 a0_0) := (blk_cell BK122.out 0).trans rfl
                          have hcz65_1 : wr.cell? ⟨gb122, 1, none⟩ = some (.int .u8 a0_1) := (blk_cell BK122.out 1).trans rfl
                          have hcz65_2 : wr.cell? ⟨gb122, 2, none⟩ = some (.int .u8 a0_2) := (blk_cell BK122.out 2).trans rfl
                          have hcz65_3 : wr.cell? ⟨gb122, 3, none⟩ = some (.slice A0_3 l0_3.length c0_3) := (blk_cell BK122.out 3).trans rfl
                          have hcz65_4 : wr.cell? ⟨gb122, 4, none⟩ = some (.int .u64 a0_4) := (blk_cell BK122.out 4).trans rfl
                          have hcz65_5 : wr.cell? ⟨gb122, 5, none⟩ = some (.bool a0_5) := (blk_cell BK122.out 5).trans rfl
                          have hcz65_6 : wr.cell? ⟨gb122, 6, none⟩ = some (.string a0_6) := (blk_cell BK122.out 6).trans rfl
                          have hfz65_0 := blk_frozen BK122.out 0
                          have hfz65_1 := blk_frozen BK122.out 1
                          have hfz65_2 := blk_frozen BK122.out 2
                          have hfz65_3 := blk_frozen BK122.out 3
                          have hfz65_4 := blk_frozen BK122.out 4
                          have hfz65_5 := blk_frozen BK122.out 5
                          have hfz65_6 := blk_frozen BK122.out 6
                          go_wp2_with (first | ((with_reducible refine gate_callee (f := 65) rfl ?_); refine goesL_ (some 86) rfl rfl Tryd.func65 (by kernel_rfl) rfl #[.int .u8 a0_1] rfl (by (try simp only [List.map_toArray, List.map_cons, List.map_nil]); first | done | rfl | (simp only [List.length_drop, List.length_take]; rfl)) ?_; (with_reducible refine (cloakroomref15_row.calls a0_1 t130 _ A55.out).mono ?_); rintro e w66 ⟨rfl, hb⟩; refine ⟨_, rfl, ?_⟩; have n0_ := Aside0.mk (blk_below (g := gb122) (o := .cells #[.int .u8 a0_0, .int .u8 a0_1, .int .u8 a0_2, .slice A0_3 l0_3.length c0_3, .int .u64 a0_4, .bool a0_5, .string a0_6] 27 (0, 0)) (by (with_reducible repeat (first | refine blk_drewN ?_ _ | refine blk_drew ?_ | refine blk_alloc ?_ _)); exact BK122.out) hb); have n1_ := Aside0.mk (below_step (by repeat (first | (with_reducible first | exact HB.out | apply below_alloc | apply pw_below_drewN | apply below_drew1 | refine below_set ?_ GE122.out) | exact HB.out)) hb); clear BK122; clear HB; have BK122 := n0_; have HB := n1_; clear n0_ n1_; (try clear hb); (try clear hb2); (try clear hk); (try clear hi); have hcz67_0 : w66.cell? ⟨gb122, 0, none⟩ = some (.int .u8 a0_0) := (blk_cell BK122.out 0).trans rfl; have hcz67_1 : w66.cell? ⟨gb122, 1, none⟩ = some (.int .u8 a0_1) := (blk_cell BK122.out 1).trans rfl; have hcz67_2 : w66.cell? ⟨gb122, 2, none⟩ = some (.int .u8 a0_2) := (blk_cell BK122.out 2).trans rfl; have hcz67_3 : w66.cell? ⟨gb122, 3, none⟩ = some (.slice A0_3 l0_3.length c0_3) := (blk_cell BK122.out 3).trans rfl; have hcz67_4 : w66.cell? ⟨gb122, 4, none⟩ = some (.int .u64 a0_4) := (blk_cell BK122.out 4).trans rfl; have hcz67_5 : w66.cell? ⟨gb122, 5, none⟩ = some (.bool a0_5) := (blk_cell BK122.out 5).trans rfl; have hcz67_6 : w66.cell? ⟨gb122, 6, none⟩ = some (.string a0_6) := (blk_cell BK122.out 6).trans rfl; have hfz67_0 := blk_frozen BK122.out 0; have hfz67_1 := blk_frozen BK122.out 1; have hfz67_2 := blk_frozen BK122.out 2; have hfz67_3 := blk_frozen BK122.out 3; have hfz67_4 := blk_frozen BK122.out 4; have hfz67_5 := blk_frozen BK122.out 5; have hfz67_6 := blk_frozen BK122.out 6) | ((with_reducible refine gate_callee (f := 62) rfl ?_); refine goesL_ (some 90) rfl rfl Tryd.func62 (by kernel_rfl) rfl #[.int .u8 a0_1] rfl (by (try simp only [List.map_toArray, List.map_cons, List.map_nil]); first | done | rfl | (simp only [List.length_drop, List.length_take]; rfl)) ?_; (with_reducible refine (cloakroomref15_counts.calls a0_1 false _ A57.out).mono ?_); rintro e w' ⟨rfl, ⟨nd, rfl⟩⟩; refine ⟨_, rfl, ?_⟩))
                          go_ret
                          exact ⟨by first | rfl | (simp [errW_none, errW_some] <;> rfl) | (simp [*, errW_none, errW_some] <;> rfl), by repeat (first | (with_reducible first | exact HB.out | apply below_alloc | apply pw_below_drewN | apply below_drew1 | refine below_set ?_ GE122.out) | exact HB.out)⟩
                      · rw [if_neg c56] at H
                        exact absurd H (by simp)
              · rw [if_neg c27] at H
                have c27b0 : (a0_2 == 1) = false := beq_eq_false_iff_ne.mpr c27
                have c27b1 : (a0_2 != 1) = true := bne_iff_ne.mpr c27
                replace H := Option.bind_eq_some_iff.mp H
                obtain ⟨t123, A680, H⟩ := H
                replace H : (some t123) = some r := H
                have A68 := Aside0.mk A680
                clear A680
                obtain rfl := Option.some.inj H
                go_enter Tryd.func28, Tryd.ntmps28
                go_wp2_with (first | ((with_reducible refine gate_dst (N := 1) rfl ?_); refine box_event ?hg (N := 1) ?hd (cs := #[.int .u8 a0_0, .int .u8 a0_1, .int .u8 a0_2, .slice A0_3 l0_3.length c0_3, .int .u64 a0_4, .bool a0_5, .string a0_6]) (t := 27) ?hr ?_; (case hd => rfl); (case hg => rfl); (case hr => first | (go_simp; done) | (go_simp; rfl)); intro gb122 hg w69 hbox hb; have n0_ := Aside0.mk (below_step (by repeat (first | (with_reducible first | exact HB.out | apply below_alloc | apply pw_below_drewN | apply below_drew1) | exact HB.out)) hb); have n1_ := Aside0.mk (hbox); have n2_ := Aside0.mk ((by rw [hg]; exact (below_size (by repeat (first | (with_reducible first | exact HB.out | apply below_alloc | apply pw_below_drewN | apply below_drew1) | exact HB.out))) : w.heap.size ≤ gb122)); have n3_ := Aside0.mk ((by rw [hg]; exact (below_size (by repeat (first | (with_reducible first | exact HB.out | apply below_alloc | apply pw_below_drewN | apply below_drew1) | exact HB.out))) : w.heap.size ≤ gb122)); clear HB; have HB := n0_; have BK122 := n1_; have GW122 := n2_; have GE122 := n3_; clear n0_ n1_ n2_ n3_; clear hb hbox hg; have hcz70_0 : w69.cell? ⟨gb122, 0, none⟩ = some (.int .u8 a0_0) := (blk_cell BK122.out 0).trans rfl; have hcz70_1 : w69.cell? ⟨gb122, 1, none⟩ = some (.int .u8 a0_1) := (blk_cell BK122.out 1).trans rfl; have hcz70_2 : w69.cell? ⟨gb122, 2, none⟩ = some (.int .u8 a0_2) := (blk_cell BK122.out 2).trans rfl; have hcz70_3 : w69.cell? ⟨gb122, 3, none⟩ = some (.slice A0_3 l0_3.length c0_3) := (blk_cell BK122.out 3).trans rfl; have hcz70_4 : w69.cell? ⟨gb122, 4, none⟩ = some (.int .u64 a0_4) := (blk_cell BK122.out 4).trans rfl; have hcz70_5 : w69.cell? ⟨gb122, 5, none⟩ = some (.bool a0_5) := (blk_cell BK122.out 5).trans rfl; have hcz70_6 : w69.cell? ⟨gb122, 6, none⟩ = some (.string a0_6) := (blk_cell BK122.out 6).trans rfl; have hfz70_0 := blk_frozen BK122.out 0; have hfz70_1 := blk_frozen BK122.out 1; have hfz70_2 := blk_frozen BK122.out 2; have hfz70_3 := blk_frozen BK122.out 3; have hfz70_4 := blk_frozen BK122.out 4; have hfz70_5 := blk_frozen BK122.out 5; have hfz70_6 := blk_frozen BK122.out 6) | ((with_reducible refine gate_callee (f := 64) rfl ?_); refine goesL_ (some 34) rfl rfl Tryd.func64 (by kernel_rfl) rfl #[.int .u8 a0_2] rfl (by (try simp only [List.map_toArray, List.map_cons, List.map_nil]); first | done | rfl | (simp only [List.length_drop, List.length_take]; rfl)) ?_; (with_reducible refine (cloakroomref15_word.calls a0_2 t123 _ A68.out).mono ?_); rintro e w71 ⟨rfl, hb⟩; refine ⟨_, rfl, ?_⟩; have n0_ := Aside0.mk (blk_below (g := gb122) (o := .cells #[.int .u8 a0_0, .int .u8 a0_1, .int .u8 a0_2, .slice A0_3 l0_3.length c0_3, .int .u64 a0_4, .bool a0_5, .string a0_6] 27 (0, 0)) (by (with_reducible repeat (first | refine blk_drewN ?_ _ | refine blk_drew ?_ | refine blk_alloc ?_ _)); exact BK122.out) hb); have n1_ := Aside0.mk (below_step (by repeat (first | (with_reducible first | exact HB.out | apply below_alloc | apply pw_below_drewN | apply below_drew1 | refine below_set ?_ GE122.out) | exact HB.out)) hb); clear BK122; clear HB; have BK122 := n0_; have HB := n1_; clear n0_ n1_; (try clear hb); (try clear hb2); (try clear hk); (try clear hi)))
                go_ret
                exact ⟨by first | rfl | (simp [errW_none, errW_some] <;> rfl) | (simp [*, errW_none, errW_some] <;> rfl), by repeat (first | (with_reducible first | exact HB.out | apply below_alloc | apply pw_below_drewN | apply below_drew1 | refine below_set ?_ GE122.out) | exact HB.out)⟩

end Go.Proofs.YtfoengihiaegoaaDoor.P
