-- written by wip/tools/drive.py, a driver round the kit's printer, and made smaller by wip/tools/slim.py
import Derived.Test.YtfoengihiaegoaaDoorP0
namespace Go.Proofs.YtfoengihiaegoaaDoor.P
open Go.RowKit Go.Proofs.YtfoengihiaegoaaDoorW.PrintWords Go.Proofs.YtfoengihiaegoaaDoorW.PrintLast Go.Proofs.YtfoengihiaegoaaDoorW.PrintMore
set_option linter.unusedVariables false
set_option linter.unusedSimpArgs false
theorem t25_0 {p : Prop} (h : p := by repeat (first | (with_reducible first | exact HB.out | apply below_alloc | apply pw_below_drewN | apply below_drew1 | refine below_set ?_ GE295.out | refine below_set ?_ GE296.out) | exact HB.out)) : p := h
theorem t25_1 {p : Prop} (h : p := by (with_reducible repeat (first | refine blk_drewN ?_ _ | refine blk_drew ?_ | refine blk_alloc ?_ _)); exact BK295.out) : p := h
theorem t25_2 {p : Prop} (h : p := by repeat (first | (with_reducible first | exact HB.out | apply below_alloc | apply pw_below_drewN | apply below_drew1 | refine below_set ?_ GE295.out) | exact HB.out)) : p := h
theorem t25_3 {p : Prop} (h : p := by repeat (first | (with_reducible first | exact HB.out | apply below_alloc | apply pw_below_drewN | apply below_drew1) | exact HB.out)) : p := h
theorem t25_4 {p : Prop} (h : p := by (with_reducible repeat (first | refine blk_drewN ?_ _ | refine blk_drew ?_ | refine blk_alloc ?_ _)); exact BK296.out) : p := h
theorem t25_5 {p : Prop} (h : p := by first | rfl | (simp; done) | (simp [*]; done) | exact x_nonempty _ | (simp [x_nonempty]; done)) : p := h
theorem t25_6 {p : Prop} (h : p := by rw [hg]; exact Nat.ne_of_lt (blk_lt (g := gb295) (o := .cells #[.int .u8 a0_0, .int .i64 a0_1, .slice A0_2 l0_2.length c0_2, .string a0_3, .int .u32 a0_4, .int .i64 a0_5, .int .u64 a0_6, .int .u64 a0_7] 40 (0, 0)) t25_1)) : p := h
theorem t25_7 {p : Prop} (h : p := by rw [hg]; exact Nat.ne_of_gt (blk_lt (g := gb295) (o := .cells #[.int .u8 a0_0, .int .i64 a0_1, .slice A0_2 l0_2.length c0_2, .string a0_3, .int .u32 a0_4, .int .i64 a0_5, .int .u64 a0_6, .int .u64 a0_7] 40 (0, 0)) t25_1)) : p := h
theorem t25_8 {p : Prop} (h : p := by first | (with_reducible assumption) | assumption) : p := h
theorem t25_9 {p : Prop} (h : p := by first | omega | exact Nat.le_refl _) : p := h
theorem t25_10 {p : Prop} (h : p := by first | rfl | (simp [errW_none, errW_some] <;> rfl) | (simp [*, errW_none, errW_some] <;> rfl)) : p := h
theorem t25_11 {p : Prop} (h : p := by rw [hg]; exact (below_size t25_3)) : p := h
theorem t25_12 {p : Prop} (h : p := by rw [hg]; exact (below_size t25_2)) : p := h
mutual
def cloakroomref10_SameCommand.j0 : Nat → Bool → Int → Int → List ByteArray → ByteArray → Int → Int → Int → Int → Int → Int → List ByteArray → ByteArray → Int → Int → Int → Int → Option (Bool)
 | 0, _, _, _, _, _, _, _, _, _, _, _, _, _, _, _, _, _ => none
 | k + 1, x61, x296000, x296001, x296002, x296003, x296004, x296005, x296006, x296007, x297000, x297001, x297002, x297003, x297004, x297005, x297006, x297007 => if x61 = true then (some false) else (cloakroomref10_SameCommand.l0 k 0 x296000 x296001 x296002 x296003 x296004 x296005 x296006 x296007 x297000 x297001 x297002 x297003 x297004 x297005 x297006 x297007)
def cloakroomref10_SameCommand.l0 : Nat → Int → Int → Int → List ByteArray → ByteArray → Int → Int → Int → Int → Int → Int → List ByteArray → ByteArray → Int → Int → Int → Int → Option (Bool)
 | 0, _, _, _, _, _, _, _, _, _, _, _, _, _, _, _, _, _ => none
 | k + 1, x5, x296000, x296001, x296002, x296003, x296004, x296005, x296006, x296007, x297000, x297001, x297002, x297003, x297004, x297005, x297006, x297007 => if x5 < (x296002.length : Int) then (if 0 ≤ x5 then (if x5 < (x297002.length : Int) then (if (rdOf ByteArray.empty x296002 x5).toList = (rdOf ByteArray.empty x297002 x5).toList then (cloakroomref10_SameCommand.l0 k (wrap64 (x5 + 1)) x296000 x296001 x296002 x296003 x296004 x296005 x296006 x296007 x297000 x297001 x297002 x297003 x297004 x297005 x297006 x297007) else (some false)) else (none)) else (none)) else (some true)
end
def cloakroomref10_SameCommand.f (k : Nat) (a0_0 : Int) (a0_1 : Int) (l0_2 : List ByteArray) (a0_3 : ByteArray) (a0_4 : Int) (a0_5 : Int) (a0_6 : Int) (a0_7 : Int) (a1_0 : Int) (a1_1 : Int) (l1_2 : List ByteArray) (a1_3 : ByteArray) (a1_4 : Int) (a1_5 : Int) (a1_6 : Int) (a1_7 : Int) : Option (Bool) := if a0_0 = a1_0 then (if a0_1 = a1_1 then (if a0_3.toList = a1_3.toList then (if a0_4 = a1_4 then (if a0_5 = a1_5 then (if a0_6 = a1_6 then (if a0_7 = a1_7 then (cloakroomref10_SameCommand.j0 k ((l0_2.length : Int) != (l1_2.length : Int)) a0_0 a0_1 l0_2 a0_3 a0_4 a0_5 a0_6 a0_7 a1_0 a1_1 l1_2 a1_3 a1_4 a1_5 a1_6 a1_7) else (cloakroomref10_SameCommand.j0 k true a0_0 a0_1 l0_2 a0_3 a0_4 a0_5 a0_6 a0_7 a1_0 a1_1 l1_2 a1_3 a1_4 a1_5 a1_6 a1_7)) else (cloakroomref10_SameCommand.j0 k true a0_0 a0_1 l0_2 a0_3 a0_4 a0_5 a0_6 a0_7 a1_0 a1_1 l1_2 a1_3 a1_4 a1_5 a1_6 a1_7)) else (cloakroomref10_SameCommand.j0 k true a0_0 a0_1 l0_2 a0_3 a0_4 a0_5 a0_6 a0_7 a1_0 a1_1 l1_2 a1_3 a1_4 a1_5 a1_6 a1_7)) else (cloakroomref10_SameCommand.j0 k true a0_0 a0_1 l0_2 a0_3 a0_4 a0_5 a0_6 a0_7 a1_0 a1_1 l1_2 a1_3 a1_4 a1_5 a1_6 a1_7)) else (cloakroomref10_SameCommand.j0 k true a0_0 a0_1 l0_2 a0_3 a0_4 a0_5 a0_6 a0_7 a1_0 a1_1 l1_2 a1_3 a1_4 a1_5 a1_6 a1_7)) else (cloakroomref10_SameCommand.j0 k true a0_0 a0_1 l0_2 a0_3 a0_4 a0_5 a0_6 a0_7 a1_0 a1_1 l1_2 a1_3 a1_4 a1_5 a1_6 a1_7)) else (cloakroomref10_SameCommand.j0 k true a0_0 a0_1 l0_2 a0_3 a0_4 a0_5 a0_6 a0_7 a1_0 a1_1 l1_2 a1_3 a1_4 a1_5 a1_6 a1_7)
theorem cloakroomref10_SameCommand.mono_l : ∀ k, (∀ y0 y1 y2 y3 y4 y5 y6 y7 y8 y9 y10 y11 y12 y13 y14 y15 y16, LeO (cloakroomref10_SameCommand.j0 k y0 y1 y2 y3 y4 y5 y6 y7 y8 y9 y10 y11 y12 y13 y14 y15 y16) (cloakroomref10_SameCommand.j0 (k + 1) y0 y1 y2 y3 y4 y5 y6 y7 y8 y9 y10 y11 y12 y13 y14 y15 y16)) ∧ (∀ y0 y1 y2 y3 y4 y5 y6 y7 y8 y9 y10 y11 y12 y13 y14 y15 y16, LeO (cloakroomref10_SameCommand.l0 k y0 y1 y2 y3 y4 y5 y6 y7 y8 y9 y10 y11 y12 y13 y14 y15 y16) (cloakroomref10_SameCommand.l0 (k + 1) y0 y1 y2 y3 y4 y5 y6 y7 y8 y9 y10 y11 y12 y13 y14 y15 y16))
 | 0 => ⟨fun _ _ _ _ _ _ _ _ _ _ _ _ _ _ _ _ _ r h => by simp [cloakroomref10_SameCommand.j0] at h, fun _ _ _ _ _ _ _ _ _ _ _ _ _ _ _ _ _ r h => by simp [cloakroomref10_SameCommand.l0] at h⟩
 | k + 1 => by
  obtain ⟨ih0, ih1⟩ := cloakroomref10_SameCommand.mono_l k
  refine ⟨?_, ?_⟩
  all_goals intros
  all_goals (first | unfold cloakroomref10_SameCommand.j0 | unfold cloakroomref10_SameCommand.l0)
  all_goals repeat' first | (with_reducible first | apply ih0 | apply ih1 | exact LeO.refl _ | exact LeO.none _ | refine LeO.ite ?_ ?_ | refine LeO.bind ?_ (fun _ => ?_)) | exact LeO.none _ | refine LeO.ite ?_ ?_ | refine LeO.bind ?_ (fun _ => ?_)
theorem cloakroomref10_SameCommand.mono : ∀ a0 a1 a2 a3 a4 a5 a6 a7 a8 a9 a10 a11 a12 a13 a14 a15 k, LeO (cloakroomref10_SameCommand.f k a0 a1 a2 a3 a4 a5 a6 a7 a8 a9 a10 a11 a12 a13 a14 a15) (cloakroomref10_SameCommand.f (k + 1) a0 a1 a2 a3 a4 a5 a6 a7 a8 a9 a10 a11 a12 a13 a14 a15) := by
 intro a0 a1 a2 a3 a4 a5 a6 a7 a8 a9 a10 a11 a12 a13 a14 a15 k
 obtain ⟨ih0, ih1⟩ := cloakroomref10_SameCommand.mono_l k
 unfold cloakroomref10_SameCommand.f
 repeat' first | (with_reducible first | apply ih0 | apply ih1 | exact LeO.refl _ | exact LeO.none _ | refine LeO.ite ?_ ?_ | refine LeO.bind ?_ (fun _ => ?_)) | exact LeO.none _ | refine LeO.ite ?_ ?_ | refine LeO.bind ?_ (fun _ => ?_)
set_option maxHeartbeats 8000000 in
set_option maxRecDepth 100000 in
theorem cloakroomref10_SameCommand.calls (k : Nat) (a0_0 : Int) (a0_1 : Int) (A0_2 : Option Addr) (c0_2 : Nat) (l0_2 : List ByteArray) (a0_3 : ByteArray) (a0_4 : Int) (a0_5 : Int) (a0_6 : Int) (a0_7 : Int) (a1_0 : Int) (a1_1 : Int) (A1_2 : Option Addr) (c1_2 : Nat) (l1_2 : List ByteArray) (a1_3 : ByteArray) (a1_4 : Int) (a1_5 : Int) (a1_6 : Int) (a1_7 : Int) (r : Bool) (w : World) (hr0_2 : Kd.C Kd.string w A0_2 l0_2.length l0_2) (hc0_2 : l0_2.length ≤ c0_2) (hr1_2 : Kd.C Kd.string w A1_2 l1_2.length l1_2) (hc1_2 : l1_2.length ≤ c1_2) (h : cloakroomref10_SameCommand.f k a0_0 a0_1 l0_2 a0_3 a0_4 a0_5 a0_6 a0_7 a1_0 a1_1 l1_2 a1_3 a1_4 a1_5 a1_6 a1_7 = some r) :
  Calls Tryd.prog 76 #[.agg #[.int .u8 a0_0, .int .i64 a0_1, .slice A0_2 l0_2.length c0_2, .string a0_3, .int .u32 a0_4, .int .i64 a0_5, .int .u64 a0_6, .int .u64 a0_7], .agg #[.int .u8 a1_0, .int .i64 a1_1, .slice A1_2 l1_2.length c1_2, .string a1_3, .int .u32 a1_4, .int .i64 a1_5, .int .u64 a1_6, .int .u64 a1_7]] w fun e w' => e = .returned (.bool r) ∧ Below w.heap.size w w' := by
 have hu40 := Tryd.underlying40
 have HR0_2 := Aside0.mk hr0_2
 have HC0_2 := Aside0.mk hc0_2
 clear hr0_2 hc0_2
 have HR1_2 := Aside0.mk hr1_2
 have HC1_2 := Aside0.mk hc1_2
 clear hr1_2 hc1_2
 have HB := Aside0.mk (Below.refl w.heap.size w)
 have H : (if a0_0 = a1_0 then (if a0_1 = a1_1 then (if a0_3.toList = a1_3.toList then (if a0_4 = a1_4 then (if a0_5 = a1_5 then (if a0_6 = a1_6 then (if a0_7 = a1_7 then (cloakroomref10_SameCommand.j0 k ((l0_2.length : Int) != (l1_2.length : Int)) a0_0 a0_1 l0_2 a0_3 a0_4 a0_5 a0_6 a0_7 a1_0 a1_1 l1_2 a1_3 a1_4 a1_5 a1_6 a1_7) else (cloakroomref10_SameCommand.j0 k true a0_0 a0_1 l0_2 a0_3 a0_4 a0_5 a0_6 a0_7 a1_0 a1_1 l1_2 a1_3 a1_4 a1_5 a1_6 a1_7)) else (cloakroomref10_SameCommand.j0 k true a0_0 a0_1 l0_2 a0_3 a0_4 a0_5 a0_6 a0_7 a1_0 a1_1 l1_2 a1_3 a1_4 a1_5 a1_6 a1_7)) else (cloakroomref10_SameCommand.j0 k true a0_0 a0_1 l0_2 a0_3 a0_4 a0_5 a0_6 a0_7 a1_0 a1_1 l1_2 a1_3 a1_4 a1_5 a1_6 a1_7)) else (cloakroomref10_SameCommand.j0 k true a0_0 a0_1 l0_2 a0_3 a0_4 a0_5 a0_6 a0_7 a1_0 a1_1 l1_2 a1_3 a1_4 a1_5 a1_6 a1_7)) else (cloakroomref10_SameCommand.j0 k true a0_0 a0_1 l0_2 a0_3 a0_4 a0_5 a0_6 a0_7 a1_0 a1_1 l1_2 a1_3 a1_4 a1_5 a1_6 a1_7)) else (cloakroomref10_SameCommand.j0 k true a0_0 a0_1 l0_2 a0_3 a0_4 a0_5 a0_6 a0_7 a1_0 a1_1 l1_2 a1_3 a1_4 a1_5 a1_6 a1_7)) else (cloakroomref10_SameCommand.j0 k true a0_0 a0_1 l0_2 a0_3 a0_4 a0_5 a0_6 a0_7 a1_0 a1_1 l1_2 a1_3 a1_4 a1_5 a1_6 a1_7)) = some r := h
 clear h
 have HC3 := Aside0.mk H
 clear H
 go_enter Tryd.func76, Tryd.ntmps76
 go_upto_region 1 with (first | ((with_reducible refine gate_dst (N := 2) rfl ?_); (try (refine gate_guard (by rfl) ?_; dsimp only)); refine box_event ?hg (N := 2) ?hd (cs := #[.int .u8 a0_0, .int .i64 a0_1, .slice A0_2 l0_2.length c0_2, .string a0_3, .int .u32 a0_4, .int .i64 a0_5, .int .u64 a0_6, .int .u64 a0_7]) (t := 40) ?hr ?_; (case hd => rfl); (case hg => rfl); (case hr => first | (go_simp; done) | (go_simp; rfl)); intro gb295 hg w4 hbox hb; have n0_ := Aside0.mk (below_step t25_3 hb); have n1_ := Aside0.mk (hbox); have n2_ := Aside0.mk ((t25_11 : w.heap.size ≤ gb295)); have n3_ := Aside0.mk ((t25_11 : w.heap.size ≤ gb295)); clear HB; have HB := n0_; have BK295 := n1_; have GW295 := n2_; have GE295 := n3_; clear n0_ n1_ n2_ n3_; clear hb hbox hg) | ((with_reducible refine gate_dst (N := 3) rfl ?_); (try (refine gate_guard (by rfl) ?_; dsimp only)); refine box_event ?hg (N := 3) ?hd (cs := #[.int .u8 a1_0, .int .i64 a1_1, .slice A1_2 l1_2.length c1_2, .string a1_3, .int .u32 a1_4, .int .i64 a1_5, .int .u64 a1_6, .int .u64 a1_7]) (t := 40) ?hr ?_; (case hd => rfl); (case hg => rfl); (case hr => first | (go_simp; done) | (go_simp; rfl)); intro gb296 hg w5 hbox hb; have n0_ := Aside0.mk (blk_below (g := gb295) (o := .cells #[.int .u8 a0_0, .int .i64 a0_1, .slice A0_2 l0_2.length c0_2, .string a0_3, .int .u32 a0_4, .int .i64 a0_5, .int .u64 a0_6, .int .u64 a0_7] 40 (0, 0)) t25_1 hb); have n1_ := Aside0.mk (below_step t25_2 hb); have n2_ := Aside0.mk (hbox); have n3_ := Aside0.mk ((t25_12 : w.heap.size ≤ gb296)); have n4_ := Aside0.mk ((t25_12 : w.heap.size ≤ gb296)); have n5_ := Aside0.mk ((t25_6 : gb295 ≠ gb296)); have n6_ := Aside0.mk ((t25_7 : gb296 ≠ gb295)); clear BK295; clear HB; have BK295 := n0_; have HB := n1_; have BK296 := n2_; have GW296 := n3_; have GE296 := n4_; have NB295_296 := n5_; have NB296_295 := n6_; clear n0_ n1_ n2_ n3_ n4_ n5_ n6_; clear hb hbox hg))
 repeat (go_quiet (first | ((with_reducible refine gate_dst (N := 2) rfl ?_); (try (refine gate_guard (by rfl) ?_; dsimp only)); refine box_event ?hg (N := 2) ?hd (cs := #[.int .u8 a0_0, .int .i64 a0_1, .slice A0_2 l0_2.length c0_2, .string a0_3, .int .u32 a0_4, .int .i64 a0_5, .int .u64 a0_6, .int .u64 a0_7]) (t := 40) ?hr ?_; (case hd => rfl); (case hg => rfl); (case hr => first | (go_simp; done) | (go_simp; rfl)); intro gb295 hg w4 hbox hb; have n0_ := Aside0.mk (below_step t25_3 hb); have n1_ := Aside0.mk (hbox); have n2_ := Aside0.mk ((t25_11 : w.heap.size ≤ gb295)); have n3_ := Aside0.mk ((t25_11 : w.heap.size ≤ gb295)); clear HB; have HB := n0_; have BK295 := n1_; have GW295 := n2_; have GE295 := n3_; clear n0_ n1_ n2_ n3_; clear hb hbox hg) | ((with_reducible refine gate_dst (N := 3) rfl ?_); (try (refine gate_guard (by rfl) ?_; dsimp only)); refine box_event ?hg (N := 3) ?hd (cs := #[.int .u8 a1_0, .int .i64 a1_1, .slice A1_2 l1_2.length c1_2, .string a1_3, .int .u32 a1_4, .int .i64 a1_5, .int .u64 a1_6, .int .u64 a1_7]) (t := 40) ?hr ?_; (case hd => rfl); (case hg => rfl); (case hr => first | (go_simp; done) | (go_simp; rfl)); intro gb296 hg w5 hbox hb; have n0_ := Aside0.mk (blk_below (g := gb295) (o := .cells #[.int .u8 a0_0, .int .i64 a0_1, .slice A0_2 l0_2.length c0_2, .string a0_3, .int .u32 a0_4, .int .i64 a0_5, .int .u64 a0_6, .int .u64 a0_7] 40 (0, 0)) t25_1 hb); have n1_ := Aside0.mk (below_step t25_2 hb); have n2_ := Aside0.mk (hbox); have n3_ := Aside0.mk ((t25_12 : w.heap.size ≤ gb296)); have n4_ := Aside0.mk ((t25_12 : w.heap.size ≤ gb296)); have n5_ := Aside0.mk ((t25_6 : gb295 ≠ gb296)); have n6_ := Aside0.mk ((t25_7 : gb296 ≠ gb295)); clear BK295; clear HB; have BK295 := n0_; have HB := n1_; have BK296 := n2_; have GW296 := n3_; have GE296 := n4_; have NB295_296 := n5_; have NB296_295 := n6_; clear n0_ n1_ n2_ n3_ n4_ n5_ n6_; clear hb hbox hg)); go_upto_region 1 with (first | ((with_reducible refine gate_dst (N := 2) rfl ?_); (try (refine gate_guard (by rfl) ?_; dsimp only)); refine box_event ?hg (N := 2) ?hd (cs := #[.int .u8 a0_0, .int .i64 a0_1, .slice A0_2 l0_2.length c0_2, .string a0_3, .int .u32 a0_4, .int .i64 a0_5, .int .u64 a0_6, .int .u64 a0_7]) (t := 40) ?hr ?_; (case hd => rfl); (case hg => rfl); (case hr => first | (go_simp; done) | (go_simp; rfl)); intro gb295 hg w4 hbox hb; have n0_ := Aside0.mk (below_step t25_3 hb); have n1_ := Aside0.mk (hbox); have n2_ := Aside0.mk ((t25_11 : w.heap.size ≤ gb295)); have n3_ := Aside0.mk ((t25_11 : w.heap.size ≤ gb295)); clear HB; have HB := n0_; have BK295 := n1_; have GW295 := n2_; have GE295 := n3_; clear n0_ n1_ n2_ n3_; clear hb hbox hg) | ((with_reducible refine gate_dst (N := 3) rfl ?_); (try (refine gate_guard (by rfl) ?_; dsimp only)); refine box_event ?hg (N := 3) ?hd (cs := #[.int .u8 a1_0, .int .i64 a1_1, .slice A1_2 l1_2.length c1_2, .string a1_3, .int .u32 a1_4, .int .i64 a1_5, .int .u64 a1_6, .int .u64 a1_7]) (t := 40) ?hr ?_; (case hd => rfl); (case hg => rfl); (case hr => first | (go_simp; done) | (go_simp; rfl)); intro gb296 hg w5 hbox hb; have n0_ := Aside0.mk (blk_below (g := gb295) (o := .cells #[.int .u8 a0_0, .int .i64 a0_1, .slice A0_2 l0_2.length c0_2, .string a0_3, .int .u32 a0_4, .int .i64 a0_5, .int .u64 a0_6, .int .u64 a0_7] 40 (0, 0)) t25_1 hb); have n1_ := Aside0.mk (below_step t25_2 hb); have n2_ := Aside0.mk (hbox); have n3_ := Aside0.mk ((t25_12 : w.heap.size ≤ gb296)); have n4_ := Aside0.mk ((t25_12 : w.heap.size ≤ gb296)); have n5_ := Aside0.mk ((t25_6 : gb295 ≠ gb296)); have n6_ := Aside0.mk ((t25_7 : gb296 ≠ gb295)); clear BK295; clear HB; have BK295 := n0_; have HB := n1_; have BK296 := n2_; have GW296 := n3_; have GE296 := n4_; have NB295_296 := n5_; have NB296_295 := n6_; clear n0_ n1_ n2_ n3_ n4_ n5_ n6_; clear hb hbox hg)))
 (try simp only [Act.put, List.setIfInBounds_toArray, List.set_cons_zero, List.set_cons_succ])
 go_cut [61] (fun v61 wc => ∃ (kq : Nat) (x61_2 : Bool), v61 = .bool x61_2 ∧ Aside0 (cloakroomref10_SameCommand.j0 kq x61_2 a0_0 a0_1 l0_2 a0_3 a0_4 a0_5 a0_6 a0_7 a1_0 a1_1 l1_2 a1_3 a1_4 a1_5 a1_6 a1_7 = some r) ∧ Aside0 (kq ≤ k) ∧ Aside0 (wc.heap[gb295]? = some (.cells #[.int .u8 a0_0, .int .i64 a0_1, (.slice A0_2 l0_2.length c0_2), .string a0_3, .int .u32 a0_4, .int .i64 a0_5, .int .u64 a0_6, .int .u64 a0_7] 40 (0, 0))) ∧ Aside0 (wc.heap[gb296]? = some (.cells #[.int .u8 a1_0, .int .i64 a1_1, (.slice A1_2 l1_2.length c1_2), .string a1_3, .int .u32 a1_4, .int .i64 a1_5, .int .u64 a1_6, .int .u64 a1_7] 40 (0, 0))) ∧ Aside0 (Below w.heap.size w wc))
 case first =>
  have H := HC3.out
  clear HC3
  by_cases c6 : a0_0 = a1_0
  ·rw [if_pos c6] at H
   have c6b0 : (a0_0 == a1_0) = true := beq_iff_eq.mpr c6
   have c6b1 : (a0_0 != a1_0) = false := bne_eq_false_iff_eq.mpr c6
   clear c6
   (first | rw [c6b0] | (simp only [i64_w, i32_w]; rw [c6b0]) | rw [c6b1] | skip)
   by_cases c7 : a0_1 = a1_1
   ·rw [if_pos c7] at H
    have c7b0 : (a0_1 == a1_1) = true := beq_iff_eq.mpr c7
    have c7b1 : (a0_1 != a1_1) = false := bne_eq_false_iff_eq.mpr c7
    clear c7
    by_cases c8 : a0_3.toList = a1_3.toList
    ·rw [if_pos c8] at H
     have c8b0 : (a0_3.toList == a1_3.toList) = true := beq_iff_eq.mpr c8
     have c8b1 : (a0_3.toList != a1_3.toList) = false := bne_eq_false_iff_eq.mpr c8
     clear c8
     by_cases c9 : a0_4 = a1_4
     ·rw [if_pos c9] at H
      have c9b0 : (a0_4 == a1_4) = true := beq_iff_eq.mpr c9
      have c9b1 : (a0_4 != a1_4) = false := bne_eq_false_iff_eq.mpr c9
      clear c9
      by_cases c10 : a0_5 = a1_5
      ·rw [if_pos c10] at H
       have c10b0 : (a0_5 == a1_5) = true := beq_iff_eq.mpr c10
       have c10b1 : (a0_5 != a1_5) = false := bne_eq_false_iff_eq.mpr c10
       clear c10
       by_cases c11 : a0_6 = a1_6
       ·rw [if_pos c11] at H
        have c11b0 : (a0_6 == a1_6) = true := beq_iff_eq.mpr c11
        have c11b1 : (a0_6 != a1_6) = false := bne_eq_false_iff_eq.mpr c11
        clear c11
        by_cases c12 : a0_7 = a1_7
        ·rw [if_pos c12] at H
         have c12b0 : (a0_7 == a1_7) = true := beq_iff_eq.mpr c12
         have c12b1 : (a0_7 != a1_7) = false := bne_eq_false_iff_eq.mpr c12
         clear c12
         have H' := Aside0.mk H
         clear H
         have hnb13 := NB295_296.out
         have hnc13 := NB296_295.out
         have hz14 := blk8 BK295.out
         have hz15 := blk8 BK296.out
         go_wp2
         repeat (go_quiet (fail); try go_wp2)
         go_meet
         case rel => exact ⟨_, (((l0_2.length : Int) != (l1_2.length : Int))), t25_5, H', ⟨t25_9⟩, ⟨t25_1⟩, ⟨t25_4⟩, ⟨t25_0⟩⟩
        ·rw [if_neg c12] at H
         have c12b0 : (a0_7 == a1_7) = false := beq_eq_false_iff_ne.mpr c12
         have c12b1 : (a0_7 != a1_7) = true := bne_iff_ne.mpr c12
         have H' := Aside0.mk H
         clear H
         have hnb16 := NB295_296.out
         have hnc16 := NB296_295.out
         have hz17 := blk8 BK295.out
         have hz18 := blk8 BK296.out
         go_wp2
         repeat (go_quiet (fail); try go_wp2)
         go_meet
         case rel => exact ⟨_, (true), t25_5, H', ⟨t25_9⟩, ⟨t25_1⟩, ⟨t25_4⟩, ⟨t25_0⟩⟩
       ·rw [if_neg c11] at H
        have c11b0 : (a0_6 == a1_6) = false := beq_eq_false_iff_ne.mpr c11
        have c11b1 : (a0_6 != a1_6) = true := bne_iff_ne.mpr c11
        have H' := Aside0.mk H
        clear H
        have hnb19 := NB295_296.out
        have hnc19 := NB296_295.out
        have hz20 := blk8 BK295.out
        have hz21 := blk8 BK296.out
        go_wp2
        repeat (go_quiet (fail); try go_wp2)
        go_meet
        case rel => exact ⟨_, (true), t25_5, H', ⟨t25_9⟩, ⟨t25_1⟩, ⟨t25_4⟩, ⟨t25_0⟩⟩
      ·rw [if_neg c10] at H
       have c10b0 : (a0_5 == a1_5) = false := beq_eq_false_iff_ne.mpr c10
       have c10b1 : (a0_5 != a1_5) = true := bne_iff_ne.mpr c10
       have H' := Aside0.mk H
       clear H
       have hnb22 := NB295_296.out
       have hnc22 := NB296_295.out
       have hz23 := blk8 BK295.out
       have hz24 := blk8 BK296.out
       go_wp2
       repeat (go_quiet (fail); try go_wp2)
       go_meet
       case rel => exact ⟨_, (true), t25_5, H', ⟨t25_9⟩, ⟨t25_1⟩, ⟨t25_4⟩, ⟨t25_0⟩⟩
     ·rw [if_neg c9] at H
      have c9b0 : (a0_4 == a1_4) = false := beq_eq_false_iff_ne.mpr c9
      have c9b1 : (a0_4 != a1_4) = true := bne_iff_ne.mpr c9
      have H' := Aside0.mk H
      clear H
      have hnb25 := NB295_296.out
      have hnc25 := NB296_295.out
      have hz26 := blk8 BK295.out
      have hz27 := blk8 BK296.out
      go_wp2
      repeat (go_quiet (fail); try go_wp2)
      go_meet
      case rel => exact ⟨_, (true), t25_5, H', ⟨t25_9⟩, ⟨t25_1⟩, ⟨t25_4⟩, ⟨t25_0⟩⟩
    ·rw [if_neg c8] at H
     have c8b0 : (a0_3.toList == a1_3.toList) = false := beq_eq_false_iff_ne.mpr c8
     have c8b1 : (a0_3.toList != a1_3.toList) = true := bne_iff_ne.mpr c8
     have H' := Aside0.mk H
     clear H
     have hnb28 := NB295_296.out
     have hnc28 := NB296_295.out
     have hz29 := blk8 BK295.out
     have hz30 := blk8 BK296.out
     go_wp2
     repeat (go_quiet (fail); try go_wp2)
     go_meet
     case rel => exact ⟨_, (true), t25_5, H', ⟨t25_9⟩, ⟨t25_1⟩, ⟨t25_4⟩, ⟨t25_0⟩⟩
   ·rw [if_neg c7] at H
    have c7b0 : (a0_1 == a1_1) = false := beq_eq_false_iff_ne.mpr c7
    have c7b1 : (a0_1 != a1_1) = true := bne_iff_ne.mpr c7
    have H' := Aside0.mk H
    clear H
    have hnb31 := NB295_296.out
    have hnc31 := NB296_295.out
    have hz32 := blk8 BK295.out
    have hz33 := blk8 BK296.out
    go_wp2
    repeat (go_quiet (fail); try go_wp2)
    go_meet
    case rel => exact ⟨_, (true), t25_5, H', ⟨t25_9⟩, ⟨t25_1⟩, ⟨t25_4⟩, ⟨t25_0⟩⟩
  ·rw [if_neg c6] at H
   have c6b0 : (a0_0 == a1_0) = false := beq_eq_false_iff_ne.mpr c6
   have c6b1 : (a0_0 != a1_0) = true := bne_iff_ne.mpr c6
   (first | rw [c6b0] | (simp only [i64_w, i32_w]; rw [c6b0]) | rw [c6b1] | skip)
   have H' := Aside0.mk H
   clear H
   have hnb34 := NB295_296.out
   have hnc34 := NB296_295.out
   have hz35 := blk8 BK295.out
   have hz36 := blk8 BK296.out
   go_wp2
   repeat (go_quiet (fail); try go_wp2)
   go_meet
   case rel => exact ⟨_, (true), t25_5, H', ⟨t25_9⟩, ⟨t25_1⟩, ⟨t25_4⟩, ⟨t25_0⟩⟩
 case rest => as_aux_lemma =>
  clear HC3
  obtain ⟨kq, x61_2, rfl, HA, HJ2, BK295, BK296, HB⟩ := hcut
  cases kq with
  | zero => exact absurd HA.out (by simp [cloakroomref10_SameCommand.j0])
  | succ kj2 =>
   have H := HA.out
   clear HA
   simp only [cloakroomref10_SameCommand.j0] at H
   by_cases c37 : x61_2 = true
   ·subst c37
    rw [if_pos rfl] at H
    obtain rfl := Option.some.inj H
    go_wp2
    repeat (go_quiet (fail); try go_wp2)
    go_ret
    exact ⟨t25_10, t25_0⟩
   ·replace c37 := Bool.eq_false_iff.mpr c37
    subst c37
    rw [if_neg (show ¬ (false = true) by decide)] at H
    have H' := Aside0.mk H
    clear H
    go_wp2
    repeat (go_quiet (fail); try go_wp2)
    go_loopg [5] kj2 (fun kq v5 w' => ∃ (x5_2 : Int), v5 = .int .i64 x5_2 ∧ Aside0 (cloakroomref10_SameCommand.l0 kq x5_2 a0_0 a0_1 l0_2 a0_3 a0_4 a0_5 a0_6 a0_7 a1_0 a1_1 l1_2 a1_3 a1_4 a1_5 a1_6 a1_7 = some r) ∧ Aside0 (kq ≤ kj2) ∧ Aside0 (w'.heap[gb295]? = some (.cells #[.int .u8 a0_0, .int .i64 a0_1, (.slice A0_2 l0_2.length c0_2), .string a0_3, .int .u32 a0_4, .int .i64 a0_5, .int .u64 a0_6, .int .u64 a0_7] 40 (0, 0))) ∧ Aside0 (w'.heap[gb296]? = some (.cells #[.int .u8 a1_0, .int .i64 a1_1, (.slice A1_2 l1_2.length c1_2), .string a1_3, .int .u32 a1_4, .int .i64 a1_5, .int .u64 a1_6, .int .u64 a1_7] 40 (0, 0))) ∧ Aside0 (Below w.heap.size w w'))
    case atStart => exact ⟨(0), t25_5, H', ⟨Nat.le_refl _⟩, ⟨t25_1⟩, ⟨t25_4⟩, ⟨t25_0⟩⟩
    case round =>
     clear H'
     (try clear c37)
     obtain ⟨x5_2, rfl, HA, HK2, BK295, BK296, HB⟩ := hrel
     cases gk with
     | zero => exact absurd HA.out (by simp [cloakroomref10_SameCommand.l0])
     | succ k2 =>
      have H := HA.out
      clear HA
      simp only [cloakroomref10_SameCommand.l0] at H
      by_cases c38 : x5_2 < (l0_2.length : Int)
      ·rw [if_pos c38] at H
       have c38b0 : decide (x5_2 < (l0_2.length : Int)) = true := decide_eq_true c38
       clear c38
       by_cases c39 : 0 ≤ x5_2
       ·rw [if_pos c39] at H
        have c39b0 : decide (0 ≤ x5_2) = true := decide_eq_true c39
        clear c39
        by_cases c40 : x5_2 < (l1_2.length : Int)
        ·rw [if_pos c40] at H
         have c40b0 : decide (x5_2 < (l1_2.length : Int)) = true := decide_eq_true c40
         clear c40
         by_cases c41 : (rdOf ByteArray.empty l0_2 x5_2).toList = (rdOf ByteArray.empty l1_2 x5_2).toList
         ·rw [if_pos c41] at H
          have c41b0 : ((rdOf ByteArray.empty l0_2 x5_2).toList == (rdOf ByteArray.empty l1_2 x5_2).toList) = true := beq_iff_eq.mpr c41
          have c41b1 : ((rdOf ByteArray.empty l0_2 x5_2).toList != (rdOf ByteArray.empty l1_2 x5_2).toList) = false := bne_eq_false_iff_eq.mpr c41
          clear c41
          have H' := Aside0.mk H
          clear H
          have hnb42 := NB295_296.out
          have hnc42 := NB296_295.out
          have hz43 := blk8 BK295.out
          have p297 : 0 ≤ (x5_2 : Int) := of_decide_eq_true t25_8
          have q297 : x5_2 < (l0_2.length : Int) := of_decide_eq_true t25_8
          obtain ⟨ad297, e297, hx297_0⟩ := Kd.at_string HR0_2.out x5_2 p297 q297
          cases e297
          replace hx297_0 := (HB.out.cell (World.block_lt_of_cell? w _ hx297_0)).trans hx297_0
          replace p297 := eq_true p297
          replace q297 := eq_true q297
          have hz44 := blk8 BK296.out
          have p298 : 0 ≤ (x5_2 : Int) := of_decide_eq_true t25_8
          have q298 : x5_2 < (l1_2.length : Int) := of_decide_eq_true t25_8
          obtain ⟨ad298, e298, hx298_0⟩ := Kd.at_string HR1_2.out x5_2 p298 q298
          cases e298
          replace hx298_0 := (HB.out.cell (World.block_lt_of_cell? w _ hx298_0)).trans hx298_0
          replace p298 := eq_true p298
          replace q298 := eq_true q298
          go_wp2
          repeat (go_quiet (fail); try go_wp2)
          go_roundg k2
          case measure => have := HJ2.out; have := HK2.out; omega
          case rel => exact ⟨(wrap64 (x5_2 + 1)), t25_5, H', ⟨by have := HJ2.out; have := HK2.out; omega⟩, ⟨t25_1⟩, ⟨t25_4⟩, ⟨t25_0⟩⟩
         ·rw [if_neg c41] at H
          have c41b0 : ((rdOf ByteArray.empty l0_2 x5_2).toList == (rdOf ByteArray.empty l1_2 x5_2).toList) = false := beq_eq_false_iff_ne.mpr c41
          have c41b1 : ((rdOf ByteArray.empty l0_2 x5_2).toList != (rdOf ByteArray.empty l1_2 x5_2).toList) = true := bne_iff_ne.mpr c41
          obtain rfl := Option.some.inj H
          have hnb45 := NB295_296.out
          have hnc45 := NB296_295.out
          have hz46 := blk8 BK295.out
          have p297 : 0 ≤ (x5_2 : Int) := of_decide_eq_true t25_8
          have q297 : x5_2 < (l0_2.length : Int) := of_decide_eq_true t25_8
          obtain ⟨ad297, e297, hx297_0⟩ := Kd.at_string HR0_2.out x5_2 p297 q297
          cases e297
          replace hx297_0 := (HB.out.cell (World.block_lt_of_cell? w _ hx297_0)).trans hx297_0
          replace p297 := eq_true p297
          replace q297 := eq_true q297
          have hz47 := blk8 BK296.out
          have p298 : 0 ≤ (x5_2 : Int) := of_decide_eq_true t25_8
          have q298 : x5_2 < (l1_2.length : Int) := of_decide_eq_true t25_8
          obtain ⟨ad298, e298, hx298_0⟩ := Kd.at_string HR1_2.out x5_2 p298 q298
          cases e298
          replace hx298_0 := (HB.out.cell (World.block_lt_of_cell? w _ hx298_0)).trans hx298_0
          replace p298 := eq_true p298
          replace q298 := eq_true q298
          go_wp2
          repeat (go_quiet (fail); try go_wp2)
          go_ret
          exact ⟨t25_10, t25_0⟩
        ·rw [if_neg c40] at H
         exact absurd H (by simp)
       ·rw [if_neg c39] at H
        exact absurd H (by simp)
      ·rw [if_neg c38] at H
       have c38b0 : decide (x5_2 < (l0_2.length : Int)) = false := decide_eq_false c38
       clear c38
       obtain rfl := Option.some.inj H
       have hnb48 := NB295_296.out
       have hnc48 := NB296_295.out
       have hz49 := blk8 BK295.out
       go_wp2
       repeat (go_quiet (fail); try go_wp2)
       go_ret
       exact ⟨t25_10, t25_0⟩
end Go.Proofs.YtfoengihiaegoaaDoor.P
