-- written by wip/tools/drive.py, a driver round the kit's printer
import Derived.Test.YtfoengihiaegoaaDoorP0
import Derived.Test.YtfoengihiaegoaaDoorP4
namespace Go.Proofs.YtfoengihiaegoaaDoor.P
open Go.RowKit Go.Proofs.YtfoengihiaegoaaDoorW.PrintWords Go.Proofs.YtfoengihiaegoaaDoorW.PrintLast Go.Proofs.YtfoengihiaegoaaDoorW.PrintMore
attribute [local go_sem] max2_int min2_int max_two min_two max_three min_three max_four min_four   -- for this text's walks alone
set_option linter.unusedVariables false
set_option linter.unusedSimpArgs false

/-! ### words_Check: function 11 -/
def words_Check.j0 : Nat → Bool → Int → Int → Int → List (S56) → Int → Bool → ByteArray → Option (Int)
  | 0, _, _, _, _, _, _, _, _ => none
  | k + 1, x3, x109000, x109001, x109002, x109003, x109004, x109005, x109006 => if x109000 = 7 then (if x3 = true then (if (x109006.size : Int) ≥ 1 then (if ((x109006.size : Int) ≤ 32) then (if x109005 = true then (if x109000 = 2 then (some 0) else (if x109000 = 3 then (some 0) else (some 8))) else (some 0)) else (some 8)) else (some 8)) else (some 8)) else (if x3 = true then (if (x109006.toList = ([] : List UInt8)) then (if x109005 = true then (if x109000 = 2 then (some 0) else (if x109000 = 3 then (some 0) else (some 8))) else (some 0)) else (some 8)) else (some 8))
def words_Check.f (k : Nat) (a0_0 : Int) (a0_1 : Int) (a0_2 : Int) (l0_3 : List (S56)) (a0_4 : Int) (a0_5 : Bool) (a0_6 : ByteArray) : Option (Int) := if a0_0 = 1 then ((words_result.f k a0_1 a0_2 l0_3 a0_4).bind fun t109 => (words_Check.j0 k t109 a0_0 a0_1 a0_2 l0_3 a0_4 a0_5 a0_6)) else (if a0_0 > 1 then (if a0_0 ≤ 7 then (if a0_1 = 0 then (if a0_2 = 0 then (if a0_4 = 0 then (words_Check.j0 k ((l0_3.length : Int) == 0) a0_0 a0_1 a0_2 l0_3 a0_4 a0_5 a0_6) else (words_Check.j0 k false a0_0 a0_1 a0_2 l0_3 a0_4 a0_5 a0_6)) else (words_Check.j0 k false a0_0 a0_1 a0_2 l0_3 a0_4 a0_5 a0_6)) else (words_Check.j0 k false a0_0 a0_1 a0_2 l0_3 a0_4 a0_5 a0_6)) else (words_Check.j0 k false a0_0 a0_1 a0_2 l0_3 a0_4 a0_5 a0_6)) else (words_Check.j0 k false a0_0 a0_1 a0_2 l0_3 a0_4 a0_5 a0_6))
theorem words_Check.mono_l : ∀ k, (∀ y0 y1 y2 y3 y4 y5 y6 y7, LeO (words_Check.j0 k y0 y1 y2 y3 y4 y5 y6 y7) (words_Check.j0 (k + 1) y0 y1 y2 y3 y4 y5 y6 y7))
  | 0 => fun _ _ _ _ _ _ _ _ r h => by simp [words_Check.j0] at h
  | k + 1 => by
    have ih0 := words_Check.mono_l k
    · intro y0 y1 y2 y3 y4 y5 y6 y7
      unfold words_Check.j0
      repeat' first
      | (with_reducible exact ih0 _ _ _ _ _ _ _ _)
      | (with_reducible exact words_result.mono _ _ _ _ _)
      | (with_reducible exact LeO.refl _)
      | (with_reducible exact LeO.none _)
      | (with_reducible refine LeO.ite ?_ ?_)
      | (with_reducible refine LeO.bind ?_ (fun _ => ?_))
      | exact ih0 _ _ _ _ _ _ _ _
      | exact words_result.mono _ _ _ _ _
      | exact LeO.none _
      | refine LeO.ite ?_ ?_
      | refine LeO.bind ?_ (fun _ => ?_)
theorem words_Check.mono : ∀ a0 a1 a2 a3 a4 a5 a6 k, LeO (words_Check.f k a0 a1 a2 a3 a4 a5 a6) (words_Check.f (k + 1) a0 a1 a2 a3 a4 a5 a6) := by
  intro a0 a1 a2 a3 a4 a5 a6 k
  have ih0 := words_Check.mono_l k
  unfold words_Check.f
  repeat' first
      | (with_reducible exact ih0 _ _ _ _ _ _ _ _)
      | (with_reducible exact words_result.mono _ _ _ _ _)
      | (with_reducible exact LeO.refl _)
      | (with_reducible exact LeO.none _)
      | (with_reducible refine LeO.ite ?_ ?_)
      | (with_reducible refine LeO.bind ?_ (fun _ => ?_))
      | exact ih0 _ _ _ _ _ _ _ _
      | exact words_result.mono _ _ _ _ _
      | exact LeO.none _
      | refine LeO.ite ?_ ?_
      | refine LeO.bind ?_ (fun _ => ?_)
set_option maxHeartbeats 8000000 in
set_option maxRecDepth 100000 in
theorem words_Check.calls (k : Nat) (a0_0 : Int) (a0_1 : Int) (a0_2 : Int) (A0_3 : Option Addr) (c0_3 : Nat) (l0_3 : List (S56)) (a0_4 : Int) (a0_5 : Bool) (a0_6 : ByteArray) (r : Int) (w : World) (hr0_3 : Kd.C k56 w A0_3 l0_3.length l0_3) (hc0_3 : l0_3.length ≤ c0_3) (h : words_Check.f k a0_0 a0_1 a0_2 l0_3 a0_4 a0_5 a0_6 = some r) :
    Calls Tryd.prog 11 #[.agg #[.int .u8 a0_0, .int .u8 a0_1, .int .u8 a0_2, .slice A0_3 l0_3.length c0_3, .int .u64 a0_4, .bool a0_5, .string a0_6]] w fun e w' => e = .returned (.int .i64 r) ∧ Below w.heap.size w w' := by
  have hu27 := Tryd.underlying27
  have hu25 := Tryd.underlying25
  have HR0_3 := Aside0.mk hr0_3
  have HC0_3 := Aside0.mk hc0_3
  clear hr0_3 hc0_3
  have HB := Aside0.mk (Below.refl w.heap.size w)
  have H : (if a0_0 = 1 then ((words_result.f k a0_1 a0_2 l0_3 a0_4).bind fun t109 => (words_Check.j0 k t109 a0_0 a0_1 a0_2 l0_3 a0_4 a0_5 a0_6)) else (if a0_0 > 1 then (if a0_0 ≤ 7 then (if a0_1 = 0 then (if a0_2 = 0 then (if a0_4 = 0 then (words_Check.j0 k ((l0_3.length : Int) == 0) a0_0 a0_1 a0_2 l0_3 a0_4 a0_5 a0_6) else (words_Check.j0 k false a0_0 a0_1 a0_2 l0_3 a0_4 a0_5 a0_6)) else (words_Check.j0 k false a0_0 a0_1 a0_2 l0_3 a0_4 a0_5 a0_6)) else (words_Check.j0 k false a0_0 a0_1 a0_2 l0_3 a0_4 a0_5 a0_6)) else (words_Check.j0 k false a0_0 a0_1 a0_2 l0_3 a0_4 a0_5 a0_6)) else (words_Check.j0 k false a0_0 a0_1 a0_2 l0_3 a0_4 a0_5 a0_6))) = some r := h
  clear h
  have HC2 := Aside0.mk H
  clear H
  go_enter Tryd.func11, Tryd.ntmps11
  go_upto_block 0 with (first | ((with_reducible refine gate_dst (N := 1) rfl ?_); (try (refine gate_guard (by rfl) ?_; dsimp only)); refine box_event ?hg (N := 1) ?hd (cs := #[.int .u8 a0_0, .int .u8 a0_1, .int .u8 a0_2, .slice A0_3 l0_3.length c0_3, .int .u64 a0_4, .bool a0_5, .string a0_6]) (t := 27) ?hr ?_; (case hd => rfl); (case hg => rfl); (case hr => first | (go_simp; done) | (go_simp; rfl)); intro gb108 hg w3 hbox hb; have n0_ := Aside0.mk (below_step (by repeat (first | (with_reducible first | exact HB.out | apply below_alloc | apply pw_below_drewN | apply below_drew1) | exact HB.out)) hb); have n1_ := Aside0.mk (hbox); have n2_ := Aside0.mk ((by rw [hg]; exact (below_size (by repeat (first | (with_reducible first | exact HB.out | apply below_alloc | apply pw_below_drewN | apply below_drew1) | exact HB.out))) : w.heap.size ≤ gb108)); have n3_ := Aside0.mk ((by rw [hg]; exact (below_size (by repeat (first | (with_reducible first | exact HB.out | apply below_alloc | apply pw_below_drewN | apply below_drew1) | exact HB.out))) : w.heap.size ≤ gb108)); clear HB; have HB := n0_; have BK108 := n1_; have GW108 := n2_; have GE108 := n3_; clear n0_ n1_ n2_ n3_; clear hb hbox hg))
  (try simp only [Act.put, List.setIfInBounds_toArray, List.set_cons_zero, List.set_cons_succ])
  go_cut [3] (fun v3 wc => ∃ (kq : Nat) (x3_1 : Bool), v3 = .bool x3_1 ∧ Aside0 (words_Check.j0 kq x3_1 a0_0 a0_1 a0_2 l0_3 a0_4 a0_5 a0_6 = some r) ∧ Aside0 (kq ≤ k) ∧ Aside0 (wc.heap[gb108]? = some (.cells #[.int .u8 a0_0, .int .u8 a0_1, .int .u8 a0_2, (.slice A0_3 l0_3.length c0_3), .int .u64 a0_4, .bool a0_5, .string a0_6] 27 (0, 0))) ∧ Aside0 (Below w.heap.size w wc))
  case first =>
    have H := HC2.out
    clear HC2
    by_cases c4 : a0_0 = 1
    · rw [if_pos c4] at H
      have c4b0 : (a0_0 == 1) = true := beq_iff_eq.mpr c4
      have c4b1 : (a0_0 != 1) = false := bne_eq_false_iff_eq.mpr c4
      clear c4
      (first | rw [c4b0] | (simp only [i64_w, i32_w]; rw [c4b0]) | skip)
      replace H := Option.bind_eq_some_iff.mp H
      obtain ⟨t109, A50, H⟩ := H
      replace H : (words_Check.j0 k t109 a0_0 a0_1 a0_2 l0_3 a0_4 a0_5 a0_6) = some r := H
      have A5 := Aside0.mk A50
      clear A50
      have H' := Aside0.mk H
      clear H
      have hcz6_0 : w3.cell? ⟨gb108, 0, none⟩ = some (.int .u8 a0_0) := (blk_cell BK108.out 0).trans rfl
      have hcz6_1 : w3.cell? ⟨gb108, 1, none⟩ = some (.int .u8 a0_1) := (blk_cell BK108.out 1).trans rfl
      have hcz6_2 : w3.cell? ⟨gb108, 2, none⟩ = some (.int .u8 a0_2) := (blk_cell BK108.out 2).trans rfl
      have hcz6_3 : w3.cell? ⟨gb108, 3, none⟩ = some (.slice A0_3 l0_3.length c0_3) := (blk_cell BK108.out 3).trans rfl
      have hcz6_4 : w3.cell? ⟨gb108, 4, none⟩ = some (.int .u64 a0_4) := (blk_cell BK108.out 4).trans rfl
      have hcz6_5 : w3.cell? ⟨gb108, 5, none⟩ = some (.bool a0_5) := (blk_cell BK108.out 5).trans rfl
      have hcz6_6 : w3.cell? ⟨gb108, 6, none⟩ = some (.string a0_6) := (blk_cell BK108.out 6).trans rfl
      have hfz6_0 := blk_frozen BK108.out 0
      have hfz6_1 := blk_frozen BK108.out 1
      have hfz6_2 := blk_frozen BK108.out 2
      have hfz6_3 := blk_frozen BK108.out 3
      have hfz6_4 := blk_frozen BK108.out 4
      have hfz6_5 := blk_frozen BK108.out 5
      have hfz6_6 := blk_frozen BK108.out 6
      go_wp2_with (first | ((with_reducible refine gate_callee (f := 29) rfl ?_); refine goesL_ (some 12) rfl rfl Tryd.func29 (by kernel_rfl) rfl #[.int .u8 a0_1, .agg #[.int .u8 a0_2, .slice A0_3 l0_3.length c0_3, .int .u64 a0_4]] rfl (by (try simp only [List.map_toArray, List.map_cons, List.map_nil]); first | done | rfl | (simp only [List.length_drop, List.length_take]; rfl)) ?_; (with_reducible refine (words_result.calls k a0_1 a0_2 _ _ l0_3 a0_4 t109 _ ?side1 ?side2 A5.out).mono ?_); (case side1 => repeat (first | exact (Kd.C_below HR0_3.out HB.out) | (with_reducible refine Kd.C_alloc ?_ _) | (with_reducible refine Kd.C_drewN ?_ _) | (with_reducible refine Kd.C_drew ?_))); (case side2 => exact HC0_3.out); rintro e w7 ⟨rfl, hb⟩; refine ⟨_, rfl, ?_⟩; have n0_ := Aside0.mk (blk_below (g := gb108) (o := .cells #[.int .u8 a0_0, .int .u8 a0_1, .int .u8 a0_2, .slice A0_3 l0_3.length c0_3, .int .u64 a0_4, .bool a0_5, .string a0_6] 27 (0, 0)) (by (with_reducible repeat (first | refine blk_drewN ?_ _ | refine blk_drew ?_ | refine blk_alloc ?_ _)); exact BK108.out) hb); have n1_ := Aside0.mk (below_step (by repeat (first | (with_reducible first | exact HB.out | apply below_alloc | apply pw_below_drewN | apply below_drew1 | refine below_set ?_ GE108.out) | exact HB.out)) hb); clear BK108; clear HB; have BK108 := n0_; have HB := n1_; clear n0_ n1_; (try clear hb); (try clear hb2); (try clear hk); (try clear hi)))
      go_meet
      case rel => exact ⟨_, (t109), (by first | rfl | (simp; done) | (simp [*]; done) | exact x_nonempty _ | (simp [x_nonempty]; done)), H', ⟨by first | omega | exact Nat.le_refl _⟩, ⟨by (with_reducible repeat (first | refine blk_drewN ?_ _ | refine blk_drew ?_ | refine blk_alloc ?_ _)); exact BK108.out⟩, ⟨by repeat (first | (with_reducible first | exact HB.out | apply below_alloc | apply pw_below_drewN | apply below_drew1 | refine below_set ?_ GE108.out) | exact HB.out)⟩⟩
    · rw [if_neg c4] at H
      have c4b0 : (a0_0 == 1) = false := beq_eq_false_iff_ne.mpr c4
      have c4b1 : (a0_0 != 1) = true := bne_iff_ne.mpr c4
      (first | rw [c4b0] | (simp only [i64_w, i32_w]; rw [c4b0]) | skip)
      by_cases c8 : a0_0 > 1
      · rw [if_pos c8] at H
        have c8b0 : decide (1 < a0_0) = true := decide_eq_true c8
        clear c8
        by_cases c9 : a0_0 ≤ 7
        · rw [if_pos c9] at H
          have c9b0 : decide (a0_0 ≤ 7) = true := decide_eq_true c9
          clear c9
          by_cases c10 : a0_1 = 0
          · rw [if_pos c10] at H
            have c10b0 : (a0_1 == 0) = true := beq_iff_eq.mpr c10
            have c10b1 : (a0_1 != 0) = false := bne_eq_false_iff_eq.mpr c10
            clear c10
            by_cases c11 : a0_2 = 0
            · rw [if_pos c11] at H
              have c11b0 : (a0_2 == 0) = true := beq_iff_eq.mpr c11
              have c11b1 : (a0_2 != 0) = false := bne_eq_false_iff_eq.mpr c11
              clear c11
              by_cases c12 : a0_4 = 0
              · rw [if_pos c12] at H
                have c12b0 : (a0_4 == 0) = true := beq_iff_eq.mpr c12
                have c12b1 : (a0_4 != 0) = false := bne_eq_false_iff_eq.mpr c12
                clear c12
                have H' := Aside0.mk H
                clear H
                have hcz13_0 : w3.cell? ⟨gb108, 0, none⟩ = some (.int .u8 a0_0) := (blk_cell BK108.out 0).trans rfl
                have hcz13_1 : w3.cell? ⟨gb108, 1, none⟩ = some (.int .u8 a0_1) := (blk_cell BK108.out 1).trans rfl
                have hcz13_2 : w3.cell? ⟨gb108, 2, none⟩ = some (.int .u8 a0_2) := (blk_cell BK108.out 2).trans rfl
                have hcz13_3 : w3.cell? ⟨gb108, 3, none⟩ = some (.slice A0_3 l0_3.length c0_3) := (blk_cell BK108.out 3).trans rfl
                have hcz13_4 : w3.cell? ⟨gb108, 4, none⟩ = some (.int .u64 a0_4) := (blk_cell BK108.out 4).trans rfl
                have hcz13_5 : w3.cell? ⟨gb108, 5, none⟩ = some (.bool a0_5) := (blk_cell BK108.out 5).trans rfl
                have hcz13_6 : w3.cell? ⟨gb108, 6, none⟩ = some (.string a0_6) := (blk_cell BK108.out 6).trans rfl
                have hfz13_0 := blk_frozen BK108.out 0
                have hfz13_1 := blk_frozen BK108.out 1
                have hfz13_2 := blk_frozen BK108.out 2
                have hfz13_3 := blk_frozen BK108.out 3
                have hfz13_4 := blk_frozen BK108.out 4
                have hfz13_5 := blk_frozen BK108.out 5
                have hfz13_6 := blk_frozen BK108.out 6
                go_wp2
                go_meet
                case rel => exact ⟨_, (((l0_3.length : Int) == 0)), (by first | rfl | (simp; done) | (simp [*]; done) | exact x_nonempty _ | (simp [x_nonempty]; done)), H', ⟨by first | omega | exact Nat.le_refl _⟩, ⟨by (with_reducible repeat (first | refine blk_drewN ?_ _ | refine blk_drew ?_ | refine blk_alloc ?_ _)); exact BK108.out⟩, ⟨by repeat (first | (with_reducible first | exact HB.out | apply below_alloc | apply pw_below_drewN | apply below_drew1 | refine below_set ?_ GE108.out) | exact HB.out)⟩⟩
              · rw [if_neg c12] at H
                have c12b0 : (a0_4 == 0) = false := beq_eq_false_iff_ne.mpr c12
                have c12b1 : (a0_4 != 0) = true := bne_iff_ne.mpr c12
                have H' := Aside0.mk H
                clear H
                have hcz14_0 : w3.cell? ⟨gb108, 0, none⟩ = some (.int .u8 a0_0) := (blk_cell BK108.out 0).trans rfl
                have hcz14_1 : w3.cell? ⟨gb108, 1, none⟩ = some (.int .u8 a0_1) := (blk_cell BK108.out 1).trans rfl
                have hcz14_2 : w3.cell? ⟨gb108, 2, none⟩ = some (.int .u8 a0_2) := (blk_cell BK108.out 2).trans rfl
                have hcz14_3 : w3.cell? ⟨gb108, 3, none⟩ = some (.slice A0_3 l0_3.length c0_3) := (blk_cell BK108.out 3).trans rfl
                have hcz14_4 : w3.cell? ⟨gb108, 4, none⟩ = some (.int .u64 a0_4) := (blk_cell BK108.out 4).trans rfl
                have hcz14_5 : w3.cell? ⟨gb108, 5, none⟩ = some (.bool a0_5) := (blk_cell BK108.out 5).trans rfl
                have hcz14_6 : w3.cell? ⟨gb108, 6, none⟩ = some (.string a0_6) := (blk_cell BK108.out 6).trans rfl
                have hfz14_0 := blk_frozen BK108.out 0
                have hfz14_1 := blk_frozen BK108.out 1
                have hfz14_2 := blk_frozen BK108.out 2
                have hfz14_3 := blk_frozen BK108.out 3
                have hfz14_4 := blk_frozen BK108.out 4
                have hfz14_5 := blk_frozen BK108.out 5
                have hfz14_6 := blk_frozen BK108.out 6
                go_wp2
                go_meet
                case rel => exact ⟨_, (false), (by first | rfl | (simp; done) | (simp [*]; done) | exact x_nonempty _ | (simp [x_nonempty]; done)), H', ⟨by first | omega | exact Nat.le_refl _⟩, ⟨by (with_reducible repeat (first | refine blk_drewN ?_ _ | refine blk_drew ?_ | refine blk_alloc ?_ _)); exact BK108.out⟩, ⟨by repeat (first | (with_reducible first | exact HB.out | apply below_alloc | apply pw_below_drewN | apply below_drew1 | refine below_set ?_ GE108.out) | exact HB.out)⟩⟩
            · rw [if_neg c11] at H
              have c11b0 : (a0_2 == 0) = false := beq_eq_false_iff_ne.mpr c11
              have c11b1 : (a0_2 != 0) = true := bne_iff_ne.mpr c11
              have H' := Aside0.mk H
              clear H
              have hcz15_0 : w3.cell? ⟨gb108, 0, none⟩ = some (.int .u8 a0_0) := (blk_cell BK108.out 0).trans rfl
              have hcz15_1 : w3.cell? ⟨gb108, 1, none⟩ = some (.int .u8 a0_1) := (blk_cell BK108.out 1).trans rfl
              have hcz15_2 : w3.cell? ⟨gb108, 2, none⟩ = some (.int .u8 a0_2) := (blk_cell BK108.out 2).trans rfl
              have hcz15_3 : w3.cell? ⟨gb108, 3, none⟩ = some (.slice A0_3 l0_3.length c0_3) := (blk_cell BK108.out 3).trans rfl
              have hcz15_4 : w3.cell? ⟨gb108, 4, none⟩ = some (.int .u64 a0_4) := (blk_cell BK108.out 4).trans rfl
              have hcz15_5 : w3.cell? ⟨gb108, 5, none⟩ = some (.bool a0_5) := (blk_cell BK108.out 5).trans rfl
              have hcz15_6 : w3.cell? ⟨gb108, 6, none⟩ = some (.string a0_6) := (blk_cell BK108.out 6).trans rfl
              have hfz15_0 := blk_frozen BK108.out 0
              have hfz15_1 := blk_frozen BK108.out 1
              have hfz15_2 := blk_frozen BK108.out 2
              have hfz15_3 := blk_frozen BK108.out 3
              have hfz15_4 := blk_frozen BK108.out 4
              have hfz15_5 := blk_frozen BK108.out 5
              have hfz15_6 := blk_frozen BK108.out 6
              go_wp2
              go_meet
              case rel => exact ⟨_, (false), (by first | rfl | (simp; done) | (simp [*]; done) | exact x_nonempty _ | (simp [x_nonempty]; done)), H', ⟨by first | omega | exact Nat.le_refl _⟩, ⟨by (with_reducible repeat (first | refine blk_drewN ?_ _ | refine blk_drew ?_ | refine blk_alloc ?_ _)); exact BK108.out⟩, ⟨by repeat (first | (with_reducible first | exact HB.out | apply below_alloc | apply pw_below_drewN | apply below_drew1 | refine below_set ?_ GE108.out) | exact HB.out)⟩⟩
          · rw [if_neg c10] at H
            have c10b0 : (a0_1 == 0) = false := beq_eq_false_iff_ne.mpr c10
            have c10b1 : (a0_1 != 0) = true := bne_iff_ne.mpr c10
            have H' := Aside0.mk H
            clear H
            have hcz16_0 : w3.cell? ⟨gb108, 0, none⟩ = some (.int .u8 a0_0) := (blk_cell BK108.out 0).trans rfl
            have hcz16_1 : w3.cell? ⟨gb108, 1, none⟩ = some (.int .u8 a0_1) := (blk_cell BK108.out 1).trans rfl
            have hcz16_2 : w3.cell? ⟨gb108, 2, none⟩ = some (.int .u8 a0_2) := (blk_cell BK108.out 2).trans rfl
            have hcz16_3 : w3.cell? ⟨gb108, 3, none⟩ = some (.slice A0_3 l0_3.length c0_3) := (blk_cell BK108.out 3).trans rfl
            have hcz16_4 : w3.cell? ⟨gb108, 4, none⟩ = some (.int .u64 a0_4) := (blk_cell BK108.out 4).trans rfl
            have hcz16_5 : w3.cell? ⟨gb108, 5, none⟩ = some (.bool a0_5) := (blk_cell BK108.out 5).trans rfl
            have hcz16_6 : w3.cell? ⟨gb108, 6, none⟩ = some (.string a0_6) := (blk_cell BK108.out 6).trans rfl
            have hfz16_0 := blk_frozen BK108.out 0
            have hfz16_1 := blk_frozen BK108.out 1
            have hfz16_2 := blk_frozen BK108.out 2
            have hfz16_3 := blk_frozen BK108.out 3
            have hfz16_4 := blk_frozen BK108.out 4
            have hfz16_5 := blk_frozen BK108.out 5
            have hfz16_6 := blk_frozen BK108.out 6
            go_wp2
            go_meet
            case rel => exact ⟨_, (false), (by first | rfl | (simp; done) | (simp [*]; done) | exact x_nonempty _ | (simp [x_nonempty]; done)), H', ⟨by first | omega | exact Nat.le_refl _⟩, ⟨by (with_reducible repeat (first | refine blk_drewN ?_ _ | refine blk_drew ?_ | refine blk_alloc ?_ _)); exact BK108.out⟩, ⟨by repeat (first | (with_reducible first | exact HB.out | apply below_alloc | apply pw_below_drewN | apply below_drew1 | refine below_set ?_ GE108.out) | exact HB.out)⟩⟩
        · rw [if_neg c9] at H
          have c9b0 : decide (a0_0 ≤ 7) = false := decide_eq_false c9
          clear c9
          have H' := Aside0.mk H
          clear H
          have hcz17_0 : w3.cell? ⟨gb108, 0, none⟩ = some (.int .u8 a0_0) := (blk_cell BK108.out 0).trans rfl
          have hcz17_1 : w3.cell? ⟨gb108, 1, none⟩ = some (.int .u8 a0_1) := (blk_cell BK108.out 1).trans rfl
          have hcz17_2 : w3.cell? ⟨gb108, 2, none⟩ = some (.int .u8 a0_2) := (blk_cell BK108.out 2).trans rfl
          have hcz17_3 : w3.cell? ⟨gb108, 3, none⟩ = some (.slice A0_3 l0_3.length c0_3) := (blk_cell BK108.out 3).trans rfl
          have hcz17_4 : w3.cell? ⟨gb108, 4, none⟩ = some (.int .u64 a0_4) := (blk_cell BK108.out 4).trans rfl
          have hcz17_5 : w3.cell? ⟨gb108, 5, none⟩ = some (.bool a0_5) := (blk_cell BK108.out 5).trans rfl
          have hcz17_6 : w3.cell? ⟨gb108, 6, none⟩ = some (.string a0_6) := (blk_cell BK108.out 6).trans rfl
          have hfz17_0 := blk_frozen BK108.out 0
          have hfz17_1 := blk_frozen BK108.out 1
          have hfz17_2 := blk_frozen BK108.out 2
          have hfz17_3 := blk_frozen BK108.out 3
          have hfz17_4 := blk_frozen BK108.out 4
          have hfz17_5 := blk_frozen BK108.out 5
          have hfz17_6 := blk_frozen BK108.out 6
          go_wp2
          go_meet
          case rel => exact ⟨_, (false), (by first | rfl | (simp; done) | (simp [*]; done) | exact x_nonempty _ | (simp [x_nonempty]; done)), H', ⟨by first | omega | exact Nat.le_refl _⟩, ⟨by (with_reducible repeat (first | refine blk_drewN ?_ _ | refine blk_drew ?_ | refine blk_alloc ?_ _)); exact BK108.out⟩, ⟨by repeat (first | (with_reducible first | exact HB.out | apply below_alloc | apply pw_below_drewN | apply below_drew1 | refine below_set ?_ GE108.out) | exact HB.out)⟩⟩
      · rw [if_neg c8] at H
        have c8b0 : decide (1 < a0_0) = false := decide_eq_false c8
        clear c8
        have H' := Aside0.mk H
        clear H
        have hcz18_0 : w3.cell? ⟨gb108, 0, none⟩ = some (.int .u8 a0_0) := (blk_cell BK108.out 0).trans rfl
        have hcz18_1 : w3.cell? ⟨gb108, 1, none⟩ = some (.int .u8 a0_1) := (blk_cell BK108.out 1).trans rfl
        have hcz18_2 : w3.cell? ⟨gb108, 2, none⟩ = some (.int .u8 a0_2) := (blk_cell BK108.out 2).trans rfl
        have hcz18_3 : w3.cell? ⟨gb108, 3, none⟩ = some (.slice A0_3 l0_3.length c0_3) := (blk_cell BK108.out 3).trans rfl
        have hcz18_4 : w3.cell? ⟨gb108, 4, none⟩ = some (.int .u64 a0_4) := (blk_cell BK108.out 4).trans rfl
        have hcz18_5 : w3.cell? ⟨gb108, 5, none⟩ = some (.bool a0_5) := (blk_cell BK108.out 5).trans rfl
        have hcz18_6 : w3.cell? ⟨gb108, 6, none⟩ = some (.string a0_6) := (blk_cell BK108.out 6).trans rfl
        have hfz18_0 := blk_frozen BK108.out 0
        have hfz18_1 := blk_frozen BK108.out 1
        have hfz18_2 := blk_frozen BK108.out 2
        have hfz18_3 := blk_frozen BK108.out 3
        have hfz18_4 := blk_frozen BK108.out 4
        have hfz18_5 := blk_frozen BK108.out 5
        have hfz18_6 := blk_frozen BK108.out 6
        go_wp2
        go_meet
        case rel => exact ⟨_, (false), (by first | rfl | (simp; done) | (simp [*]; done) | exact x_nonempty _ | (simp [x_nonempty]; done)), H', ⟨by first | omega | exact Nat.le_refl _⟩, ⟨by (with_reducible repeat (first | refine blk_drewN ?_ _ | refine blk_drew ?_ | refine blk_alloc ?_ _)); exact BK108.out⟩, ⟨by repeat (first | (with_reducible first | exact HB.out | apply below_alloc | apply pw_below_drewN | apply below_drew1 | refine below_set ?_ GE108.out) | exact HB.out)⟩⟩
  case rest => as_aux_lemma =>
    clear HC2
    (try clear c1); (try clear c2); (try clear p2); (try clear c4); (try clear c4b0); (try clear c4b1); (try clear c8); (try clear c8b0); (try clear c9); (try clear c9b0); (try clear c10); (try clear c10b0); (try clear c10b1); (try clear c11); (try clear c11b0); (try clear c11b1); (try clear c12); (try clear c12b0); (try clear c12b1); (try clear hcz13_0); (try clear hcz13_1); (try clear hcz13_2); (try clear hcz13_3); (try clear hcz13_4); (try clear hcz13_5); (try clear hcz13_6); (try clear hcz14_0); (try clear hcz14_1); (try clear hcz14_2); (try clear hcz14_3); (try clear hcz14_4); (try clear hcz14_5); (try clear hcz14_6); (try clear hcz15_0); (try clear hcz15_1); (try clear hcz15_2); (try clear hcz15_3); (try clear hcz15_4); (try clear hcz15_5); (try clear hcz15_6); (try clear hcz16_0); (try clear hcz16_1); (try clear hcz16_2); (try clear hcz16_3); (try clear hcz16_4); (try clear hcz16_5); (try clear hcz16_6); (try clear hcz17_0); (try clear hcz17_1); (try clear hcz17_2); (try clear hcz17_3); (try clear hcz17_4); (try clear hcz17_5); (try clear hcz17_6); (try clear hcz18_0); (try clear hcz18_1); (try clear hcz18_2); (try clear hcz18_3); (try clear hcz18_4); (try clear hcz18_5); (try clear hcz18_6); (try clear hcz6_0); (try clear hcz6_1); (try clear hcz6_2); (try clear hcz6_3); (try clear hcz6_4); (try clear hcz6_5); (try clear hcz6_6); (try clear hfz13_0); (try clear hfz13_1); (try clear hfz13_2); (try clear hfz13_3); (try clear hfz13_4); (try clear hfz13_5); (try clear hfz13_6); (try clear hfz14_0); (try clear hfz14_1); (try clear hfz14_2); (try clear hfz14_3); (try clear hfz14_4); (try clear hfz14_5); (try clear hfz14_6); (try clear hfz15_0); (try clear hfz15_1); (try clear hfz15_2); (try clear hfz15_3); (try clear hfz15_4); (try clear hfz15_5); (try clear hfz15_6); (try clear hfz16_0); (try clear hfz16_1); (try clear hfz16_2); (try clear hfz16_3); (try clear hfz16_4); (try clear hfz16_5); (try clear hfz16_6); (try clear hfz17_0); (try clear hfz17_1); (try clear hfz17_2); (try clear hfz17_3); (try clear hfz17_4); (try clear hfz17_5); (try clear hfz17_6); (try clear hfz18_0); (try clear hfz18_1); (try clear hfz18_2); (try clear hfz18_3); (try clear hfz18_4); (try clear hfz18_5); (try clear hfz18_6); (try clear hfz6_0); (try clear hfz6_1); (try clear hfz6_2); (try clear hfz6_3); (try clear hfz6_4); (try clear hfz6_5); (try clear hfz6_6)
    obtain ⟨kq, x3_1, rfl, HA, HJ1, BK108, HB⟩ := hcut
    cases kq with
    | zero => exact absurd HA.out (by simp [words_Check.j0])
    | succ kj1 =>
      have H := HA.out
      clear HA
      simp only [words_Check.j0] at H
      by_cases c19 : a0_0 = 7
      · rw [if_pos c19] at H
        have c19b0 : (a0_0 == 7) = true := beq_iff_eq.mpr c19
        have c19b1 : (a0_0 != 7) = false := bne_eq_false_iff_eq.mpr c19
        clear c19
        by_cases c20 : x3_1 = true
        · subst c20
          have H1 : (if (a0_6.size : Int) ≥ 1 then (if ((a0_6.size : Int) ≤ 32) then (if a0_5 = true then (if a0_0 = 2 then (some 0) else (if a0_0 = 3 then (some 0) else (some 8))) else (some 0)) else (some 8)) else (some 8)) = some r := by rw [if_pos rfl] at H; exact H
          clear H
          have H := H1
          clear H1
          by_cases c21 : (a0_6.size : Int) ≥ 1
          · rw [if_pos c21] at H
            have c21b0 : decide (1 ≤ (a0_6.size : Int)) = true := decide_eq_true c21
            have c21b1 : decide (1 ≤ a0_6.size) = true := decide_eq_true (by omega)
            clear c21
            by_cases c22 : ((a0_6.size : Int) ≤ 32)
            · rw [if_pos c22] at H
              have c22b0 : decide ((a0_6.size : Int) ≤ 32) = true := decide_eq_true c22
              have c22b1 : decide (a0_6.size ≤ 32) = true := decide_eq_true (by omega)
              clear c22
              by_cases c23 : a0_5 = true
              · subst c23
                have H1 : (if a0_0 = 2 then (some 0) else (if a0_0 = 3 then (some 0) else (some 8))) = some r := by rw [if_pos rfl] at H; exact H
                clear H
                have H := H1
                clear H1
                by_cases c24 : a0_0 = 2
                · rw [if_pos c24] at H
                  have c24b0 : (a0_0 == 2) = true := beq_iff_eq.mpr c24
                  have c24b1 : (a0_0 != 2) = false := bne_eq_false_iff_eq.mpr c24
                  clear c24
                  obtain rfl := Option.some.inj H
                  have hcz25_0 : wc.cell? ⟨gb108, 0, none⟩ = some (.int .u8 a0_0) := (blk_cell BK108.out 0).trans rfl
                  have hcz25_1 : wc.cell? ⟨gb108, 1, none⟩ = some (.int .u8 a0_1) := (blk_cell BK108.out 1).trans rfl
                  have hcz25_2 : wc.cell? ⟨gb108, 2, none⟩ = some (.int .u8 a0_2) := (blk_cell BK108.out 2).trans rfl
                  have hcz25_3 : wc.cell? ⟨gb108, 3, none⟩ = some (.slice A0_3 l0_3.length c0_3) := (blk_cell BK108.out 3).trans rfl
                  have hcz25_4 : wc.cell? ⟨gb108, 4, none⟩ = some (.int .u64 a0_4) := (blk_cell BK108.out 4).trans rfl
                  have hcz25_5 : wc.cell? ⟨gb108, 5, none⟩ = some (.bool true) := (blk_cell BK108.out 5).trans rfl
                  have hcz25_6 : wc.cell? ⟨gb108, 6, none⟩ = some (.string a0_6) := (blk_cell BK108.out 6).trans rfl
                  have hfz25_0 := blk_frozen BK108.out 0
                  have hfz25_1 := blk_frozen BK108.out 1
                  have hfz25_2 := blk_frozen BK108.out 2
                  have hfz25_3 := blk_frozen BK108.out 3
                  have hfz25_4 := blk_frozen BK108.out 4
                  have hfz25_5 := blk_frozen BK108.out 5
                  have hfz25_6 := blk_frozen BK108.out 6
                  go_wp2
                  go_ret
                  exact ⟨by first | rfl | (simp [errW_none, errW_some] <;> rfl) | (simp [*, errW_none, errW_some] <;> rfl), by repeat (first | (with_reducible first | exact HB.out | apply below_alloc | apply pw_below_drewN | apply below_drew1 | refine below_set ?_ GE108.out) | exact HB.out)⟩
                · rw [if_neg c24] at H
                  have c24b0 : (a0_0 == 2) = false := beq_eq_false_iff_ne.mpr c24
                  have c24b1 : (a0_0 != 2) = true := bne_iff_ne.mpr c24
                  by_cases c26 : a0_0 = 3
                  · rw [if_pos c26] at H
                    have c26b0 : (a0_0 == 3) = true := beq_iff_eq.mpr c26
                    have c26b1 : (a0_0 != 3) = false := bne_eq_false_iff_eq.mpr c26
                    clear c26
                    obtain rfl := Option.some.inj H
                    have hcz27_0 : wc.cell? ⟨gb108, 0, none⟩ = some (.int .u8 a0_0) := (blk_cell BK108.out 0).trans rfl
                    have hcz27_1 : wc.cell? ⟨gb108, 1, none⟩ = some (.int .u8 a0_1) := (blk_cell BK108.out 1).trans rfl
                    have hcz27_2 : wc.cell? ⟨gb108, 2, none⟩ = some (.int .u8 a0_2) := (blk_cell BK108.out 2).trans rfl
                    have hcz27_3 : wc.cell? ⟨gb108, 3, none⟩ = some (.slice A0_3 l0_3.length c0_3) := (blk_cell BK108.out 3).trans rfl
                    have hcz27_4 : wc.cell? ⟨gb108, 4, none⟩ = some (.int .u64 a0_4) := (blk_cell BK108.out 4).trans rfl
                    have hcz27_5 : wc.cell? ⟨gb108, 5, none⟩ = some (.bool true) := (blk_cell BK108.out 5).trans rfl
                    have hcz27_6 : wc.cell? ⟨gb108, 6, none⟩ = some (.string a0_6) := (blk_cell BK108.out 6).trans rfl
                    have hfz27_0 := blk_frozen BK108.out 0
                    have hfz27_1 := blk_frozen BK108.out 1
                    have hfz27_2 := blk_frozen BK108.out 2
                    have hfz27_3 := blk_frozen BK108.out 3
                    have hfz27_4 := blk_frozen BK108.out 4
                    have hfz27_5 := blk_frozen BK108.out 5
                    have hfz27_6 := blk_frozen BK108.out 6
                    go_wp2
                    go_ret
                    exact ⟨by first | rfl | (simp [errW_none, errW_some] <;> rfl) | (simp [*, errW_none, errW_some] <;> rfl), by repeat (first | (with_reducible first | exact HB.out | apply below_alloc | apply pw_below_drewN | apply below_drew1 | refine below_set ?_ GE108.out) | exact HB.out)⟩
                  · rw [if_neg c26] at H
                    have c26b0 : (a0_0 == 3) = false := beq_eq_false_iff_ne.mpr c26
                    have c26b1 : (a0_0 != 3) = true := bne_iff_ne.mpr c26
                    obtain rfl := Option.some.inj H
                    have hcz28_0 : wc.cell? ⟨gb108, 0, none⟩ = some (.int .u8 a0_0) := (blk_cell BK108.out 0).trans rfl
                    have hcz28_1 : wc.cell? ⟨gb108, 1, none⟩ = some (.int .u8 a0_1) := (blk_cell BK108.out 1).trans rfl
                    have hcz28_2 : wc.cell? ⟨gb108, 2, none⟩ = some (.int .u8 a0_2) := (blk_cell BK108.out 2).trans rfl
                    have hcz28_3 : wc.cell? ⟨gb108, 3, none⟩ = some (.slice A0_3 l0_3.length c0_3) := (blk_cell BK108.out 3).trans rfl
                    have hcz28_4 : wc.cell? ⟨gb108, 4, none⟩ = some (.int .u64 a0_4) := (blk_cell BK108.out 4).trans rfl
                    have hcz28_5 : wc.cell? ⟨gb108, 5, none⟩ = some (.bool true) := (blk_cell BK108.out 5).trans rfl
                    have hcz28_6 : wc.cell? ⟨gb108, 6, none⟩ = some (.string a0_6) := (blk_cell BK108.out 6).trans rfl
                    have hfz28_0 := blk_frozen BK108.out 0
                    have hfz28_1 := blk_frozen BK108.out 1
                    have hfz28_2 := blk_frozen BK108.out 2
                    have hfz28_3 := blk_frozen BK108.out 3
                    have hfz28_4 := blk_frozen BK108.out 4
                    have hfz28_5 := blk_frozen BK108.out 5
                    have hfz28_6 := blk_frozen BK108.out 6
                    go_wp2
                    go_ret
                    exact ⟨by first | rfl | (simp [errW_none, errW_some] <;> rfl) | (simp [*, errW_none, errW_some] <;> rfl), by repeat (first | (with_reducible first | exact HB.out | apply below_alloc | apply pw_below_drewN | apply below_drew1 | refine below_set ?_ GE108.out) | exact HB.out)⟩
              · replace c23 := Bool.eq_false_iff.mpr c23
                subst c23
                have H1 : (some 0) = some r := by rw [if_neg (show ¬ (false = true) by decide)] at H; exact H
                clear H
                have H := H1
                clear H1
                obtain rfl := Option.some.inj H
                have hcz29_0 : wc.cell? ⟨gb108, 0, none⟩ = some (.int .u8 a0_0) := (blk_cell BK108.out 0).trans rfl
                have hcz29_1 : wc.cell? ⟨gb108, 1, none⟩ = some (.int .u8 a0_1) := (blk_cell BK108.out 1).trans rfl
                have hcz29_2 : wc.cell? ⟨gb108, 2, none⟩ = some (.int .u8 a0_2) := (blk_cell BK108.out 2).trans rfl
                have hcz29_3 : wc.cell? ⟨gb108, 3, none⟩ = some (.slice A0_3 l0_3.length c0_3) := (blk_cell BK108.out 3).trans rfl
                have hcz29_4 : wc.cell? ⟨gb108, 4, none⟩ = some (.int .u64 a0_4) := (blk_cell BK108.out 4).trans rfl
                have hcz29_5 : wc.cell? ⟨gb108, 5, none⟩ = some (.bool false) := (blk_cell BK108.out 5).trans rfl
                have hcz29_6 : wc.cell? ⟨gb108, 6, none⟩ = some (.string a0_6) := (blk_cell BK108.out 6).trans rfl
                have hfz29_0 := blk_frozen BK108.out 0
                have hfz29_1 := blk_frozen BK108.out 1
                have hfz29_2 := blk_frozen BK108.out 2
                have hfz29_3 := blk_frozen BK108.out 3
                have hfz29_4 := blk_frozen BK108.out 4
                have hfz29_5 := blk_frozen BK108.out 5
                have hfz29_6 := blk_frozen BK108.out 6
                go_wp2
                go_ret
                exact ⟨by first | rfl | (simp [errW_none, errW_some] <;> rfl) | (simp [*, errW_none, errW_some] <;> rfl), by repeat (first | (with_reducible first | exact HB.out | apply below_alloc | apply pw_below_drewN | apply below_drew1 | refine below_set ?_ GE108.out) | exact HB.out)⟩
            · rw [if_neg c22] at H
              have c22b0 : decide ((a0_6.size : Int) ≤ 32) = false := decide_eq_false c22
              have c22b1 : decide (a0_6.size ≤ 32) = false := decide_eq_false (by omega)
              clear c22
              obtain rfl := Option.some.inj H
              have hcz30_0 : wc.cell? ⟨gb108, 0, none⟩ = some (.int .u8 a0_0) := (blk_cell BK108.out 0).trans rfl
              have hcz30_1 : wc.cell? ⟨gb108, 1, none⟩ = some (.int .u8 a0_1) := (blk_cell BK108.out 1).trans rfl
              have hcz30_2 : wc.cell? ⟨gb108, 2, none⟩ = some (.int .u8 a0_2) := (blk_cell BK108.out 2).trans rfl
              have hcz30_3 : wc.cell? ⟨gb108, 3, none⟩ = some (.slice A0_3 l0_3.length c0_3) := (blk_cell BK108.out 3).trans rfl
              have hcz30_4 : wc.cell? ⟨gb108, 4, none⟩ = some (.int .u64 a0_4) := (blk_cell BK108.out 4).trans rfl
              have hcz30_5 : wc.cell? ⟨gb108, 5, none⟩ = some (.bool a0_5) := (blk_cell BK108.out 5).trans rfl
              have hcz30_6 : wc.cell? ⟨gb108, 6, none⟩ = some (.string a0_6) := (blk_cell BK108.out 6).trans rfl
              have hfz30_0 := blk_frozen BK108.out 0
              have hfz30_1 := blk_frozen BK108.out 1
              have hfz30_2 := blk_frozen BK108.out 2
              have hfz30_3 := blk_frozen BK108.out 3
              have hfz30_4 := blk_frozen BK108.out 4
              have hfz30_5 := blk_frozen BK108.out 5
              have hfz30_6 := blk_frozen BK108.out 6
              go_wp2
              go_ret
              exact ⟨by first | rfl | (simp [errW_none, errW_some] <;> rfl) | (simp [*, errW_none, errW_some] <;> rfl), by repeat (first | (with_reducible first | exact HB.out | apply below_alloc | apply pw_below_drewN | apply below_drew1 | refine below_set ?_ GE108.out) | exact HB.out)⟩
          · rw [if_neg c21] at H
            have c21b0 : decide (1 ≤ (a0_6.size : Int)) = false := decide_eq_false c21
            have c21b1 : decide (1 ≤ a0_6.size) = false := decide_eq_false (by omega)
            clear c21
            obtain rfl := Option.some.inj H
            have hcz31_0 : wc.cell? ⟨gb108, 0, none⟩ = some (.int .u8 a0_0) := (blk_cell BK108.out 0).trans rfl
            have hcz31_1 : wc.cell? ⟨gb108, 1, none⟩ = some (.int .u8 a0_1) := (blk_cell BK108.out 1).trans rfl
            have hcz31_2 : wc.cell? ⟨gb108, 2, none⟩ = some (.int .u8 a0_2) := (blk_cell BK108.out 2).trans rfl
            have hcz31_3 : wc.cell? ⟨gb108, 3, none⟩ = some (.slice A0_3 l0_3.length c0_3) := (blk_cell BK108.out 3).trans rfl
            have hcz31_4 : wc.cell? ⟨gb108, 4, none⟩ = some (.int .u64 a0_4) := (blk_cell BK108.out 4).trans rfl
            have hcz31_5 : wc.cell? ⟨gb108, 5, none⟩ = some (.bool a0_5) := (blk_cell BK108.out 5).trans rfl
            have hcz31_6 : wc.cell? ⟨gb108, 6, none⟩ = some (.string a0_6) := (blk_cell BK108.out 6).trans rfl
            have hfz31_0 := blk_frozen BK108.out 0
            have hfz31_1 := blk_frozen BK108.out 1
            have hfz31_2 := blk_frozen BK108.out 2
            have hfz31_3 := blk_frozen BK108.out 3
            have hfz31_4 := blk_frozen BK108.out 4
            have hfz31_5 := blk_frozen BK108.out 5
            have hfz31_6 := blk_frozen BK108.out 6
            go_wp2
            go_ret
            exact ⟨by first | rfl | (simp [errW_none, errW_some] <;> rfl) | (simp [*, errW_none, errW_some] <;> rfl), by repeat (first | (with_reducible first | exact HB.out | apply below_alloc | apply pw_below_drewN | apply below_drew1 | refine below_set ?_ GE108.out) | exact HB.out)⟩
        · replace c20 := Bool.eq_false_iff.mpr c20
          subst c20
          have H1 : (some 8) = some r := by rw [if_neg (show ¬ (false = true) by decide)] at H; exact H
          clear H
          have H := H1
          clear H1
          obtain rfl := Option.some.inj H
          have hcz32_0 : wc.cell? ⟨gb108, 0, none⟩ = some (.int .u8 a0_0) := (blk_cell BK108.out 0).trans rfl
          have hcz32_1 : wc.cell? ⟨gb108, 1, none⟩ = some (.int .u8 a0_1) := (blk_cell BK108.out 1).trans rfl
          have hcz32_2 : wc.cell? ⟨gb108, 2, none⟩ = some (.int .u8 a0_2) := (blk_cell BK108.out 2).trans rfl
          have hcz32_3 : wc.cell? ⟨gb108, 3, none⟩ = some (.slice A0_3 l0_3.length c0_3) := (blk_cell BK108.out 3).trans rfl
          have hcz32_4 : wc.cell? ⟨gb108, 4, none⟩ = some (.int .u64 a0_4) := (blk_cell BK108.out 4).trans rfl
          have hcz32_5 : wc.cell? ⟨gb108, 5, none⟩ = some (.bool a0_5) := (blk_cell BK108.out 5).trans rfl
          have hcz32_6 : wc.cell? ⟨gb108, 6, none⟩ = some (.string a0_6) := (blk_cell BK108.out 6).trans rfl
          have hfz32_0 := blk_frozen BK108.out 0
          have hfz32_1 := blk_frozen BK108.out 1
          have hfz32_2 := blk_frozen BK108.out 2
          have hfz32_3 := blk_frozen BK108.out 3
          have hfz32_4 := blk_frozen BK108.out 4
          have hfz32_5 := blk_frozen BK108.out 5
          have hfz32_6 := blk_frozen BK108.out 6
          go_wp2
          go_ret
          exact ⟨by first | rfl | (simp [errW_none, errW_some] <;> rfl) | (simp [*, errW_none, errW_some] <;> rfl), by repeat (first | (with_reducible first | exact HB.out | apply below_alloc | apply pw_below_drewN | apply below_drew1 | refine below_set ?_ GE108.out) | exact HB.out)⟩
      · rw [if_neg c19] at H
        have c19b0 : (a0_0 == 7) = false := beq_eq_false_iff_ne.mpr c19
        have c19b1 : (a0_0 != 7) = true := bne_iff_ne.mpr c19
        by_cases c33 : x3_1 = true
        · subst c33
          have H1 : (if (a0_6.toList = ([] : List UInt8)) then (if a0_5 = true then (if a0_0 = 2 then (some 0) else (if a0_0 = 3 then (some 0) else (some 8))) else (some 0)) else (some 8)) = some r := by rw [if_pos rfl] at H; exact H
          clear H
          have H := H1
          clear H1
          by_cases c34 : (a0_6.toList = ([] : List UInt8))
          · rw [if_pos c34] at H
            have c34b0 : (a0_6.toList == ([] : List UInt8)) = true := beq_iff_eq.mpr c34
            have c34b1 : (a0_6.toList != ([] : List UInt8)) = false := bne_eq_false_iff_eq.mpr c34
            clear c34
            by_cases c35 : a0_5 = true
            · subst c35
              have H1 : (if a0_0 = 2 then (some 0) else (if a0_0 = 3 then (some 0) else (some 8))) = some r := by rw [if_pos rfl] at H; exact H
              clear H
              have H := H1
              clear H1
              by_cases c36 : a0_0 = 2
              · rw [if_pos c36] at H
                have c36b0 : (a0_0 == 2) = true := beq_iff_eq.mpr c36
                have c36b1 : (a0_0 != 2) = false := bne_eq_false_iff_eq.mpr c36
                clear c36
                obtain rfl := Option.some.inj H
                have hcz37_0 : wc.cell? ⟨gb108, 0, none⟩ = some (.int .u8 a0_0) := (blk_cell BK108.out 0).trans rfl
                have hcz37_1 : wc.cell? ⟨gb108, 1, none⟩ = some (.int .u8 a0_1) := (blk_cell BK108.out 1).trans rfl
                have hcz37_2 : wc.cell? ⟨gb108, 2, none⟩ = some (.int .u8 a0_2) := (blk_cell BK108.out 2).trans rfl
                have hcz37_3 : wc.cell? ⟨gb108, 3, none⟩ = some (.slice A0_3 l0_3.length c0_3) := (blk_cell BK108.out 3).trans rfl
                have hcz37_4 : wc.cell? ⟨gb108, 4, none⟩ = some (.int .u64 a0_4) := (blk_cell BK108.out 4).trans rfl
                have hcz37_5 : wc.cell? ⟨gb108, 5, none⟩ = some (.bool true) := (blk_cell BK108.out 5).trans rfl
                have hcz37_6 : wc.cell? ⟨gb108, 6, none⟩ = some (.string a0_6) := (blk_cell BK108.out 6).trans rfl
                have hfz37_0 := blk_frozen BK108.out 0
                have hfz37_1 := blk_frozen BK108.out 1
                have hfz37_2 := blk_frozen BK108.out 2
                have hfz37_3 := blk_frozen BK108.out 3
                have hfz37_4 := blk_frozen BK108.out 4
                have hfz37_5 := blk_frozen BK108.out 5
                have hfz37_6 := blk_frozen BK108.out 6
                go_wp2
                go_ret
                exact ⟨by first | rfl | (simp [errW_none, errW_some] <;> rfl) | (simp [*, errW_none, errW_some] <;> rfl), by repeat (first | (with_reducible first | exact HB.out | apply below_alloc | apply pw_below_drewN | apply below_drew1 | refine below_set ?_ GE108.out) | exact HB.out)⟩
              · rw [if_neg c36] at H
                have c36b0 : (a0_0 == 2) = false := beq_eq_false_iff_ne.mpr c36
                have c36b1 : (a0_0 != 2) = true := bne_iff_ne.mpr c36
                by_cases c38 : a0_0 = 3
                · rw [if_pos c38] at H
                  have c38b0 : (a0_0 == 3) = true := beq_iff_eq.mpr c38
                  have c38b1 : (a0_0 != 3) = false := bne_eq_false_iff_eq.mpr c38
                  clear c38
                  obtain rfl := Option.some.inj H
                  have hcz39_0 : wc.cell? ⟨gb108, 0, none⟩ = some (.int .u8 a0_0) := (blk_cell BK108.out 0).trans rfl
                  have hcz39_1 : wc.cell? ⟨gb108, 1, none⟩ = some (.int .u8 a0_1) := (blk_cell BK108.out 1).trans rfl
                  have hcz39_2 : wc.cell? ⟨gb108, 2, none⟩ = some (.int .u8 a0_2) := (blk_cell BK108.out 2).trans rfl
                  have hcz39_3 : wc.cell? ⟨gb108, 3, none⟩ = some (.slice A0_3 l0_3.length c0_3) := (blk_cell BK108.out 3).trans rfl
                  have hcz39_4 : wc.cell? ⟨gb108, 4, none⟩ = some (.int .u64 a0_4) := (blk_cell BK108.out 4).trans rfl
                  have hcz39_5 : wc.cell? ⟨gb108, 5, none⟩ = some (.bool true) := (blk_cell BK108.out 5).trans rfl
                  have hcz39_6 : wc.cell? ⟨gb108, 6, none⟩ = some (.string a0_6) := (blk_cell BK108.out 6).trans rfl
                  have hfz39_0 := blk_frozen BK108.out 0
                  have hfz39_1 := blk_frozen BK108.out 1
                  have hfz39_2 := blk_frozen BK108.out 2
                  have hfz39_3 := blk_frozen BK108.out 3
                  have hfz39_4 := blk_frozen BK108.out 4
                  have hfz39_5 := blk_frozen BK108.out 5
                  have hfz39_6 := blk_frozen BK108.out 6
                  go_wp2
                  go_ret
                  exact ⟨by first | rfl | (simp [errW_none, errW_some] <;> rfl) | (simp [*, errW_none, errW_some] <;> rfl), by repeat (first | (with_reducible first | exact HB.out | apply below_alloc | apply pw_below_drewN | apply below_drew1 | refine below_set ?_ GE108.out) | exact HB.out)⟩
                · rw [if_neg c38] at H
                  have c38b0 : (a0_0 == 3) = false := beq_eq_false_iff_ne.mpr c38
                  have c38b1 : (a0_0 != 3) = true := bne_iff_ne.mpr c38
                  obtain rfl := Option.some.inj H
                  have hcz40_0 : wc.cell? ⟨gb108, 0, none⟩ = some (.int .u8 a0_0) := (blk_cell BK108.out 0).trans rfl
                  have hcz40_1 : wc.cell? ⟨gb108, 1, none⟩ = some (.int .u8 a0_1) := (blk_cell BK108.out 1).trans rfl
                  have hcz40_2 : wc.cell? ⟨gb108, 2, none⟩ = some (.int .u8 a0_2) := (blk_cell BK108.out 2).trans rfl
                  have hcz40_3 : wc.cell? ⟨gb108, 3, none⟩ = some (.slice A0_3 l0_3.length c0_3) := (blk_cell BK108.out 3).trans rfl
                  have hcz40_4 : wc.cell? ⟨gb108, 4, none⟩ = some (.int .u64 a0_4) := (blk_cell BK108.out 4).trans rfl
                  have hcz40_5 : wc.cell? ⟨gb108, 5, none⟩ = some (.bool true) := (blk_cell BK108.out 5).trans rfl
                  have hcz40_6 : wc.cell? ⟨gb108, 6, none⟩ = some (.string a0_6) := (blk_cell BK108.out 6).trans rfl
                  have hfz40_0 := blk_frozen BK108.out 0
                  have hfz40_1 := blk_frozen BK108.out 1
                  have hfz40_2 := blk_frozen BK108.out 2
                  have hfz40_3 := blk_frozen BK108.out 3
                  have hfz40_4 := blk_frozen BK108.out 4
                  have hfz40_5 := blk_frozen BK108.out 5
                  have hfz40_6 := blk_frozen BK108.out 6
                  go_wp2
                  go_ret
                  exact ⟨by first | rfl | (simp [errW_none, errW_some] <;> rfl) | (simp [*, errW_none, errW_some] <;> rfl), by repeat (first | (with_reducible first | exact HB.out | apply below_alloc | apply pw_below_drewN | apply below_drew1 | refine below_set ?_ GE108.out) | exact HB.out)⟩
            · replace c35 := Bool.eq_false_iff.mpr c35
              subst c35
              have H1 : (some 0) = some r := by rw [if_neg (show ¬ (false = true) by decide)] at H; exact H
              clear H
              have H := H1
              clear H1
              obtain rfl := Option.some.inj H
              have hcz41_0 : wc.cell? ⟨gb108, 0, none⟩ = some (.int .u8 a0_0) := (blk_cell BK108.out 0).trans rfl
              have hcz41_1 : wc.cell? ⟨gb108, 1, none⟩ = some (.int .u8 a0_1) := (blk_cell BK108.out 1).trans rfl
              have hcz41_2 : wc.cell? ⟨gb108, 2, none⟩ = some (.int .u8 a0_2) := (blk_cell BK108.out 2).trans rfl
              have hcz41_3 : wc.cell? ⟨gb108, 3, none⟩ = some (.slice A0_3 l0_3.length c0_3) := (blk_cell BK108.out 3).trans rfl
              have hcz41_4 : wc.cell? ⟨gb108, 4, none⟩ = some (.int .u64 a0_4) := (blk_cell BK108.out 4).trans rfl
              have hcz41_5 : wc.cell? ⟨gb108, 5, none⟩ = some (.bool false) := (blk_cell BK108.out 5).trans rfl
              have hcz41_6 : wc.cell? ⟨gb108, 6, none⟩ = some (.string a0_6) := (blk_cell BK108.out 6).trans rfl
              have hfz41_0 := blk_frozen BK108.out 0
              have hfz41_1 := blk_frozen BK108.out 1
              have hfz41_2 := blk_frozen BK108.out 2
              have hfz41_3 := blk_frozen BK108.out 3
              have hfz41_4 := blk_frozen BK108.out 4
              have hfz41_5 := blk_frozen BK108.out 5
              have hfz41_6 := blk_frozen BK108.out 6
              go_wp2
              go_ret
              exact ⟨by first | rfl | (simp [errW_none, errW_some] <;> rfl) | (simp [*, errW_none, errW_some] <;> rfl), by repeat (first | (with_reducible first | exact HB.out | apply below_alloc | apply pw_below_drewN | apply below_drew1 | refine below_set ?_ GE108.out) | exact HB.out)⟩
          · rw [if_neg c34] at H
            have c34b0 : (a0_6.toList == ([] : List UInt8)) = false := beq_eq_false_iff_ne.mpr c34
            have c34b1 : (a0_6.toList != ([] : List UInt8)) = true := bne_iff_ne.mpr c34
            obtain rfl := Option.some.inj H
            have hcz42_0 : wc.cell? ⟨gb108, 0, none⟩ = some (.int .u8 a0_0) := (blk_cell BK108.out 0).trans rfl
            have hcz42_1 : wc.cell? ⟨gb108, 1, none⟩ = some (.int .u8 a0_1) := (blk_cell BK108.out 1).trans rfl
            have hcz42_2 : wc.cell? ⟨gb108, 2, none⟩ = some (.int .u8 a0_2) := (blk_cell BK108.out 2).trans rfl
            have hcz42_3 : wc.cell? ⟨gb108, 3, none⟩ = some (.slice A0_3 l0_3.length c0_3) := (blk_cell BK108.out 3).trans rfl
            have hcz42_4 : wc.cell? ⟨gb108, 4, none⟩ = some (.int .u64 a0_4) := (blk_cell BK108.out 4).trans rfl
            have hcz42_5 : wc.cell? ⟨gb108, 5, none⟩ = some (.bool a0_5) := (blk_cell BK108.out 5).trans rfl
            have hcz42_6 : wc.cell? ⟨gb108, 6, none⟩ = some (.string a0_6) := (blk_cell BK108.out 6).trans rfl
            have hfz42_0 := blk_frozen BK108.out 0
            have hfz42_1 := blk_frozen BK108.out 1
            have hfz42_2 := blk_frozen BK108.out 2
            have hfz42_3 := blk_frozen BK108.out 3
            have hfz42_4 := blk_frozen BK108.out 4
            have hfz42_5 := blk_frozen BK108.out 5
            have hfz42_6 := blk_frozen BK108.out 6
            go_wp2
            go_ret
            exact ⟨by first | rfl | (simp [errW_none, errW_some] <;> rfl) | (simp [*, errW_none, errW_some] <;> rfl), by repeat (first | (with_reducible first | exact HB.out | apply below_alloc | apply pw_below_drewN | apply below_drew1 | refine below_set ?_ GE108.out) | exact HB.out)⟩
        · replace c33 := Bool.eq_false_iff.mpr c33
          subst c33
          have H1 : (some 8) = some r := by rw [if_neg (show ¬ (false = true) by decide)] at H; exact H
          clear H
          have H := H1
          clear H1
          obtain rfl := Option.some.inj H
          have hcz43_0 : wc.cell? ⟨gb108, 0, none⟩ = some (.int .u8 a0_0) := (blk_cell BK108.out 0).trans rfl
          have hcz43_1 : wc.cell? ⟨gb108, 1, none⟩ = some (.int .u8 a0_1) := (blk_cell BK108.out 1).trans rfl
          have hcz43_2 : wc.cell? ⟨gb108, 2, none⟩ = some (.int .u8 a0_2) := (blk_cell BK108.out 2).trans rfl
          have hcz43_3 : wc.cell? ⟨gb108, 3, none⟩ = some (.slice A0_3 l0_3.length c0_3) := (blk_cell BK108.out 3).trans rfl
          have hcz43_4 : wc.cell? ⟨gb108, 4, none⟩ = some (.int .u64 a0_4) := (blk_cell BK108.out 4).trans rfl
          have hcz43_5 : wc.cell? ⟨gb108, 5, none⟩ = some (.bool a0_5) := (blk_cell BK108.out 5).trans rfl
          have hcz43_6 : wc.cell? ⟨gb108, 6, none⟩ = some (.string a0_6) := (blk_cell BK108.out 6).trans rfl
          have hfz43_0 := blk_frozen BK108.out 0
          have hfz43_1 := blk_frozen BK108.out 1
          have hfz43_2 := blk_frozen BK108.out 2
          have hfz43_3 := blk_frozen BK108.out 3
          have hfz43_4 := blk_frozen BK108.out 4
          have hfz43_5 := blk_frozen BK108.out 5
          have hfz43_6 := blk_frozen BK108.out 6
          go_wp2
          go_ret
          exact ⟨by first | rfl | (simp [errW_none, errW_some] <;> rfl) | (simp [*, errW_none, errW_some] <;> rfl), by repeat (first | (with_reducible first | exact HB.out | apply below_alloc | apply pw_below_drewN | apply below_drew1 | refine below_set ?_ GE108.out) | exact HB.out)⟩

end Go.Proofs.YtfoengihiaegoaaDoor.P
