-- written by wip/tools/drive.py, a driver round the kit's printer, and made smaller by wip/tools/slim.py
import Derived.Test.YtfoengihiaegoaaDoorP0
import Derived.Test.YtfoengihiaegoaaDoorP18
import Derived.Test.YtfoengihiaegoaaDoorP20
namespace Go.Proofs.YtfoengihiaegoaaDoor.P
open Go.RowKit Go.Proofs.YtfoengihiaegoaaDoorW.PrintWords Go.Proofs.YtfoengihiaegoaaDoorW.PrintLast Go.Proofs.YtfoengihiaegoaaDoorW.PrintMore
set_option linter.unusedVariables false
set_option linter.unusedSimpArgs false
theorem t21_0 {p : Prop} (h : p := by repeat (first | (with_reducible first | exact HB.out | apply below_alloc | apply pw_below_drewN | apply below_drew1 | refine below_set ?_ GE177.out) | exact HB.out)) : p := h
theorem t21_1 {p : Prop} (h : p := by first | rfl | (simp [errW_none, errW_some] <;> rfl) | (simp [*, errW_none, errW_some] <;> rfl)) : p := h
theorem t21_2 {p : Prop} (h : p := by (with_reducible repeat (first | refine blk_drewN ?_ _ | refine blk_drew ?_ | refine blk_alloc ?_ _)); exact BK177.out) : p := h
theorem t21_3 {p : Prop} (h : p := by first | rfl | (simp; done) | (simp [*]; done) | exact x_nonempty _ | (simp [x_nonempty]; done)) : p := h
theorem t21_4 {p : Prop} (h : p := by repeat (first | (with_reducible first | exact HB.out | apply below_alloc | apply pw_below_drewN | apply below_drew1) | exact HB.out)) : p := h
theorem t21_5 {p : Prop} (h : p := by (try simp only [List.map_toArray, List.map_cons, List.map_nil]); first | done | rfl | (simp only [List.length_drop, List.length_take]; rfl)) : p := h
mutual
def order_may.j0 : Nat → Int → Bool → Int → Int → List ByteArray → ByteArray → Int → Int → Int → Int → Option (Bool)
 | 0, _, _, _, _, _, _, _, _, _, _ => none
 | k + 1, x3, x7, x178000, x178001, x178002, x178003, x178004, x178005, x178006, x178007 => if x7 = true then (some false) else (if (x178003.size : Int) > 512 then (order_may.j1 k x3 (decide ((x178003.size : Int) > 512)) x178000 x178001 x178002 x178003 x178004 x178005 x178006 x178007) else (if (Go.bits .and .i64 x3 2) = 0 then (order_may.j1 k x3 (x178003.toList != ([] : List UInt8)) x178000 x178001 x178002 x178003 x178004 x178005 x178006 x178007) else (order_may.j1 k x3 false x178000 x178001 x178002 x178003 x178004 x178005 x178006 x178007)))
def order_may.j1 : Nat → Int → Bool → Int → Int → List ByteArray → ByteArray → Int → Int → Int → Int → Option (Bool)
 | 0, _, _, _, _, _, _, _, _, _, _ => none
 | k + 1, x3, x20, x178000, x178001, x178002, x178003, x178004, x178005, x178006, x178007 => if x20 = true then (some false) else (if x178005 < 0 then (some false) else (if x178005 > 1099511627776 then (some false) else (if (Go.bits .and .i64 x3 4) = 0 then (if x178005 = 0 then (if (Go.bits .and .i64 x3 8) = 0 then (if x178004 = 0 then (if (Go.bits .and .i64 x3 16) = 0 then (if x178006 = 0 then (if (Go.bits .and .i64 x3 32) = 0 then (some (x178007 == 0)) else (some true)) else (some false)) else (if (Go.bits .and .i64 x3 32) = 0 then (some (x178007 == 0)) else (some true))) else (some false)) else (if (Go.bits .and .i64 x3 16) = 0 then (if x178006 = 0 then (if (Go.bits .and .i64 x3 32) = 0 then (some (x178007 == 0)) else (some true)) else (some false)) else (if (Go.bits .and .i64 x3 32) = 0 then (some (x178007 == 0)) else (some true)))) else (some false)) else (if (Go.bits .and .i64 x3 8) = 0 then (if x178004 = 0 then (if (Go.bits .and .i64 x3 16) = 0 then (if x178006 = 0 then (if (Go.bits .and .i64 x3 32) = 0 then (some (x178007 == 0)) else (some true)) else (some false)) else (if (Go.bits .and .i64 x3 32) = 0 then (some (x178007 == 0)) else (some true))) else (some false)) else (if (Go.bits .and .i64 x3 16) = 0 then (if x178006 = 0 then (if (Go.bits .and .i64 x3 32) = 0 then (some (x178007 == 0)) else (some true)) else (some false)) else (if (Go.bits .and .i64 x3 32) = 0 then (some (x178007 == 0)) else (some true)))))))
end
def order_may.f (k : Nat) (a0_0 : Int) (a0_1 : Int) (l0_2 : List ByteArray) (a0_3 : ByteArray) (a0_4 : Int) (a0_5 : Int) (a0_6 : Int) (a0_7 : Int) : Option (Bool) := (order_has.f k a0_0).bind fun t178 => (if t178 = 0 then (order_may.j0 k t178 (t178 == 0) a0_0 a0_1 l0_2 a0_3 a0_4 a0_5 a0_6 a0_7) else (if a0_1 < 0 then (order_may.j0 k t178 (decide (a0_1 < 0)) a0_0 a0_1 l0_2 a0_3 a0_4 a0_5 a0_6 a0_7) else (if a0_1 ≥ 4 then (order_may.j0 k t178 (decide (a0_1 ≥ 4)) a0_0 a0_1 l0_2 a0_3 a0_4 a0_5 a0_6 a0_7) else ((order_keyed.f k a0_0 a0_1 l0_2 a0_3 a0_4 a0_5 a0_6 a0_7 t178).bind fun t179 => (order_may.j0 k t178 (!t179) a0_0 a0_1 l0_2 a0_3 a0_4 a0_5 a0_6 a0_7)))))
theorem order_may.mono_l : ∀ k, (∀ y0 y1 y2 y3 y4 y5 y6 y7 y8 y9, LeO (order_may.j0 k y0 y1 y2 y3 y4 y5 y6 y7 y8 y9) (order_may.j0 (k + 1) y0 y1 y2 y3 y4 y5 y6 y7 y8 y9)) ∧ (∀ y0 y1 y2 y3 y4 y5 y6 y7 y8 y9, LeO (order_may.j1 k y0 y1 y2 y3 y4 y5 y6 y7 y8 y9) (order_may.j1 (k + 1) y0 y1 y2 y3 y4 y5 y6 y7 y8 y9))
 | 0 => ⟨fun _ _ _ _ _ _ _ _ _ _ r h => by simp [order_may.j0] at h, fun _ _ _ _ _ _ _ _ _ _ r h => by simp [order_may.j1] at h⟩
 | k + 1 => by
  obtain ⟨ih0, ih1⟩ := order_may.mono_l k
  refine ⟨?_, ?_⟩
  all_goals intros
  all_goals (first | unfold order_may.j0 | unfold order_may.j1)
  all_goals repeat' first | (with_reducible first | apply ih0 | apply ih1 | apply order_has.mono | apply order_keyed.mono | exact LeO.refl _ | exact LeO.none _ | refine LeO.ite ?_ ?_ | refine LeO.bind ?_ (fun _ => ?_)) | exact LeO.none _ | refine LeO.ite ?_ ?_ | refine LeO.bind ?_ (fun _ => ?_)
theorem order_may.mono : ∀ a0 a1 a2 a3 a4 a5 a6 a7 k, LeO (order_may.f k a0 a1 a2 a3 a4 a5 a6 a7) (order_may.f (k + 1) a0 a1 a2 a3 a4 a5 a6 a7) := by
 intro a0 a1 a2 a3 a4 a5 a6 a7 k
 obtain ⟨ih0, ih1⟩ := order_may.mono_l k
 unfold order_may.f
 repeat' first | (with_reducible first | apply ih0 | apply ih1 | apply order_has.mono | apply order_keyed.mono | exact LeO.refl _ | exact LeO.none _ | refine LeO.ite ?_ ?_ | refine LeO.bind ?_ (fun _ => ?_)) | exact LeO.none _ | refine LeO.ite ?_ ?_ | refine LeO.bind ?_ (fun _ => ?_)
set_option maxHeartbeats 8000000 in
set_option maxRecDepth 100000 in
theorem order_may.calls (k : Nat) (a0_0 : Int) (a0_1 : Int) (A0_2 : Option Addr) (c0_2 : Nat) (l0_2 : List ByteArray) (a0_3 : ByteArray) (a0_4 : Int) (a0_5 : Int) (a0_6 : Int) (a0_7 : Int) (r : Bool) (w : World) (hr0_2 : Kd.C Kd.string w A0_2 l0_2.length l0_2) (hc0_2 : l0_2.length ≤ c0_2) (h : order_may.f k a0_0 a0_1 l0_2 a0_3 a0_4 a0_5 a0_6 a0_7 = some r) :
  Calls Tryd.prog 69 #[.agg #[.int .u8 a0_0, .int .i64 a0_1, .slice A0_2 l0_2.length c0_2, .string a0_3, .int .u32 a0_4, .int .i64 a0_5, .int .u64 a0_6, .int .u64 a0_7]] w fun e w' => e = .returned (.bool r) ∧ Below w.heap.size w w' := by
 have hu40 := Tryd.underlying40
 have HR0_2 := Aside0.mk hr0_2
 have HC0_2 := Aside0.mk hc0_2
 clear hr0_2 hc0_2
 have HB := Aside0.mk (Below.refl w.heap.size w)
 have H : ((order_has.f k a0_0).bind fun t178 => (if t178 = 0 then (order_may.j0 k t178 (t178 == 0) a0_0 a0_1 l0_2 a0_3 a0_4 a0_5 a0_6 a0_7) else (if a0_1 < 0 then (order_may.j0 k t178 (decide (a0_1 < 0)) a0_0 a0_1 l0_2 a0_3 a0_4 a0_5 a0_6 a0_7) else (if a0_1 ≥ 4 then (order_may.j0 k t178 (decide (a0_1 ≥ 4)) a0_0 a0_1 l0_2 a0_3 a0_4 a0_5 a0_6 a0_7) else ((order_keyed.f k a0_0 a0_1 l0_2 a0_3 a0_4 a0_5 a0_6 a0_7 t178).bind fun t179 => (order_may.j0 k t178 (!t179) a0_0 a0_1 l0_2 a0_3 a0_4 a0_5 a0_6 a0_7)))))) = some r := h
 clear h
 replace H := Option.bind_eq_some_iff.mp H
 obtain ⟨t178, A20, H⟩ := H
 replace H : (if t178 = 0 then (order_may.j0 k t178 (t178 == 0) a0_0 a0_1 l0_2 a0_3 a0_4 a0_5 a0_6 a0_7) else (if a0_1 < 0 then (order_may.j0 k t178 (decide (a0_1 < 0)) a0_0 a0_1 l0_2 a0_3 a0_4 a0_5 a0_6 a0_7) else (if a0_1 ≥ 4 then (order_may.j0 k t178 (decide (a0_1 ≥ 4)) a0_0 a0_1 l0_2 a0_3 a0_4 a0_5 a0_6 a0_7) else ((order_keyed.f k a0_0 a0_1 l0_2 a0_3 a0_4 a0_5 a0_6 a0_7 t178).bind fun t179 => (order_may.j0 k t178 (!t179) a0_0 a0_1 l0_2 a0_3 a0_4 a0_5 a0_6 a0_7))))) = some r := H
 have A2 := Aside0.mk A20
 clear A20
 have HC3 := Aside0.mk H
 clear H
 go_enter Tryd.func69, Tryd.ntmps69
 go_upto_if 7 with (first | ((with_reducible refine gate_dst (N := 1) rfl ?_); refine box_event ?hg (N := 1) ?hd (cs := #[.int .u8 a0_0, .int .i64 a0_1, .slice A0_2 l0_2.length c0_2, .string a0_3, .int .u32 a0_4, .int .i64 a0_5, .int .u64 a0_6, .int .u64 a0_7]) (t := 40) ?hr ?_; (case hd => rfl); (case hg => rfl); (case hr => first | (go_simp; done) | (go_simp; rfl)); intro gb177 hg w4 hbox hb; have n0_ := Aside0.mk (below_step t21_4 hb); have n1_ := Aside0.mk (hbox); have n2_ := Aside0.mk ((by rw [hg]; exact (below_size t21_4) : w.heap.size ≤ gb177)); have n3_ := Aside0.mk ((by rw [hg]; exact (below_size t21_4) : w.heap.size ≤ gb177)); clear HB; have HB := n0_; have BK177 := n1_; have GW177 := n2_; have GE177 := n3_; clear n0_ n1_ n2_ n3_; clear hb hbox hg; have hz5 := blk8 BK177.out) | ((with_reducible refine gate_callee (f := 91) rfl ?_); refine goesL_ (some 6) rfl rfl Tryd.func91 (by kernel_rfl) rfl #[.int .u8 a0_0] rfl t21_5 ?_; (with_reducible refine (order_has.calls k a0_0 t178 _ A2.out).mono ?_); rintro e w' ⟨rfl, ⟨nd, rfl⟩⟩; refine ⟨_, rfl, ?_⟩))
 (try simp only [Act.put, List.setIfInBounds_toArray, List.set_cons_zero, List.set_cons_succ])
 go_cut [7] (fun v7 wc => ∃ (kq : Nat) (x7_2 : Bool), v7 = .bool x7_2 ∧ Aside0 (order_may.j0 kq t178 x7_2 a0_0 a0_1 l0_2 a0_3 a0_4 a0_5 a0_6 a0_7 = some r) ∧ Aside0 (kq ≤ k) ∧ Aside0 (wc.heap[gb177]? = some (.cells #[.int .u8 a0_0, .int .i64 a0_1, (.slice A0_2 l0_2.length c0_2), .string a0_3, .int .u32 a0_4, .int .i64 a0_5, .int .u64 a0_6, .int .u64 a0_7] 40 (0, 0))) ∧ Aside0 (Below w.heap.size w wc))
 case first =>
  have H := HC3.out
  clear HC3
  by_cases c6 : t178 = 0
  ·rw [if_pos c6] at H
   have c6b0 : (t178 == 0) = true := beq_iff_eq.mpr c6
   have c6b1 : (t178 != 0) = false := bne_eq_false_iff_eq.mpr c6
   clear c6
   (first | rw [c6b0] | (simp only [i64_w, i32_w]; rw [c6b0]) | rw [c6b1] | skip)
   have H' := Aside0.mk H
   clear H
   go_wp2
   go_meet
   case rel => exact ⟨_, ((t178 == 0)), t21_3, H', ⟨by first | omega | exact Nat.le_refl _⟩, ⟨t21_2⟩, ⟨t21_0⟩⟩
  ·rw [if_neg c6] at H
   have c6b0 : (t178 == 0) = false := beq_eq_false_iff_ne.mpr c6
   have c6b1 : (t178 != 0) = true := bne_iff_ne.mpr c6
   (first | rw [c6b0] | (simp only [i64_w, i32_w]; rw [c6b0]) | rw [c6b1] | skip)
   by_cases c7 : a0_1 < 0
   ·rw [if_pos c7] at H
    have c7b0 : decide (a0_1 < 0) = true := decide_eq_true c7
    clear c7
    have H' := Aside0.mk H
    clear H
    have hz8 := blk8 BK177.out
    go_wp2
    go_meet
    case rel => exact ⟨_, (decide (a0_1 < 0)), t21_3, H', ⟨by first | omega | exact Nat.le_refl _⟩, ⟨t21_2⟩, ⟨t21_0⟩⟩
   ·rw [if_neg c7] at H
    have c7b0 : decide (a0_1 < 0) = false := decide_eq_false c7
    clear c7
    by_cases c9 : a0_1 ≥ 4
    ·rw [if_pos c9] at H
     have c9b0 : decide (4 ≤ a0_1) = true := decide_eq_true c9
     clear c9
     have H' := Aside0.mk H
     clear H
     have hz10 := blk8 BK177.out
     go_wp2
     go_meet
     case rel => exact ⟨_, (decide (a0_1 ≥ 4)), t21_3, H', ⟨by first | omega | exact Nat.le_refl _⟩, ⟨t21_2⟩, ⟨t21_0⟩⟩
    ·rw [if_neg c9] at H
     have c9b0 : decide (4 ≤ a0_1) = false := decide_eq_false c9
     clear c9
     replace H := Option.bind_eq_some_iff.mp H
     obtain ⟨t179, A110, H⟩ := H
     replace H : (order_may.j0 k t178 (!t179) a0_0 a0_1 l0_2 a0_3 a0_4 a0_5 a0_6 a0_7) = some r := H
     have A11 := Aside0.mk A110
     clear A110
     have H' := Aside0.mk H
     clear H
     have hz12 := blk8 BK177.out
     go_wp2_with (first | ((with_reducible refine gate_callee (f := 92) rfl ?_); refine goesL_ (some 18) rfl rfl Tryd.func92 (by kernel_rfl) rfl #[.agg #[.int .u8 a0_0, .int .i64 a0_1, .slice A0_2 l0_2.length c0_2, .string a0_3, .int .u32 a0_4, .int .i64 a0_5, .int .u64 a0_6, .int .u64 a0_7], .int .i64 t178] rfl t21_5 ?_; (with_reducible refine (order_keyed.calls k a0_0 a0_1 _ _ l0_2 a0_3 a0_4 a0_5 a0_6 a0_7 t178 t179 _ ?side1 ?side2 A11.out).mono ?_); (case side1 => repeat (first | exact (Kd.C_below HR0_2.out HB.out) | (with_reducible refine Kd.C_alloc ?_ _) | (with_reducible refine Kd.C_drewN ?_ _) | (with_reducible refine Kd.C_drew ?_))); (case side2 => exact HC0_2.out); rintro e w13 ⟨rfl, hb⟩; refine ⟨_, rfl, ?_⟩; have n0_ := Aside0.mk (blk_below (g := gb177) (o := .cells #[.int .u8 a0_0, .int .i64 a0_1, .slice A0_2 l0_2.length c0_2, .string a0_3, .int .u32 a0_4, .int .i64 a0_5, .int .u64 a0_6, .int .u64 a0_7] 40 (0, 0)) t21_2 hb); have n1_ := Aside0.mk (below_step t21_0 hb); clear BK177; clear HB; have BK177 := n0_; have HB := n1_; clear n0_ n1_; (try clear hb); (try clear hb2); (try clear hk); (try clear hi)))
     go_meet
     case rel => exact ⟨_, (!t179), t21_3, H', ⟨by first | omega | exact Nat.le_refl _⟩, ⟨t21_2⟩, ⟨t21_0⟩⟩
 case rest => as_aux_lemma =>
  clear HC3
  (try clear hz5)
  obtain ⟨kq, x7_2, rfl, HA, HJ2, BK177, HB⟩ := hcut
  cases kq with
  | zero => exact absurd HA.out (by simp [order_may.j0])
  | succ kj2 =>
   have H := HA.out
   clear HA
   simp only [order_may.j0] at H
   by_cases c14 : x7_2 = true
   ·subst c14
    rw [if_pos rfl] at H
    obtain rfl := Option.some.inj H
    go_wp2
    go_ret
    exact ⟨t21_1, t21_0⟩
   ·replace c14 := Bool.eq_false_iff.mpr c14
    subst c14
    rw [if_neg (show ¬ (false = true) by decide)] at H
    have HC15 := Aside0.mk H
    clear H
    have hz16 := blk8 BK177.out
    go_upto_if 20 with (fail)
    go_cut [20] (fun v20 wc => ∃ (kq : Nat) (x20_14 : Bool), v20 = .bool x20_14 ∧ Aside0 (order_may.j1 kq t178 x20_14 a0_0 a0_1 l0_2 a0_3 a0_4 a0_5 a0_6 a0_7 = some r) ∧ Aside0 (kq ≤ kj2) ∧ Aside0 (wc.heap[gb177]? = some (.cells #[.int .u8 a0_0, .int .i64 a0_1, (.slice A0_2 l0_2.length c0_2), .string a0_3, .int .u32 a0_4, .int .i64 a0_5, .int .u64 a0_6, .int .u64 a0_7] 40 (0, 0))) ∧ Aside0 (Below w.heap.size w wc))
    case first =>
     have H := HC15.out
     clear HC15
     by_cases c17 : (a0_3.size : Int) > 512
     ·rw [if_pos c17] at H
      have c17b0 : decide (512 < (a0_3.size : Int)) = true := decide_eq_true c17
      have c17b1 : decide (512 < a0_3.size) = true := decide_eq_true (by omega)
      clear c17
      (first | rw [c17b0] | (simp only [i64_w, i32_w]; rw [c17b0]) | rw [c17b1] | skip)
      have H' := Aside0.mk H
      clear H
      go_wp2
      go_meet
      case rel => exact ⟨_, (decide ((a0_3.size : Int) > 512)), t21_3, H', ⟨by have := HJ2.out; first | omega | exact Nat.le_refl _⟩, ⟨t21_2⟩, ⟨t21_0⟩⟩
     ·rw [if_neg c17] at H
      have c17b0 : decide (512 < (a0_3.size : Int)) = false := decide_eq_false c17
      have c17b1 : decide (512 < a0_3.size) = false := decide_eq_false (by omega)
      clear c17
      (first | rw [c17b0] | (simp only [i64_w, i32_w]; rw [c17b0]) | rw [c17b1] | skip)
      by_cases c18 : (Go.bits .and .i64 t178 2) = 0
      ·rw [if_pos c18] at H
       have c18b0 : ((Go.bits .and .i64 t178 2) == 0) = true := beq_iff_eq.mpr c18
       have c18b1 : ((Go.bits .and .i64 t178 2) != 0) = false := bne_eq_false_iff_eq.mpr c18
       clear c18
       have H' := Aside0.mk H
       clear H
       have hz19 := blk8 BK177.out
       go_wp2
       go_meet
       case rel => exact ⟨_, ((a0_3.toList != ([] : List UInt8))), t21_3, H', ⟨by have := HJ2.out; first | omega | exact Nat.le_refl _⟩, ⟨t21_2⟩, ⟨t21_0⟩⟩
      ·rw [if_neg c18] at H
       have c18b0 : ((Go.bits .and .i64 t178 2) == 0) = false := beq_eq_false_iff_ne.mpr c18
       have c18b1 : ((Go.bits .and .i64 t178 2) != 0) = true := bne_iff_ne.mpr c18
       have H' := Aside0.mk H
       clear H
       go_wp2
       go_meet
       case rel => exact ⟨_, (false), t21_3, H', ⟨by have := HJ2.out; first | omega | exact Nat.le_refl _⟩, ⟨t21_2⟩, ⟨t21_0⟩⟩
    case rest => as_aux_lemma =>
     clear HC15
     (try clear c14); (try clear hz16); (try clear hz5)
     obtain ⟨kq, x20_14, rfl, HA, HJ14, BK177, HB⟩ := hcut
     cases kq with
     | zero => exact absurd HA.out (by simp [order_may.j1])
     | succ kj14 =>
      have H := HA.out
      clear HA
      simp only [order_may.j1] at H
      by_cases c20 : x20_14 = true
      ·subst c20
       rw [if_pos rfl] at H
       obtain rfl := Option.some.inj H
       go_wp2
       go_ret
       exact ⟨t21_1, t21_0⟩
      ·replace c20 := Bool.eq_false_iff.mpr c20
       subst c20
       rw [if_neg (show ¬ (false = true) by decide)] at H
       by_cases c21 : a0_5 < 0
       ·rw [if_pos c21] at H
        have c21b0 : decide (a0_5 < 0) = true := decide_eq_true c21
        clear c21
        obtain rfl := Option.some.inj H
        have hz22 := blk8 BK177.out
        go_wp2
        go_ret
        exact ⟨t21_1, t21_0⟩
       ·rw [if_neg c21] at H
        have c21b0 : decide (a0_5 < 0) = false := decide_eq_false c21
        clear c21
        by_cases c23 : a0_5 > 1099511627776
        ·rw [if_pos c23] at H
         have c23b0 : decide (1099511627776 < a0_5) = true := decide_eq_true c23
         clear c23
         obtain rfl := Option.some.inj H
         have hz24 := blk8 BK177.out
         go_wp2
         go_ret
         exact ⟨t21_1, t21_0⟩
        ·rw [if_neg c23] at H
         have c23b0 : decide (1099511627776 < a0_5) = false := decide_eq_false c23
         clear c23
         by_cases c25 : (Go.bits .and .i64 t178 4) = 0
         ·rw [if_pos c25] at H
          have c25b0 : ((Go.bits .and .i64 t178 4) == 0) = true := beq_iff_eq.mpr c25
          have c25b1 : ((Go.bits .and .i64 t178 4) != 0) = false := bne_eq_false_iff_eq.mpr c25
          clear c25
          by_cases c26 : a0_5 = 0
          ·rw [if_pos c26] at H
           have c26b0 : (a0_5 == 0) = true := beq_iff_eq.mpr c26
           have c26b1 : (a0_5 != 0) = false := bne_eq_false_iff_eq.mpr c26
           clear c26
           by_cases c27 : (Go.bits .and .i64 t178 8) = 0
           ·rw [if_pos c27] at H
            have c27b0 : ((Go.bits .and .i64 t178 8) == 0) = true := beq_iff_eq.mpr c27
            have c27b1 : ((Go.bits .and .i64 t178 8) != 0) = false := bne_eq_false_iff_eq.mpr c27
            clear c27
            by_cases c28 : a0_4 = 0
            ·rw [if_pos c28] at H
             have c28b0 : (a0_4 == 0) = true := beq_iff_eq.mpr c28
             have c28b1 : (a0_4 != 0) = false := bne_eq_false_iff_eq.mpr c28
             clear c28
             by_cases c29 : (Go.bits .and .i64 t178 16) = 0
             ·rw [if_pos c29] at H
              have c29b0 : ((Go.bits .and .i64 t178 16) == 0) = true := beq_iff_eq.mpr c29
              have c29b1 : ((Go.bits .and .i64 t178 16) != 0) = false := bne_eq_false_iff_eq.mpr c29
              clear c29
              by_cases c30 : a0_6 = 0
              ·rw [if_pos c30] at H
               have c30b0 : (a0_6 == 0) = true := beq_iff_eq.mpr c30
               have c30b1 : (a0_6 != 0) = false := bne_eq_false_iff_eq.mpr c30
               clear c30
               by_cases c31 : (Go.bits .and .i64 t178 32) = 0
               ·rw [if_pos c31] at H
                have c31b0 : ((Go.bits .and .i64 t178 32) == 0) = true := beq_iff_eq.mpr c31
                have c31b1 : ((Go.bits .and .i64 t178 32) != 0) = false := bne_eq_false_iff_eq.mpr c31
                clear c31
                obtain rfl := Option.some.inj H
                have hz32 := blk8 BK177.out
                go_wp2
                go_ret
                exact ⟨t21_1, t21_0⟩
               ·rw [if_neg c31] at H
                have c31b0 : ((Go.bits .and .i64 t178 32) == 0) = false := beq_eq_false_iff_ne.mpr c31
                have c31b1 : ((Go.bits .and .i64 t178 32) != 0) = true := bne_iff_ne.mpr c31
                obtain rfl := Option.some.inj H
                have hz33 := blk8 BK177.out
                go_wp2
                go_ret
                exact ⟨t21_1, t21_0⟩
              ·rw [if_neg c30] at H
               have c30b0 : (a0_6 == 0) = false := beq_eq_false_iff_ne.mpr c30
               have c30b1 : (a0_6 != 0) = true := bne_iff_ne.mpr c30
               obtain rfl := Option.some.inj H
               have hz34 := blk8 BK177.out
               go_wp2
               go_ret
               exact ⟨t21_1, t21_0⟩
             ·rw [if_neg c29] at H
              have c29b0 : ((Go.bits .and .i64 t178 16) == 0) = false := beq_eq_false_iff_ne.mpr c29
              have c29b1 : ((Go.bits .and .i64 t178 16) != 0) = true := bne_iff_ne.mpr c29
              by_cases c35 : (Go.bits .and .i64 t178 32) = 0
              ·rw [if_pos c35] at H
               have c35b0 : ((Go.bits .and .i64 t178 32) == 0) = true := beq_iff_eq.mpr c35
               have c35b1 : ((Go.bits .and .i64 t178 32) != 0) = false := bne_eq_false_iff_eq.mpr c35
               clear c35
               obtain rfl := Option.some.inj H
               have hz36 := blk8 BK177.out
               go_wp2
               go_ret
               exact ⟨t21_1, t21_0⟩
              ·rw [if_neg c35] at H
               have c35b0 : ((Go.bits .and .i64 t178 32) == 0) = false := beq_eq_false_iff_ne.mpr c35
               have c35b1 : ((Go.bits .and .i64 t178 32) != 0) = true := bne_iff_ne.mpr c35
               obtain rfl := Option.some.inj H
               have hz37 := blk8 BK177.out
               go_wp2
               go_ret
               exact ⟨t21_1, t21_0⟩
            ·rw [if_neg c28] at H
             have c28b0 : (a0_4 == 0) = false := beq_eq_false_iff_ne.mpr c28
             have c28b1 : (a0_4 != 0) = true := bne_iff_ne.mpr c28
             obtain rfl := Option.some.inj H
             have hz38 := blk8 BK177.out
             go_wp2
             go_ret
             exact ⟨t21_1, t21_0⟩
           ·rw [if_neg c27] at H
            have c27b0 : ((Go.bits .and .i64 t178 8) == 0) = false := beq_eq_false_iff_ne.mpr c27
            have c27b1 : ((Go.bits .and .i64 t178 8) != 0) = true := bne_iff_ne.mpr c27
            by_cases c39 : (Go.bits .and .i64 t178 16) = 0
            ·rw [if_pos c39] at H
             have c39b0 : ((Go.bits .and .i64 t178 16) == 0) = true := beq_iff_eq.mpr c39
             have c39b1 : ((Go.bits .and .i64 t178 16) != 0) = false := bne_eq_false_iff_eq.mpr c39
             clear c39
             by_cases c40 : a0_6 = 0
             ·rw [if_pos c40] at H
              have c40b0 : (a0_6 == 0) = true := beq_iff_eq.mpr c40
              have c40b1 : (a0_6 != 0) = false := bne_eq_false_iff_eq.mpr c40
              clear c40
              by_cases c41 : (Go.bits .and .i64 t178 32) = 0
              ·rw [if_pos c41] at H
               have c41b0 : ((Go.bits .and .i64 t178 32) == 0) = true := beq_iff_eq.mpr c41
               have c41b1 : ((Go.bits .and .i64 t178 32) != 0) = false := bne_eq_false_iff_eq.mpr c41
               clear c41
               obtain rfl := Option.some.inj H
               have hz42 := blk8 BK177.out
               go_wp2
               go_ret
               exact ⟨t21_1, t21_0⟩
              ·rw [if_neg c41] at H
               have c41b0 : ((Go.bits .and .i64 t178 32) == 0) = false := beq_eq_false_iff_ne.mpr c41
               have c41b1 : ((Go.bits .and .i64 t178 32) != 0) = true := bne_iff_ne.mpr c41
               obtain rfl := Option.some.inj H
               have hz43 := blk8 BK177.out
               go_wp2
               go_ret
               exact ⟨t21_1, t21_0⟩
             ·rw [if_neg c40] at H
              have c40b0 : (a0_6 == 0) = false := beq_eq_false_iff_ne.mpr c40
              have c40b1 : (a0_6 != 0) = true := bne_iff_ne.mpr c40
              obtain rfl := Option.some.inj H
              have hz44 := blk8 BK177.out
              go_wp2
              go_ret
              exact ⟨t21_1, t21_0⟩
            ·rw [if_neg c39] at H
             have c39b0 : ((Go.bits .and .i64 t178 16) == 0) = false := beq_eq_false_iff_ne.mpr c39
             have c39b1 : ((Go.bits .and .i64 t178 16) != 0) = true := bne_iff_ne.mpr c39
             by_cases c45 : (Go.bits .and .i64 t178 32) = 0
             ·rw [if_pos c45] at H
              have c45b0 : ((Go.bits .and .i64 t178 32) == 0) = true := beq_iff_eq.mpr c45
              have c45b1 : ((Go.bits .and .i64 t178 32) != 0) = false := bne_eq_false_iff_eq.mpr c45
              clear c45
              obtain rfl := Option.some.inj H
              have hz46 := blk8 BK177.out
              go_wp2
              go_ret
              exact ⟨t21_1, t21_0⟩
             ·rw [if_neg c45] at H
              have c45b0 : ((Go.bits .and .i64 t178 32) == 0) = false := beq_eq_false_iff_ne.mpr c45
              have c45b1 : ((Go.bits .and .i64 t178 32) != 0) = true := bne_iff_ne.mpr c45
              obtain rfl := Option.some.inj H
              have hz47 := blk8 BK177.out
              go_wp2
              go_ret
              exact ⟨t21_1, t21_0⟩
          ·rw [if_neg c26] at H
           have c26b0 : (a0_5 == 0) = false := beq_eq_false_iff_ne.mpr c26
           have c26b1 : (a0_5 != 0) = true := bne_iff_ne.mpr c26
           obtain rfl := Option.some.inj H
           have hz48 := blk8 BK177.out
           go_wp2
           go_ret
           exact ⟨t21_1, t21_0⟩
         ·rw [if_neg c25] at H
          have c25b0 : ((Go.bits .and .i64 t178 4) == 0) = false := beq_eq_false_iff_ne.mpr c25
          have c25b1 : ((Go.bits .and .i64 t178 4) != 0) = true := bne_iff_ne.mpr c25
          by_cases c49 : (Go.bits .and .i64 t178 8) = 0
          ·rw [if_pos c49] at H
           have c49b0 : ((Go.bits .and .i64 t178 8) == 0) = true := beq_iff_eq.mpr c49
           have c49b1 : ((Go.bits .and .i64 t178 8) != 0) = false := bne_eq_false_iff_eq.mpr c49
           clear c49
           by_cases c50 : a0_4 = 0
           ·rw [if_pos c50] at H
            have c50b0 : (a0_4 == 0) = true := beq_iff_eq.mpr c50
            have c50b1 : (a0_4 != 0) = false := bne_eq_false_iff_eq.mpr c50
            clear c50
            by_cases c51 : (Go.bits .and .i64 t178 16) = 0
            ·rw [if_pos c51] at H
             have c51b0 : ((Go.bits .and .i64 t178 16) == 0) = true := beq_iff_eq.mpr c51
             have c51b1 : ((Go.bits .and .i64 t178 16) != 0) = false := bne_eq_false_iff_eq.mpr c51
             clear c51
             by_cases c52 : a0_6 = 0
             ·rw [if_pos c52] at H
              have c52b0 : (a0_6 == 0) = true := beq_iff_eq.mpr c52
              have c52b1 : (a0_6 != 0) = false := bne_eq_false_iff_eq.mpr c52
              clear c52
              by_cases c53 : (Go.bits .and .i64 t178 32) = 0
              ·rw [if_pos c53] at H
               have c53b0 : ((Go.bits .and .i64 t178 32) == 0) = true := beq_iff_eq.mpr c53
               have c53b1 : ((Go.bits .and .i64 t178 32) != 0) = false := bne_eq_false_iff_eq.mpr c53
               clear c53
               obtain rfl := Option.some.inj H
               have hz54 := blk8 BK177.out
               go_wp2
               go_ret
               exact ⟨t21_1, t21_0⟩
              ·rw [if_neg c53] at H
               have c53b0 : ((Go.bits .and .i64 t178 32) == 0) = false := beq_eq_false_iff_ne.mpr c53
               have c53b1 : ((Go.bits .and .i64 t178 32) != 0) = true := bne_iff_ne.mpr c53
               obtain rfl := Option.some.inj H
               have hz55 := blk8 BK177.out
               go_wp2
               go_ret
               exact ⟨t21_1, t21_0⟩
             ·rw [if_neg c52] at H
              have c52b0 : (a0_6 == 0) = false := beq_eq_false_iff_ne.mpr c52
              have c52b1 : (a0_6 != 0) = true := bne_iff_ne.mpr c52
              obtain rfl := Option.some.inj H
              have hz56 := blk8 BK177.out
              go_wp2
              go_ret
              exact ⟨t21_1, t21_0⟩
            ·rw [if_neg c51] at H
             have c51b0 : ((Go.bits .and .i64 t178 16) == 0) = false := beq_eq_false_iff_ne.mpr c51
             have c51b1 : ((Go.bits .and .i64 t178 16) != 0) = true := bne_iff_ne.mpr c51
             by_cases c57 : (Go.bits .and .i64 t178 32) = 0
             ·rw [if_pos c57] at H
              have c57b0 : ((Go.bits .and .i64 t178 32) == 0) = true := beq_iff_eq.mpr c57
              have c57b1 : ((Go.bits .and .i64 t178 32) != 0) = false := bne_eq_false_iff_eq.mpr c57
              clear c57
              obtain rfl := Option.some.inj H
              have hz58 := blk8 BK177.out
              go_wp2
              go_ret
              exact ⟨t21_1, t21_0⟩
             ·rw [if_neg c57] at H
              have c57b0 : ((Go.bits .and .i64 t178 32) == 0) = false := beq_eq_false_iff_ne.mpr c57
              have c57b1 : ((Go.bits .and .i64 t178 32) != 0) = true := bne_iff_ne.mpr c57
              obtain rfl := Option.some.inj H
              have hz59 := blk8 BK177.out
              go_wp2
              go_ret
              exact ⟨t21_1, t21_0⟩
           ·rw [if_neg c50] at H
            have c50b0 : (a0_4 == 0) = false := beq_eq_false_iff_ne.mpr c50
            have c50b1 : (a0_4 != 0) = true := bne_iff_ne.mpr c50
            obtain rfl := Option.some.inj H
            have hz60 := blk8 BK177.out
            go_wp2
            go_ret
            exact ⟨t21_1, t21_0⟩
          ·rw [if_neg c49] at H
           have c49b0 : ((Go.bits .and .i64 t178 8) == 0) = false := beq_eq_false_iff_ne.mpr c49
           have c49b1 : ((Go.bits .and .i64 t178 8) != 0) = true := bne_iff_ne.mpr c49
           by_cases c61 : (Go.bits .and .i64 t178 16) = 0
           ·rw [if_pos c61] at H
            have c61b0 : ((Go.bits .and .i64 t178 16) == 0) = true := beq_iff_eq.mpr c61
            have c61b1 : ((Go.bits .and .i64 t178 16) != 0) = false := bne_eq_false_iff_eq.mpr c61
            clear c61
            by_cases c62 : a0_6 = 0
            ·rw [if_pos c62] at H
             have c62b0 : (a0_6 == 0) = true := beq_iff_eq.mpr c62
             have c62b1 : (a0_6 != 0) = false := bne_eq_false_iff_eq.mpr c62
             clear c62
             by_cases c63 : (Go.bits .and .i64 t178 32) = 0
             ·rw [if_pos c63] at H
              have c63b0 : ((Go.bits .and .i64 t178 32) == 0) = true := beq_iff_eq.mpr c63
              have c63b1 : ((Go.bits .and .i64 t178 32) != 0) = false := bne_eq_false_iff_eq.mpr c63
              clear c63
              obtain rfl := Option.some.inj H
              have hz64 := blk8 BK177.out
              go_wp2
              go_ret
              exact ⟨t21_1, t21_0⟩
             ·rw [if_neg c63] at H
              have c63b0 : ((Go.bits .and .i64 t178 32) == 0) = false := beq_eq_false_iff_ne.mpr c63
              have c63b1 : ((Go.bits .and .i64 t178 32) != 0) = true := bne_iff_ne.mpr c63
              obtain rfl := Option.some.inj H
              have hz65 := blk8 BK177.out
              go_wp2
              go_ret
              exact ⟨t21_1, t21_0⟩
            ·rw [if_neg c62] at H
             have c62b0 : (a0_6 == 0) = false := beq_eq_false_iff_ne.mpr c62
             have c62b1 : (a0_6 != 0) = true := bne_iff_ne.mpr c62
             obtain rfl := Option.some.inj H
             have hz66 := blk8 BK177.out
             go_wp2
             go_ret
             exact ⟨t21_1, t21_0⟩
           ·rw [if_neg c61] at H
            have c61b0 : ((Go.bits .and .i64 t178 16) == 0) = false := beq_eq_false_iff_ne.mpr c61
            have c61b1 : ((Go.bits .and .i64 t178 16) != 0) = true := bne_iff_ne.mpr c61
            by_cases c67 : (Go.bits .and .i64 t178 32) = 0
            ·rw [if_pos c67] at H
             have c67b0 : ((Go.bits .and .i64 t178 32) == 0) = true := beq_iff_eq.mpr c67
             have c67b1 : ((Go.bits .and .i64 t178 32) != 0) = false := bne_eq_false_iff_eq.mpr c67
             clear c67
             obtain rfl := Option.some.inj H
             have hz68 := blk8 BK177.out
             go_wp2
             go_ret
             exact ⟨t21_1, t21_0⟩
            ·rw [if_neg c67] at H
             have c67b0 : ((Go.bits .and .i64 t178 32) == 0) = false := beq_eq_false_iff_ne.mpr c67
             have c67b1 : ((Go.bits .and .i64 t178 32) != 0) = true := bne_iff_ne.mpr c67
             obtain rfl := Option.some.inj H
             have hz69 := blk8 BK177.out
             go_wp2
             go_ret
             exact ⟨t21_1, t21_0⟩
end Go.Proofs.YtfoengihiaegoaaDoor.P
