-- written by wip/tools/drive.py, a driver round the kit's printer, and made smaller by wip/tools/slim.py
import Derived.Test.YtfoengihiaegoaaDoorP0
import Derived.Test.YtfoengihiaegoaaDoorP16
import Derived.Test.YtfoengihiaegoaaDoorXDefs
import Derived.Test.YtfoengihiaegoaaDoorXTplain
namespace Go.Proofs.YtfoengihiaegoaaDoor.P
open Go.RowKit Go.Proofs.YtfoengihiaegoaaDoorW.PrintWords Go.Proofs.YtfoengihiaegoaaDoorW.PrintLast Go.Proofs.YtfoengihiaegoaaDoorW.PrintMore
set_option linter.unusedVariables false
set_option linter.unusedSimpArgs false
theorem t17_0 {p : Prop} (h : p := by repeat (first | (with_reducible first | exact HB.out | apply below_alloc | apply pw_below_drewN | apply below_drew1) | exact HB.out)) : p := h
theorem t17_1 {p : Prop} (h : p := by repeat (first | (with_reducible first | exact HB.out | apply below_alloc | apply pw_below_drewN | apply below_drew1 | refine below_set ?_ GE162.out) | exact HB.out)) : p := h
theorem t17_2 {p : Prop} (h : p := by first | rfl | (simp [errW_none, errW_some] <;> rfl) | (simp [*, errW_none, errW_some] <;> rfl)) : p := h
theorem t17_3 {p : Prop} (h : p := by (with_reducible repeat (first | refine blk_drewN ?_ _ | refine blk_drew ?_ | refine blk_alloc ?_ _)); exact BK162.out) : p := h
theorem t17_4 {p : Prop} (h : p := by rw [hg]; exact (below_size t17_0)) : p := h
def text_fits.f (a0_0 : Int) (a0_1 : Int) (a0_2 : Int) (l0_3 : List ByteArray) (a0_4 : ByteArray) (a0_5 : Int) (a0_6 : Int) (a0_7 : Int) (a0_8 : Int) (a0_9 : Int) (a0_10 : ByteArray) (a0_11 : Bool) (a0_12 : Bool) : Option (Bool) := if a0_12 = true then (some false) else (if a0_11 = true then (if a0_0 = 3 then (if a0_0 = 2 then (if a0_0 = 1 then (if a0_9 ≥ 0 then (if a0_9 < 4 then ((text_plain.f a0_10 16).bind fun t163 => (some t163)) else (some false)) else (some false)) else ((text_bare.f a0_0 a0_1 a0_2 l0_3 a0_4 a0_5 a0_6 a0_7 a0_8 a0_9 a0_10 a0_11 a0_12).bind fun t164 => (if t164 = true then (if a0_9 ≥ 0 then (if a0_9 < 4 then ((text_plain.f a0_10 16).bind fun t165 => (some t165)) else (some false)) else (some false)) else (some false)))) else (if a0_9 = 0 then (if a0_10.toList = ([] : List UInt8) then (if a0_0 = 1 then (some true) else ((text_bare.f a0_0 a0_1 a0_2 l0_3 a0_4 a0_5 a0_6 a0_7 a0_8 a0_9 a0_10 a0_11 a0_12).bind fun t166 => (if t166 = true then (some true) else (some false)))) else (some false)) else (some false))) else (some false)) else (if a0_0 = 2 then (if a0_0 = 1 then (if a0_9 ≥ 0 then (if a0_9 < 4 then ((text_plain.f a0_10 16).bind fun t167 => (some t167)) else (some false)) else (some false)) else ((text_bare.f a0_0 a0_1 a0_2 l0_3 a0_4 a0_5 a0_6 a0_7 a0_8 a0_9 a0_10 a0_11 a0_12).bind fun t168 => (if t168 = true then (if a0_9 ≥ 0 then (if a0_9 < 4 then ((text_plain.f a0_10 16).bind fun t169 => (some t169)) else (some false)) else (some false)) else (some false)))) else (if a0_9 = 0 then (if a0_10.toList = ([] : List UInt8) then (if a0_0 = 1 then (some true) else ((text_bare.f a0_0 a0_1 a0_2 l0_3 a0_4 a0_5 a0_6 a0_7 a0_8 a0_9 a0_10 a0_11 a0_12).bind fun t170 => (if t170 = true then (some true) else (some false)))) else (some false)) else (some false))))
set_option maxHeartbeats 8000000 in
set_option maxRecDepth 100000 in
theorem text_fits.calls (a0_0 : Int) (a0_1 : Int) (a0_2 : Int) (A0_3 : Option Addr) (c0_3 : Nat) (l0_3 : List ByteArray) (a0_4 : ByteArray) (a0_5 : Int) (a0_6 : Int) (a0_7 : Int) (a0_8 : Int) (a0_9 : Int) (a0_10 : ByteArray) (a0_11 : Bool) (a0_12 : Bool) (r : Bool) (w : World) (hr0_3 : Kd.C Kd.string w A0_3 l0_3.length l0_3) (hc0_3 : l0_3.length ≤ c0_3) (h : text_fits.f a0_0 a0_1 a0_2 l0_3 a0_4 a0_5 a0_6 a0_7 a0_8 a0_9 a0_10 a0_11 a0_12 = some r) :
  Calls Tryd.prog 30 #[.agg #[.int .u8 a0_0, .int .u8 a0_1, .int .i64 a0_2, .slice A0_3 l0_3.length c0_3, .string a0_4, .int .u32 a0_5, .int .i64 a0_6, .int .u64 a0_7, .int .u64 a0_8, .int .i64 a0_9, .string a0_10, .bool a0_11, .bool a0_12]] w fun e w' => e = .returned (.bool r) ∧ Below w.heap.size w w' := by
 have hu42 := Tryd.underlying42
 have HR0_3 := Aside0.mk hr0_3
 have HC0_3 := Aside0.mk hc0_3
 clear hr0_3 hc0_3
 have HB := Aside0.mk (Below.refl w.heap.size w)
 have H : (if a0_12 = true then (some false) else (if a0_11 = true then (if a0_0 = 3 then (if a0_0 = 2 then (if a0_0 = 1 then (if a0_9 ≥ 0 then (if a0_9 < 4 then ((text_plain.f a0_10 16).bind fun t163 => (some t163)) else (some false)) else (some false)) else ((text_bare.f a0_0 a0_1 a0_2 l0_3 a0_4 a0_5 a0_6 a0_7 a0_8 a0_9 a0_10 a0_11 a0_12).bind fun t164 => (if t164 = true then (if a0_9 ≥ 0 then (if a0_9 < 4 then ((text_plain.f a0_10 16).bind fun t165 => (some t165)) else (some false)) else (some false)) else (some false)))) else (if a0_9 = 0 then (if a0_10.toList = ([] : List UInt8) then (if a0_0 = 1 then (some true) else ((text_bare.f a0_0 a0_1 a0_2 l0_3 a0_4 a0_5 a0_6 a0_7 a0_8 a0_9 a0_10 a0_11 a0_12).bind fun t166 => (if t166 = true then (some true) else (some false)))) else (some false)) else (some false))) else (some false)) else (if a0_0 = 2 then (if a0_0 = 1 then (if a0_9 ≥ 0 then (if a0_9 < 4 then ((text_plain.f a0_10 16).bind fun t167 => (some t167)) else (some false)) else (some false)) else ((text_bare.f a0_0 a0_1 a0_2 l0_3 a0_4 a0_5 a0_6 a0_7 a0_8 a0_9 a0_10 a0_11 a0_12).bind fun t168 => (if t168 = true then (if a0_9 ≥ 0 then (if a0_9 < 4 then ((text_plain.f a0_10 16).bind fun t169 => (some t169)) else (some false)) else (some false)) else (some false)))) else (if a0_9 = 0 then (if a0_10.toList = ([] : List UInt8) then (if a0_0 = 1 then (some true) else ((text_bare.f a0_0 a0_1 a0_2 l0_3 a0_4 a0_5 a0_6 a0_7 a0_8 a0_9 a0_10 a0_11 a0_12).bind fun t170 => (if t170 = true then (some true) else (some false)))) else (some false)) else (some false))))) = some r := h
 clear h
 by_cases c2 : a0_12 = true
 ·subst c2
  rw [if_pos rfl] at H
  obtain rfl := Option.some.inj H
  go_enter Tryd.func30, Tryd.ntmps30
  go_wp2_with (first | ((with_reducible refine gate_dst (N := 1) rfl ?_); refine box_event ?hg (N := 1) ?hd (cs := #[.int .u8 a0_0, .int .u8 a0_1, .int .i64 a0_2, .slice A0_3 l0_3.length c0_3, .string a0_4, .int .u32 a0_5, .int .i64 a0_6, .int .u64 a0_7, .int .u64 a0_8, .int .i64 a0_9, .string a0_10, .bool a0_11, .bool true]) (t := 42) ?hr ?_; (case hd => rfl); (case hg => rfl); (case hr => first | (go_simp; done) | (go_simp; rfl)); intro gb162 hg w3 hbox hb; have n0_ := Aside0.mk (below_step t17_0 hb); have n1_ := Aside0.mk (hbox); have n2_ := Aside0.mk ((t17_4 : w.heap.size ≤ gb162)); have n3_ := Aside0.mk ((t17_4 : w.heap.size ≤ gb162)); clear HB; have HB := n0_; have BK162 := n1_; have GW162 := n2_; have GE162 := n3_; clear n0_ n1_ n2_ n3_; clear hb hbox hg; have hz4 := blk13 BK162.out))
  go_ret
  exact ⟨t17_2, t17_1⟩
 ·replace c2 := Bool.eq_false_iff.mpr c2
  subst c2
  rw [if_neg (show ¬ (false = true) by decide)] at H
  by_cases c5 : a0_11 = true
  ·subst c5
   rw [if_pos rfl] at H
   by_cases c6 : a0_0 = 3
   ·rw [if_pos c6] at H
    have c6b0 : (a0_0 == 3) = true := beq_iff_eq.mpr c6
    have c6b1 : (a0_0 != 3) = false := bne_eq_false_iff_eq.mpr c6
    clear c6
    by_cases c7 : a0_0 = 2
    ·rw [if_pos c7] at H
     have c7b0 : (a0_0 == 2) = true := beq_iff_eq.mpr c7
     have c7b1 : (a0_0 != 2) = false := bne_eq_false_iff_eq.mpr c7
     clear c7
     by_cases c8 : a0_0 = 1
     ·rw [if_pos c8] at H
      have c8b0 : (a0_0 == 1) = true := beq_iff_eq.mpr c8
      have c8b1 : (a0_0 != 1) = false := bne_eq_false_iff_eq.mpr c8
      clear c8
      by_cases c9 : a0_9 ≥ 0
      ·rw [if_pos c9] at H
       have c9b0 : decide (0 ≤ a0_9) = true := decide_eq_true c9
       clear c9
       by_cases c10 : a0_9 < 4
       ·rw [if_pos c10] at H
        have c10b0 : decide (a0_9 < 4) = true := decide_eq_true c10
        clear c10
        replace H := Option.bind_eq_some_iff.mp H
        obtain ⟨t163, A110, H⟩ := H
        replace H : (some t163) = some r := H
        have A11 := Aside0.mk A110
        clear A110
        obtain rfl := Option.some.inj H
        go_enter Tryd.func30, Tryd.ntmps30
        go_wp2_with (first | ((with_reducible refine gate_dst (N := 1) rfl ?_); refine box_event ?hg (N := 1) ?hd (cs := #[.int .u8 a0_0, .int .u8 a0_1, .int .i64 a0_2, .slice A0_3 l0_3.length c0_3, .string a0_4, .int .u32 a0_5, .int .i64 a0_6, .int .u64 a0_7, .int .u64 a0_8, .int .i64 a0_9, .string a0_10, .bool true, .bool false]) (t := 42) ?hr ?_; (case hd => rfl); (case hg => rfl); (case hr => first | (go_simp; done) | (go_simp; rfl)); intro gb162 hg w12 hbox hb; have n0_ := Aside0.mk (below_step t17_0 hb); have n1_ := Aside0.mk (hbox); have n2_ := Aside0.mk ((t17_4 : w.heap.size ≤ gb162)); have n3_ := Aside0.mk ((t17_4 : w.heap.size ≤ gb162)); clear HB; have HB := n0_; have BK162 := n1_; have GW162 := n2_; have GE162 := n3_; clear n0_ n1_ n2_ n3_; clear hb hbox hg; have hz13 := blk13 BK162.out) | (go_at_call 34; (with_reducible refine (text_plain.calls a0_10 16 t163 _ A11.out).mono ?_); rintro e w14 ⟨rfl, hb⟩; have n0_ := Aside0.mk (blk_below (g := gb162) (o := .cells #[.int .u8 a0_0, .int .u8 a0_1, .int .i64 a0_2, .slice A0_3 l0_3.length c0_3, .string a0_4, .int .u32 a0_5, .int .i64 a0_6, .int .u64 a0_7, .int .u64 a0_8, .int .i64 a0_9, .string a0_10, .bool true, .bool false] 42 (0, 0)) t17_3 hb); have n1_ := Aside0.mk (below_step t17_1 hb); clear BK162; clear HB; have BK162 := n0_; have HB := n1_; clear n0_ n1_; (try clear hb); (try clear hb2); (try clear hk); (try clear hi)))
        go_ret
        exact ⟨t17_2, t17_1⟩
       ·rw [if_neg c10] at H
        have c10b0 : decide (a0_9 < 4) = false := decide_eq_false c10
        clear c10
        obtain rfl := Option.some.inj H
        go_enter Tryd.func30, Tryd.ntmps30
        go_wp2_with (first | ((with_reducible refine gate_dst (N := 1) rfl ?_); refine box_event ?hg (N := 1) ?hd (cs := #[.int .u8 a0_0, .int .u8 a0_1, .int .i64 a0_2, .slice A0_3 l0_3.length c0_3, .string a0_4, .int .u32 a0_5, .int .i64 a0_6, .int .u64 a0_7, .int .u64 a0_8, .int .i64 a0_9, .string a0_10, .bool true, .bool false]) (t := 42) ?hr ?_; (case hd => rfl); (case hg => rfl); (case hr => first | (go_simp; done) | (go_simp; rfl)); intro gb162 hg w15 hbox hb; have n0_ := Aside0.mk (below_step t17_0 hb); have n1_ := Aside0.mk (hbox); have n2_ := Aside0.mk ((t17_4 : w.heap.size ≤ gb162)); have n3_ := Aside0.mk ((t17_4 : w.heap.size ≤ gb162)); clear HB; have HB := n0_; have BK162 := n1_; have GW162 := n2_; have GE162 := n3_; clear n0_ n1_ n2_ n3_; clear hb hbox hg; have hz16 := blk13 BK162.out))
        go_ret
        exact ⟨t17_2, t17_1⟩
      ·rw [if_neg c9] at H
       have c9b0 : decide (0 ≤ a0_9) = false := decide_eq_false c9
       clear c9
       obtain rfl := Option.some.inj H
       go_enter Tryd.func30, Tryd.ntmps30
       go_wp2_with (first | ((with_reducible refine gate_dst (N := 1) rfl ?_); refine box_event ?hg (N := 1) ?hd (cs := #[.int .u8 a0_0, .int .u8 a0_1, .int .i64 a0_2, .slice A0_3 l0_3.length c0_3, .string a0_4, .int .u32 a0_5, .int .i64 a0_6, .int .u64 a0_7, .int .u64 a0_8, .int .i64 a0_9, .string a0_10, .bool true, .bool false]) (t := 42) ?hr ?_; (case hd => rfl); (case hg => rfl); (case hr => first | (go_simp; done) | (go_simp; rfl)); intro gb162 hg w17 hbox hb; have n0_ := Aside0.mk (below_step t17_0 hb); have n1_ := Aside0.mk (hbox); have n2_ := Aside0.mk ((t17_4 : w.heap.size ≤ gb162)); have n3_ := Aside0.mk ((t17_4 : w.heap.size ≤ gb162)); clear HB; have HB := n0_; have BK162 := n1_; have GW162 := n2_; have GE162 := n3_; clear n0_ n1_ n2_ n3_; clear hb hbox hg; have hz18 := blk13 BK162.out))
       go_ret
       exact ⟨t17_2, t17_1⟩
     ·rw [if_neg c8] at H
      have c8b0 : (a0_0 == 1) = false := beq_eq_false_iff_ne.mpr c8
      have c8b1 : (a0_0 != 1) = true := bne_iff_ne.mpr c8
      replace H := Option.bind_eq_some_iff.mp H
      obtain ⟨t164, A190, H⟩ := H
      replace H : (if t164 = true then (if a0_9 ≥ 0 then (if a0_9 < 4 then ((text_plain.f a0_10 16).bind fun t165 => (some t165)) else (some false)) else (some false)) else (some false)) = some r := H
      have A19 := Aside0.mk A190
      clear A190
      by_cases c20 : t164 = true
      ·subst c20
       rw [if_pos rfl] at H
       by_cases c21 : a0_9 ≥ 0
       ·rw [if_pos c21] at H
        have c21b0 : decide (0 ≤ a0_9) = true := decide_eq_true c21
        clear c21
        by_cases c22 : a0_9 < 4
        ·rw [if_pos c22] at H
         have c22b0 : decide (a0_9 < 4) = true := decide_eq_true c22
         clear c22
         replace H := Option.bind_eq_some_iff.mp H
         obtain ⟨t165, A230, H⟩ := H
         replace H : (some t165) = some r := H
         have A23 := Aside0.mk A230
         clear A230
         obtain rfl := Option.some.inj H
         go_enter Tryd.func30, Tryd.ntmps30
         go_wp2_with (first | ((with_reducible refine gate_dst (N := 1) rfl ?_); refine box_event ?hg (N := 1) ?hd (cs := #[.int .u8 a0_0, .int .u8 a0_1, .int .i64 a0_2, .slice A0_3 l0_3.length c0_3, .string a0_4, .int .u32 a0_5, .int .i64 a0_6, .int .u64 a0_7, .int .u64 a0_8, .int .i64 a0_9, .string a0_10, .bool true, .bool false]) (t := 42) ?hr ?_; (case hd => rfl); (case hg => rfl); (case hr => first | (go_simp; done) | (go_simp; rfl)); intro gb162 hg w24 hbox hb; have n0_ := Aside0.mk (below_step t17_0 hb); have n1_ := Aside0.mk (hbox); have n2_ := Aside0.mk ((t17_4 : w.heap.size ≤ gb162)); have n3_ := Aside0.mk ((t17_4 : w.heap.size ≤ gb162)); clear HB; have HB := n0_; have BK162 := n1_; have GW162 := n2_; have GE162 := n3_; clear n0_ n1_ n2_ n3_; clear hb hbox hg; have hz25 := blk13 BK162.out) | (go_at_call 68; (with_reducible refine (text_bare.calls a0_0 a0_1 a0_2 _ _ l0_3 a0_4 a0_5 a0_6 a0_7 a0_8 a0_9 a0_10 true false true _ ?side1 ?side2 A19.out).mono ?_); (case side1 => repeat (first | exact (Kd.C_below HR0_3.out HB.out) | (with_reducible refine Kd.C_alloc ?_ _) | (with_reducible refine Kd.C_drewN ?_ _) | (with_reducible refine Kd.C_drew ?_))); (case side2 => exact HC0_3.out); rintro e w26 ⟨rfl, hb⟩; have n0_ := Aside0.mk (blk_below (g := gb162) (o := .cells #[.int .u8 a0_0, .int .u8 a0_1, .int .i64 a0_2, .slice A0_3 l0_3.length c0_3, .string a0_4, .int .u32 a0_5, .int .i64 a0_6, .int .u64 a0_7, .int .u64 a0_8, .int .i64 a0_9, .string a0_10, .bool true, .bool false] 42 (0, 0)) t17_3 hb); have n1_ := Aside0.mk (below_step t17_1 hb); clear BK162; clear HB; have BK162 := n0_; have HB := n1_; clear n0_ n1_; (try clear hb); (try clear hb2); (try clear hk); (try clear hi); have hz27 := blk13 BK162.out) | (go_at_call 34; (with_reducible refine (text_plain.calls a0_10 16 t165 _ A23.out).mono ?_); rintro e w28 ⟨rfl, hb⟩; have n0_ := Aside0.mk (blk_below (g := gb162) (o := .cells #[.int .u8 a0_0, .int .u8 a0_1, .int .i64 a0_2, .slice A0_3 l0_3.length c0_3, .string a0_4, .int .u32 a0_5, .int .i64 a0_6, .int .u64 a0_7, .int .u64 a0_8, .int .i64 a0_9, .string a0_10, .bool true, .bool false] 42 (0, 0)) t17_3 hb); have n1_ := Aside0.mk (below_step t17_1 hb); clear BK162; clear HB; have BK162 := n0_; have HB := n1_; clear n0_ n1_; (try clear hb); (try clear hb2); (try clear hk); (try clear hi)))
         go_ret
         exact ⟨t17_2, t17_1⟩
        ·rw [if_neg c22] at H
         have c22b0 : decide (a0_9 < 4) = false := decide_eq_false c22
         clear c22
         obtain rfl := Option.some.inj H
         go_enter Tryd.func30, Tryd.ntmps30
         go_wp2_with (first | ((with_reducible refine gate_dst (N := 1) rfl ?_); refine box_event ?hg (N := 1) ?hd (cs := #[.int .u8 a0_0, .int .u8 a0_1, .int .i64 a0_2, .slice A0_3 l0_3.length c0_3, .string a0_4, .int .u32 a0_5, .int .i64 a0_6, .int .u64 a0_7, .int .u64 a0_8, .int .i64 a0_9, .string a0_10, .bool true, .bool false]) (t := 42) ?hr ?_; (case hd => rfl); (case hg => rfl); (case hr => first | (go_simp; done) | (go_simp; rfl)); intro gb162 hg w29 hbox hb; have n0_ := Aside0.mk (below_step t17_0 hb); have n1_ := Aside0.mk (hbox); have n2_ := Aside0.mk ((t17_4 : w.heap.size ≤ gb162)); have n3_ := Aside0.mk ((t17_4 : w.heap.size ≤ gb162)); clear HB; have HB := n0_; have BK162 := n1_; have GW162 := n2_; have GE162 := n3_; clear n0_ n1_ n2_ n3_; clear hb hbox hg; have hz30 := blk13 BK162.out) | (go_at_call 68; (with_reducible refine (text_bare.calls a0_0 a0_1 a0_2 _ _ l0_3 a0_4 a0_5 a0_6 a0_7 a0_8 a0_9 a0_10 true false true _ ?side1 ?side2 A19.out).mono ?_); (case side1 => repeat (first | exact (Kd.C_below HR0_3.out HB.out) | (with_reducible refine Kd.C_alloc ?_ _) | (with_reducible refine Kd.C_drewN ?_ _) | (with_reducible refine Kd.C_drew ?_))); (case side2 => exact HC0_3.out); rintro e w31 ⟨rfl, hb⟩; have n0_ := Aside0.mk (blk_below (g := gb162) (o := .cells #[.int .u8 a0_0, .int .u8 a0_1, .int .i64 a0_2, .slice A0_3 l0_3.length c0_3, .string a0_4, .int .u32 a0_5, .int .i64 a0_6, .int .u64 a0_7, .int .u64 a0_8, .int .i64 a0_9, .string a0_10, .bool true, .bool false] 42 (0, 0)) t17_3 hb); have n1_ := Aside0.mk (below_step t17_1 hb); clear BK162; clear HB; have BK162 := n0_; have HB := n1_; clear n0_ n1_; (try clear hb); (try clear hb2); (try clear hk); (try clear hi); have hz32 := blk13 BK162.out))
         go_ret
         exact ⟨t17_2, t17_1⟩
       ·rw [if_neg c21] at H
        have c21b0 : decide (0 ≤ a0_9) = false := decide_eq_false c21
        clear c21
        obtain rfl := Option.some.inj H
        go_enter Tryd.func30, Tryd.ntmps30
        go_wp2_with (first | ((with_reducible refine gate_dst (N := 1) rfl ?_); refine box_event ?hg (N := 1) ?hd (cs := #[.int .u8 a0_0, .int .u8 a0_1, .int .i64 a0_2, .slice A0_3 l0_3.length c0_3, .string a0_4, .int .u32 a0_5, .int .i64 a0_6, .int .u64 a0_7, .int .u64 a0_8, .int .i64 a0_9, .string a0_10, .bool true, .bool false]) (t := 42) ?hr ?_; (case hd => rfl); (case hg => rfl); (case hr => first | (go_simp; done) | (go_simp; rfl)); intro gb162 hg w33 hbox hb; have n0_ := Aside0.mk (below_step t17_0 hb); have n1_ := Aside0.mk (hbox); have n2_ := Aside0.mk ((t17_4 : w.heap.size ≤ gb162)); have n3_ := Aside0.mk ((t17_4 : w.heap.size ≤ gb162)); clear HB; have HB := n0_; have BK162 := n1_; have GW162 := n2_; have GE162 := n3_; clear n0_ n1_ n2_ n3_; clear hb hbox hg; have hz34 := blk13 BK162.out) | (go_at_call 68; (with_reducible refine (text_bare.calls a0_0 a0_1 a0_2 _ _ l0_3 a0_4 a0_5 a0_6 a0_7 a0_8 a0_9 a0_10 true false true _ ?side1 ?side2 A19.out).mono ?_); (case side1 => repeat (first | exact (Kd.C_below HR0_3.out HB.out) | (with_reducible refine Kd.C_alloc ?_ _) | (with_reducible refine Kd.C_drewN ?_ _) | (with_reducible refine Kd.C_drew ?_))); (case side2 => exact HC0_3.out); rintro e w35 ⟨rfl, hb⟩; have n0_ := Aside0.mk (blk_below (g := gb162) (o := .cells #[.int .u8 a0_0, .int .u8 a0_1, .int .i64 a0_2, .slice A0_3 l0_3.length c0_3, .string a0_4, .int .u32 a0_5, .int .i64 a0_6, .int .u64 a0_7, .int .u64 a0_8, .int .i64 a0_9, .string a0_10, .bool true, .bool false] 42 (0, 0)) t17_3 hb); have n1_ := Aside0.mk (below_step t17_1 hb); clear BK162; clear HB; have BK162 := n0_; have HB := n1_; clear n0_ n1_; (try clear hb); (try clear hb2); (try clear hk); (try clear hi); have hz36 := blk13 BK162.out))
        go_ret
        exact ⟨t17_2, t17_1⟩
      ·replace c20 := Bool.eq_false_iff.mpr c20
       subst c20
       rw [if_neg (show ¬ (false = true) by decide)] at H
       obtain rfl := Option.some.inj H
       go_enter Tryd.func30, Tryd.ntmps30
       go_wp2_with (first | ((with_reducible refine gate_dst (N := 1) rfl ?_); refine box_event ?hg (N := 1) ?hd (cs := #[.int .u8 a0_0, .int .u8 a0_1, .int .i64 a0_2, .slice A0_3 l0_3.length c0_3, .string a0_4, .int .u32 a0_5, .int .i64 a0_6, .int .u64 a0_7, .int .u64 a0_8, .int .i64 a0_9, .string a0_10, .bool true, .bool false]) (t := 42) ?hr ?_; (case hd => rfl); (case hg => rfl); (case hr => first | (go_simp; done) | (go_simp; rfl)); intro gb162 hg w37 hbox hb; have n0_ := Aside0.mk (below_step t17_0 hb); have n1_ := Aside0.mk (hbox); have n2_ := Aside0.mk ((t17_4 : w.heap.size ≤ gb162)); have n3_ := Aside0.mk ((t17_4 : w.heap.size ≤ gb162)); clear HB; have HB := n0_; have BK162 := n1_; have GW162 := n2_; have GE162 := n3_; clear n0_ n1_ n2_ n3_; clear hb hbox hg; have hz38 := blk13 BK162.out) | (go_at_call 68; (with_reducible refine (text_bare.calls a0_0 a0_1 a0_2 _ _ l0_3 a0_4 a0_5 a0_6 a0_7 a0_8 a0_9 a0_10 true false false _ ?side1 ?side2 A19.out).mono ?_); (case side1 => repeat (first | exact (Kd.C_below HR0_3.out HB.out) | (with_reducible refine Kd.C_alloc ?_ _) | (with_reducible refine Kd.C_drewN ?_ _) | (with_reducible refine Kd.C_drew ?_))); (case side2 => exact HC0_3.out); rintro e w39 ⟨rfl, hb⟩; have n0_ := Aside0.mk (blk_below (g := gb162) (o := .cells #[.int .u8 a0_0, .int .u8 a0_1, .int .i64 a0_2, .slice A0_3 l0_3.length c0_3, .string a0_4, .int .u32 a0_5, .int .i64 a0_6, .int .u64 a0_7, .int .u64 a0_8, .int .i64 a0_9, .string a0_10, .bool true, .bool false] 42 (0, 0)) t17_3 hb); have n1_ := Aside0.mk (below_step t17_1 hb); clear BK162; clear HB; have BK162 := n0_; have HB := n1_; clear n0_ n1_; (try clear hb); (try clear hb2); (try clear hk); (try clear hi)))
       go_ret
       exact ⟨t17_2, t17_1⟩
    ·rw [if_neg c7] at H
     have c7b0 : (a0_0 == 2) = false := beq_eq_false_iff_ne.mpr c7
     have c7b1 : (a0_0 != 2) = true := bne_iff_ne.mpr c7
     by_cases c40 : a0_9 = 0
     ·rw [if_pos c40] at H
      have c40b0 : (a0_9 == 0) = true := beq_iff_eq.mpr c40
      have c40b1 : (a0_9 != 0) = false := bne_eq_false_iff_eq.mpr c40
      clear c40
      by_cases c41 : a0_10.toList = ([] : List UInt8)
      ·rw [if_pos c41] at H
       have c41b0 : (a0_10.toList == ([] : List UInt8)) = true := beq_iff_eq.mpr c41
       have c41b1 : (a0_10.toList != ([] : List UInt8)) = false := bne_eq_false_iff_eq.mpr c41
       clear c41
       by_cases c42 : a0_0 = 1
       ·rw [if_pos c42] at H
        have c42b0 : (a0_0 == 1) = true := beq_iff_eq.mpr c42
        have c42b1 : (a0_0 != 1) = false := bne_eq_false_iff_eq.mpr c42
        clear c42
        obtain rfl := Option.some.inj H
        go_enter Tryd.func30, Tryd.ntmps30
        go_wp2_with (first | ((with_reducible refine gate_dst (N := 1) rfl ?_); refine box_event ?hg (N := 1) ?hd (cs := #[.int .u8 a0_0, .int .u8 a0_1, .int .i64 a0_2, .slice A0_3 l0_3.length c0_3, .string a0_4, .int .u32 a0_5, .int .i64 a0_6, .int .u64 a0_7, .int .u64 a0_8, .int .i64 a0_9, .string a0_10, .bool true, .bool false]) (t := 42) ?hr ?_; (case hd => rfl); (case hg => rfl); (case hr => first | (go_simp; done) | (go_simp; rfl)); intro gb162 hg w43 hbox hb; have n0_ := Aside0.mk (below_step t17_0 hb); have n1_ := Aside0.mk (hbox); have n2_ := Aside0.mk ((t17_4 : w.heap.size ≤ gb162)); have n3_ := Aside0.mk ((t17_4 : w.heap.size ≤ gb162)); clear HB; have HB := n0_; have BK162 := n1_; have GW162 := n2_; have GE162 := n3_; clear n0_ n1_ n2_ n3_; clear hb hbox hg; have hz44 := blk13 BK162.out))
        go_ret
        exact ⟨t17_2, t17_1⟩
       ·rw [if_neg c42] at H
        have c42b0 : (a0_0 == 1) = false := beq_eq_false_iff_ne.mpr c42
        have c42b1 : (a0_0 != 1) = true := bne_iff_ne.mpr c42
        replace H := Option.bind_eq_some_iff.mp H
        obtain ⟨t166, A450, H⟩ := H
        replace H : (if t166 = true then (some true) else (some false)) = some r := H
        have A45 := Aside0.mk A450
        clear A450
        by_cases c46 : t166 = true
        ·subst c46
         rw [if_pos rfl] at H
         obtain rfl := Option.some.inj H
         go_enter Tryd.func30, Tryd.ntmps30
         go_wp2_with (first | ((with_reducible refine gate_dst (N := 1) rfl ?_); refine box_event ?hg (N := 1) ?hd (cs := #[.int .u8 a0_0, .int .u8 a0_1, .int .i64 a0_2, .slice A0_3 l0_3.length c0_3, .string a0_4, .int .u32 a0_5, .int .i64 a0_6, .int .u64 a0_7, .int .u64 a0_8, .int .i64 a0_9, .string a0_10, .bool true, .bool false]) (t := 42) ?hr ?_; (case hd => rfl); (case hg => rfl); (case hr => first | (go_simp; done) | (go_simp; rfl)); intro gb162 hg w47 hbox hb; have n0_ := Aside0.mk (below_step t17_0 hb); have n1_ := Aside0.mk (hbox); have n2_ := Aside0.mk ((t17_4 : w.heap.size ≤ gb162)); have n3_ := Aside0.mk ((t17_4 : w.heap.size ≤ gb162)); clear HB; have HB := n0_; have BK162 := n1_; have GW162 := n2_; have GE162 := n3_; clear n0_ n1_ n2_ n3_; clear hb hbox hg; have hz48 := blk13 BK162.out) | (go_at_call 68; (with_reducible refine (text_bare.calls a0_0 a0_1 a0_2 _ _ l0_3 a0_4 a0_5 a0_6 a0_7 a0_8 a0_9 a0_10 true false true _ ?side1 ?side2 A45.out).mono ?_); (case side1 => repeat (first | exact (Kd.C_below HR0_3.out HB.out) | (with_reducible refine Kd.C_alloc ?_ _) | (with_reducible refine Kd.C_drewN ?_ _) | (with_reducible refine Kd.C_drew ?_))); (case side2 => exact HC0_3.out); rintro e w49 ⟨rfl, hb⟩; have n0_ := Aside0.mk (blk_below (g := gb162) (o := .cells #[.int .u8 a0_0, .int .u8 a0_1, .int .i64 a0_2, .slice A0_3 l0_3.length c0_3, .string a0_4, .int .u32 a0_5, .int .i64 a0_6, .int .u64 a0_7, .int .u64 a0_8, .int .i64 a0_9, .string a0_10, .bool true, .bool false] 42 (0, 0)) t17_3 hb); have n1_ := Aside0.mk (below_step t17_1 hb); clear BK162; clear HB; have BK162 := n0_; have HB := n1_; clear n0_ n1_; (try clear hb); (try clear hb2); (try clear hk); (try clear hi)))
         go_ret
         exact ⟨t17_2, t17_1⟩
        ·replace c46 := Bool.eq_false_iff.mpr c46
         subst c46
         rw [if_neg (show ¬ (false = true) by decide)] at H
         obtain rfl := Option.some.inj H
         go_enter Tryd.func30, Tryd.ntmps30
         go_wp2_with (first | ((with_reducible refine gate_dst (N := 1) rfl ?_); refine box_event ?hg (N := 1) ?hd (cs := #[.int .u8 a0_0, .int .u8 a0_1, .int .i64 a0_2, .slice A0_3 l0_3.length c0_3, .string a0_4, .int .u32 a0_5, .int .i64 a0_6, .int .u64 a0_7, .int .u64 a0_8, .int .i64 a0_9, .string a0_10, .bool true, .bool false]) (t := 42) ?hr ?_; (case hd => rfl); (case hg => rfl); (case hr => first | (go_simp; done) | (go_simp; rfl)); intro gb162 hg w50 hbox hb; have n0_ := Aside0.mk (below_step t17_0 hb); have n1_ := Aside0.mk (hbox); have n2_ := Aside0.mk ((t17_4 : w.heap.size ≤ gb162)); have n3_ := Aside0.mk ((t17_4 : w.heap.size ≤ gb162)); clear HB; have HB := n0_; have BK162 := n1_; have GW162 := n2_; have GE162 := n3_; clear n0_ n1_ n2_ n3_; clear hb hbox hg; have hz51 := blk13 BK162.out) | (go_at_call 68; (with_reducible refine (text_bare.calls a0_0 a0_1 a0_2 _ _ l0_3 a0_4 a0_5 a0_6 a0_7 a0_8 a0_9 a0_10 true false false _ ?side1 ?side2 A45.out).mono ?_); (case side1 => repeat (first | exact (Kd.C_below HR0_3.out HB.out) | (with_reducible refine Kd.C_alloc ?_ _) | (with_reducible refine Kd.C_drewN ?_ _) | (with_reducible refine Kd.C_drew ?_))); (case side2 => exact HC0_3.out); rintro e w52 ⟨rfl, hb⟩; have n0_ := Aside0.mk (blk_below (g := gb162) (o := .cells #[.int .u8 a0_0, .int .u8 a0_1, .int .i64 a0_2, .slice A0_3 l0_3.length c0_3, .string a0_4, .int .u32 a0_5, .int .i64 a0_6, .int .u64 a0_7, .int .u64 a0_8, .int .i64 a0_9, .string a0_10, .bool true, .bool false] 42 (0, 0)) t17_3 hb); have n1_ := Aside0.mk (below_step t17_1 hb); clear BK162; clear HB; have BK162 := n0_; have HB := n1_; clear n0_ n1_; (try clear hb); (try clear hb2); (try clear hk); (try clear hi)))
         go_ret
         exact ⟨t17_2, t17_1⟩
      ·rw [if_neg c41] at H
       have c41b0 : (a0_10.toList == ([] : List UInt8)) = false := beq_eq_false_iff_ne.mpr c41
       have c41b1 : (a0_10.toList != ([] : List UInt8)) = true := bne_iff_ne.mpr c41
       obtain rfl := Option.some.inj H
       go_enter Tryd.func30, Tryd.ntmps30
       go_wp2_with (first | ((with_reducible refine gate_dst (N := 1) rfl ?_); refine box_event ?hg (N := 1) ?hd (cs := #[.int .u8 a0_0, .int .u8 a0_1, .int .i64 a0_2, .slice A0_3 l0_3.length c0_3, .string a0_4, .int .u32 a0_5, .int .i64 a0_6, .int .u64 a0_7, .int .u64 a0_8, .int .i64 a0_9, .string a0_10, .bool true, .bool false]) (t := 42) ?hr ?_; (case hd => rfl); (case hg => rfl); (case hr => first | (go_simp; done) | (go_simp; rfl)); intro gb162 hg w53 hbox hb; have n0_ := Aside0.mk (below_step t17_0 hb); have n1_ := Aside0.mk (hbox); have n2_ := Aside0.mk ((t17_4 : w.heap.size ≤ gb162)); have n3_ := Aside0.mk ((t17_4 : w.heap.size ≤ gb162)); clear HB; have HB := n0_; have BK162 := n1_; have GW162 := n2_; have GE162 := n3_; clear n0_ n1_ n2_ n3_; clear hb hbox hg; have hz54 := blk13 BK162.out))
       go_ret
       exact ⟨t17_2, t17_1⟩
     ·rw [if_neg c40] at H
      have c40b0 : (a0_9 == 0) = false := beq_eq_false_iff_ne.mpr c40
      have c40b1 : (a0_9 != 0) = true := bne_iff_ne.mpr c40
      obtain rfl := Option.some.inj H
      go_enter Tryd.func30, Tryd.ntmps30
      go_wp2_with (first | ((with_reducible refine gate_dst (N := 1) rfl ?_); refine box_event ?hg (N := 1) ?hd (cs := #[.int .u8 a0_0, .int .u8 a0_1, .int .i64 a0_2, .slice A0_3 l0_3.length c0_3, .string a0_4, .int .u32 a0_5, .int .i64 a0_6, .int .u64 a0_7, .int .u64 a0_8, .int .i64 a0_9, .string a0_10, .bool true, .bool false]) (t := 42) ?hr ?_; (case hd => rfl); (case hg => rfl); (case hr => first | (go_simp; done) | (go_simp; rfl)); intro gb162 hg w55 hbox hb; have n0_ := Aside0.mk (below_step t17_0 hb); have n1_ := Aside0.mk (hbox); have n2_ := Aside0.mk ((t17_4 : w.heap.size ≤ gb162)); have n3_ := Aside0.mk ((t17_4 : w.heap.size ≤ gb162)); clear HB; have HB := n0_; have BK162 := n1_; have GW162 := n2_; have GE162 := n3_; clear n0_ n1_ n2_ n3_; clear hb hbox hg; have hz56 := blk13 BK162.out))
      go_ret
      exact ⟨t17_2, t17_1⟩
   ·rw [if_neg c6] at H
    have c6b0 : (a0_0 == 3) = false := beq_eq_false_iff_ne.mpr c6
    have c6b1 : (a0_0 != 3) = true := bne_iff_ne.mpr c6
    obtain rfl := Option.some.inj H
    go_enter Tryd.func30, Tryd.ntmps30
    go_wp2_with (first | ((with_reducible refine gate_dst (N := 1) rfl ?_); refine box_event ?hg (N := 1) ?hd (cs := #[.int .u8 a0_0, .int .u8 a0_1, .int .i64 a0_2, .slice A0_3 l0_3.length c0_3, .string a0_4, .int .u32 a0_5, .int .i64 a0_6, .int .u64 a0_7, .int .u64 a0_8, .int .i64 a0_9, .string a0_10, .bool true, .bool false]) (t := 42) ?hr ?_; (case hd => rfl); (case hg => rfl); (case hr => first | (go_simp; done) | (go_simp; rfl)); intro gb162 hg w57 hbox hb; have n0_ := Aside0.mk (below_step t17_0 hb); have n1_ := Aside0.mk (hbox); have n2_ := Aside0.mk ((t17_4 : w.heap.size ≤ gb162)); have n3_ := Aside0.mk ((t17_4 : w.heap.size ≤ gb162)); clear HB; have HB := n0_; have BK162 := n1_; have GW162 := n2_; have GE162 := n3_; clear n0_ n1_ n2_ n3_; clear hb hbox hg; have hz58 := blk13 BK162.out))
    go_ret
    exact ⟨t17_2, t17_1⟩
  ·replace c5 := Bool.eq_false_iff.mpr c5
   subst c5
   rw [if_neg (show ¬ (false = true) by decide)] at H
   by_cases c59 : a0_0 = 2
   ·rw [if_pos c59] at H
    have c59b0 : (a0_0 == 2) = true := beq_iff_eq.mpr c59
    have c59b1 : (a0_0 != 2) = false := bne_eq_false_iff_eq.mpr c59
    clear c59
    by_cases c60 : a0_0 = 1
    ·rw [if_pos c60] at H
     have c60b0 : (a0_0 == 1) = true := beq_iff_eq.mpr c60
     have c60b1 : (a0_0 != 1) = false := bne_eq_false_iff_eq.mpr c60
     clear c60
     by_cases c61 : a0_9 ≥ 0
     ·rw [if_pos c61] at H
      have c61b0 : decide (0 ≤ a0_9) = true := decide_eq_true c61
      clear c61
      by_cases c62 : a0_9 < 4
      ·rw [if_pos c62] at H
       have c62b0 : decide (a0_9 < 4) = true := decide_eq_true c62
       clear c62
       replace H := Option.bind_eq_some_iff.mp H
       obtain ⟨t167, A630, H⟩ := H
       replace H : (some t167) = some r := H
       have A63 := Aside0.mk A630
       clear A630
       obtain rfl := Option.some.inj H
       go_enter Tryd.func30, Tryd.ntmps30
       go_wp2_with (first | ((with_reducible refine gate_dst (N := 1) rfl ?_); refine box_event ?hg (N := 1) ?hd (cs := #[.int .u8 a0_0, .int .u8 a0_1, .int .i64 a0_2, .slice A0_3 l0_3.length c0_3, .string a0_4, .int .u32 a0_5, .int .i64 a0_6, .int .u64 a0_7, .int .u64 a0_8, .int .i64 a0_9, .string a0_10, .bool false, .bool false]) (t := 42) ?hr ?_; (case hd => rfl); (case hg => rfl); (case hr => first | (go_simp; done) | (go_simp; rfl)); intro gb162 hg w64 hbox hb; have n0_ := Aside0.mk (below_step t17_0 hb); have n1_ := Aside0.mk (hbox); have n2_ := Aside0.mk ((t17_4 : w.heap.size ≤ gb162)); have n3_ := Aside0.mk ((t17_4 : w.heap.size ≤ gb162)); clear HB; have HB := n0_; have BK162 := n1_; have GW162 := n2_; have GE162 := n3_; clear n0_ n1_ n2_ n3_; clear hb hbox hg; have hz65 := blk13 BK162.out) | (go_at_call 34; (with_reducible refine (text_plain.calls a0_10 16 t167 _ A63.out).mono ?_); rintro e w66 ⟨rfl, hb⟩; have n0_ := Aside0.mk (blk_below (g := gb162) (o := .cells #[.int .u8 a0_0, .int .u8 a0_1, .int .i64 a0_2, .slice A0_3 l0_3.length c0_3, .string a0_4, .int .u32 a0_5, .int .i64 a0_6, .int .u64 a0_7, .int .u64 a0_8, .int .i64 a0_9, .string a0_10, .bool false, .bool false] 42 (0, 0)) t17_3 hb); have n1_ := Aside0.mk (below_step t17_1 hb); clear BK162; clear HB; have BK162 := n0_; have HB := n1_; clear n0_ n1_; (try clear hb); (try clear hb2); (try clear hk); (try clear hi)))
       go_ret
       exact ⟨t17_2, t17_1⟩
      ·rw [if_neg c62] at H
       have c62b0 : decide (a0_9 < 4) = false := decide_eq_false c62
       clear c62
       obtain rfl := Option.some.inj H
       go_enter Tryd.func30, Tryd.ntmps30
       go_wp2_with (first | ((with_reducible refine gate_dst (N := 1) rfl ?_); refine box_event ?hg (N := 1) ?hd (cs := #[.int .u8 a0_0, .int .u8 a0_1, .int .i64 a0_2, .slice A0_3 l0_3.length c0_3, .string a0_4, .int .u32 a0_5, .int .i64 a0_6, .int .u64 a0_7, .int .u64 a0_8, .int .i64 a0_9, .string a0_10, .bool false, .bool false]) (t := 42) ?hr ?_; (case hd => rfl); (case hg => rfl); (case hr => first | (go_simp; done) | (go_simp; rfl)); intro gb162 hg w67 hbox hb; have n0_ := Aside0.mk (below_step t17_0 hb); have n1_ := Aside0.mk (hbox); have n2_ := Aside0.mk ((t17_4 : w.heap.size ≤ gb162)); have n3_ := Aside0.mk ((t17_4 : w.heap.size ≤ gb162)); clear HB; have HB := n0_; have BK162 := n1_; have GW162 := n2_; have GE162 := n3_; clear n0_ n1_ n2_ n3_; clear hb hbox hg; have hz68 := blk13 BK162.out))
       go_ret
       exact ⟨t17_2, t17_1⟩
     ·rw [if_neg c61] at H
      have c61b0 : decide (0 ≤ a0_9) = false := decide_eq_false c61
      clear c61
      obtain rfl := Option.some.inj H
      go_enter Tryd.func30, Tryd.ntmps30
      go_wp2_with (first | ((with_reducible refine gate_dst (N := 1) rfl ?_); refine box_event ?hg (N := 1) ?hd (cs := #[.int .u8 a0_0, .int .u8 a0_1, .int .i64 a0_2, .slice A0_3 l0_3.length c0_3, .string a0_4, .int .u32 a0_5, .int .i64 a0_6, .int .u64 a0_7, .int .u64 a0_8, .int .i64 a0_9, .string a0_10, .bool false, .bool false]) (t := 42) ?hr ?_; (case hd => rfl); (case hg => rfl); (case hr => first | (go_simp; done) | (go_simp; rfl)); intro gb162 hg w69 hbox hb; have n0_ := Aside0.mk (below_step t17_0 hb); have n1_ := Aside0.mk (hbox); have n2_ := Aside0.mk ((t17_4 : w.heap.size ≤ gb162)); have n3_ := Aside0.mk ((t17_4 : w.heap.size ≤ gb162)); clear HB; have HB := n0_; have BK162 := n1_; have GW162 := n2_; have GE162 := n3_; clear n0_ n1_ n2_ n3_; clear hb hbox hg; have hz70 := blk13 BK162.out))
      go_ret
      exact ⟨t17_2, t17_1⟩
    ·rw [if_neg c60] at H
     have c60b0 : (a0_0 == 1) = false := beq_eq_false_iff_ne.mpr c60
     have c60b1 : (a0_0 != 1) = true := bne_iff_ne.mpr c60
     replace H := Option.bind_eq_some_iff.mp H
     obtain ⟨t168, A710, H⟩ := H
     replace H : (if t168 = true then (if a0_9 ≥ 0 then (if a0_9 < 4 then ((text_plain.f a0_10 16).bind fun t169 => (some t169)) else (some false)) else (some false)) else (some false)) = some r := H
     have A71 := Aside0.mk A710
     clear A710
     by_cases c72 : t168 = true
     ·subst c72
      rw [if_pos rfl] at H
      by_cases c73 : a0_9 ≥ 0
      ·rw [if_pos c73] at H
       have c73b0 : decide (0 ≤ a0_9) = true := decide_eq_true c73
       clear c73
       by_cases c74 : a0_9 < 4
       ·rw [if_pos c74] at H
        have c74b0 : decide (a0_9 < 4) = true := decide_eq_true c74
        clear c74
        replace H := Option.bind_eq_some_iff.mp H
        obtain ⟨t169, A750, H⟩ := H
        replace H : (some t169) = some r := H
        have A75 := Aside0.mk A750
        clear A750
        obtain rfl := Option.some.inj H
        go_enter Tryd.func30, Tryd.ntmps30
        go_wp2_with (first | ((with_reducible refine gate_dst (N := 1) rfl ?_); refine box_event ?hg (N := 1) ?hd (cs := #[.int .u8 a0_0, .int .u8 a0_1, .int .i64 a0_2, .slice A0_3 l0_3.length c0_3, .string a0_4, .int .u32 a0_5, .int .i64 a0_6, .int .u64 a0_7, .int .u64 a0_8, .int .i64 a0_9, .string a0_10, .bool false, .bool false]) (t := 42) ?hr ?_; (case hd => rfl); (case hg => rfl); (case hr => first | (go_simp; done) | (go_simp; rfl)); intro gb162 hg w76 hbox hb; have n0_ := Aside0.mk (below_step t17_0 hb); have n1_ := Aside0.mk (hbox); have n2_ := Aside0.mk ((t17_4 : w.heap.size ≤ gb162)); have n3_ := Aside0.mk ((t17_4 : w.heap.size ≤ gb162)); clear HB; have HB := n0_; have BK162 := n1_; have GW162 := n2_; have GE162 := n3_; clear n0_ n1_ n2_ n3_; clear hb hbox hg; have hz77 := blk13 BK162.out) | (go_at_call 68; (with_reducible refine (text_bare.calls a0_0 a0_1 a0_2 _ _ l0_3 a0_4 a0_5 a0_6 a0_7 a0_8 a0_9 a0_10 false false true _ ?side1 ?side2 A71.out).mono ?_); (case side1 => repeat (first | exact (Kd.C_below HR0_3.out HB.out) | (with_reducible refine Kd.C_alloc ?_ _) | (with_reducible refine Kd.C_drewN ?_ _) | (with_reducible refine Kd.C_drew ?_))); (case side2 => exact HC0_3.out); rintro e w78 ⟨rfl, hb⟩; have n0_ := Aside0.mk (blk_below (g := gb162) (o := .cells #[.int .u8 a0_0, .int .u8 a0_1, .int .i64 a0_2, .slice A0_3 l0_3.length c0_3, .string a0_4, .int .u32 a0_5, .int .i64 a0_6, .int .u64 a0_7, .int .u64 a0_8, .int .i64 a0_9, .string a0_10, .bool false, .bool false] 42 (0, 0)) t17_3 hb); have n1_ := Aside0.mk (below_step t17_1 hb); clear BK162; clear HB; have BK162 := n0_; have HB := n1_; clear n0_ n1_; (try clear hb); (try clear hb2); (try clear hk); (try clear hi); have hz79 := blk13 BK162.out) | (go_at_call 34; (with_reducible refine (text_plain.calls a0_10 16 t169 _ A75.out).mono ?_); rintro e w80 ⟨rfl, hb⟩; have n0_ := Aside0.mk (blk_below (g := gb162) (o := .cells #[.int .u8 a0_0, .int .u8 a0_1, .int .i64 a0_2, .slice A0_3 l0_3.length c0_3, .string a0_4, .int .u32 a0_5, .int .i64 a0_6, .int .u64 a0_7, .int .u64 a0_8, .int .i64 a0_9, .string a0_10, .bool false, .bool false] 42 (0, 0)) t17_3 hb); have n1_ := Aside0.mk (below_step t17_1 hb); clear BK162; clear HB; have BK162 := n0_; have HB := n1_; clear n0_ n1_; (try clear hb); (try clear hb2); (try clear hk); (try clear hi)))
        go_ret
        exact ⟨t17_2, t17_1⟩
       ·rw [if_neg c74] at H
        have c74b0 : decide (a0_9 < 4) = false := decide_eq_false c74
        clear c74
        obtain rfl := Option.some.inj H
        go_enter Tryd.func30, Tryd.ntmps30
        go_wp2_with (first | ((with_reducible refine gate_dst (N := 1) rfl ?_); refine box_event ?hg (N := 1) ?hd (cs := #[.int .u8 a0_0, .int .u8 a0_1, .int .i64 a0_2, .slice A0_3 l0_3.length c0_3, .string a0_4, .int .u32 a0_5, .int .i64 a0_6, .int .u64 a0_7, .int .u64 a0_8, .int .i64 a0_9, .string a0_10, .bool false, .bool false]) (t := 42) ?hr ?_; (case hd => rfl); (case hg => rfl); (case hr => first | (go_simp; done) | (go_simp; rfl)); intro gb162 hg w81 hbox hb; have n0_ := Aside0.mk (below_step t17_0 hb); have n1_ := Aside0.mk (hbox); have n2_ := Aside0.mk ((t17_4 : w.heap.size ≤ gb162)); have n3_ := Aside0.mk ((t17_4 : w.heap.size ≤ gb162)); clear HB; have HB := n0_; have BK162 := n1_; have GW162 := n2_; have GE162 := n3_; clear n0_ n1_ n2_ n3_; clear hb hbox hg; have hz82 := blk13 BK162.out) | (go_at_call 68; (with_reducible refine (text_bare.calls a0_0 a0_1 a0_2 _ _ l0_3 a0_4 a0_5 a0_6 a0_7 a0_8 a0_9 a0_10 false false true _ ?side1 ?side2 A71.out).mono ?_); (case side1 => repeat (first | exact (Kd.C_below HR0_3.out HB.out) | (with_reducible refine Kd.C_alloc ?_ _) | (with_reducible refine Kd.C_drewN ?_ _) | (with_reducible refine Kd.C_drew ?_))); (case side2 => exact HC0_3.out); rintro e w83 ⟨rfl, hb⟩; have n0_ := Aside0.mk (blk_below (g := gb162) (o := .cells #[.int .u8 a0_0, .int .u8 a0_1, .int .i64 a0_2, .slice A0_3 l0_3.length c0_3, .string a0_4, .int .u32 a0_5, .int .i64 a0_6, .int .u64 a0_7, .int .u64 a0_8, .int .i64 a0_9, .string a0_10, .bool false, .bool false] 42 (0, 0)) t17_3 hb); have n1_ := Aside0.mk (below_step t17_1 hb); clear BK162; clear HB; have BK162 := n0_; have HB := n1_; clear n0_ n1_; (try clear hb); (try clear hb2); (try clear hk); (try clear hi); have hz84 := blk13 BK162.out))
        go_ret
        exact ⟨t17_2, t17_1⟩
      ·rw [if_neg c73] at H
       have c73b0 : decide (0 ≤ a0_9) = false := decide_eq_false c73
       clear c73
       obtain rfl := Option.some.inj H
       go_enter Tryd.func30, Tryd.ntmps30
       go_wp2_with (first | ((with_reducible refine gate_dst (N := 1) rfl ?_); refine box_event ?hg (N := 1) ?hd (cs := #[.int .u8 a0_0, .int .u8 a0_1, .int .i64 a0_2, .slice A0_3 l0_3.length c0_3, .string a0_4, .int .u32 a0_5, .int .i64 a0_6, .int .u64 a0_7, .int .u64 a0_8, .int .i64 a0_9, .string a0_10, .bool false, .bool false]) (t := 42) ?hr ?_; (case hd => rfl); (case hg => rfl); (case hr => first | (go_simp; done) | (go_simp; rfl)); intro gb162 hg w85 hbox hb; have n0_ := Aside0.mk (below_step t17_0 hb); have n1_ := Aside0.mk (hbox); have n2_ := Aside0.mk ((t17_4 : w.heap.size ≤ gb162)); have n3_ := Aside0.mk ((t17_4 : w.heap.size ≤ gb162)); clear HB; have HB := n0_; have BK162 := n1_; have GW162 := n2_; have GE162 := n3_; clear n0_ n1_ n2_ n3_; clear hb hbox hg; have hz86 := blk13 BK162.out) | (go_at_call 68; (with_reducible refine (text_bare.calls a0_0 a0_1 a0_2 _ _ l0_3 a0_4 a0_5 a0_6 a0_7 a0_8 a0_9 a0_10 false false true _ ?side1 ?side2 A71.out).mono ?_); (case side1 => repeat (first | exact (Kd.C_below HR0_3.out HB.out) | (with_reducible refine Kd.C_alloc ?_ _) | (with_reducible refine Kd.C_drewN ?_ _) | (with_reducible refine Kd.C_drew ?_))); (case side2 => exact HC0_3.out); rintro e w87 ⟨rfl, hb⟩; have n0_ := Aside0.mk (blk_below (g := gb162) (o := .cells #[.int .u8 a0_0, .int .u8 a0_1, .int .i64 a0_2, .slice A0_3 l0_3.length c0_3, .string a0_4, .int .u32 a0_5, .int .i64 a0_6, .int .u64 a0_7, .int .u64 a0_8, .int .i64 a0_9, .string a0_10, .bool false, .bool false] 42 (0, 0)) t17_3 hb); have n1_ := Aside0.mk (below_step t17_1 hb); clear BK162; clear HB; have BK162 := n0_; have HB := n1_; clear n0_ n1_; (try clear hb); (try clear hb2); (try clear hk); (try clear hi); have hz88 := blk13 BK162.out))
       go_ret
       exact ⟨t17_2, t17_1⟩
     ·replace c72 := Bool.eq_false_iff.mpr c72
      subst c72
      rw [if_neg (show ¬ (false = true) by decide)] at H
      obtain rfl := Option.some.inj H
      go_enter Tryd.func30, Tryd.ntmps30
      go_wp2_with (first | ((with_reducible refine gate_dst (N := 1) rfl ?_); refine box_event ?hg (N := 1) ?hd (cs := #[.int .u8 a0_0, .int .u8 a0_1, .int .i64 a0_2, .slice A0_3 l0_3.length c0_3, .string a0_4, .int .u32 a0_5, .int .i64 a0_6, .int .u64 a0_7, .int .u64 a0_8, .int .i64 a0_9, .string a0_10, .bool false, .bool false]) (t := 42) ?hr ?_; (case hd => rfl); (case hg => rfl); (case hr => first | (go_simp; done) | (go_simp; rfl)); intro gb162 hg w89 hbox hb; have n0_ := Aside0.mk (below_step t17_0 hb); have n1_ := Aside0.mk (hbox); have n2_ := Aside0.mk ((t17_4 : w.heap.size ≤ gb162)); have n3_ := Aside0.mk ((t17_4 : w.heap.size ≤ gb162)); clear HB; have HB := n0_; have BK162 := n1_; have GW162 := n2_; have GE162 := n3_; clear n0_ n1_ n2_ n3_; clear hb hbox hg; have hz90 := blk13 BK162.out) | (go_at_call 68; (with_reducible refine (text_bare.calls a0_0 a0_1 a0_2 _ _ l0_3 a0_4 a0_5 a0_6 a0_7 a0_8 a0_9 a0_10 false false false _ ?side1 ?side2 A71.out).mono ?_); (case side1 => repeat (first | exact (Kd.C_below HR0_3.out HB.out) | (with_reducible refine Kd.C_alloc ?_ _) | (with_reducible refine Kd.C_drewN ?_ _) | (with_reducible refine Kd.C_drew ?_))); (case side2 => exact HC0_3.out); rintro e w91 ⟨rfl, hb⟩; have n0_ := Aside0.mk (blk_below (g := gb162) (o := .cells #[.int .u8 a0_0, .int .u8 a0_1, .int .i64 a0_2, .slice A0_3 l0_3.length c0_3, .string a0_4, .int .u32 a0_5, .int .i64 a0_6, .int .u64 a0_7, .int .u64 a0_8, .int .i64 a0_9, .string a0_10, .bool false, .bool false] 42 (0, 0)) t17_3 hb); have n1_ := Aside0.mk (below_step t17_1 hb); clear BK162; clear HB; have BK162 := n0_; have HB := n1_; clear n0_ n1_; (try clear hb); (try clear hb2); (try clear hk); (try clear hi)))
      go_ret
      exact ⟨t17_2, t17_1⟩
   ·rw [if_neg c59] at H
    have c59b0 : (a0_0 == 2) = false := beq_eq_false_iff_ne.mpr c59
    have c59b1 : (a0_0 != 2) = true := bne_iff_ne.mpr c59
    by_cases c92 : a0_9 = 0
    ·rw [if_pos c92] at H
     have c92b0 : (a0_9 == 0) = true := beq_iff_eq.mpr c92
     have c92b1 : (a0_9 != 0) = false := bne_eq_false_iff_eq.mpr c92
     clear c92
     by_cases c93 : a0_10.toList = ([] : List UInt8)
     ·rw [if_pos c93] at H
      have c93b0 : (a0_10.toList == ([] : List UInt8)) = true := beq_iff_eq.mpr c93
      have c93b1 : (a0_10.toList != ([] : List UInt8)) = false := bne_eq_false_iff_eq.mpr c93
      clear c93
      by_cases c94 : a0_0 = 1
      ·rw [if_pos c94] at H
       have c94b0 : (a0_0 == 1) = true := beq_iff_eq.mpr c94
       have c94b1 : (a0_0 != 1) = false := bne_eq_false_iff_eq.mpr c94
       clear c94
       obtain rfl := Option.some.inj H
       go_enter Tryd.func30, Tryd.ntmps30
       go_wp2_with (first | ((with_reducible refine gate_dst (N := 1) rfl ?_); refine box_event ?hg (N := 1) ?hd (cs := #[.int .u8 a0_0, .int .u8 a0_1, .int .i64 a0_2, .slice A0_3 l0_3.length c0_3, .string a0_4, .int .u32 a0_5, .int .i64 a0_6, .int .u64 a0_7, .int .u64 a0_8, .int .i64 a0_9, .string a0_10, .bool false, .bool false]) (t := 42) ?hr ?_; (case hd => rfl); (case hg => rfl); (case hr => first | (go_simp; done) | (go_simp; rfl)); intro gb162 hg w95 hbox hb; have n0_ := Aside0.mk (below_step t17_0 hb); have n1_ := Aside0.mk (hbox); have n2_ := Aside0.mk ((t17_4 : w.heap.size ≤ gb162)); have n3_ := Aside0.mk ((t17_4 : w.heap.size ≤ gb162)); clear HB; have HB := n0_; have BK162 := n1_; have GW162 := n2_; have GE162 := n3_; clear n0_ n1_ n2_ n3_; clear hb hbox hg; have hz96 := blk13 BK162.out))
       go_ret
       exact ⟨t17_2, t17_1⟩
      ·rw [if_neg c94] at H
       have c94b0 : (a0_0 == 1) = false := beq_eq_false_iff_ne.mpr c94
       have c94b1 : (a0_0 != 1) = true := bne_iff_ne.mpr c94
       replace H := Option.bind_eq_some_iff.mp H
       obtain ⟨t170, A970, H⟩ := H
       replace H : (if t170 = true then (some true) else (some false)) = some r := H
       have A97 := Aside0.mk A970
       clear A970
       by_cases c98 : t170 = true
       ·subst c98
        rw [if_pos rfl] at H
        obtain rfl := Option.some.inj H
        go_enter Tryd.func30, Tryd.ntmps30
        go_wp2_with (first | ((with_reducible refine gate_dst (N := 1) rfl ?_); refine box_event ?hg (N := 1) ?hd (cs := #[.int .u8 a0_0, .int .u8 a0_1, .int .i64 a0_2, .slice A0_3 l0_3.length c0_3, .string a0_4, .int .u32 a0_5, .int .i64 a0_6, .int .u64 a0_7, .int .u64 a0_8, .int .i64 a0_9, .string a0_10, .bool false, .bool false]) (t := 42) ?hr ?_; (case hd => rfl); (case hg => rfl); (case hr => first | (go_simp; done) | (go_simp; rfl)); intro gb162 hg w99 hbox hb; have n0_ := Aside0.mk (below_step t17_0 hb); have n1_ := Aside0.mk (hbox); have n2_ := Aside0.mk ((t17_4 : w.heap.size ≤ gb162)); have n3_ := Aside0.mk ((t17_4 : w.heap.size ≤ gb162)); clear HB; have HB := n0_; have BK162 := n1_; have GW162 := n2_; have GE162 := n3_; clear n0_ n1_ n2_ n3_; clear hb hbox hg; have hz100 := blk13 BK162.out) | (go_at_call 68; (with_reducible refine (text_bare.calls a0_0 a0_1 a0_2 _ _ l0_3 a0_4 a0_5 a0_6 a0_7 a0_8 a0_9 a0_10 false false true _ ?side1 ?side2 A97.out).mono ?_); (case side1 => repeat (first | exact (Kd.C_below HR0_3.out HB.out) | (with_reducible refine Kd.C_alloc ?_ _) | (with_reducible refine Kd.C_drewN ?_ _) | (with_reducible refine Kd.C_drew ?_))); (case side2 => exact HC0_3.out); rintro e w101 ⟨rfl, hb⟩; have n0_ := Aside0.mk (blk_below (g := gb162) (o := .cells #[.int .u8 a0_0, .int .u8 a0_1, .int .i64 a0_2, .slice A0_3 l0_3.length c0_3, .string a0_4, .int .u32 a0_5, .int .i64 a0_6, .int .u64 a0_7, .int .u64 a0_8, .int .i64 a0_9, .string a0_10, .bool false, .bool false] 42 (0, 0)) t17_3 hb); have n1_ := Aside0.mk (below_step t17_1 hb); clear BK162; clear HB; have BK162 := n0_; have HB := n1_; clear n0_ n1_; (try clear hb); (try clear hb2); (try clear hk); (try clear hi)))
        go_ret
        exact ⟨t17_2, t17_1⟩
       ·replace c98 := Bool.eq_false_iff.mpr c98
        subst c98
        rw [if_neg (show ¬ (false = true) by decide)] at H
        obtain rfl := Option.some.inj H
        go_enter Tryd.func30, Tryd.ntmps30
        go_wp2_with (first | ((with_reducible refine gate_dst (N := 1) rfl ?_); refine box_event ?hg (N := 1) ?hd (cs := #[.int .u8 a0_0, .int .u8 a0_1, .int .i64 a0_2, .slice A0_3 l0_3.length c0_3, .string a0_4, .int .u32 a0_5, .int .i64 a0_6, .int .u64 a0_7, .int .u64 a0_8, .int .i64 a0_9, .string a0_10, .bool false, .bool false]) (t := 42) ?hr ?_; (case hd => rfl); (case hg => rfl); (case hr => first | (go_simp; done) | (go_simp; rfl)); intro gb162 hg w102 hbox hb; have n0_ := Aside0.mk (below_step t17_0 hb); have n1_ := Aside0.mk (hbox); have n2_ := Aside0.mk ((t17_4 : w.heap.size ≤ gb162)); have n3_ := Aside0.mk ((t17_4 : w.heap.size ≤ gb162)); clear HB; have HB := n0_; have BK162 := n1_; have GW162 := n2_; have GE162 := n3_; clear n0_ n1_ n2_ n3_; clear hb hbox hg; have hz103 := blk13 BK162.out) | (go_at_call 68; (with_reducible refine (text_bare.calls a0_0 a0_1 a0_2 _ _ l0_3 a0_4 a0_5 a0_6 a0_7 a0_8 a0_9 a0_10 false false false _ ?side1 ?side2 A97.out).mono ?_); (case side1 => repeat (first | exact (Kd.C_below HR0_3.out HB.out) | (with_reducible refine Kd.C_alloc ?_ _) | (with_reducible refine Kd.C_drewN ?_ _) | (with_reducible refine Kd.C_drew ?_))); (case side2 => exact HC0_3.out); rintro e w104 ⟨rfl, hb⟩; have n0_ := Aside0.mk (blk_below (g := gb162) (o := .cells #[.int .u8 a0_0, .int .u8 a0_1, .int .i64 a0_2, .slice A0_3 l0_3.length c0_3, .string a0_4, .int .u32 a0_5, .int .i64 a0_6, .int .u64 a0_7, .int .u64 a0_8, .int .i64 a0_9, .string a0_10, .bool false, .bool false] 42 (0, 0)) t17_3 hb); have n1_ := Aside0.mk (below_step t17_1 hb); clear BK162; clear HB; have BK162 := n0_; have HB := n1_; clear n0_ n1_; (try clear hb); (try clear hb2); (try clear hk); (try clear hi)))
        go_ret
        exact ⟨t17_2, t17_1⟩
     ·rw [if_neg c93] at H
      have c93b0 : (a0_10.toList == ([] : List UInt8)) = false := beq_eq_false_iff_ne.mpr c93
      have c93b1 : (a0_10.toList != ([] : List UInt8)) = true := bne_iff_ne.mpr c93
      obtain rfl := Option.some.inj H
      go_enter Tryd.func30, Tryd.ntmps30
      go_wp2_with (first | ((with_reducible refine gate_dst (N := 1) rfl ?_); refine box_event ?hg (N := 1) ?hd (cs := #[.int .u8 a0_0, .int .u8 a0_1, .int .i64 a0_2, .slice A0_3 l0_3.length c0_3, .string a0_4, .int .u32 a0_5, .int .i64 a0_6, .int .u64 a0_7, .int .u64 a0_8, .int .i64 a0_9, .string a0_10, .bool false, .bool false]) (t := 42) ?hr ?_; (case hd => rfl); (case hg => rfl); (case hr => first | (go_simp; done) | (go_simp; rfl)); intro gb162 hg w105 hbox hb; have n0_ := Aside0.mk (below_step t17_0 hb); have n1_ := Aside0.mk (hbox); have n2_ := Aside0.mk ((t17_4 : w.heap.size ≤ gb162)); have n3_ := Aside0.mk ((t17_4 : w.heap.size ≤ gb162)); clear HB; have HB := n0_; have BK162 := n1_; have GW162 := n2_; have GE162 := n3_; clear n0_ n1_ n2_ n3_; clear hb hbox hg; have hz106 := blk13 BK162.out))
      go_ret
      exact ⟨t17_2, t17_1⟩
    ·rw [if_neg c92] at H
     have c92b0 : (a0_9 == 0) = false := beq_eq_false_iff_ne.mpr c92
     have c92b1 : (a0_9 != 0) = true := bne_iff_ne.mpr c92
     obtain rfl := Option.some.inj H
     go_enter Tryd.func30, Tryd.ntmps30
     go_wp2_with (first | ((with_reducible refine gate_dst (N := 1) rfl ?_); refine box_event ?hg (N := 1) ?hd (cs := #[.int .u8 a0_0, .int .u8 a0_1, .int .i64 a0_2, .slice A0_3 l0_3.length c0_3, .string a0_4, .int .u32 a0_5, .int .i64 a0_6, .int .u64 a0_7, .int .u64 a0_8, .int .i64 a0_9, .string a0_10, .bool false, .bool false]) (t := 42) ?hr ?_; (case hd => rfl); (case hg => rfl); (case hr => first | (go_simp; done) | (go_simp; rfl)); intro gb162 hg w107 hbox hb; have n0_ := Aside0.mk (below_step t17_0 hb); have n1_ := Aside0.mk (hbox); have n2_ := Aside0.mk ((t17_4 : w.heap.size ≤ gb162)); have n3_ := Aside0.mk ((t17_4 : w.heap.size ≤ gb162)); clear HB; have HB := n0_; have BK162 := n1_; have GW162 := n2_; have GE162 := n3_; clear n0_ n1_ n2_ n3_; clear hb hbox hg; have hz108 := blk13 BK162.out))
     go_ret
     exact ⟨t17_2, t17_1⟩
end Go.Proofs.YtfoengihiaegoaaDoor.P
