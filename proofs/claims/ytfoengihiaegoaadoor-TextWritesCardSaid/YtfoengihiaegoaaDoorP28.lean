-- written by wip/tools/drive.py, a driver round the kit's printer, and made smaller by wip/tools/slim.py
import Derived.Test.YtfoengihiaegoaaDoorP0
import Derived.Test.YtfoengihiaegoaaDoorP27
namespace Go.Proofs.YtfoengihiaegoaaDoor.P
open Go.RowKit Go.Proofs.YtfoengihiaegoaaDoorW.PrintWords Go.Proofs.YtfoengihiaegoaaDoorW.PrintLast Go.Proofs.YtfoengihiaegoaaDoorW.PrintMore
set_option linter.unusedVariables false
set_option linter.unusedSimpArgs false
theorem t28_0 {p : Prop} (h : p := by repeat (first | (with_reducible first | exact HB.out | apply below_alloc | apply pw_below_drewN | apply below_drew1 | refine below_set ?_ GE307.out) | exact HB.out)) : p := h
theorem t28_1 {p : Prop} (h : p := by (with_reducible repeat (first | refine blk_drewN ?_ _ | refine blk_drew ?_ | refine blk_alloc ?_ _)); exact BK307.out) : p := h
theorem t28_2 {p : Prop} (h : p := by first | rfl | (simp [errW_none, errW_some] <;> rfl) | (simp [*, errW_none, errW_some] <;> rfl)) : p := h
theorem t28_3 {p : Prop} (h : p := by first | rfl | (simp; done) | (simp [*]; done) | exact x_nonempty _ | (simp [x_nonempty]; done)) : p := h
theorem t28_4 {p : Prop} (h : p := by have := HJ1.out; have := HJ15.out; have := HJ19.out; first | omega | exact Nat.le_refl _) : p := h
theorem t28_5 {p : Prop} (h : p := by repeat (first | (with_reducible first | exact HB.out | apply below_alloc | apply pw_below_drewN | apply below_drew1) | exact HB.out)) : p := h
theorem t28_6 {p : Prop} (h : p := by have := HJ1.out; have := HJ15.out; first | omega | exact Nat.le_refl _) : p := h
theorem t28_7 {p : Prop} (h : p := by first | omega | exact Nat.le_refl _) : p := h
mutual
def cloakroomref10_May.j0 : Nat → Bool → Int → Int → List ByteArray → ByteArray → Int → Int → Int → Int → Option (Bool)
 | 0, _, _, _, _, _, _, _, _, _ => none
 | k + 1, x26, x308000, x308001, x308002, x308003, x308004, x308005, x308006, x308007 => if x26 = true then (some false) else (if x308000 ≥ 2 then (cloakroomref10_May.j1 k (decide (x308000 ≤ 5)) x308000 x308001 x308002 x308003 x308004 x308005 x308006 x308007) else (cloakroomref10_May.j1 k false x308000 x308001 x308002 x308003 x308004 x308005 x308006 x308007))
def cloakroomref10_May.j1 : Nat → Bool → Int → Int → List ByteArray → ByteArray → Int → Int → Int → Int → Option (Bool)
 | 0, _, _, _, _, _, _, _, _, _ => none
 | k + 1, x3, x308000, x308001, x308002, x308003, x308004, x308005, x308006, x308007 => if (x308003.size : Int) > 512 then (cloakroomref10_May.j2 k x3 true x308000 x308001 x308002 x308003 x308004 x308005 x308006 x308007) else (if x308003.toList = ([] : List UInt8) then (cloakroomref10_May.j2 k x3 false x308000 x308001 x308002 x308003 x308004 x308005 x308006 x308007) else (if x3 = true then (cloakroomref10_May.j2 k x3 false x308000 x308001 x308002 x308003 x308004 x308005 x308006 x308007) else (cloakroomref10_May.j2 k x3 (x308000 != 8) x308000 x308001 x308002 x308003 x308004 x308005 x308006 x308007)))
def cloakroomref10_May.j2 : Nat → Bool → Bool → Int → Int → List ByteArray → ByteArray → Int → Int → Int → Int → Option (Bool)
 | 0, _, _, _, _, _, _, _, _, _, _ => none
 | k + 1, x3, x52, x308000, x308001, x308002, x308003, x308004, x308005, x308006, x308007 => if x52 = true then (some false) else (if x308005 < 0 then (cloakroomref10_May.j3 k x3 true x308000 x308001 x308002 x308003 x308004 x308005 x308006 x308007) else (if x308005 > 1099511627776 then (cloakroomref10_May.j3 k x3 true x308000 x308001 x308002 x308003 x308004 x308005 x308006 x308007) else (if x308005 = 0 then (cloakroomref10_May.j3 k x3 false x308000 x308001 x308002 x308003 x308004 x308005 x308006 x308007) else (if x3 = true then (cloakroomref10_May.j3 k x3 false x308000 x308001 x308002 x308003 x308004 x308005 x308006 x308007) else (cloakroomref10_May.j3 k x3 (x308000 != 9) x308000 x308001 x308002 x308003 x308004 x308005 x308006 x308007)))))
def cloakroomref10_May.j3 : Nat → Bool → Bool → Int → Int → List ByteArray → ByteArray → Int → Int → Int → Int → Option (Bool)
 | 0, _, _, _, _, _, _, _, _, _, _ => none
 | k + 1, x3, x74, x308000, x308001, x308002, x308003, x308004, x308005, x308006, x308007 => if x74 = true then (some false) else (if x308004 = 0 then (if x308006 = 0 then (if x308007 = 0 then (some true) else (if x308000 = 6 then (some true) else (some (x308000 == 7)))) else (if x308000 = 5 then (if x308007 = 0 then (some true) else (if x308000 = 6 then (some true) else (some (x308000 == 7)))) else (some false))) else (if x3 = true then (if x308006 = 0 then (if x308007 = 0 then (some true) else (if x308000 = 6 then (some true) else (some (x308000 == 7)))) else (if x308000 = 5 then (if x308007 = 0 then (some true) else (if x308000 = 6 then (some true) else (some (x308000 == 7)))) else (some false))) else (some false)))
end
def cloakroomref10_May.f (k : Nat) (a0_0 : Int) (a0_1 : Int) (l0_2 : List ByteArray) (a0_3 : ByteArray) (a0_4 : Int) (a0_5 : Int) (a0_6 : Int) (a0_7 : Int) : Option (Bool) := if a0_0 < 1 then (cloakroomref10_May.j0 k true a0_0 a0_1 l0_2 a0_3 a0_4 a0_5 a0_6 a0_7) else (if a0_0 > 11 then (cloakroomref10_May.j0 k true a0_0 a0_1 l0_2 a0_3 a0_4 a0_5 a0_6 a0_7) else (if a0_1 < 0 then (cloakroomref10_May.j0 k true a0_0 a0_1 l0_2 a0_3 a0_4 a0_5 a0_6 a0_7) else (if a0_1 ≥ 4 then (cloakroomref10_May.j0 k true a0_0 a0_1 l0_2 a0_3 a0_4 a0_5 a0_6 a0_7) else ((cloakroomref10_keys.f k a0_0 a0_1 l0_2 a0_3 a0_4 a0_5 a0_6 a0_7).bind fun t308 => (cloakroomref10_May.j0 k (!t308) a0_0 a0_1 l0_2 a0_3 a0_4 a0_5 a0_6 a0_7)))))
theorem cloakroomref10_May.mono_l : ∀ k, (∀ y0 y1 y2 y3 y4 y5 y6 y7 y8, LeO (cloakroomref10_May.j0 k y0 y1 y2 y3 y4 y5 y6 y7 y8) (cloakroomref10_May.j0 (k + 1) y0 y1 y2 y3 y4 y5 y6 y7 y8)) ∧ (∀ y0 y1 y2 y3 y4 y5 y6 y7 y8, LeO (cloakroomref10_May.j1 k y0 y1 y2 y3 y4 y5 y6 y7 y8) (cloakroomref10_May.j1 (k + 1) y0 y1 y2 y3 y4 y5 y6 y7 y8)) ∧ (∀ y0 y1 y2 y3 y4 y5 y6 y7 y8 y9, LeO (cloakroomref10_May.j2 k y0 y1 y2 y3 y4 y5 y6 y7 y8 y9) (cloakroomref10_May.j2 (k + 1) y0 y1 y2 y3 y4 y5 y6 y7 y8 y9)) ∧ (∀ y0 y1 y2 y3 y4 y5 y6 y7 y8 y9, LeO (cloakroomref10_May.j3 k y0 y1 y2 y3 y4 y5 y6 y7 y8 y9) (cloakroomref10_May.j3 (k + 1) y0 y1 y2 y3 y4 y5 y6 y7 y8 y9))
 | 0 => ⟨fun _ _ _ _ _ _ _ _ _ r h => by simp [cloakroomref10_May.j0] at h, fun _ _ _ _ _ _ _ _ _ r h => by simp [cloakroomref10_May.j1] at h, fun _ _ _ _ _ _ _ _ _ _ r h => by simp [cloakroomref10_May.j2] at h, fun _ _ _ _ _ _ _ _ _ _ r h => by simp [cloakroomref10_May.j3] at h⟩
 | k + 1 => by
  obtain ⟨ih0, ih1, ih2, ih3⟩ := cloakroomref10_May.mono_l k
  refine ⟨?_, ?_, ?_, ?_⟩
  all_goals intros
  all_goals (first | unfold cloakroomref10_May.j0 | unfold cloakroomref10_May.j1 | unfold cloakroomref10_May.j2 | unfold cloakroomref10_May.j3)
  all_goals repeat' first | (with_reducible first | apply ih0 | apply ih1 | apply ih2 | apply ih3 | apply cloakroomref10_keys.mono | exact LeO.refl _ | exact LeO.none _ | refine LeO.ite ?_ ?_ | refine LeO.bind ?_ (fun _ => ?_)) | exact LeO.none _ | refine LeO.ite ?_ ?_ | refine LeO.bind ?_ (fun _ => ?_)
theorem cloakroomref10_May.mono : ∀ a0 a1 a2 a3 a4 a5 a6 a7 k, LeO (cloakroomref10_May.f k a0 a1 a2 a3 a4 a5 a6 a7) (cloakroomref10_May.f (k + 1) a0 a1 a2 a3 a4 a5 a6 a7) := by
 intro a0 a1 a2 a3 a4 a5 a6 a7 k
 obtain ⟨ih0, ih1, ih2, ih3⟩ := cloakroomref10_May.mono_l k
 unfold cloakroomref10_May.f
 repeat' first | (with_reducible first | apply ih0 | apply ih1 | apply ih2 | apply ih3 | apply cloakroomref10_keys.mono | exact LeO.refl _ | exact LeO.none _ | refine LeO.ite ?_ ?_ | refine LeO.bind ?_ (fun _ => ?_)) | exact LeO.none _ | refine LeO.ite ?_ ?_ | refine LeO.bind ?_ (fun _ => ?_)
set_option maxHeartbeats 8000000 in
set_option maxRecDepth 100000 in
theorem cloakroomref10_May.calls (k : Nat) (a0_0 : Int) (a0_1 : Int) (A0_2 : Option Addr) (c0_2 : Nat) (l0_2 : List ByteArray) (a0_3 : ByteArray) (a0_4 : Int) (a0_5 : Int) (a0_6 : Int) (a0_7 : Int) (r : Bool) (w : World) (hr0_2 : Kd.C Kd.string w A0_2 l0_2.length l0_2) (hc0_2 : l0_2.length ≤ c0_2) (h : cloakroomref10_May.f k a0_0 a0_1 l0_2 a0_3 a0_4 a0_5 a0_6 a0_7 = some r) :
  Calls Tryd.prog 77 #[.agg #[.int .u8 a0_0, .int .i64 a0_1, .slice A0_2 l0_2.length c0_2, .string a0_3, .int .u32 a0_4, .int .i64 a0_5, .int .u64 a0_6, .int .u64 a0_7]] w fun e w' => e = .returned (.bool r) ∧ Below w.heap.size w w' := by
 have hu40 := Tryd.underlying40
 have HR0_2 := Aside0.mk hr0_2
 have HC0_2 := Aside0.mk hc0_2
 clear hr0_2 hc0_2
 have HB := Aside0.mk (Below.refl w.heap.size w)
 have H : (if a0_0 < 1 then (cloakroomref10_May.j0 k true a0_0 a0_1 l0_2 a0_3 a0_4 a0_5 a0_6 a0_7) else (if a0_0 > 11 then (cloakroomref10_May.j0 k true a0_0 a0_1 l0_2 a0_3 a0_4 a0_5 a0_6 a0_7) else (if a0_1 < 0 then (cloakroomref10_May.j0 k true a0_0 a0_1 l0_2 a0_3 a0_4 a0_5 a0_6 a0_7) else (if a0_1 ≥ 4 then (cloakroomref10_May.j0 k true a0_0 a0_1 l0_2 a0_3 a0_4 a0_5 a0_6 a0_7) else ((cloakroomref10_keys.f k a0_0 a0_1 l0_2 a0_3 a0_4 a0_5 a0_6 a0_7).bind fun t308 => (cloakroomref10_May.j0 k (!t308) a0_0 a0_1 l0_2 a0_3 a0_4 a0_5 a0_6 a0_7)))))) = some r := h
 clear h
 have HC2 := Aside0.mk H
 clear H
 go_enter Tryd.func77, Tryd.ntmps77
 go_upto_region 1 with (first | ((with_reducible refine gate_dst (N := 1) rfl ?_); refine box_event ?hg (N := 1) ?hd (cs := #[.int .u8 a0_0, .int .i64 a0_1, .slice A0_2 l0_2.length c0_2, .string a0_3, .int .u32 a0_4, .int .i64 a0_5, .int .u64 a0_6, .int .u64 a0_7]) (t := 40) ?hr ?_; (case hd => rfl); (case hg => rfl); (case hr => first | (go_simp; done) | (go_simp; rfl)); intro gb307 hg w3 hbox hb; have n0_ := Aside0.mk (below_step t28_5 hb); have n1_ := Aside0.mk (hbox); have n2_ := Aside0.mk ((by rw [hg]; exact (below_size t28_5) : w.heap.size ≤ gb307)); have n3_ := Aside0.mk ((by rw [hg]; exact (below_size t28_5) : w.heap.size ≤ gb307)); clear HB; have HB := n0_; have BK307 := n1_; have GW307 := n2_; have GE307 := n3_; clear n0_ n1_ n2_ n3_; clear hb hbox hg))
 (try simp only [Act.put, List.setIfInBounds_toArray, List.set_cons_zero, List.set_cons_succ])
 go_cut [26] (fun v26 wc => ∃ (kq : Nat) (x26_1 : Bool), v26 = .bool x26_1 ∧ Aside0 (cloakroomref10_May.j0 kq x26_1 a0_0 a0_1 l0_2 a0_3 a0_4 a0_5 a0_6 a0_7 = some r) ∧ Aside0 (kq ≤ k) ∧ Aside0 (wc.heap[gb307]? = some (.cells #[.int .u8 a0_0, .int .i64 a0_1, (.slice A0_2 l0_2.length c0_2), .string a0_3, .int .u32 a0_4, .int .i64 a0_5, .int .u64 a0_6, .int .u64 a0_7] 40 (0, 0))) ∧ Aside0 (Below w.heap.size w wc))
 case first =>
  have H := HC2.out
  clear HC2
  by_cases c4 : a0_0 < 1
  ·rw [if_pos c4] at H
   have c4b0 : decide (a0_0 < 1) = true := decide_eq_true c4
   clear c4
   (first | rw [c4b0] | (simp only [i64_w, i32_w]; rw [c4b0]) | rw [c4b1] | skip)
   have H' := Aside0.mk H
   clear H
   have hz5 := blk8 BK307.out
   go_wp2
   go_meet
   case rel => exact ⟨_, (true), t28_3, H', ⟨t28_7⟩, ⟨t28_1⟩, ⟨t28_0⟩⟩
  ·rw [if_neg c4] at H
   have c4b0 : decide (a0_0 < 1) = false := decide_eq_false c4
   clear c4
   (first | rw [c4b0] | (simp only [i64_w, i32_w]; rw [c4b0]) | rw [c4b1] | skip)
   by_cases c6 : a0_0 > 11
   ·rw [if_pos c6] at H
    have c6b0 : decide (11 < a0_0) = true := decide_eq_true c6
    clear c6
    have H' := Aside0.mk H
    clear H
    have hz7 := blk8 BK307.out
    go_wp2
    go_meet
    case rel => exact ⟨_, (true), t28_3, H', ⟨t28_7⟩, ⟨t28_1⟩, ⟨t28_0⟩⟩
   ·rw [if_neg c6] at H
    have c6b0 : decide (11 < a0_0) = false := decide_eq_false c6
    clear c6
    by_cases c8 : a0_1 < 0
    ·rw [if_pos c8] at H
     have c8b0 : decide (a0_1 < 0) = true := decide_eq_true c8
     clear c8
     have H' := Aside0.mk H
     clear H
     have hz9 := blk8 BK307.out
     go_wp2
     go_meet
     case rel => exact ⟨_, (true), t28_3, H', ⟨t28_7⟩, ⟨t28_1⟩, ⟨t28_0⟩⟩
    ·rw [if_neg c8] at H
     have c8b0 : decide (a0_1 < 0) = false := decide_eq_false c8
     clear c8
     by_cases c10 : a0_1 ≥ 4
     ·rw [if_pos c10] at H
      have c10b0 : decide (4 ≤ a0_1) = true := decide_eq_true c10
      clear c10
      have H' := Aside0.mk H
      clear H
      have hz11 := blk8 BK307.out
      go_wp2
      go_meet
      case rel => exact ⟨_, (true), t28_3, H', ⟨t28_7⟩, ⟨t28_1⟩, ⟨t28_0⟩⟩
     ·rw [if_neg c10] at H
      have c10b0 : decide (4 ≤ a0_1) = false := decide_eq_false c10
      clear c10
      replace H := Option.bind_eq_some_iff.mp H
      obtain ⟨t308, A120, H⟩ := H
      replace H : (cloakroomref10_May.j0 k (!t308) a0_0 a0_1 l0_2 a0_3 a0_4 a0_5 a0_6 a0_7) = some r := H
      have A12 := Aside0.mk A120
      clear A120
      have H' := Aside0.mk H
      clear H
      have hz13 := blk8 BK307.out
      go_wp2_with (first | (go_at_call 95; (with_reducible refine (cloakroomref10_keys.calls k a0_0 a0_1 _ _ l0_2 a0_3 a0_4 a0_5 a0_6 a0_7 t308 _ ?side1 ?side2 A12.out).mono ?_); (case side1 => repeat (first | exact (Kd.C_below HR0_2.out HB.out) | (with_reducible refine Kd.C_alloc ?_ _) | (with_reducible refine Kd.C_drewN ?_ _) | (with_reducible refine Kd.C_drew ?_))); (case side2 => exact HC0_2.out); rintro e w14 ⟨rfl, hb⟩; have n0_ := Aside0.mk (blk_below (g := gb307) (o := .cells #[.int .u8 a0_0, .int .i64 a0_1, .slice A0_2 l0_2.length c0_2, .string a0_3, .int .u32 a0_4, .int .i64 a0_5, .int .u64 a0_6, .int .u64 a0_7] 40 (0, 0)) t28_1 hb); have n1_ := Aside0.mk (below_step t28_0 hb); clear BK307; clear HB; have BK307 := n0_; have HB := n1_; clear n0_ n1_; (try clear hb); (try clear hb2); (try clear hk); (try clear hi)))
      go_meet
      case rel => exact ⟨_, (!t308), t28_3, H', ⟨t28_7⟩, ⟨t28_1⟩, ⟨t28_0⟩⟩
 case rest => as_aux_lemma =>
  clear HC2
  obtain ⟨kq, x26_1, rfl, HA, HJ1, BK307, HB⟩ := hcut
  cases kq with
  | zero => exact absurd HA.out (by simp [cloakroomref10_May.j0])
  | succ kj1 =>
   have H := HA.out
   clear HA
   simp only [cloakroomref10_May.j0] at H
   by_cases c15 : x26_1 = true
   ·subst c15
    rw [if_pos rfl] at H
    obtain rfl := Option.some.inj H
    go_wp2
    go_ret
    exact ⟨t28_2, t28_0⟩
   ·replace c15 := Bool.eq_false_iff.mpr c15
    subst c15
    rw [if_neg (show ¬ (false = true) by decide)] at H
    have HC16 := Aside0.mk H
    clear H
    go_upto_region 3 with (fail)
    go_cut [3] (fun v3 wc => ∃ (kq : Nat) (x3_15 : Bool), v3 = .bool x3_15 ∧ Aside0 (cloakroomref10_May.j1 kq x3_15 a0_0 a0_1 l0_2 a0_3 a0_4 a0_5 a0_6 a0_7 = some r) ∧ Aside0 (kq ≤ kj1) ∧ Aside0 (wc.heap[gb307]? = some (.cells #[.int .u8 a0_0, .int .i64 a0_1, (.slice A0_2 l0_2.length c0_2), .string a0_3, .int .u32 a0_4, .int .i64 a0_5, .int .u64 a0_6, .int .u64 a0_7] 40 (0, 0))) ∧ Aside0 (Below w.heap.size w wc))
    case first =>
     have H := HC16.out
     clear HC16
     by_cases c17 : a0_0 ≥ 2
     ·rw [if_pos c17] at H
      have c17b0 : decide (2 ≤ a0_0) = true := decide_eq_true c17
      clear c17
      (first | rw [c17b0] | (simp only [i64_w, i32_w]; rw [c17b0]) | rw [c17b1] | skip)
      have H' := Aside0.mk H
      clear H
      have hz18 := blk8 BK307.out
      go_wp2
      go_meet
      case rel => exact ⟨_, (decide (a0_0 ≤ 5)), t28_3, H', ⟨by have := HJ1.out; first | omega | exact Nat.le_refl _⟩, ⟨t28_1⟩, ⟨t28_0⟩⟩
     ·rw [if_neg c17] at H
      have c17b0 : decide (2 ≤ a0_0) = false := decide_eq_false c17
      clear c17
      (first | rw [c17b0] | (simp only [i64_w, i32_w]; rw [c17b0]) | rw [c17b1] | skip)
      have H' := Aside0.mk H
      clear H
      have hz19 := blk8 BK307.out
      go_wp2
      go_meet
      case rel => exact ⟨_, (false), t28_3, H', ⟨by have := HJ1.out; first | omega | exact Nat.le_refl _⟩, ⟨t28_1⟩, ⟨t28_0⟩⟩
    case rest => as_aux_lemma =>
     clear HC16
     (try clear c15)
     obtain ⟨kq, x3_15, rfl, HA, HJ15, BK307, HB⟩ := hcut
     cases kq with
     | zero => exact absurd HA.out (by simp [cloakroomref10_May.j1])
     | succ kj15 =>
      have H := HA.out
      clear HA
      simp only [cloakroomref10_May.j1] at H
      have HC20 := Aside0.mk H
      clear H
      go_upto_region 4 with (fail)
      go_cut [52] (fun v52 wc => ∃ (kq : Nat) (x52_19 : Bool), v52 = .bool x52_19 ∧ Aside0 (cloakroomref10_May.j2 kq x3_15 x52_19 a0_0 a0_1 l0_2 a0_3 a0_4 a0_5 a0_6 a0_7 = some r) ∧ Aside0 (kq ≤ kj15) ∧ Aside0 (wc.heap[gb307]? = some (.cells #[.int .u8 a0_0, .int .i64 a0_1, (.slice A0_2 l0_2.length c0_2), .string a0_3, .int .u32 a0_4, .int .i64 a0_5, .int .u64 a0_6, .int .u64 a0_7] 40 (0, 0))) ∧ Aside0 (Below w.heap.size w wc))
      case first =>
       have H := HC20.out
       clear HC20
       by_cases c21 : (a0_3.size : Int) > 512
       ·rw [if_pos c21] at H
        have c21b0 : decide (512 < (a0_3.size : Int)) = true := decide_eq_true c21
        have c21b1 : decide (512 < a0_3.size) = true := decide_eq_true (by omega)
        clear c21
        (first | rw [c21b0] | (simp only [i64_w, i32_w]; rw [c21b0]) | rw [c21b1] | skip)
        have H' := Aside0.mk H
        clear H
        have hz22 := blk8 BK307.out
        go_wp2
        go_meet
        case rel => exact ⟨_, (true), t28_3, H', ⟨t28_6⟩, ⟨t28_1⟩, ⟨t28_0⟩⟩
       ·rw [if_neg c21] at H
        have c21b0 : decide (512 < (a0_3.size : Int)) = false := decide_eq_false c21
        have c21b1 : decide (512 < a0_3.size) = false := decide_eq_false (by omega)
        clear c21
        (first | rw [c21b0] | (simp only [i64_w, i32_w]; rw [c21b0]) | rw [c21b1] | skip)
        by_cases c23 : a0_3.toList = ([] : List UInt8)
        ·rw [if_pos c23] at H
         have c23b0 : (a0_3.toList == ([] : List UInt8)) = true := beq_iff_eq.mpr c23
         have c23b1 : (a0_3.toList != ([] : List UInt8)) = false := bne_eq_false_iff_eq.mpr c23
         clear c23
         have H' := Aside0.mk H
         clear H
         have hz24 := blk8 BK307.out
         go_wp2
         go_meet
         case rel => exact ⟨_, (false), t28_3, H', ⟨t28_6⟩, ⟨t28_1⟩, ⟨t28_0⟩⟩
        ·rw [if_neg c23] at H
         have c23b0 : (a0_3.toList == ([] : List UInt8)) = false := beq_eq_false_iff_ne.mpr c23
         have c23b1 : (a0_3.toList != ([] : List UInt8)) = true := bne_iff_ne.mpr c23
         by_cases c25 : x3_15 = true
         ·subst c25
          rw [if_pos rfl] at H
          have H' := Aside0.mk H
          clear H
          have hz26 := blk8 BK307.out
          go_wp2
          go_meet
          case rel => exact ⟨_, (false), t28_3, H', ⟨t28_6⟩, ⟨t28_1⟩, ⟨t28_0⟩⟩
         ·replace c25 := Bool.eq_false_iff.mpr c25
          subst c25
          rw [if_neg (show ¬ (false = true) by decide)] at H
          have H' := Aside0.mk H
          clear H
          have hz27 := blk8 BK307.out
          go_wp2
          go_meet
          case rel => exact ⟨_, ((a0_0 != 8)), t28_3, H', ⟨t28_6⟩, ⟨t28_1⟩, ⟨t28_0⟩⟩
      case rest => as_aux_lemma =>
       clear HC20
       (try clear c15)
       obtain ⟨kq, x52_19, rfl, HA, HJ19, BK307, HB⟩ := hcut
       cases kq with
       | zero => exact absurd HA.out (by simp [cloakroomref10_May.j2])
       | succ kj19 =>
        have H := HA.out
        clear HA
        simp only [cloakroomref10_May.j2] at H
        by_cases c28 : x52_19 = true
        ·subst c28
         rw [if_pos rfl] at H
         obtain rfl := Option.some.inj H
         go_wp2
         go_ret
         exact ⟨t28_2, t28_0⟩
        ·replace c28 := Bool.eq_false_iff.mpr c28
         subst c28
         rw [if_neg (show ¬ (false = true) by decide)] at H
         have HC29 := Aside0.mk H
         clear H
         go_upto_region 6 with (fail)
         go_cut [74] (fun v74 wc => ∃ (kq : Nat) (x74_28 : Bool), v74 = .bool x74_28 ∧ Aside0 (cloakroomref10_May.j3 kq x3_15 x74_28 a0_0 a0_1 l0_2 a0_3 a0_4 a0_5 a0_6 a0_7 = some r) ∧ Aside0 (kq ≤ kj19) ∧ Aside0 (wc.heap[gb307]? = some (.cells #[.int .u8 a0_0, .int .i64 a0_1, (.slice A0_2 l0_2.length c0_2), .string a0_3, .int .u32 a0_4, .int .i64 a0_5, .int .u64 a0_6, .int .u64 a0_7] 40 (0, 0))) ∧ Aside0 (Below w.heap.size w wc))
         case first =>
          have H := HC29.out
          clear HC29
          by_cases c30 : a0_5 < 0
          ·rw [if_pos c30] at H
           have c30b0 : decide (a0_5 < 0) = true := decide_eq_true c30
           clear c30
           (first | rw [c30b0] | (simp only [i64_w, i32_w]; rw [c30b0]) | rw [c30b1] | skip)
           have H' := Aside0.mk H
           clear H
           have hz31 := blk8 BK307.out
           go_wp2
           go_meet
           case rel => exact ⟨_, (true), t28_3, H', ⟨t28_4⟩, ⟨t28_1⟩, ⟨t28_0⟩⟩
          ·rw [if_neg c30] at H
           have c30b0 : decide (a0_5 < 0) = false := decide_eq_false c30
           clear c30
           (first | rw [c30b0] | (simp only [i64_w, i32_w]; rw [c30b0]) | rw [c30b1] | skip)
           by_cases c32 : a0_5 > 1099511627776
           ·rw [if_pos c32] at H
            have c32b0 : decide (1099511627776 < a0_5) = true := decide_eq_true c32
            clear c32
            have H' := Aside0.mk H
            clear H
            have hz33 := blk8 BK307.out
            go_wp2
            go_meet
            case rel => exact ⟨_, (true), t28_3, H', ⟨t28_4⟩, ⟨t28_1⟩, ⟨t28_0⟩⟩
           ·rw [if_neg c32] at H
            have c32b0 : decide (1099511627776 < a0_5) = false := decide_eq_false c32
            clear c32
            by_cases c34 : a0_5 = 0
            ·rw [if_pos c34] at H
             have c34b0 : (a0_5 == 0) = true := beq_iff_eq.mpr c34
             have c34b1 : (a0_5 != 0) = false := bne_eq_false_iff_eq.mpr c34
             clear c34
             have H' := Aside0.mk H
             clear H
             have hz35 := blk8 BK307.out
             go_wp2
             go_meet
             case rel => exact ⟨_, (false), t28_3, H', ⟨t28_4⟩, ⟨t28_1⟩, ⟨t28_0⟩⟩
            ·rw [if_neg c34] at H
             have c34b0 : (a0_5 == 0) = false := beq_eq_false_iff_ne.mpr c34
             have c34b1 : (a0_5 != 0) = true := bne_iff_ne.mpr c34
             by_cases c36 : x3_15 = true
             ·subst c36
              rw [if_pos rfl] at H
              have H' := Aside0.mk H
              clear H
              have hz37 := blk8 BK307.out
              go_wp2
              go_meet
              case rel => exact ⟨_, (false), t28_3, H', ⟨t28_4⟩, ⟨t28_1⟩, ⟨t28_0⟩⟩
             ·replace c36 := Bool.eq_false_iff.mpr c36
              subst c36
              rw [if_neg (show ¬ (false = true) by decide)] at H
              have H' := Aside0.mk H
              clear H
              have hz38 := blk8 BK307.out
              go_wp2
              go_meet
              case rel => exact ⟨_, ((a0_0 != 9)), t28_3, H', ⟨t28_4⟩, ⟨t28_1⟩, ⟨t28_0⟩⟩
         case rest => as_aux_lemma =>
          clear HC29
          (try clear c15); (try clear c28)
          obtain ⟨kq, x74_28, rfl, HA, HJ28, BK307, HB⟩ := hcut
          cases kq with
          | zero => exact absurd HA.out (by simp [cloakroomref10_May.j3])
          | succ kj28 =>
           have H := HA.out
           clear HA
           simp only [cloakroomref10_May.j3] at H
           by_cases c39 : x74_28 = true
           ·subst c39
            rw [if_pos rfl] at H
            obtain rfl := Option.some.inj H
            go_wp2
            go_ret
            exact ⟨t28_2, t28_0⟩
           ·replace c39 := Bool.eq_false_iff.mpr c39
            subst c39
            rw [if_neg (show ¬ (false = true) by decide)] at H
            by_cases c40 : a0_4 = 0
            ·rw [if_pos c40] at H
             have c40b0 : (a0_4 == 0) = true := beq_iff_eq.mpr c40
             have c40b1 : (a0_4 != 0) = false := bne_eq_false_iff_eq.mpr c40
             clear c40
             by_cases c41 : a0_6 = 0
             ·rw [if_pos c41] at H
              have c41b0 : (a0_6 == 0) = true := beq_iff_eq.mpr c41
              have c41b1 : (a0_6 != 0) = false := bne_eq_false_iff_eq.mpr c41
              clear c41
              by_cases c42 : a0_7 = 0
              ·rw [if_pos c42] at H
               have c42b0 : (a0_7 == 0) = true := beq_iff_eq.mpr c42
               have c42b1 : (a0_7 != 0) = false := bne_eq_false_iff_eq.mpr c42
               clear c42
               obtain rfl := Option.some.inj H
               have hz43 := blk8 BK307.out
               go_wp2
               go_ret
               exact ⟨t28_2, t28_0⟩
              ·rw [if_neg c42] at H
               have c42b0 : (a0_7 == 0) = false := beq_eq_false_iff_ne.mpr c42
               have c42b1 : (a0_7 != 0) = true := bne_iff_ne.mpr c42
               by_cases c44 : a0_0 = 6
               ·rw [if_pos c44] at H
                have c44b0 : (a0_0 == 6) = true := beq_iff_eq.mpr c44
                have c44b1 : (a0_0 != 6) = false := bne_eq_false_iff_eq.mpr c44
                clear c44
                obtain rfl := Option.some.inj H
                have hz45 := blk8 BK307.out
                go_wp2
                go_ret
                exact ⟨t28_2, t28_0⟩
               ·rw [if_neg c44] at H
                have c44b0 : (a0_0 == 6) = false := beq_eq_false_iff_ne.mpr c44
                have c44b1 : (a0_0 != 6) = true := bne_iff_ne.mpr c44
                obtain rfl := Option.some.inj H
                have hz46 := blk8 BK307.out
                go_wp2
                go_ret
                exact ⟨t28_2, t28_0⟩
             ·rw [if_neg c41] at H
              have c41b0 : (a0_6 == 0) = false := beq_eq_false_iff_ne.mpr c41
              have c41b1 : (a0_6 != 0) = true := bne_iff_ne.mpr c41
              by_cases c47 : a0_0 = 5
              ·rw [if_pos c47] at H
               have c47b0 : (a0_0 == 5) = true := beq_iff_eq.mpr c47
               have c47b1 : (a0_0 != 5) = false := bne_eq_false_iff_eq.mpr c47
               clear c47
               by_cases c48 : a0_7 = 0
               ·rw [if_pos c48] at H
                have c48b0 : (a0_7 == 0) = true := beq_iff_eq.mpr c48
                have c48b1 : (a0_7 != 0) = false := bne_eq_false_iff_eq.mpr c48
                clear c48
                obtain rfl := Option.some.inj H
                have hz49 := blk8 BK307.out
                go_wp2
                go_ret
                exact ⟨t28_2, t28_0⟩
               ·rw [if_neg c48] at H
                have c48b0 : (a0_7 == 0) = false := beq_eq_false_iff_ne.mpr c48
                have c48b1 : (a0_7 != 0) = true := bne_iff_ne.mpr c48
                by_cases c50 : a0_0 = 6
                ·rw [if_pos c50] at H
                 have c50b0 : (a0_0 == 6) = true := beq_iff_eq.mpr c50
                 have c50b1 : (a0_0 != 6) = false := bne_eq_false_iff_eq.mpr c50
                 clear c50
                 obtain rfl := Option.some.inj H
                 have hz51 := blk8 BK307.out
                 go_wp2
                 go_ret
                 exact ⟨t28_2, t28_0⟩
                ·rw [if_neg c50] at H
                 have c50b0 : (a0_0 == 6) = false := beq_eq_false_iff_ne.mpr c50
                 have c50b1 : (a0_0 != 6) = true := bne_iff_ne.mpr c50
                 obtain rfl := Option.some.inj H
                 have hz52 := blk8 BK307.out
                 go_wp2
                 go_ret
                 exact ⟨t28_2, t28_0⟩
              ·rw [if_neg c47] at H
               have c47b0 : (a0_0 == 5) = false := beq_eq_false_iff_ne.mpr c47
               have c47b1 : (a0_0 != 5) = true := bne_iff_ne.mpr c47
               obtain rfl := Option.some.inj H
               have hz53 := blk8 BK307.out
               go_wp2
               go_ret
               exact ⟨t28_2, t28_0⟩
            ·rw [if_neg c40] at H
             have c40b0 : (a0_4 == 0) = false := beq_eq_false_iff_ne.mpr c40
             have c40b1 : (a0_4 != 0) = true := bne_iff_ne.mpr c40
             by_cases c54 : x3_15 = true
             ·subst c54
              rw [if_pos rfl] at H
              by_cases c55 : a0_6 = 0
              ·rw [if_pos c55] at H
               have c55b0 : (a0_6 == 0) = true := beq_iff_eq.mpr c55
               have c55b1 : (a0_6 != 0) = false := bne_eq_false_iff_eq.mpr c55
               clear c55
               by_cases c56 : a0_7 = 0
               ·rw [if_pos c56] at H
                have c56b0 : (a0_7 == 0) = true := beq_iff_eq.mpr c56
                have c56b1 : (a0_7 != 0) = false := bne_eq_false_iff_eq.mpr c56
                clear c56
                obtain rfl := Option.some.inj H
                have hz57 := blk8 BK307.out
                go_wp2
                go_ret
                exact ⟨t28_2, t28_0⟩
               ·rw [if_neg c56] at H
                have c56b0 : (a0_7 == 0) = false := beq_eq_false_iff_ne.mpr c56
                have c56b1 : (a0_7 != 0) = true := bne_iff_ne.mpr c56
                by_cases c58 : a0_0 = 6
                ·rw [if_pos c58] at H
                 have c58b0 : (a0_0 == 6) = true := beq_iff_eq.mpr c58
                 have c58b1 : (a0_0 != 6) = false := bne_eq_false_iff_eq.mpr c58
                 clear c58
                 obtain rfl := Option.some.inj H
                 have hz59 := blk8 BK307.out
                 go_wp2
                 go_ret
                 exact ⟨t28_2, t28_0⟩
                ·rw [if_neg c58] at H
                 have c58b0 : (a0_0 == 6) = false := beq_eq_false_iff_ne.mpr c58
                 have c58b1 : (a0_0 != 6) = true := bne_iff_ne.mpr c58
                 obtain rfl := Option.some.inj H
                 have hz60 := blk8 BK307.out
                 go_wp2
                 go_ret
                 exact ⟨t28_2, t28_0⟩
              ·rw [if_neg c55] at H
               have c55b0 : (a0_6 == 0) = false := beq_eq_false_iff_ne.mpr c55
               have c55b1 : (a0_6 != 0) = true := bne_iff_ne.mpr c55
               by_cases c61 : a0_0 = 5
               ·rw [if_pos c61] at H
                have c61b0 : (a0_0 == 5) = true := beq_iff_eq.mpr c61
                have c61b1 : (a0_0 != 5) = false := bne_eq_false_iff_eq.mpr c61
                clear c61
                by_cases c62 : a0_7 = 0
                ·rw [if_pos c62] at H
                 have c62b0 : (a0_7 == 0) = true := beq_iff_eq.mpr c62
                 have c62b1 : (a0_7 != 0) = false := bne_eq_false_iff_eq.mpr c62
                 clear c62
                 obtain rfl := Option.some.inj H
                 have hz63 := blk8 BK307.out
                 go_wp2
                 go_ret
                 exact ⟨t28_2, t28_0⟩
                ·rw [if_neg c62] at H
                 have c62b0 : (a0_7 == 0) = false := beq_eq_false_iff_ne.mpr c62
                 have c62b1 : (a0_7 != 0) = true := bne_iff_ne.mpr c62
                 by_cases c64 : a0_0 = 6
                 ·rw [if_pos c64] at H
                  have c64b0 : (a0_0 == 6) = true := beq_iff_eq.mpr c64
                  have c64b1 : (a0_0 != 6) = false := bne_eq_false_iff_eq.mpr c64
                  clear c64
                  obtain rfl := Option.some.inj H
                  have hz65 := blk8 BK307.out
                  go_wp2
                  go_ret
                  exact ⟨t28_2, t28_0⟩
                 ·rw [if_neg c64] at H
                  have c64b0 : (a0_0 == 6) = false := beq_eq_false_iff_ne.mpr c64
                  have c64b1 : (a0_0 != 6) = true := bne_iff_ne.mpr c64
                  obtain rfl := Option.some.inj H
                  have hz66 := blk8 BK307.out
                  go_wp2
                  go_ret
                  exact ⟨t28_2, t28_0⟩
               ·rw [if_neg c61] at H
                have c61b0 : (a0_0 == 5) = false := beq_eq_false_iff_ne.mpr c61
                have c61b1 : (a0_0 != 5) = true := bne_iff_ne.mpr c61
                obtain rfl := Option.some.inj H
                have hz67 := blk8 BK307.out
                go_wp2
                go_ret
                exact ⟨t28_2, t28_0⟩
             ·replace c54 := Bool.eq_false_iff.mpr c54
              subst c54
              rw [if_neg (show ¬ (false = true) by decide)] at H
              obtain rfl := Option.some.inj H
              have hz68 := blk8 BK307.out
              go_wp2
              go_ret
              exact ⟨t28_2, t28_0⟩
end Go.Proofs.YtfoengihiaegoaaDoor.P
