-- written by wip/tools/drive.py, a driver round the kit's printer, and made smaller by wip/tools/slim.py
import Derived.Test.YtfoengihiaegoaaDoorP0
namespace Go.Proofs.YtfoengihiaegoaaDoor.P
open Go.RowKit Go.Proofs.YtfoengihiaegoaaDoorW.PrintWords Go.Proofs.YtfoengihiaegoaaDoorW.PrintLast Go.Proofs.YtfoengihiaegoaaDoorW.PrintMore
set_option linter.unusedVariables false
set_option linter.unusedSimpArgs false
theorem t15_0 {p : Prop} (h : p := by repeat (first | (with_reducible first | exact HB.out | apply below_alloc | apply pw_below_drewN | apply below_drew1 | refine below_set ?_ GE158.out) | exact HB.out)) : p := h
theorem t15_1 {p : Prop} (h : p := by (with_reducible repeat (first | refine blk_drewN ?_ _ | refine blk_drew ?_ | refine blk_alloc ?_ _)); exact BK158.out) : p := h
theorem t15_2 {p : Prop} (h : p := by first | rfl | (simp; done) | (simp [*]; done) | exact x_nonempty _ | (simp [x_nonempty]; done)) : p := h
theorem t15_3 {p : Prop} (h : p := by repeat (first | (with_reducible first | exact HB.out | apply below_alloc | apply pw_below_drewN | apply below_drew1) | exact HB.out)) : p := h
theorem t15_4 {p : Prop} (h : p := by first | rfl | (simp [errW_none, errW_some] <;> rfl) | (simp [*, errW_none, errW_some] <;> rfl)) : p := h
theorem t15_5 {p : Prop} (h : p := by first | (with_reducible assumption) | assumption) : p := h
mutual
def cloakroomref10_Long.j0 : Nat → Bool → Int → Int → List ByteArray → ByteArray → Int → Int → Int → Int → Option (Bool)
 | 0, _, _, _, _, _, _, _, _, _ => none
 | k + 1, x15, x159000, x159001, x159002, x159003, x159004, x159005, x159006, x159007 => if x15 = true then (some true) else (cloakroomref10_Long.l0 k 0 x159000 x159001 x159002 x159003 x159004 x159005 x159006 x159007)
def cloakroomref10_Long.l0 : Nat → Int → Int → Int → List ByteArray → ByteArray → Int → Int → Int → Int → Option (Bool)
 | 0, _, _, _, _, _, _, _, _, _ => none
 | k + 1, x4, x159000, x159001, x159002, x159003, x159004, x159005, x159006, x159007 => if x4 < (x159002.length : Int) then (if 0 ≤ x4 then (if ((rdOf ByteArray.empty x159002 x4).size : Int) > 200 then (some true) else (cloakroomref10_Long.l0 k (wrap64 (x4 + 1)) x159000 x159001 x159002 x159003 x159004 x159005 x159006 x159007)) else (none)) else (some false)
end
def cloakroomref10_Long.f (k : Nat) (a0_0 : Int) (a0_1 : Int) (l0_2 : List ByteArray) (a0_3 : ByteArray) (a0_4 : Int) (a0_5 : Int) (a0_6 : Int) (a0_7 : Int) : Option (Bool) := if (a0_3.size : Int) > 2000 then (cloakroomref10_Long.j0 k true a0_0 a0_1 l0_2 a0_3 a0_4 a0_5 a0_6 a0_7) else (cloakroomref10_Long.j0 k (decide ((l0_2.length : Int) > 40)) a0_0 a0_1 l0_2 a0_3 a0_4 a0_5 a0_6 a0_7)
theorem cloakroomref10_Long.mono_l : ∀ k, (∀ y0 y1 y2 y3 y4 y5 y6 y7 y8, LeO (cloakroomref10_Long.j0 k y0 y1 y2 y3 y4 y5 y6 y7 y8) (cloakroomref10_Long.j0 (k + 1) y0 y1 y2 y3 y4 y5 y6 y7 y8)) ∧ (∀ y0 y1 y2 y3 y4 y5 y6 y7 y8, LeO (cloakroomref10_Long.l0 k y0 y1 y2 y3 y4 y5 y6 y7 y8) (cloakroomref10_Long.l0 (k + 1) y0 y1 y2 y3 y4 y5 y6 y7 y8))
 | 0 => ⟨fun _ _ _ _ _ _ _ _ _ r h => by simp [cloakroomref10_Long.j0] at h, fun _ _ _ _ _ _ _ _ _ r h => by simp [cloakroomref10_Long.l0] at h⟩
 | k + 1 => by
  obtain ⟨ih0, ih1⟩ := cloakroomref10_Long.mono_l k
  refine ⟨?_, ?_⟩
  all_goals intros
  all_goals (first | unfold cloakroomref10_Long.j0 | unfold cloakroomref10_Long.l0)
  all_goals repeat' first | (with_reducible first | apply ih0 | apply ih1 | exact LeO.refl _ | exact LeO.none _ | refine LeO.ite ?_ ?_ | refine LeO.bind ?_ (fun _ => ?_)) | exact LeO.none _ | refine LeO.ite ?_ ?_ | refine LeO.bind ?_ (fun _ => ?_)
theorem cloakroomref10_Long.mono : ∀ a0 a1 a2 a3 a4 a5 a6 a7 k, LeO (cloakroomref10_Long.f k a0 a1 a2 a3 a4 a5 a6 a7) (cloakroomref10_Long.f (k + 1) a0 a1 a2 a3 a4 a5 a6 a7) := by
 intro a0 a1 a2 a3 a4 a5 a6 a7 k
 obtain ⟨ih0, ih1⟩ := cloakroomref10_Long.mono_l k
 unfold cloakroomref10_Long.f
 repeat' first | (with_reducible first | apply ih0 | apply ih1 | exact LeO.refl _ | exact LeO.none _ | refine LeO.ite ?_ ?_ | refine LeO.bind ?_ (fun _ => ?_)) | exact LeO.none _ | refine LeO.ite ?_ ?_ | refine LeO.bind ?_ (fun _ => ?_)
set_option maxHeartbeats 8000000 in
set_option maxRecDepth 100000 in
theorem cloakroomref10_Long.calls (k : Nat) (a0_0 : Int) (a0_1 : Int) (A0_2 : Option Addr) (c0_2 : Nat) (l0_2 : List ByteArray) (a0_3 : ByteArray) (a0_4 : Int) (a0_5 : Int) (a0_6 : Int) (a0_7 : Int) (r : Bool) (w : World) (hr0_2 : Kd.C Kd.string w A0_2 l0_2.length l0_2) (hc0_2 : l0_2.length ≤ c0_2) (h : cloakroomref10_Long.f k a0_0 a0_1 l0_2 a0_3 a0_4 a0_5 a0_6 a0_7 = some r) :
  Calls Tryd.prog 13 #[.agg #[.int .u8 a0_0, .int .i64 a0_1, .slice A0_2 l0_2.length c0_2, .string a0_3, .int .u32 a0_4, .int .i64 a0_5, .int .u64 a0_6, .int .u64 a0_7]] w fun e w' => e = .returned (.bool r) ∧ Below w.heap.size w w' := by
 have hu40 := Tryd.underlying40
 have HR0_2 := Aside0.mk hr0_2
 have HC0_2 := Aside0.mk hc0_2
 clear hr0_2 hc0_2
 have HB := Aside0.mk (Below.refl w.heap.size w)
 have H : (if (a0_3.size : Int) > 2000 then (cloakroomref10_Long.j0 k true a0_0 a0_1 l0_2 a0_3 a0_4 a0_5 a0_6 a0_7) else (cloakroomref10_Long.j0 k (decide ((l0_2.length : Int) > 40)) a0_0 a0_1 l0_2 a0_3 a0_4 a0_5 a0_6 a0_7)) = some r := h
 clear h
 have HC2 := Aside0.mk H
 clear H
 go_enter Tryd.func13, Tryd.ntmps13
 go_upto_region 2 with (first | ((with_reducible refine gate_dst (N := 1) rfl ?_); (try (refine gate_guard (by rfl) ?_; dsimp only)); refine box_event ?hg (N := 1) ?hd (cs := #[.int .u8 a0_0, .int .i64 a0_1, .slice A0_2 l0_2.length c0_2, .string a0_3, .int .u32 a0_4, .int .i64 a0_5, .int .u64 a0_6, .int .u64 a0_7]) (t := 40) ?hr ?_; (case hd => rfl); (case hg => rfl); (case hr => first | (go_simp; done) | (go_simp; rfl)); intro gb158 hg w3 hbox hb; have n0_ := Aside0.mk (below_step t15_3 hb); have n1_ := Aside0.mk (hbox); have n2_ := Aside0.mk ((by rw [hg]; exact (below_size t15_3) : w.heap.size ≤ gb158)); have n3_ := Aside0.mk ((by rw [hg]; exact (below_size t15_3) : w.heap.size ≤ gb158)); clear HB; have HB := n0_; have BK158 := n1_; have GW158 := n2_; have GE158 := n3_; clear n0_ n1_ n2_ n3_; clear hb hbox hg; have hz4 := blk8 BK158.out))
 (try simp only [Act.put, List.setIfInBounds_toArray, List.set_cons_zero, List.set_cons_succ])
 go_cut [15] (fun v15 wc => ∃ (kq : Nat) (x15_1 : Bool), v15 = .bool x15_1 ∧ Aside0 (cloakroomref10_Long.j0 kq x15_1 a0_0 a0_1 l0_2 a0_3 a0_4 a0_5 a0_6 a0_7 = some r) ∧ Aside0 (kq ≤ k) ∧ Aside0 (wc.heap[gb158]? = some (.cells #[.int .u8 a0_0, .int .i64 a0_1, (.slice A0_2 l0_2.length c0_2), .string a0_3, .int .u32 a0_4, .int .i64 a0_5, .int .u64 a0_6, .int .u64 a0_7] 40 (0, 0))) ∧ Aside0 (Below w.heap.size w wc))
 case first =>
  have H := HC2.out
  clear HC2
  by_cases c5 : (a0_3.size : Int) > 2000
  ·rw [if_pos c5] at H
   have c5b0 : decide (2000 < (a0_3.size : Int)) = true := decide_eq_true c5
   have c5b1 : decide (2000 < a0_3.size) = true := decide_eq_true (by omega)
   clear c5
   (first | rw [c5b0] | (simp only [i64_w, i32_w]; rw [c5b0]) | rw [c5b1] | skip)
   have H' := Aside0.mk H
   clear H
   go_wp2
   go_meet
   case rel => exact ⟨_, (true), t15_2, H', ⟨by first | omega | exact Nat.le_refl _⟩, ⟨t15_1⟩, ⟨t15_0⟩⟩
  ·rw [if_neg c5] at H
   have c5b0 : decide (2000 < (a0_3.size : Int)) = false := decide_eq_false c5
   have c5b1 : decide (2000 < a0_3.size) = false := decide_eq_false (by omega)
   clear c5
   (first | rw [c5b0] | (simp only [i64_w, i32_w]; rw [c5b0]) | rw [c5b1] | skip)
   have H' := Aside0.mk H
   clear H
   have hz6 := blk8 BK158.out
   go_wp2
   go_meet
   case rel => exact ⟨_, (decide ((l0_2.length : Int) > 40)), t15_2, H', ⟨by first | omega | exact Nat.le_refl _⟩, ⟨t15_1⟩, ⟨t15_0⟩⟩
 case rest => as_aux_lemma =>
  clear HC2
  (try clear hz4)
  obtain ⟨kq, x15_1, rfl, HA, HJ1, BK158, HB⟩ := hcut
  cases kq with
  | zero => exact absurd HA.out (by simp [cloakroomref10_Long.j0])
  | succ kj1 =>
   have H := HA.out
   clear HA
   simp only [cloakroomref10_Long.j0] at H
   by_cases c7 : x15_1 = true
   ·subst c7
    rw [if_pos rfl] at H
    obtain rfl := Option.some.inj H
    go_wp2
    go_ret
    exact ⟨t15_4, t15_0⟩
   ·replace c7 := Bool.eq_false_iff.mpr c7
    subst c7
    rw [if_neg (show ¬ (false = true) by decide)] at H
    have H' := Aside0.mk H
    clear H
    go_wp2
    go_loopg [4] kj1 (fun kq v4 w' => ∃ (x4_2 : Int), v4 = .int .i64 x4_2 ∧ Aside0 (cloakroomref10_Long.l0 kq x4_2 a0_0 a0_1 l0_2 a0_3 a0_4 a0_5 a0_6 a0_7 = some r) ∧ Aside0 (kq ≤ kj1) ∧ Aside0 (w'.heap[gb158]? = some (.cells #[.int .u8 a0_0, .int .i64 a0_1, (.slice A0_2 l0_2.length c0_2), .string a0_3, .int .u32 a0_4, .int .i64 a0_5, .int .u64 a0_6, .int .u64 a0_7] 40 (0, 0))) ∧ Aside0 (Below w.heap.size w w'))
    case atStart => exact ⟨(0), t15_2, H', ⟨Nat.le_refl _⟩, ⟨t15_1⟩, ⟨t15_0⟩⟩
    case round =>
     clear H'
     (try clear c7); (try clear hz4)
     obtain ⟨x4_2, rfl, HA, HK2, BK158, HB⟩ := hrel
     cases gk with
     | zero => exact absurd HA.out (by simp [cloakroomref10_Long.l0])
     | succ k2 =>
      have H := HA.out
      clear HA
      simp only [cloakroomref10_Long.l0] at H
      by_cases c8 : x4_2 < (l0_2.length : Int)
      ·rw [if_pos c8] at H
       have c8b0 : decide (x4_2 < (l0_2.length : Int)) = true := decide_eq_true c8
       clear c8
       by_cases c9 : 0 ≤ x4_2
       ·rw [if_pos c9] at H
        have c9b0 : decide (0 ≤ x4_2) = true := decide_eq_true c9
        clear c9
        by_cases c10 : ((rdOf ByteArray.empty l0_2 x4_2).size : Int) > 200
        ·rw [if_pos c10] at H
         have c10b0 : decide (200 < ((rdOf ByteArray.empty l0_2 x4_2).size : Int)) = true := decide_eq_true c10
         have c10b1 : decide (200 < (rdOf ByteArray.empty l0_2 x4_2).size) = true := decide_eq_true (by omega)
         clear c10
         obtain rfl := Option.some.inj H
         have hz11 := blk8 BK158.out
         have p159 : 0 ≤ (x4_2 : Int) := of_decide_eq_true t15_5
         have q159 : x4_2 < (l0_2.length : Int) := of_decide_eq_true t15_5
         obtain ⟨ad159, e159, hx159_0⟩ := Kd.at_string HR0_2.out x4_2 p159 q159
         cases e159
         replace hx159_0 := (HB.out.cell (World.block_lt_of_cell? w _ hx159_0)).trans hx159_0
         replace p159 := eq_true p159
         replace q159 := eq_true q159
         go_wp2
         go_ret
         exact ⟨t15_4, t15_0⟩
        ·rw [if_neg c10] at H
         have c10b0 : decide (200 < ((rdOf ByteArray.empty l0_2 x4_2).size : Int)) = false := decide_eq_false c10
         have c10b1 : decide (200 < (rdOf ByteArray.empty l0_2 x4_2).size) = false := decide_eq_false (by omega)
         clear c10
         have H' := Aside0.mk H
         clear H
         have hz12 := blk8 BK158.out
         have p159 : 0 ≤ (x4_2 : Int) := of_decide_eq_true t15_5
         have q159 : x4_2 < (l0_2.length : Int) := of_decide_eq_true t15_5
         obtain ⟨ad159, e159, hx159_0⟩ := Kd.at_string HR0_2.out x4_2 p159 q159
         cases e159
         replace hx159_0 := (HB.out.cell (World.block_lt_of_cell? w _ hx159_0)).trans hx159_0
         replace p159 := eq_true p159
         replace q159 := eq_true q159
         go_wp2
         go_roundg k2
         case measure => have := HJ1.out; have := HK2.out; omega
         case rel => exact ⟨(wrap64 (x4_2 + 1)), t15_2, H', ⟨by have := HJ1.out; have := HK2.out; omega⟩, ⟨t15_1⟩, ⟨t15_0⟩⟩
       ·rw [if_neg c9] at H
        exact absurd H (by simp)
      ·rw [if_neg c8] at H
       have c8b0 : decide (x4_2 < (l0_2.length : Int)) = false := decide_eq_false c8
       clear c8
       obtain rfl := Option.some.inj H
       have hz13 := blk8 BK158.out
       go_wp2
       go_ret
       exact ⟨t15_4, t15_0⟩
end Go.Proofs.YtfoengihiaegoaaDoor.P
