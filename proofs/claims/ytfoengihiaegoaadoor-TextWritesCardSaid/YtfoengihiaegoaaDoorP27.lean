-- written by wip/tools/drive.py, a driver round the kit's printer, and made smaller by wip/tools/slim.py
import Derived.Test.YtfoengihiaegoaaDoorP0
import Derived.Test.YtfoengihiaegoaaDoorP26
namespace Go.Proofs.YtfoengihiaegoaaDoor.P
open Go.RowKit Go.Proofs.YtfoengihiaegoaaDoorW.PrintWords Go.Proofs.YtfoengihiaegoaaDoorW.PrintLast Go.Proofs.YtfoengihiaegoaaDoorW.PrintMore
set_option linter.unusedVariables false
set_option linter.unusedSimpArgs false
theorem t27_0 {p : Prop} (h : p := by repeat (first | (with_reducible first | exact HB.out | apply below_alloc | apply pw_below_drewN | apply below_drew1 | refine below_set ?_ GE303.out) | exact HB.out)) : p := h
theorem t27_1 {p : Prop} (h : p := by (with_reducible repeat (first | refine blk_drewN ?_ _ | refine blk_drew ?_ | refine blk_alloc ?_ _)); exact BK303.out) : p := h
theorem t27_2 {p : Prop} (h : p := by repeat (first | (with_reducible first | exact HB.out | apply below_alloc | apply pw_below_drewN | apply below_drew1) | exact HB.out)) : p := h
theorem t27_3 {p : Prop} (h : p := by first | rfl | (simp; done) | (simp [*]; done) | exact x_nonempty _ | (simp [x_nonempty]; done)) : p := h
theorem t27_4 {p : Prop} (h : p := by first | (with_reducible assumption) | assumption) : p := h
theorem t27_5 {p : Prop} (h : p := by first | rfl | (simp [errW_none, errW_some] <;> rfl) | (simp [*, errW_none, errW_some] <;> rfl)) : p := h
theorem t27_6 {p : Prop} (h : p := by first | omega | exact Nat.le_refl _) : p := h
mutual
def cloakroomref10_keys.j0 : Nat → Int → Bool → Int → Int → List ByteArray → ByteArray → Int → Int → Int → Int → Option (Bool)
 | 0, _, _, _, _, _, _, _, _, _, _ => none
 | k + 1, x3, x32, x304000, x304001, x304002, x304003, x304004, x304005, x304006, x304007 => if x32 = true then (some false) else (cloakroomref10_keys.l0 k x3 0 x304000 x304001 x304002 x304003 x304004 x304005 x304006 x304007)
def cloakroomref10_keys.l0 : Nat → Int → Int → Int → Int → List ByteArray → ByteArray → Int → Int → Int → Int → Option (Bool)
 | 0, _, _, _, _, _, _, _, _, _, _ => none
 | k + 1, x3, x4, x304000, x304001, x304002, x304003, x304004, x304005, x304006, x304007 => if x4 < x3 then (if 0 ≤ x4 then (if x4 < (x304002.length : Int) then (if ((rdOf ByteArray.empty x304002 x4).size : Int) < 1 then (some false) else (if ((rdOf ByteArray.empty x304002 x4).size : Int) > 32 then (some false) else (cloakroomref10_keys.l0 k x3 (wrap64 (x4 + 1)) x304000 x304001 x304002 x304003 x304004 x304005 x304006 x304007))) else (none)) else (none)) else ((cloakroomref10_twice.f k x304002).bind fun t306 => (some (!t306)))
end
def cloakroomref10_keys.f (k : Nat) (a0_0 : Int) (a0_1 : Int) (l0_2 : List ByteArray) (a0_3 : ByteArray) (a0_4 : Int) (a0_5 : Int) (a0_6 : Int) (a0_7 : Int) : Option (Bool) := if a0_0 = 11 then (some ((l0_2.length : Int) == 0)) else (if (l0_2.length : Int) < 1 then (cloakroomref10_keys.j0 k (l0_2.length : Int) true a0_0 a0_1 l0_2 a0_3 a0_4 a0_5 a0_6 a0_7) else (if (l0_2.length : Int) > 8 then (cloakroomref10_keys.j0 k (l0_2.length : Int) true a0_0 a0_1 l0_2 a0_3 a0_4 a0_5 a0_6 a0_7) else (if (l0_2.length : Int) > 1 then (if a0_0 = 1 then (cloakroomref10_keys.j0 k (l0_2.length : Int) false a0_0 a0_1 l0_2 a0_3 a0_4 a0_5 a0_6 a0_7) else (cloakroomref10_keys.j0 k (l0_2.length : Int) (a0_0 != 10) a0_0 a0_1 l0_2 a0_3 a0_4 a0_5 a0_6 a0_7)) else (cloakroomref10_keys.j0 k (l0_2.length : Int) false a0_0 a0_1 l0_2 a0_3 a0_4 a0_5 a0_6 a0_7))))
theorem cloakroomref10_keys.mono_l : ∀ k, (∀ y0 y1 y2 y3 y4 y5 y6 y7 y8 y9, LeO (cloakroomref10_keys.j0 k y0 y1 y2 y3 y4 y5 y6 y7 y8 y9) (cloakroomref10_keys.j0 (k + 1) y0 y1 y2 y3 y4 y5 y6 y7 y8 y9)) ∧ (∀ y0 y1 y2 y3 y4 y5 y6 y7 y8 y9, LeO (cloakroomref10_keys.l0 k y0 y1 y2 y3 y4 y5 y6 y7 y8 y9) (cloakroomref10_keys.l0 (k + 1) y0 y1 y2 y3 y4 y5 y6 y7 y8 y9))
 | 0 => ⟨fun _ _ _ _ _ _ _ _ _ _ r h => by simp [cloakroomref10_keys.j0] at h, fun _ _ _ _ _ _ _ _ _ _ r h => by simp [cloakroomref10_keys.l0] at h⟩
 | k + 1 => by
  obtain ⟨ih0, ih1⟩ := cloakroomref10_keys.mono_l k
  refine ⟨?_, ?_⟩
  all_goals intros
  all_goals (first | unfold cloakroomref10_keys.j0 | unfold cloakroomref10_keys.l0)
  all_goals repeat' first | (with_reducible first | apply ih0 | apply ih1 | apply cloakroomref10_twice.mono | exact LeO.refl _ | exact LeO.none _ | refine LeO.ite ?_ ?_ | refine LeO.bind ?_ (fun _ => ?_)) | exact LeO.none _ | refine LeO.ite ?_ ?_ | refine LeO.bind ?_ (fun _ => ?_)
theorem cloakroomref10_keys.mono : ∀ a0 a1 a2 a3 a4 a5 a6 a7 k, LeO (cloakroomref10_keys.f k a0 a1 a2 a3 a4 a5 a6 a7) (cloakroomref10_keys.f (k + 1) a0 a1 a2 a3 a4 a5 a6 a7) := by
 intro a0 a1 a2 a3 a4 a5 a6 a7 k
 obtain ⟨ih0, ih1⟩ := cloakroomref10_keys.mono_l k
 unfold cloakroomref10_keys.f
 repeat' first | (with_reducible first | apply ih0 | apply ih1 | apply cloakroomref10_twice.mono | exact LeO.refl _ | exact LeO.none _ | refine LeO.ite ?_ ?_ | refine LeO.bind ?_ (fun _ => ?_)) | exact LeO.none _ | refine LeO.ite ?_ ?_ | refine LeO.bind ?_ (fun _ => ?_)
set_option maxHeartbeats 8000000 in
set_option maxRecDepth 100000 in
theorem cloakroomref10_keys.calls (k : Nat) (a0_0 : Int) (a0_1 : Int) (A0_2 : Option Addr) (c0_2 : Nat) (l0_2 : List ByteArray) (a0_3 : ByteArray) (a0_4 : Int) (a0_5 : Int) (a0_6 : Int) (a0_7 : Int) (r : Bool) (w : World) (hr0_2 : Kd.C Kd.string w A0_2 l0_2.length l0_2) (hc0_2 : l0_2.length ≤ c0_2) (h : cloakroomref10_keys.f k a0_0 a0_1 l0_2 a0_3 a0_4 a0_5 a0_6 a0_7 = some r) :
  Calls Tryd.prog 95 #[.agg #[.int .u8 a0_0, .int .i64 a0_1, .slice A0_2 l0_2.length c0_2, .string a0_3, .int .u32 a0_4, .int .i64 a0_5, .int .u64 a0_6, .int .u64 a0_7]] w fun e w' => e = .returned (.bool r) ∧ Below w.heap.size w w' := by
 have hu40 := Tryd.underlying40
 have HR0_2 := Aside0.mk hr0_2
 have HC0_2 := Aside0.mk hc0_2
 clear hr0_2 hc0_2
 have HB := Aside0.mk (Below.refl w.heap.size w)
 have H : (if a0_0 = 11 then (some ((l0_2.length : Int) == 0)) else (if (l0_2.length : Int) < 1 then (cloakroomref10_keys.j0 k (l0_2.length : Int) true a0_0 a0_1 l0_2 a0_3 a0_4 a0_5 a0_6 a0_7) else (if (l0_2.length : Int) > 8 then (cloakroomref10_keys.j0 k (l0_2.length : Int) true a0_0 a0_1 l0_2 a0_3 a0_4 a0_5 a0_6 a0_7) else (if (l0_2.length : Int) > 1 then (if a0_0 = 1 then (cloakroomref10_keys.j0 k (l0_2.length : Int) false a0_0 a0_1 l0_2 a0_3 a0_4 a0_5 a0_6 a0_7) else (cloakroomref10_keys.j0 k (l0_2.length : Int) (a0_0 != 10) a0_0 a0_1 l0_2 a0_3 a0_4 a0_5 a0_6 a0_7)) else (cloakroomref10_keys.j0 k (l0_2.length : Int) false a0_0 a0_1 l0_2 a0_3 a0_4 a0_5 a0_6 a0_7))))) = some r := h
 clear h
 by_cases c2 : a0_0 = 11
 ·rw [if_pos c2] at H
  have c2b0 : (a0_0 == 11) = true := beq_iff_eq.mpr c2
  have c2b1 : (a0_0 != 11) = false := bne_eq_false_iff_eq.mpr c2
  clear c2
  obtain rfl := Option.some.inj H
  go_enter Tryd.func95, Tryd.ntmps95
  go_wp2_with (first | ((with_reducible refine gate_dst (N := 1) rfl ?_); (try (refine gate_guard (by rfl) ?_; dsimp only)); refine box_event ?hg (N := 1) ?hd (cs := #[.int .u8 a0_0, .int .i64 a0_1, .slice A0_2 l0_2.length c0_2, .string a0_3, .int .u32 a0_4, .int .i64 a0_5, .int .u64 a0_6, .int .u64 a0_7]) (t := 40) ?hr ?_; (case hd => rfl); (case hg => rfl); (case hr => first | (go_simp; done) | (go_simp; rfl)); intro gb303 hg w3 hbox hb; have n0_ := Aside0.mk (below_step t27_2 hb); have n1_ := Aside0.mk (hbox); have n2_ := Aside0.mk ((by rw [hg]; exact (below_size t27_2) : w.heap.size ≤ gb303)); have n3_ := Aside0.mk ((by rw [hg]; exact (below_size t27_2) : w.heap.size ≤ gb303)); clear HB; have HB := n0_; have BK303 := n1_; have GW303 := n2_; have GE303 := n3_; clear n0_ n1_ n2_ n3_; clear hb hbox hg; have hz4 := blk8 BK303.out))
  go_ret
  exact ⟨t27_5, t27_0⟩
 ·rw [if_neg c2] at H
  have c2b0 : (a0_0 == 11) = false := beq_eq_false_iff_ne.mpr c2
  have c2b1 : (a0_0 != 11) = true := bne_iff_ne.mpr c2
  have HC5 := Aside0.mk H
  clear H
  go_enter Tryd.func95, Tryd.ntmps95
  go_upto_region 4 with (first | ((with_reducible refine gate_dst (N := 1) rfl ?_); (try (refine gate_guard (by rfl) ?_; dsimp only)); refine box_event ?hg (N := 1) ?hd (cs := #[.int .u8 a0_0, .int .i64 a0_1, .slice A0_2 l0_2.length c0_2, .string a0_3, .int .u32 a0_4, .int .i64 a0_5, .int .u64 a0_6, .int .u64 a0_7]) (t := 40) ?hr ?_; (case hd => rfl); (case hg => rfl); (case hr => first | (go_simp; done) | (go_simp; rfl)); intro gb303 hg w6 hbox hb; have n0_ := Aside0.mk (below_step t27_2 hb); have n1_ := Aside0.mk (hbox); have n2_ := Aside0.mk ((by rw [hg]; exact (below_size t27_2) : w.heap.size ≤ gb303)); have n3_ := Aside0.mk ((by rw [hg]; exact (below_size t27_2) : w.heap.size ≤ gb303)); clear HB; have HB := n0_; have BK303 := n1_; have GW303 := n2_; have GE303 := n3_; clear n0_ n1_ n2_ n3_; clear hb hbox hg; have hz7 := blk8 BK303.out))
  (try simp only [Act.put, List.setIfInBounds_toArray, List.set_cons_zero, List.set_cons_succ])
  go_cut [32] (fun v32 wc => ∃ (kq : Nat) (x32_4 : Bool), v32 = .bool x32_4 ∧ Aside0 (cloakroomref10_keys.j0 kq (l0_2.length : Int) x32_4 a0_0 a0_1 l0_2 a0_3 a0_4 a0_5 a0_6 a0_7 = some r) ∧ Aside0 (kq ≤ k) ∧ Aside0 (wc.heap[gb303]? = some (.cells #[.int .u8 a0_0, .int .i64 a0_1, (.slice A0_2 l0_2.length c0_2), .string a0_3, .int .u32 a0_4, .int .i64 a0_5, .int .u64 a0_6, .int .u64 a0_7] 40 (0, 0))) ∧ Aside0 (Below w.heap.size w wc))
  case first =>
   have H := HC5.out
   clear HC5
   by_cases c8 : (l0_2.length : Int) < 1
   ·rw [if_pos c8] at H
    have c8b0 : decide ((l0_2.length : Int) < 1) = true := decide_eq_true c8
    have c8b1 : decide (l0_2.length < 1) = true := decide_eq_true (by omega)
    clear c8
    (first | rw [c8b0] | (simp only [i64_w, i32_w]; rw [c8b0]) | rw [c8b1] | skip)
    have H' := Aside0.mk H
    clear H
    go_wp2
    go_meet
    case rel => exact ⟨_, (true), t27_3, H', ⟨t27_6⟩, ⟨t27_1⟩, ⟨t27_0⟩⟩
   ·rw [if_neg c8] at H
    have c8b0 : decide ((l0_2.length : Int) < 1) = false := decide_eq_false c8
    have c8b1 : decide (l0_2.length < 1) = false := decide_eq_false (by omega)
    clear c8
    (first | rw [c8b0] | (simp only [i64_w, i32_w]; rw [c8b0]) | rw [c8b1] | skip)
    by_cases c9 : (l0_2.length : Int) > 8
    ·rw [if_pos c9] at H
     have c9b0 : decide (8 < (l0_2.length : Int)) = true := decide_eq_true c9
     have c9b1 : decide (8 < l0_2.length) = true := decide_eq_true (by omega)
     clear c9
     have H' := Aside0.mk H
     clear H
     go_wp2
     go_meet
     case rel => exact ⟨_, (true), t27_3, H', ⟨t27_6⟩, ⟨t27_1⟩, ⟨t27_0⟩⟩
    ·rw [if_neg c9] at H
     have c9b0 : decide (8 < (l0_2.length : Int)) = false := decide_eq_false c9
     have c9b1 : decide (8 < l0_2.length) = false := decide_eq_false (by omega)
     clear c9
     by_cases c10 : (l0_2.length : Int) > 1
     ·rw [if_pos c10] at H
      have c10b0 : decide (1 < (l0_2.length : Int)) = true := decide_eq_true c10
      have c10b1 : decide (1 < l0_2.length) = true := decide_eq_true (by omega)
      clear c10
      by_cases c11 : a0_0 = 1
      ·rw [if_pos c11] at H
       have c11b0 : (a0_0 == 1) = true := beq_iff_eq.mpr c11
       have c11b1 : (a0_0 != 1) = false := bne_eq_false_iff_eq.mpr c11
       clear c11
       have H' := Aside0.mk H
       clear H
       have hz12 := blk8 BK303.out
       go_wp2
       go_meet
       case rel => exact ⟨_, (false), t27_3, H', ⟨t27_6⟩, ⟨t27_1⟩, ⟨t27_0⟩⟩
      ·rw [if_neg c11] at H
       have c11b0 : (a0_0 == 1) = false := beq_eq_false_iff_ne.mpr c11
       have c11b1 : (a0_0 != 1) = true := bne_iff_ne.mpr c11
       have H' := Aside0.mk H
       clear H
       have hz13 := blk8 BK303.out
       go_wp2
       go_meet
       case rel => exact ⟨_, ((a0_0 != 10)), t27_3, H', ⟨t27_6⟩, ⟨t27_1⟩, ⟨t27_0⟩⟩
     ·rw [if_neg c10] at H
      have c10b0 : decide (1 < (l0_2.length : Int)) = false := decide_eq_false c10
      have c10b1 : decide (1 < l0_2.length) = false := decide_eq_false (by omega)
      clear c10
      have H' := Aside0.mk H
      clear H
      go_wp2
      go_meet
      case rel => exact ⟨_, (false), t27_3, H', ⟨t27_6⟩, ⟨t27_1⟩, ⟨t27_0⟩⟩
  case rest => as_aux_lemma =>
   clear HC5
   (try clear c2); (try clear c2b0); (try clear c2b1); (try clear hz7)
   obtain ⟨kq, x32_4, rfl, HA, HJ4, BK303, HB⟩ := hcut
   cases kq with
   | zero => exact absurd HA.out (by simp [cloakroomref10_keys.j0])
   | succ kj4 =>
    have H := HA.out
    clear HA
    simp only [cloakroomref10_keys.j0] at H
    by_cases c14 : x32_4 = true
    ·subst c14
     rw [if_pos rfl] at H
     obtain rfl := Option.some.inj H
     go_wp2
     go_ret
     exact ⟨t27_5, t27_0⟩
    ·replace c14 := Bool.eq_false_iff.mpr c14
     subst c14
     rw [if_neg (show ¬ (false = true) by decide)] at H
     have H' := Aside0.mk H
     clear H
     go_wp2
     go_loopg [4] kj4 (fun kq v4 w' => ∃ (x4_2 : Int), v4 = .int .i64 x4_2 ∧ Aside0 (cloakroomref10_keys.l0 kq (l0_2.length : Int) x4_2 a0_0 a0_1 l0_2 a0_3 a0_4 a0_5 a0_6 a0_7 = some r) ∧ Aside0 (kq ≤ kj4) ∧ Aside0 (w'.heap[gb303]? = some (.cells #[.int .u8 a0_0, .int .i64 a0_1, (.slice A0_2 l0_2.length c0_2), .string a0_3, .int .u32 a0_4, .int .i64 a0_5, .int .u64 a0_6, .int .u64 a0_7] 40 (0, 0))) ∧ Aside0 (Below w.heap.size w w'))
     case atStart => exact ⟨(0), t27_3, H', ⟨Nat.le_refl _⟩, ⟨t27_1⟩, ⟨t27_0⟩⟩
     case round =>
      clear H'
      (try clear c2); (try clear c2b0); (try clear c2b1); (try clear c14); (try clear hz7)
      obtain ⟨x4_2, rfl, HA, HK2, BK303, HB⟩ := hrel
      cases gk with
      | zero => exact absurd HA.out (by simp [cloakroomref10_keys.l0])
      | succ k2 =>
       have H := HA.out
       clear HA
       simp only [cloakroomref10_keys.l0] at H
       by_cases c15 : x4_2 < (l0_2.length : Int)
       ·rw [if_pos c15] at H
        have c15b0 : decide (x4_2 < (l0_2.length : Int)) = true := decide_eq_true c15
        clear c15
        by_cases c16 : 0 ≤ x4_2
        ·rw [if_pos c16] at H
         have c16b0 : decide (0 ≤ x4_2) = true := decide_eq_true c16
         clear c16
         by_cases c17 : x4_2 < (l0_2.length : Int)
         ·rw [if_pos c17] at H
          have c17b0 : decide (x4_2 < (l0_2.length : Int)) = true := decide_eq_true c17
          clear c17
          by_cases c18 : ((rdOf ByteArray.empty l0_2 x4_2).size : Int) < 1
          ·rw [if_pos c18] at H
           have c18b0 : decide (((rdOf ByteArray.empty l0_2 x4_2).size : Int) < 1) = true := decide_eq_true c18
           have c18b1 : decide ((rdOf ByteArray.empty l0_2 x4_2).size < 1) = true := decide_eq_true (by omega)
           clear c18
           obtain rfl := Option.some.inj H
           have hz19 := blk8 BK303.out
           have p304 : 0 ≤ (x4_2 : Int) := of_decide_eq_true t27_4
           have q304 : x4_2 < (l0_2.length : Int) := of_decide_eq_true t27_4
           obtain ⟨ad304, e304, hx304_0⟩ := Kd.at_string HR0_2.out x4_2 p304 q304
           cases e304
           replace hx304_0 := (HB.out.cell (World.block_lt_of_cell? w _ hx304_0)).trans hx304_0
           replace p304 := eq_true p304
           replace q304 := eq_true q304
           go_wp2
           go_ret
           exact ⟨t27_5, t27_0⟩
          ·rw [if_neg c18] at H
           have c18b0 : decide (((rdOf ByteArray.empty l0_2 x4_2).size : Int) < 1) = false := decide_eq_false c18
           have c18b1 : decide ((rdOf ByteArray.empty l0_2 x4_2).size < 1) = false := decide_eq_false (by omega)
           clear c18
           by_cases c20 : ((rdOf ByteArray.empty l0_2 x4_2).size : Int) > 32
           ·rw [if_pos c20] at H
            have c20b0 : decide (32 < ((rdOf ByteArray.empty l0_2 x4_2).size : Int)) = true := decide_eq_true c20
            have c20b1 : decide (32 < (rdOf ByteArray.empty l0_2 x4_2).size) = true := decide_eq_true (by omega)
            clear c20
            obtain rfl := Option.some.inj H
            have hz21 := blk8 BK303.out
            have p304 : 0 ≤ (x4_2 : Int) := of_decide_eq_true t27_4
            have q304 : x4_2 < (l0_2.length : Int) := of_decide_eq_true t27_4
            obtain ⟨ad304, e304, hx304_0⟩ := Kd.at_string HR0_2.out x4_2 p304 q304
            cases e304
            replace hx304_0 := (HB.out.cell (World.block_lt_of_cell? w _ hx304_0)).trans hx304_0
            replace p304 := eq_true p304
            replace q304 := eq_true q304
            have p305 : 0 ≤ (x4_2 : Int) := of_decide_eq_true t27_4
            have q305 : x4_2 < (l0_2.length : Int) := of_decide_eq_true t27_4
            obtain ⟨ad305, e305, hx305_0⟩ := Kd.at_string HR0_2.out x4_2 p305 q305
            obtain rfl : ad304 = ad305 := (by injection e305)
            replace hx305_0 := (HB.out.cell (World.block_lt_of_cell? w _ hx305_0)).trans hx305_0
            replace p305 := eq_true p305
            replace q305 := eq_true q305
            go_wp2
            go_ret
            exact ⟨t27_5, t27_0⟩
           ·rw [if_neg c20] at H
            have c20b0 : decide (32 < ((rdOf ByteArray.empty l0_2 x4_2).size : Int)) = false := decide_eq_false c20
            have c20b1 : decide (32 < (rdOf ByteArray.empty l0_2 x4_2).size) = false := decide_eq_false (by omega)
            clear c20
            have H' := Aside0.mk H
            clear H
            have hz22 := blk8 BK303.out
            have p304 : 0 ≤ (x4_2 : Int) := of_decide_eq_true t27_4
            have q304 : x4_2 < (l0_2.length : Int) := of_decide_eq_true t27_4
            obtain ⟨ad304, e304, hx304_0⟩ := Kd.at_string HR0_2.out x4_2 p304 q304
            cases e304
            replace hx304_0 := (HB.out.cell (World.block_lt_of_cell? w _ hx304_0)).trans hx304_0
            replace p304 := eq_true p304
            replace q304 := eq_true q304
            have p305 : 0 ≤ (x4_2 : Int) := of_decide_eq_true t27_4
            have q305 : x4_2 < (l0_2.length : Int) := of_decide_eq_true t27_4
            obtain ⟨ad305, e305, hx305_0⟩ := Kd.at_string HR0_2.out x4_2 p305 q305
            obtain rfl : ad304 = ad305 := (by injection e305)
            replace hx305_0 := (HB.out.cell (World.block_lt_of_cell? w _ hx305_0)).trans hx305_0
            replace p305 := eq_true p305
            replace q305 := eq_true q305
            go_wp2
            go_roundg k2
            case measure => have := HJ4.out; have := HK2.out; omega
            case rel => exact ⟨(wrap64 (x4_2 + 1)), t27_3, H', ⟨by have := HJ4.out; have := HK2.out; omega⟩, ⟨t27_1⟩, ⟨t27_0⟩⟩
         ·rw [if_neg c17] at H
          exact absurd H (by simp)
        ·rw [if_neg c16] at H
         exact absurd H (by simp)
       ·rw [if_neg c15] at H
        have c15b0 : decide (x4_2 < (l0_2.length : Int)) = false := decide_eq_false c15
        clear c15
        replace H := Option.bind_eq_some_iff.mp H
        obtain ⟨t306, A230, H⟩ := H
        replace H : (some (!t306)) = some r := H
        have A23 := Aside0.mk A230
        clear A230
        obtain rfl := Option.some.inj H
        have hz24 := blk8 BK303.out
        go_wp2_with (first | ((with_reducible refine gate_callee (f := 110) rfl ?_); refine goesL_ (some 56) rfl rfl Tryd.func110 (by kernel_rfl) rfl #[.slice A0_2 l0_2.length c0_2] rfl (by (try simp only [List.map_toArray, List.map_cons, List.map_nil]); first | done | rfl | (simp only [List.length_drop, List.length_take]; rfl)) ?_; (with_reducible refine (cloakroomref10_twice.calls k2 _ _ l0_2 t306 _ ?side1 ?side2 A23.out).mono ?_); (case side1 => repeat (first | exact (Kd.C_below HR0_2.out HB.out) | (with_reducible refine Kd.C_alloc ?_ _) | (with_reducible refine Kd.C_drewN ?_ _) | (with_reducible refine Kd.C_drew ?_))); (case side2 => exact HC0_2.out); rintro e w' ⟨rfl, ⟨nd, rfl⟩⟩; refine ⟨_, rfl, ?_⟩))
        go_ret
        exact ⟨t27_5, t27_0⟩
end Go.Proofs.YtfoengihiaegoaaDoor.P
