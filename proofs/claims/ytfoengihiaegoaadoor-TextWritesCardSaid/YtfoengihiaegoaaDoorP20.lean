-- written by wip/tools/drive.py, a driver round the kit's printer, and made smaller by wip/tools/slim.py
import Derived.Test.YtfoengihiaegoaaDoorP0
import Derived.Test.YtfoengihiaegoaaDoorP19
namespace Go.Proofs.YtfoengihiaegoaaDoor.P
open Go.RowKit Go.Proofs.YtfoengihiaegoaaDoorW.PrintWords Go.Proofs.YtfoengihiaegoaaDoorW.PrintLast Go.Proofs.YtfoengihiaegoaaDoorW.PrintMore
set_option linter.unusedVariables false
set_option linter.unusedSimpArgs false
theorem t20_0 {p : Prop} (h : p := by repeat (first | (with_reducible first | exact HB.out | apply below_alloc | apply pw_below_drewN | apply below_drew1 | refine below_set ?_ GE173.out) | exact HB.out)) : p := h
theorem t20_1 {p : Prop} (h : p := by first | rfl | (simp; done) | (simp [*]; done) | exact x_nonempty _ | (simp [x_nonempty]; done)) : p := h
theorem t20_2 {p : Prop} (h : p := by (with_reducible repeat (first | refine blk_drewN ?_ _ | refine blk_drew ?_ | refine blk_alloc ?_ _)); exact BK173.out) : p := h
theorem t20_3 {p : Prop} (h : p := by first | (with_reducible assumption) | assumption) : p := h
theorem t20_4 {p : Prop} (h : p := by first | rfl | (simp [errW_none, errW_some] <;> rfl) | (simp [*, errW_none, errW_some] <;> rfl)) : p := h
theorem t20_5 {p : Prop} (h : p := by repeat (first | (with_reducible first | exact HB.out | apply below_alloc | apply pw_below_drewN | apply below_drew1) | exact HB.out)) : p := h
theorem t20_6 {p : Prop} (h : p := by first | (rw [show (l0_2.take (x32_3 : Int).toNat).length = x32_3.toNat from (by rw [List.length_take]; have h_ : (x32_3 : Int) ≤ (l0_2.length : Int) := of_decide_eq_true t20_3; omega)] <;> rfl) | rfl | rfl) : p := h
mutual
def order_keyed.j0 : Nat → Int → Int → Int → Int → List ByteArray → ByteArray → Int → Int → Int → Int → Option (Bool)
 | 0, _, _, _, _, _, _, _, _, _, _ => none
 | k + 1, x5, x6, x174000, x174001, x174002, x174003, x174004, x174005, x174006, x174007 => if (x174002.length : Int) < x5 then (order_keyed.j1 k true x174000 x174001 x174002 x174003 x174004 x174005 x174006 x174007) else (order_keyed.j1 k (decide ((x174002.length : Int) > x6)) x174000 x174001 x174002 x174003 x174004 x174005 x174006 x174007)
def order_keyed.j1 : Nat → Bool → Int → Int → List ByteArray → ByteArray → Int → Int → Int → Int → Option (Bool)
 | 0, _, _, _, _, _, _, _, _, _ => none
 | k + 1, x28, x174000, x174001, x174002, x174003, x174004, x174005, x174006, x174007 => if x28 = true then (some false) else (order_keyed.l0 k x174002 (x174002.length : Int) 0 x174000 x174001 x174002 x174003 x174004 x174005 x174006 x174007)
def order_keyed.l0 : Nat → List ByteArray → Int → Int → Int → Int → List ByteArray → ByteArray → Int → Int → Int → Int → Option (Bool)
 | 0, _, _, _, _, _, _, _, _, _, _, _ => none
 | k + 1, x30, x31, x32, x174000, x174001, x174002, x174003, x174004, x174005, x174006, x174007 => if x32 < x31 then (if 0 ≤ x32 then (if x32 < (x30.length : Int) then (if ((rdOf ByteArray.empty x30 x32).size : Int) < 1 then (some false) else (if ((rdOf ByteArray.empty x30 x32).size : Int) > 32 then (some false) else (if x32 ≤ (x174002.length : Int) then ((slices_Contains_string_string.f k (x174002.take (x32 : Int).toNat) (rdOf ByteArray.empty x30 x32)).bind fun t176 => (if t176 = true then (some false) else (order_keyed.l0 k x30 x31 (wrap64 (x32 + 1)) x174000 x174001 x174002 x174003 x174004 x174005 x174006 x174007))) else (none)))) else (none)) else (none)) else (some true)
end
def order_keyed.f (k : Nat) (a0_0 : Int) (a0_1 : Int) (l0_2 : List ByteArray) (a0_3 : ByteArray) (a0_4 : Int) (a0_5 : Int) (a0_6 : Int) (a0_7 : Int) (a1 : Int) : Option (Bool) := if (Go.bits .and .i64 a1 1) = 0 then (if (Go.bits .and .i64 a1 64) = 0 then (order_keyed.j0 k 1 1 a0_0 a0_1 l0_2 a0_3 a0_4 a0_5 a0_6 a0_7) else (order_keyed.j0 k 0 0 a0_0 a0_1 l0_2 a0_3 a0_4 a0_5 a0_6 a0_7)) else (order_keyed.j0 k 1 8 a0_0 a0_1 l0_2 a0_3 a0_4 a0_5 a0_6 a0_7)
theorem order_keyed.mono_l : ∀ k, (∀ y0 y1 y2 y3 y4 y5 y6 y7 y8 y9, LeO (order_keyed.j0 k y0 y1 y2 y3 y4 y5 y6 y7 y8 y9) (order_keyed.j0 (k + 1) y0 y1 y2 y3 y4 y5 y6 y7 y8 y9)) ∧ (∀ y0 y1 y2 y3 y4 y5 y6 y7 y8, LeO (order_keyed.j1 k y0 y1 y2 y3 y4 y5 y6 y7 y8) (order_keyed.j1 (k + 1) y0 y1 y2 y3 y4 y5 y6 y7 y8)) ∧ (∀ y0 y1 y2 y3 y4 y5 y6 y7 y8 y9 y10, LeO (order_keyed.l0 k y0 y1 y2 y3 y4 y5 y6 y7 y8 y9 y10) (order_keyed.l0 (k + 1) y0 y1 y2 y3 y4 y5 y6 y7 y8 y9 y10))
 | 0 => ⟨fun _ _ _ _ _ _ _ _ _ _ r h => by simp [order_keyed.j0] at h, fun _ _ _ _ _ _ _ _ _ r h => by simp [order_keyed.j1] at h, fun _ _ _ _ _ _ _ _ _ _ _ r h => by simp [order_keyed.l0] at h⟩
 | k + 1 => by
  obtain ⟨ih0, ih1, ih2⟩ := order_keyed.mono_l k
  refine ⟨?_, ?_, ?_⟩
  all_goals intros
  all_goals (first | unfold order_keyed.j0 | unfold order_keyed.j1 | unfold order_keyed.l0)
  all_goals repeat' first | (with_reducible first | apply ih0 | apply ih1 | apply ih2 | apply slices_Contains_string_string.mono | exact LeO.refl _ | exact LeO.none _ | refine LeO.ite ?_ ?_ | refine LeO.bind ?_ (fun _ => ?_)) | exact LeO.none _ | refine LeO.ite ?_ ?_ | refine LeO.bind ?_ (fun _ => ?_)
theorem order_keyed.mono : ∀ a0 a1 a2 a3 a4 a5 a6 a7 a8 k, LeO (order_keyed.f k a0 a1 a2 a3 a4 a5 a6 a7 a8) (order_keyed.f (k + 1) a0 a1 a2 a3 a4 a5 a6 a7 a8) := by
 intro a0 a1 a2 a3 a4 a5 a6 a7 a8 k
 obtain ⟨ih0, ih1, ih2⟩ := order_keyed.mono_l k
 unfold order_keyed.f
 repeat' first | (with_reducible first | apply ih0 | apply ih1 | apply ih2 | apply slices_Contains_string_string.mono | exact LeO.refl _ | exact LeO.none _ | refine LeO.ite ?_ ?_ | refine LeO.bind ?_ (fun _ => ?_)) | exact LeO.none _ | refine LeO.ite ?_ ?_ | refine LeO.bind ?_ (fun _ => ?_)
set_option maxHeartbeats 8000000 in
set_option maxRecDepth 100000 in
theorem order_keyed.calls (k : Nat) (a0_0 : Int) (a0_1 : Int) (A0_2 : Option Addr) (c0_2 : Nat) (l0_2 : List ByteArray) (a0_3 : ByteArray) (a0_4 : Int) (a0_5 : Int) (a0_6 : Int) (a0_7 : Int) (a1 : Int) (r : Bool) (w : World) (hr0_2 : Kd.C Kd.string w A0_2 l0_2.length l0_2) (hc0_2 : l0_2.length ≤ c0_2) (h : order_keyed.f k a0_0 a0_1 l0_2 a0_3 a0_4 a0_5 a0_6 a0_7 a1 = some r) :
  Calls Tryd.prog 92 #[.agg #[.int .u8 a0_0, .int .i64 a0_1, .slice A0_2 l0_2.length c0_2, .string a0_3, .int .u32 a0_4, .int .i64 a0_5, .int .u64 a0_6, .int .u64 a0_7], .int .i64 a1] w fun e w' => e = .returned (.bool r) ∧ Below w.heap.size w w' := by
 have hu40 := Tryd.underlying40
 have HR0_2 := Aside0.mk hr0_2
 have HC0_2 := Aside0.mk hc0_2
 clear hr0_2 hc0_2
 have HB := Aside0.mk (Below.refl w.heap.size w)
 have H : (if (Go.bits .and .i64 a1 1) = 0 then (if (Go.bits .and .i64 a1 64) = 0 then (order_keyed.j0 k 1 1 a0_0 a0_1 l0_2 a0_3 a0_4 a0_5 a0_6 a0_7) else (order_keyed.j0 k 0 0 a0_0 a0_1 l0_2 a0_3 a0_4 a0_5 a0_6 a0_7)) else (order_keyed.j0 k 1 8 a0_0 a0_1 l0_2 a0_3 a0_4 a0_5 a0_6 a0_7)) = some r := h
 clear h
 have HC3 := Aside0.mk H
 clear H
 go_enter Tryd.func92, Tryd.ntmps92
 go_upto_block 0 with (first | ((with_reducible refine gate_dst (N := 2) rfl ?_); (try (refine gate_guard (by rfl) ?_; dsimp only)); refine box_event ?hg (N := 2) ?hd (cs := #[.int .u8 a0_0, .int .i64 a0_1, .slice A0_2 l0_2.length c0_2, .string a0_3, .int .u32 a0_4, .int .i64 a0_5, .int .u64 a0_6, .int .u64 a0_7]) (t := 40) ?hr ?_; (case hd => rfl); (case hg => rfl); (case hr => first | (go_simp; done) | (go_simp; rfl)); intro gb173 hg w4 hbox hb; have n0_ := Aside0.mk (below_step t20_5 hb); have n1_ := Aside0.mk (hbox); have n2_ := Aside0.mk ((by rw [hg]; exact (below_size t20_5) : w.heap.size ≤ gb173)); have n3_ := Aside0.mk ((by rw [hg]; exact (below_size t20_5) : w.heap.size ≤ gb173)); clear HB; have HB := n0_; have BK173 := n1_; have GW173 := n2_; have GE173 := n3_; clear n0_ n1_ n2_ n3_; clear hb hbox hg))
 (try simp only [Act.put, List.setIfInBounds_toArray, List.set_cons_zero, List.set_cons_succ])
 go_cut [5, 6] (fun v5 v6 wc => ∃ (kq : Nat) (x5_2 : Int) (x6_2 : Int), v5 = .int .i64 x5_2 ∧ v6 = .int .i64 x6_2 ∧ Aside0 (order_keyed.j0 kq x5_2 x6_2 a0_0 a0_1 l0_2 a0_3 a0_4 a0_5 a0_6 a0_7 = some r) ∧ Aside0 (kq ≤ k) ∧ Aside0 (wc.heap[gb173]? = some (.cells #[.int .u8 a0_0, .int .i64 a0_1, (.slice A0_2 l0_2.length c0_2), .string a0_3, .int .u32 a0_4, .int .i64 a0_5, .int .u64 a0_6, .int .u64 a0_7] 40 (0, 0))) ∧ Aside0 (Below w.heap.size w wc))
 case first =>
  have H := HC3.out
  clear HC3
  by_cases c5 : (Go.bits .and .i64 a1 1) = 0
  ·rw [if_pos c5] at H
   have c5b0 : ((Go.bits .and .i64 a1 1) == 0) = true := beq_iff_eq.mpr c5
   have c5b1 : ((Go.bits .and .i64 a1 1) != 0) = false := bne_eq_false_iff_eq.mpr c5
   clear c5
   (first | rw [c5b0] | (simp only [i64_w, i32_w]; rw [c5b0]) | rw [c5b1] | skip)
   by_cases c6 : (Go.bits .and .i64 a1 64) = 0
   ·rw [if_pos c6] at H
    have c6b0 : ((Go.bits .and .i64 a1 64) == 0) = true := beq_iff_eq.mpr c6
    have c6b1 : ((Go.bits .and .i64 a1 64) != 0) = false := bne_eq_false_iff_eq.mpr c6
    clear c6
    have H' := Aside0.mk H
    clear H
    go_wp2
    go_meet
    case rel => exact ⟨_, (1), (1), t20_1, t20_1, H', ⟨by first | omega | exact Nat.le_refl _⟩, ⟨t20_2⟩, ⟨t20_0⟩⟩
   ·rw [if_neg c6] at H
    have c6b0 : ((Go.bits .and .i64 a1 64) == 0) = false := beq_eq_false_iff_ne.mpr c6
    have c6b1 : ((Go.bits .and .i64 a1 64) != 0) = true := bne_iff_ne.mpr c6
    have H' := Aside0.mk H
    clear H
    go_wp2
    go_meet
    case rel => exact ⟨_, (0), (0), t20_1, t20_1, H', ⟨by first | omega | exact Nat.le_refl _⟩, ⟨t20_2⟩, ⟨t20_0⟩⟩
  ·rw [if_neg c5] at H
   have c5b0 : ((Go.bits .and .i64 a1 1) == 0) = false := beq_eq_false_iff_ne.mpr c5
   have c5b1 : ((Go.bits .and .i64 a1 1) != 0) = true := bne_iff_ne.mpr c5
   (first | rw [c5b0] | (simp only [i64_w, i32_w]; rw [c5b0]) | rw [c5b1] | skip)
   have H' := Aside0.mk H
   clear H
   go_wp2
   go_meet
   case rel => exact ⟨_, (1), (8), t20_1, t20_1, H', ⟨by first | omega | exact Nat.le_refl _⟩, ⟨t20_2⟩, ⟨t20_0⟩⟩
 case rest => as_aux_lemma =>
  clear HC3
  obtain ⟨kq, x5_2, x6_2, rfl, rfl, HA, HJ2, BK173, HB⟩ := hcut
  cases kq with
  | zero => exact absurd HA.out (by simp [order_keyed.j0])
  | succ kj2 =>
   have H := HA.out
   clear HA
   simp only [order_keyed.j0] at H
   have HC7 := Aside0.mk H
   clear H
   go_upto_region 6 with (fail)
   go_cut [28] (fun v28 wc => ∃ (kq : Nat) (x28_6 : Bool), v28 = .bool x28_6 ∧ Aside0 (order_keyed.j1 kq x28_6 a0_0 a0_1 l0_2 a0_3 a0_4 a0_5 a0_6 a0_7 = some r) ∧ Aside0 (kq ≤ kj2) ∧ Aside0 (wc.heap[gb173]? = some (.cells #[.int .u8 a0_0, .int .i64 a0_1, (.slice A0_2 l0_2.length c0_2), .string a0_3, .int .u32 a0_4, .int .i64 a0_5, .int .u64 a0_6, .int .u64 a0_7] 40 (0, 0))) ∧ Aside0 (Below w.heap.size w wc))
   case first =>
    have H := HC7.out
    clear HC7
    by_cases c8 : (l0_2.length : Int) < x5_2
    ·rw [if_pos c8] at H
     have c8b0 : decide ((l0_2.length : Int) < x5_2) = true := decide_eq_true c8
     clear c8
     (first | rw [c8b0] | (simp only [i64_w, i32_w]; rw [c8b0]) | rw [c8b1] | skip)
     have H' := Aside0.mk H
     clear H
     have hz9 := blk8 BK173.out
     go_wp2
     go_meet
     case rel => exact ⟨_, (true), t20_1, H', ⟨by have := HJ2.out; first | omega | exact Nat.le_refl _⟩, ⟨t20_2⟩, ⟨t20_0⟩⟩
    ·rw [if_neg c8] at H
     have c8b0 : decide ((l0_2.length : Int) < x5_2) = false := decide_eq_false c8
     clear c8
     (first | rw [c8b0] | (simp only [i64_w, i32_w]; rw [c8b0]) | rw [c8b1] | skip)
     have H' := Aside0.mk H
     clear H
     have hz10 := blk8 BK173.out
     go_wp2
     go_meet
     case rel => exact ⟨_, (decide ((l0_2.length : Int) > x6_2)), t20_1, H', ⟨by have := HJ2.out; first | omega | exact Nat.le_refl _⟩, ⟨t20_2⟩, ⟨t20_0⟩⟩
   case rest => as_aux_lemma =>
    clear HC7
    obtain ⟨kq, x28_6, rfl, HA, HJ6, BK173, HB⟩ := hcut
    cases kq with
    | zero => exact absurd HA.out (by simp [order_keyed.j1])
    | succ kj6 =>
     have H := HA.out
     clear HA
     simp only [order_keyed.j1] at H
     by_cases c11 : x28_6 = true
     ·subst c11
      rw [if_pos rfl] at H
      obtain rfl := Option.some.inj H
      go_wp2
      go_ret
      exact ⟨t20_4, t20_0⟩
     ·replace c11 := Bool.eq_false_iff.mpr c11
      subst c11
      rw [if_neg (show ¬ (false = true) by decide)] at H
      have H' := Aside0.mk H
      clear H
      have hz12 := blk8 BK173.out
      go_wp2
      go_loopg [32] kj6 (fun kq v32 w' => ∃ (x32_3 : Int), v32 = .int .i64 x32_3 ∧ Aside0 (order_keyed.l0 kq l0_2 (l0_2.length : Int) x32_3 a0_0 a0_1 l0_2 a0_3 a0_4 a0_5 a0_6 a0_7 = some r) ∧ Aside0 (kq ≤ kj6) ∧ Aside0 (w'.heap[gb173]? = some (.cells #[.int .u8 a0_0, .int .i64 a0_1, (.slice A0_2 l0_2.length c0_2), .string a0_3, .int .u32 a0_4, .int .i64 a0_5, .int .u64 a0_6, .int .u64 a0_7] 40 (0, 0))) ∧ Aside0 (Below w.heap.size w w'))
      case atStart => exact ⟨(0), t20_1, H', ⟨Nat.le_refl _⟩, ⟨t20_2⟩, ⟨t20_0⟩⟩
      case round =>
       clear H'
       (try clear c11); (try clear hz12)
       obtain ⟨x32_3, rfl, HA, HK3, BK173, HB⟩ := hrel
       cases gk with
       | zero => exact absurd HA.out (by simp [order_keyed.l0])
       | succ k3 =>
        have H := HA.out
        clear HA
        simp only [order_keyed.l0] at H
        by_cases c13 : x32_3 < (l0_2.length : Int)
        ·rw [if_pos c13] at H
         have c13b0 : decide (x32_3 < (l0_2.length : Int)) = true := decide_eq_true c13
         clear c13
         by_cases c14 : 0 ≤ x32_3
         ·rw [if_pos c14] at H
          have c14b0 : decide (0 ≤ x32_3) = true := decide_eq_true c14
          clear c14
          by_cases c15 : x32_3 < (l0_2.length : Int)
          ·rw [if_pos c15] at H
           have c15b0 : decide (x32_3 < (l0_2.length : Int)) = true := decide_eq_true c15
           clear c15
           by_cases c16 : ((rdOf ByteArray.empty l0_2 x32_3).size : Int) < 1
           ·rw [if_pos c16] at H
            have c16b0 : decide (((rdOf ByteArray.empty l0_2 x32_3).size : Int) < 1) = true := decide_eq_true c16
            have c16b1 : decide ((rdOf ByteArray.empty l0_2 x32_3).size < 1) = true := decide_eq_true (by omega)
            clear c16
            obtain rfl := Option.some.inj H
            have p174 : 0 ≤ (x32_3 : Int) := of_decide_eq_true t20_3
            have q174 : x32_3 < (l0_2.length : Int) := of_decide_eq_true t20_3
            obtain ⟨ad174, e174, hx174_0⟩ := Kd.at_string HR0_2.out x32_3 p174 q174
            cases e174
            replace hx174_0 := (HB.out.cell (World.block_lt_of_cell? w _ hx174_0)).trans hx174_0
            replace p174 := eq_true p174
            replace q174 := eq_true q174
            go_wp2
            go_ret
            exact ⟨t20_4, t20_0⟩
           ·rw [if_neg c16] at H
            have c16b0 : decide (((rdOf ByteArray.empty l0_2 x32_3).size : Int) < 1) = false := decide_eq_false c16
            have c16b1 : decide ((rdOf ByteArray.empty l0_2 x32_3).size < 1) = false := decide_eq_false (by omega)
            clear c16
            by_cases c17 : ((rdOf ByteArray.empty l0_2 x32_3).size : Int) > 32
            ·rw [if_pos c17] at H
             have c17b0 : decide (32 < ((rdOf ByteArray.empty l0_2 x32_3).size : Int)) = true := decide_eq_true c17
             have c17b1 : decide (32 < (rdOf ByteArray.empty l0_2 x32_3).size) = true := decide_eq_true (by omega)
             clear c17
             obtain rfl := Option.some.inj H
             have p174 : 0 ≤ (x32_3 : Int) := of_decide_eq_true t20_3
             have q174 : x32_3 < (l0_2.length : Int) := of_decide_eq_true t20_3
             obtain ⟨ad174, e174, hx174_0⟩ := Kd.at_string HR0_2.out x32_3 p174 q174
             cases e174
             replace hx174_0 := (HB.out.cell (World.block_lt_of_cell? w _ hx174_0)).trans hx174_0
             replace p174 := eq_true p174
             replace q174 := eq_true q174
             go_wp2
             go_ret
             exact ⟨t20_4, t20_0⟩
            ·rw [if_neg c17] at H
             have c17b0 : decide (32 < ((rdOf ByteArray.empty l0_2 x32_3).size : Int)) = false := decide_eq_false c17
             have c17b1 : decide (32 < (rdOf ByteArray.empty l0_2 x32_3).size) = false := decide_eq_false (by omega)
             clear c17
             have c18b0 := eq_true (of_decide_eq_true t20_3 : 0 ≤ x32_3)
             by_cases c19 : x32_3 ≤ (l0_2.length : Int)
             ·rw [if_pos c19] at H
              have c19b0 := eq_true c19
              have c19b1 : decide (x32_3 ≤ (l0_2.length : Int)) = true := decide_eq_true c19
              clear c19
              replace H := Option.bind_eq_some_iff.mp H
              obtain ⟨t176, A200, H⟩ := H
              replace H : (if t176 = true then (some false) else (order_keyed.l0 k3 l0_2 (l0_2.length : Int) (wrap64 (x32_3 + 1)) a0_0 a0_1 l0_2 a0_3 a0_4 a0_5 a0_6 a0_7)) = some r := H
              have A20 := Aside0.mk A200
              clear A200
              by_cases c21 : t176 = true
              ·subst c21
               rw [if_pos rfl] at H
               obtain rfl := Option.some.inj H
               have p174 : 0 ≤ (x32_3 : Int) := of_decide_eq_true t20_3
               have q174 : x32_3 < (l0_2.length : Int) := of_decide_eq_true t20_3
               obtain ⟨ad174, e174, hx174_0⟩ := Kd.at_string HR0_2.out x32_3 p174 q174
               cases e174
               replace hx174_0 := (HB.out.cell (World.block_lt_of_cell? w _ hx174_0)).trans hx174_0
               replace p174 := eq_true p174
               replace q174 := eq_true q174
               have hz22 := blk8 BK173.out
               obtain ⟨i023, hi023, _, hsz23, _⟩ := info_parts info9
               obtain ⟨hcut23, hA23, hC23⟩ := print_take_of (P := Tryd.prog) Value.string (⟨#[]⟩ : ByteArray) 37 9 .i64 Tryd.underlying37 hi023 hsz23 (some ad174) c0_2 l0_2 x32_3 (of_decide_eq_true t20_3) (of_decide_eq_true t20_3) HC0_2.out
               have HR175 := Aside0.mk (Kd.C_of_reads (h1 := fun _ => rfl) (hA23 _ (Kd.reads_of_C HR0_2.out)))
               have HC175 := Aside0.mk hC23
               clear hA23 hC23 hi023 hsz23
               go_wp2_with (first | (go_at_call 104; refine calls_of_args (args' := #[.slice (some ad174) (l0_2.take (x32_3 : Int).toNat).length c0_2, .string (rdOf ByteArray.empty l0_2 x32_3)]) t20_6 ?_; (with_reducible refine (slices_Contains_string_string.calls k3 _ _ (l0_2.take (x32_3 : Int).toNat) (rdOf ByteArray.empty l0_2 x32_3) true _ ?side1 ?side2 A20.out).mono ?_); (case side1 => repeat (first | exact (Kd.C_below HR175.out HB.out) | (with_reducible refine Kd.C_alloc ?_ _) | (with_reducible refine Kd.C_drewN ?_ _) | (with_reducible refine Kd.C_drew ?_))); (case side2 => exact HC175.out); rintro e w' ⟨rfl, ⟨nd, rfl⟩⟩))
               go_ret
               exact ⟨t20_4, t20_0⟩
              ·replace c21 := Bool.eq_false_iff.mpr c21
               subst c21
               rw [if_neg (show ¬ (false = true) by decide)] at H
               have H' := Aside0.mk H
               clear H
               have p174 : 0 ≤ (x32_3 : Int) := of_decide_eq_true t20_3
               have q174 : x32_3 < (l0_2.length : Int) := of_decide_eq_true t20_3
               obtain ⟨ad174, e174, hx174_0⟩ := Kd.at_string HR0_2.out x32_3 p174 q174
               cases e174
               replace hx174_0 := (HB.out.cell (World.block_lt_of_cell? w _ hx174_0)).trans hx174_0
               replace p174 := eq_true p174
               replace q174 := eq_true q174
               have hz24 := blk8 BK173.out
               obtain ⟨i025, hi025, _, hsz25, _⟩ := info_parts info9
               obtain ⟨hcut25, hA25, hC25⟩ := print_take_of (P := Tryd.prog) Value.string (⟨#[]⟩ : ByteArray) 37 9 .i64 Tryd.underlying37 hi025 hsz25 (some ad174) c0_2 l0_2 x32_3 (of_decide_eq_true t20_3) (of_decide_eq_true t20_3) HC0_2.out
               have HR175 := Aside0.mk (Kd.C_of_reads (h1 := fun _ => rfl) (hA25 _ (Kd.reads_of_C HR0_2.out)))
               have HC175 := Aside0.mk hC25
               clear hA25 hC25 hi025 hsz25
               go_wp2_with (first | (go_at_call 104; refine calls_of_args (args' := #[.slice (some ad174) (l0_2.take (x32_3 : Int).toNat).length c0_2, .string (rdOf ByteArray.empty l0_2 x32_3)]) t20_6 ?_; (with_reducible refine (slices_Contains_string_string.calls k3 _ _ (l0_2.take (x32_3 : Int).toNat) (rdOf ByteArray.empty l0_2 x32_3) false _ ?side1 ?side2 A20.out).mono ?_); (case side1 => repeat (first | exact (Kd.C_below HR175.out HB.out) | (with_reducible refine Kd.C_alloc ?_ _) | (with_reducible refine Kd.C_drewN ?_ _) | (with_reducible refine Kd.C_drew ?_))); (case side2 => exact HC175.out); rintro e w' ⟨rfl, ⟨nd, rfl⟩⟩))
               go_roundg k3
               case measure => have := HJ2.out; have := HJ6.out; have := HK3.out; omega
               case rel => exact ⟨(wrap64 (x32_3 + 1)), t20_1, H', ⟨by have := HJ2.out; have := HJ6.out; have := HK3.out; omega⟩, ⟨t20_2⟩, ⟨t20_0⟩⟩
             ·rw [if_neg c19] at H
              exact absurd H (by simp)
          ·rw [if_neg c15] at H
           exact absurd H (by simp)
         ·rw [if_neg c14] at H
          exact absurd H (by simp)
        ·rw [if_neg c13] at H
         have c13b0 : decide (x32_3 < (l0_2.length : Int)) = false := decide_eq_false c13
         clear c13
         obtain rfl := Option.some.inj H
         go_wp2
         go_ret
         exact ⟨t20_4, t20_0⟩
end Go.Proofs.YtfoengihiaegoaaDoor.P
