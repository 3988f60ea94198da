-- written by wip/tools/drive.py, a driver round the kit's printer, and made smaller by wip/tools/slim.py
import Derived.Test.YtfoengihiaegoaaDoorP0
namespace Go.Proofs.YtfoengihiaegoaaDoor.P
open Go.RowKit Go.Proofs.YtfoengihiaegoaaDoorW.PrintWords Go.Proofs.YtfoengihiaegoaaDoorW.PrintLast Go.Proofs.YtfoengihiaegoaaDoorW.PrintMore
set_option linter.unusedVariables false
set_option linter.unusedSimpArgs false
theorem t18_0 {p : Prop} (h : p := by repeat (first | exact Drawn0.refl _ | apply Drawn0.step)) : p := h
theorem t18_1 {p : Prop} (h : p := by first | rfl | (simp; done) | (simp [*]; done) | exact x_nonempty _ | (simp [x_nonempty]; done)) : p := h
theorem t18_2 {p : Prop} (h : p := by first | rfl | (simp; done) | (simp [*]; done)) : p := h
mutual
def order_has.j0 : Nat → Int → Bool → Option (Int)
 | 0, _, _ => none
 | k + 1, x3, x4 => if x4 = true then (some 129) else (if x3 = 2 then (order_has.j1 k x3 (x3 == 2)) else (if x3 = 3 then (order_has.j1 k x3 (x3 == 3)) else (order_has.j1 k x3 (x3 == 4))))
def order_has.j1 : Nat → Int → Bool → Option (Int)
 | 0, _, _ => none
 | k + 1, x3, x7 => if x7 = true then (some 142) else (if x3 = 5 then (some 158) else (if x3 = 6 then (order_has.j2 k x3 (x3 == 6)) else (order_has.j2 k x3 (x3 == 7))))
def order_has.j2 : Nat → Int → Bool → Option (Int)
 | 0, _, _ => none
 | k + 1, x3, x13 => if x13 = true then (some 160) else (if x3 = 8 then (some 130) else (if x3 = 9 then (some 132) else (if x3 = 11 then (some 192) else (some 0))))
end
def order_has.f (k : Nat) (a0 : Int) : Option (Int) := if a0 = 1 then (order_has.j0 k a0 (a0 == 1)) else (order_has.j0 k a0 (a0 == 10))
theorem order_has.mono_l : ∀ k, (∀ y0 y1, LeO (order_has.j0 k y0 y1) (order_has.j0 (k + 1) y0 y1)) ∧ (∀ y0 y1, LeO (order_has.j1 k y0 y1) (order_has.j1 (k + 1) y0 y1)) ∧ (∀ y0 y1, LeO (order_has.j2 k y0 y1) (order_has.j2 (k + 1) y0 y1))
 | 0 => ⟨fun _ _ r h => by simp [order_has.j0] at h, fun _ _ r h => by simp [order_has.j1] at h, fun _ _ r h => by simp [order_has.j2] at h⟩
 | k + 1 => by
  obtain ⟨ih0, ih1, ih2⟩ := order_has.mono_l k
  refine ⟨?_, ?_, ?_⟩
  all_goals intros
  all_goals (first | unfold order_has.j0 | unfold order_has.j1 | unfold order_has.j2)
  all_goals repeat' first | (with_reducible first | apply ih0 | apply ih1 | apply ih2 | exact LeO.refl _ | exact LeO.none _ | refine LeO.ite ?_ ?_ | refine LeO.bind ?_ (fun _ => ?_)) | exact LeO.none _ | refine LeO.ite ?_ ?_ | refine LeO.bind ?_ (fun _ => ?_)
theorem order_has.mono : ∀ a0 k, LeO (order_has.f k a0) (order_has.f (k + 1) a0) := by
 intro a0 k
 obtain ⟨ih0, ih1, ih2⟩ := order_has.mono_l k
 unfold order_has.f
 repeat' first | (with_reducible first | apply ih0 | apply ih1 | apply ih2 | exact LeO.refl _ | exact LeO.none _ | refine LeO.ite ?_ ?_ | refine LeO.bind ?_ (fun _ => ?_)) | exact LeO.none _ | refine LeO.ite ?_ ?_ | refine LeO.bind ?_ (fun _ => ?_)
set_option maxHeartbeats 8000000 in
set_option maxRecDepth 100000 in
theorem order_has.calls (k : Nat) (a0 : Int) (r : Int) (w : World) (h : order_has.f k a0 = some r) :
  Calls Tryd.prog 91 #[.int .u8 a0] w fun e w' => e = .returned (.int .i64 r) ∧ Drawn0 w w' := by
 have H : (if a0 = 1 then (order_has.j0 k a0 (a0 == 1)) else (order_has.j0 k a0 (a0 == 10))) = some r := h
 clear h
 have HC2 := Aside0.mk H
 clear H
 go_enter Tryd.func91, Tryd.ntmps91
 go_upto_if 4 with (fail)
 go_cut [4] (fun v4 wc => ∃ (kq : Nat) (x4_1 : Bool), v4 = .bool x4_1 ∧ Aside0 (order_has.j0 kq a0 x4_1 = some r) ∧ Aside0 (kq ≤ k) ∧ Drawn0 w wc)
 case first =>
  have H := HC2.out
  clear HC2
  by_cases c3 : a0 = 1
  ·rw [if_pos c3] at H
   have c3b0 : (a0 == 1) = true := beq_iff_eq.mpr c3
   have c3b1 : (a0 != 1) = false := bne_eq_false_iff_eq.mpr c3
   clear c3
   (first | rw [c3b0] | (simp only [i64_w, i32_w]; rw [c3b0]) | rw [c3b1] | skip)
   have H' := Aside0.mk H
   clear H
   go_wp2
   go_meet
   case rel => exact ⟨_, ((a0 == 1)), t18_1, H', ⟨by first | omega | exact Nat.le_refl _⟩, t18_0⟩
  ·rw [if_neg c3] at H
   have c3b0 : (a0 == 1) = false := beq_eq_false_iff_ne.mpr c3
   have c3b1 : (a0 != 1) = true := bne_iff_ne.mpr c3
   (first | rw [c3b0] | (simp only [i64_w, i32_w]; rw [c3b0]) | rw [c3b1] | skip)
   have H' := Aside0.mk H
   clear H
   go_wp2
   go_meet
   case rel => exact ⟨_, ((a0 == 10)), t18_1, H', ⟨by first | omega | exact Nat.le_refl _⟩, t18_0⟩
 case rest => as_aux_lemma =>
  clear HC2
  obtain ⟨kq, x4_1, rfl, HA, HJ1, ⟨mc1, rfl⟩⟩ := hcut
  cases kq with
  | zero => exact absurd HA.out (by simp [order_has.j0])
  | succ kj1 =>
   have H := HA.out
   clear HA
   simp only [order_has.j0] at H
   by_cases c4 : x4_1 = true
   ·subst c4
    rw [if_pos rfl] at H
    obtain rfl := Option.some.inj H
    go_wp2
    go_ret
    exact ⟨t18_2, t18_0⟩
   ·replace c4 := Bool.eq_false_iff.mpr c4
    subst c4
    rw [if_neg (show ¬ (false = true) by decide)] at H
    have HC5 := Aside0.mk H
    clear H
    go_upto_if 7 with (fail)
    go_cut [7] (fun v7 wc => ∃ (kq : Nat) (x7_4 : Bool), v7 = .bool x7_4 ∧ Aside0 (order_has.j1 kq a0 x7_4 = some r) ∧ Aside0 (kq ≤ kj1) ∧ Drawn0 w wc)
    case first =>
     have H := HC5.out
     clear HC5
     by_cases c6 : a0 = 2
     ·rw [if_pos c6] at H
      have c6b0 : (a0 == 2) = true := beq_iff_eq.mpr c6
      have c6b1 : (a0 != 2) = false := bne_eq_false_iff_eq.mpr c6
      clear c6
      (first | rw [c6b0] | (simp only [i64_w, i32_w]; rw [c6b0]) | rw [c6b1] | skip)
      have H' := Aside0.mk H
      clear H
      go_wp2
      go_meet
      case rel => exact ⟨_, ((a0 == 2)), t18_1, H', ⟨by have := HJ1.out; first | omega | exact Nat.le_refl _⟩, t18_0⟩
     ·rw [if_neg c6] at H
      have c6b0 : (a0 == 2) = false := beq_eq_false_iff_ne.mpr c6
      have c6b1 : (a0 != 2) = true := bne_iff_ne.mpr c6
      (first | rw [c6b0] | (simp only [i64_w, i32_w]; rw [c6b0]) | rw [c6b1] | skip)
      by_cases c7 : a0 = 3
      ·rw [if_pos c7] at H
       have c7b0 : (a0 == 3) = true := beq_iff_eq.mpr c7
       have c7b1 : (a0 != 3) = false := bne_eq_false_iff_eq.mpr c7
       clear c7
       have H' := Aside0.mk H
       clear H
       go_wp2
       go_meet
       case rel => exact ⟨_, ((a0 == 3)), t18_1, H', ⟨by have := HJ1.out; first | omega | exact Nat.le_refl _⟩, t18_0⟩
      ·rw [if_neg c7] at H
       have c7b0 : (a0 == 3) = false := beq_eq_false_iff_ne.mpr c7
       have c7b1 : (a0 != 3) = true := bne_iff_ne.mpr c7
       have H' := Aside0.mk H
       clear H
       go_wp2
       go_meet
       case rel => exact ⟨_, ((a0 == 4)), t18_1, H', ⟨by have := HJ1.out; first | omega | exact Nat.le_refl _⟩, t18_0⟩
    case rest => as_aux_lemma =>
     clear HC5
     (try clear c4)
     obtain ⟨kq, x7_4, rfl, HA, HJ4, ⟨mc4, rfl⟩⟩ := hcut
     cases kq with
     | zero => exact absurd HA.out (by simp [order_has.j1])
     | succ kj4 =>
      have H := HA.out
      clear HA
      simp only [order_has.j1] at H
      by_cases c8 : x7_4 = true
      ·subst c8
       rw [if_pos rfl] at H
       obtain rfl := Option.some.inj H
       go_wp2
       go_ret
       exact ⟨t18_2, t18_0⟩
      ·replace c8 := Bool.eq_false_iff.mpr c8
       subst c8
       rw [if_neg (show ¬ (false = true) by decide)] at H
       by_cases c9 : a0 = 5
       ·rw [if_pos c9] at H
        have c9b0 : (a0 == 5) = true := beq_iff_eq.mpr c9
        have c9b1 : (a0 != 5) = false := bne_eq_false_iff_eq.mpr c9
        clear c9
        obtain rfl := Option.some.inj H
        go_wp2
        go_ret
        exact ⟨t18_2, t18_0⟩
       ·rw [if_neg c9] at H
        have c9b0 : (a0 == 5) = false := beq_eq_false_iff_ne.mpr c9
        have c9b1 : (a0 != 5) = true := bne_iff_ne.mpr c9
        have HC10 := Aside0.mk H
        clear H
        go_upto_if 13 with (fail)
        go_cut [13] (fun v13 wc => ∃ (kq : Nat) (x13_9 : Bool), v13 = .bool x13_9 ∧ Aside0 (order_has.j2 kq a0 x13_9 = some r) ∧ Aside0 (kq ≤ kj4) ∧ Drawn0 w wc)
        case first =>
         have H := HC10.out
         clear HC10
         by_cases c11 : a0 = 6
         ·rw [if_pos c11] at H
          have c11b0 : (a0 == 6) = true := beq_iff_eq.mpr c11
          have c11b1 : (a0 != 6) = false := bne_eq_false_iff_eq.mpr c11
          clear c11
          (first | rw [c11b0] | (simp only [i64_w, i32_w]; rw [c11b0]) | rw [c11b1] | skip)
          have H' := Aside0.mk H
          clear H
          go_wp2
          go_meet
          case rel => exact ⟨_, ((a0 == 6)), t18_1, H', ⟨by have := HJ1.out; have := HJ4.out; first | omega | exact Nat.le_refl _⟩, t18_0⟩
         ·rw [if_neg c11] at H
          have c11b0 : (a0 == 6) = false := beq_eq_false_iff_ne.mpr c11
          have c11b1 : (a0 != 6) = true := bne_iff_ne.mpr c11
          (first | rw [c11b0] | (simp only [i64_w, i32_w]; rw [c11b0]) | rw [c11b1] | skip)
          have H' := Aside0.mk H
          clear H
          go_wp2
          go_meet
          case rel => exact ⟨_, ((a0 == 7)), t18_1, H', ⟨by have := HJ1.out; have := HJ4.out; first | omega | exact Nat.le_refl _⟩, t18_0⟩
        case rest => as_aux_lemma =>
         clear HC10
         (try clear c4); (try clear c8); (try clear c9); (try clear c9b0); (try clear c9b1)
         obtain ⟨kq, x13_9, rfl, HA, HJ9, ⟨mc9, rfl⟩⟩ := hcut
         cases kq with
         | zero => exact absurd HA.out (by simp [order_has.j2])
         | succ kj9 =>
          have H := HA.out
          clear HA
          simp only [order_has.j2] at H
          by_cases c12 : x13_9 = true
          ·subst c12
           rw [if_pos rfl] at H
           obtain rfl := Option.some.inj H
           go_wp2
           go_ret
           exact ⟨t18_2, t18_0⟩
          ·replace c12 := Bool.eq_false_iff.mpr c12
           subst c12
           rw [if_neg (show ¬ (false = true) by decide)] at H
           by_cases c13 : a0 = 8
           ·rw [if_pos c13] at H
            have c13b0 : (a0 == 8) = true := beq_iff_eq.mpr c13
            have c13b1 : (a0 != 8) = false := bne_eq_false_iff_eq.mpr c13
            clear c13
            obtain rfl := Option.some.inj H
            go_wp2
            go_ret
            exact ⟨t18_2, t18_0⟩
           ·rw [if_neg c13] at H
            have c13b0 : (a0 == 8) = false := beq_eq_false_iff_ne.mpr c13
            have c13b1 : (a0 != 8) = true := bne_iff_ne.mpr c13
            by_cases c14 : a0 = 9
            ·rw [if_pos c14] at H
             have c14b0 : (a0 == 9) = true := beq_iff_eq.mpr c14
             have c14b1 : (a0 != 9) = false := bne_eq_false_iff_eq.mpr c14
             clear c14
             obtain rfl := Option.some.inj H
             go_wp2
             go_ret
             exact ⟨t18_2, t18_0⟩
            ·rw [if_neg c14] at H
             have c14b0 : (a0 == 9) = false := beq_eq_false_iff_ne.mpr c14
             have c14b1 : (a0 != 9) = true := bne_iff_ne.mpr c14
             by_cases c15 : a0 = 11
             ·rw [if_pos c15] at H
              have c15b0 : (a0 == 11) = true := beq_iff_eq.mpr c15
              have c15b1 : (a0 != 11) = false := bne_eq_false_iff_eq.mpr c15
              clear c15
              obtain rfl := Option.some.inj H
              go_wp2
              go_ret
              exact ⟨t18_2, t18_0⟩
             ·rw [if_neg c15] at H
              have c15b0 : (a0 == 11) = false := beq_eq_false_iff_ne.mpr c15
              have c15b1 : (a0 != 11) = true := bne_iff_ne.mpr c15
              obtain rfl := Option.some.inj H
              go_wp2
              go_ret
              exact ⟨t18_2, t18_0⟩
end Go.Proofs.YtfoengihiaegoaaDoor.P
