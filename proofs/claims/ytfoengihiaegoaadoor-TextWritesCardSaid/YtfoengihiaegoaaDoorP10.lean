-- written by wip/tools/drive.py, a driver round the kit's printer, and made smaller by wip/tools/slim.py
import Derived.Test.YtfoengihiaegoaaDoorP0
namespace Go.Proofs.YtfoengihiaegoaaDoor.P
open Go.RowKit Go.Proofs.YtfoengihiaegoaaDoorW.PrintWords Go.Proofs.YtfoengihiaegoaaDoorW.PrintLast Go.Proofs.YtfoengihiaegoaaDoorW.PrintMore
set_option linter.unusedVariables false
set_option linter.unusedSimpArgs false
theorem t10_0 {p : Prop} (h : p := by repeat (first | exact Drawn0.refl _ | apply Drawn0.step)) : p := h
theorem t10_1 {p : Prop} (h : p := by first | (with_reducible assumption) | assumption) : p := h
theorem t10_2 {p : Prop} (h : p := by first | rfl | (simp; done) | (simp [*]; done)) : p := h
theorem t10_3 {p : Prop} (h : p := by (try simp only [List.map_toArray, List.map_cons, List.map_nil]); first | done | rfl | (simp only [List.length_drop, List.length_take]; rfl)) : p := h
def cloakroomref14_Plain.l0 : Nat → ByteArray → Int → Int → Option (Bool)
 | 0, _, _, _ => none
 | k + 1, x0, x1, x5 => if x5 < (x0.size : Int) then (if 0 ≤ x5 then (if (bt x0 x5) < 33 then (some false) else (if (bt x0 x5) > 126 then (some false) else (cloakroomref14_Plain.l0 k x0 x1 (wrap64 (x5 + 1))))) else (none)) else (if x0.toList = ([] : List UInt8) then (some false) else (some (decide ((x0.size : Int) ≤ x1))))
def cloakroomref14_Plain.f (k : Nat) (a0 : ByteArray) (a1 : Int) : Option (Bool) := cloakroomref14_Plain.l0 k a0 a1 0
theorem cloakroomref14_Plain.mono_l : ∀ k, (∀ y0 y1 y2, LeO (cloakroomref14_Plain.l0 k y0 y1 y2) (cloakroomref14_Plain.l0 (k + 1) y0 y1 y2))
 | 0 => fun _ _ _ r h => by simp [cloakroomref14_Plain.l0] at h
 | k + 1 => by
  have ih0 := cloakroomref14_Plain.mono_l k
  ·intro y0 y1 y2
   unfold cloakroomref14_Plain.l0
   repeat' first | (with_reducible first | apply ih0 | exact LeO.refl _ | exact LeO.none _ | refine LeO.ite ?_ ?_ | refine LeO.bind ?_ (fun _ => ?_)) | exact LeO.none _ | refine LeO.ite ?_ ?_ | refine LeO.bind ?_ (fun _ => ?_)
theorem cloakroomref14_Plain.mono : ∀ a0 a1 k, LeO (cloakroomref14_Plain.f k a0 a1) (cloakroomref14_Plain.f (k + 1) a0 a1) := by
 intro a0 a1 k
 have ih0 := cloakroomref14_Plain.mono_l k
 unfold cloakroomref14_Plain.f
 repeat' first | (with_reducible first | apply ih0 | exact LeO.refl _ | exact LeO.none _ | refine LeO.ite ?_ ?_ | refine LeO.bind ?_ (fun _ => ?_)) | exact LeO.none _ | refine LeO.ite ?_ ?_ | refine LeO.bind ?_ (fun _ => ?_)
set_option maxHeartbeats 8000000 in
set_option maxRecDepth 100000 in
theorem cloakroomref14_Plain.calls (k : Nat) (a0 : ByteArray) (a1 : Int) (r : Bool) (w : World) (h : cloakroomref14_Plain.f k a0 a1 = some r) :
  Calls Tryd.prog 40 #[.string a0, .int .i64 a1] w fun e w' => e = .returned (.bool r) ∧ Drawn0 w w' := by
 have H : (cloakroomref14_Plain.l0 k a0 a1 0) = some r := h
 clear h
 have H' := Aside0.mk H
 clear H
 go_enter Tryd.func40, Tryd.ntmps40
 go_wp2
 go_loopg [5] k (fun kq v5 w' => ∃ (x5_1 : Int), v5 = .int .i64 x5_1 ∧ Aside0 (cloakroomref14_Plain.l0 kq a0 a1 x5_1 = some r) ∧ Aside0 (kq ≤ k) ∧ Drawn0 w w')
 case atStart => exact ⟨(0), (by first | rfl | (simp; done) | (simp [*]; done) | exact x_nonempty _ | (simp [x_nonempty]; done)), H', ⟨Nat.le_refl _⟩, t10_0⟩
 case round =>
  clear H'
  obtain ⟨x5_1, rfl, HA, HK1, ⟨m1, rfl⟩⟩ := hrel
  cases gk with
  | zero => exact absurd HA.out (by simp [cloakroomref14_Plain.l0])
  | succ k1 =>
   have H := HA.out
   clear HA
   simp only [cloakroomref14_Plain.l0] at H
   by_cases c3 : x5_1 < (a0.size : Int)
   ·rw [if_pos c3] at H
    have c3b0 : decide (x5_1 < (a0.size : Int)) = true := decide_eq_true c3
    clear c3
    by_cases c4 : 0 ≤ x5_1
    ·rw [if_pos c4] at H
     have c4b0 : decide (0 ≤ x5_1) = true := decide_eq_true c4
     clear c4
     by_cases c6 : (bt a0 x5_1) < 33
     ·rw [if_pos c6] at H
      have c6b0 : decide ((bt a0 x5_1) < 33) = true := decide_eq_true c6
      clear c6
      obtain rfl := Option.some.inj H
      have p5 : 0 ≤ (x5_1 : Int) := of_decide_eq_true t10_1
      have q5 : x5_1 < (a0.size : Int) := of_decide_eq_true t10_1
      have hx5 := bt_at a0 x5_1
      replace p5 := eq_true p5
      replace q5 := eq_true q5
      go_wp2
      go_ret
      exact ⟨t10_2, t10_0⟩
     ·rw [if_neg c6] at H
      have c6b0 : decide ((bt a0 x5_1) < 33) = false := decide_eq_false c6
      clear c6
      by_cases c8 : (bt a0 x5_1) > 126
      ·rw [if_pos c8] at H
       have c8b0 : decide (126 < (bt a0 x5_1)) = true := decide_eq_true c8
       clear c8
       obtain rfl := Option.some.inj H
       have p5 : 0 ≤ (x5_1 : Int) := of_decide_eq_true t10_1
       have q5 : x5_1 < (a0.size : Int) := of_decide_eq_true t10_1
       have hx5 := bt_at a0 x5_1
       replace p5 := eq_true p5
       replace q5 := eq_true q5
       have p7 : 0 ≤ (x5_1 : Int) := of_decide_eq_true t10_1
       have q7 : x5_1 < (a0.size : Int) := of_decide_eq_true t10_1
       have hx7 := bt_at a0 x5_1
       replace p7 := eq_true p7
       replace q7 := eq_true q7
       go_wp2
       go_ret
       exact ⟨t10_2, t10_0⟩
      ·rw [if_neg c8] at H
       have c8b0 : decide (126 < (bt a0 x5_1)) = false := decide_eq_false c8
       clear c8
       have H' := Aside0.mk H
       clear H
       have p5 : 0 ≤ (x5_1 : Int) := of_decide_eq_true t10_1
       have q5 : x5_1 < (a0.size : Int) := of_decide_eq_true t10_1
       have hx5 := bt_at a0 x5_1
       replace p5 := eq_true p5
       replace q5 := eq_true q5
       have p7 : 0 ≤ (x5_1 : Int) := of_decide_eq_true t10_1
       have q7 : x5_1 < (a0.size : Int) := of_decide_eq_true t10_1
       have hx7 := bt_at a0 x5_1
       replace p7 := eq_true p7
       replace q7 := eq_true q7
       go_wp2
       go_roundg k1
       case measure => have := HK1.out; omega
       case rel => exact ⟨(wrap64 (x5_1 + 1)), (by first | rfl | (simp; done) | (simp [*]; done) | exact x_nonempty _ | (simp [x_nonempty]; done)), H', ⟨by have := HK1.out; omega⟩, t10_0⟩
    ·rw [if_neg c4] at H
     exact absurd H (by simp)
   ·rw [if_neg c3] at H
    have c3b0 : decide (x5_1 < (a0.size : Int)) = false := decide_eq_false c3
    clear c3
    by_cases c9 : a0.toList = ([] : List UInt8)
    ·rw [if_pos c9] at H
     have c9b0 : (a0.toList == ([] : List UInt8)) = true := beq_iff_eq.mpr c9
     have c9b1 : (a0.toList != ([] : List UInt8)) = false := bne_eq_false_iff_eq.mpr c9
     clear c9
     obtain rfl := Option.some.inj H
     go_wp2
     go_ret
     exact ⟨t10_2, t10_0⟩
    ·rw [if_neg c9] at H
     have c9b0 : (a0.toList == ([] : List UInt8)) = false := beq_eq_false_iff_ne.mpr c9
     have c9b1 : (a0.toList != ([] : List UInt8)) = true := bne_iff_ne.mpr c9
     obtain rfl := Option.some.inj H
     go_wp2
     go_ret
     exact ⟨t10_2, t10_0⟩
def cloakroomref15_plain.f (k : Nat) (a0 : ByteArray) : Option (Bool) := if a0.toList = ([] : List UInt8) then (some true) else ((cloakroomref14_Plain.f k a0 2000).bind fun t121 => (some t121))
theorem cloakroomref15_plain.mono : ∀ a0 k, LeO (cloakroomref15_plain.f k a0) (cloakroomref15_plain.f (k + 1) a0) := by
 intro a0 k
 unfold cloakroomref15_plain.f
 repeat' first | (with_reducible first | apply cloakroomref14_Plain.mono | exact LeO.refl _ | exact LeO.none _ | refine LeO.ite ?_ ?_ | refine LeO.bind ?_ (fun _ => ?_)) | exact LeO.none _ | refine LeO.ite ?_ ?_ | refine LeO.bind ?_ (fun _ => ?_)
def cloakroomref09_Text.f : Nat → Int → Option (ByteArray)
 | 0, _ => none
 | k + 1, a0 => if a0 < 10 then (if 0 ≤ a0 then (if a0 ≤ (IntKind.u64.wrap (a0 + 1)) then (if (IntKind.u64.wrap (a0 + 1)) ≤ 10 then (some ((⟨#[48, 49, 50, 51, 52, 53, 54, 55, 56, 57]⟩ : ByteArray).extract (a0 : Int).toNat ((IntKind.u64.wrap (a0 + 1)) : Int).toNat)) else (none)) else (none)) else (none)) else ((cloakroomref09_Text.f k (IntKind.u64.wrap (Int.tdiv a0 10))).bind fun t122 => ((cloakroomref09_Text.f k (Int.tmod a0 10)).bind fun t123 => (if t122.size + t123.size ≤ 9223372036854775807 then (some (t122 ++ t123)) else (none))))
theorem cloakroomref09_Text.mono_l : ∀ k, (∀ y0, LeO (cloakroomref09_Text.f k y0) (cloakroomref09_Text.f (k + 1) y0))
 | 0 => fun _ r h => by simp [cloakroomref09_Text.f] at h
 | k + 1 => by
  have ih0 := cloakroomref09_Text.mono_l k
  ·intro y0
   unfold cloakroomref09_Text.f
   repeat' first | (with_reducible first | apply ih0 | exact LeO.refl _ | exact LeO.none _ | refine LeO.ite ?_ ?_ | refine LeO.bind ?_ (fun _ => ?_)) | exact LeO.none _ | refine LeO.ite ?_ ?_ | refine LeO.bind ?_ (fun _ => ?_)
theorem cloakroomref09_Text.mono : ∀ a0 k, LeO (cloakroomref09_Text.f k a0) (cloakroomref09_Text.f (k + 1) a0) := by
 intro a0 k
 have ih0 := cloakroomref09_Text.mono_l k
 exact ih0 a0
set_option maxHeartbeats 8000000 in
set_option maxRecDepth 100000 in
theorem cloakroomref09_Text.calls (k : Nat) : ∀ (a0 : Int) (r : ByteArray) (w : World) (h : cloakroomref09_Text.f k a0 = some r),
  Calls Tryd.prog 42 #[.int .u64 a0] w fun e w' => e = .returned (.string r) ∧ Drawn0 w w' := by
 induction k using Nat.strongRecOn with
 | _ k ih =>
 intro a0 r w h
 cases k with
 | zero => exact absurd h (by simp [cloakroomref09_Text.f])
 | succ k =>
 simp only [cloakroomref09_Text.f] at h
 have H : (if a0 < 10 then (if 0 ≤ a0 then (if a0 ≤ (IntKind.u64.wrap (a0 + 1)) then (if (IntKind.u64.wrap (a0 + 1)) ≤ 10 then (some ((⟨#[48, 49, 50, 51, 52, 53, 54, 55, 56, 57]⟩ : ByteArray).extract (a0 : Int).toNat ((IntKind.u64.wrap (a0 + 1)) : Int).toNat)) else (none)) else (none)) else (none)) else ((cloakroomref09_Text.f k (IntKind.u64.wrap (Int.tdiv a0 10))).bind fun t122 => ((cloakroomref09_Text.f k (Int.tmod a0 10)).bind fun t123 => (if t122.size + t123.size ≤ 9223372036854775807 then (some (t122 ++ t123)) else (none))))) = some r := h
 clear h
 by_cases c2 : a0 < 10
 ·rw [if_pos c2] at H
  have c2b0 : decide (a0 < 10) = true := decide_eq_true c2
  clear c2
  by_cases c3 : 0 ≤ a0
  ·rw [if_pos c3] at H
   have c3b0 := eq_true c3
   have c3b1 : decide (0 ≤ a0) = true := decide_eq_true c3
   clear c3
   by_cases c4 : a0 ≤ (IntKind.u64.wrap (a0 + 1))
   ·rw [if_pos c4] at H
    have c4b0 := eq_true c4
    have c4b1 : decide (a0 ≤ (IntKind.u64.wrap (a0 + 1))) = true := decide_eq_true c4
    by_cases c5 : (IntKind.u64.wrap (a0 + 1)) ≤ 10
    ·rw [if_pos c5] at H
     have c5b0 := eq_true c5
     have c5b1 : decide ((IntKind.u64.wrap (a0 + 1)) ≤ 10) = true := decide_eq_true c5
     obtain rfl := Option.some.inj H
     go_enter Tryd.func42, Tryd.ntmps42
     go_wp2
     go_ret
     exact ⟨t10_2, t10_0⟩
    ·rw [if_neg c5] at H
     exact absurd H (by simp)
   ·rw [if_neg c4] at H
    exact absurd H (by simp)
  ·rw [if_neg c3] at H
   exact absurd H (by simp)
 ·rw [if_neg c2] at H
  have c2b0 : decide (a0 < 10) = false := decide_eq_false c2
  clear c2
  replace H := Option.bind_eq_some_iff.mp H
  obtain ⟨t122, A60, H⟩ := H
  replace H : ((cloakroomref09_Text.f k (Int.tmod a0 10)).bind fun t123 => (if t122.size + t123.size ≤ 9223372036854775807 then (some (t122 ++ t123)) else (none))) = some r := H
  have A6 := Aside0.mk A60
  clear A60
  replace H := Option.bind_eq_some_iff.mp H
  obtain ⟨t123, A70, H⟩ := H
  replace H : (if t122.size + t123.size ≤ 9223372036854775807 then (some (t122 ++ t123)) else (none)) = some r := H
  have A7 := Aside0.mk A70
  clear A70
  by_cases c8 : t122.size + t123.size ≤ 9223372036854775807
  ·rw [if_pos c8] at H
   have c8b0 := eq_true c8
   have c8b1 : decide (t122.size + t123.size ≤ 9223372036854775807) = true := decide_eq_true c8
   try have c8b2 : (9223372036854775807 < t122.size + t123.size) = False := eq_false (Nat.not_lt.2 c8)
   try (have c8b3 := c8b2; simp only [ByteArray.size_append, x_size_lit, List.size_toArray, List.length_cons, List.length_nil, Nat.zero_add, Nat.reduceAdd] at c8b3)
   obtain rfl := Option.some.inj H
   go_enter Tryd.func42, Tryd.ntmps42
   go_wp2_with (first | ((with_reducible refine gate_callee (f := 42) rfl ?_); refine goesL_ (some 11) rfl rfl Tryd.func42 (by kernel_rfl) rfl #[.int .u64 (IntKind.u64.wrap (Int.tdiv a0 10))] rfl t10_3 ?_; (with_reducible refine (ih k (by omega) (IntKind.u64.wrap (Int.tdiv a0 10)) t122 _ A6.out).mono ?_); rintro e w' ⟨rfl, ⟨nd, rfl⟩⟩; refine ⟨_, rfl, ?_⟩) | ((with_reducible refine gate_callee (f := 42) rfl ?_); refine goesL_ (some 14) rfl rfl Tryd.func42 (by kernel_rfl) rfl #[.int .u64 (Int.tmod a0 10)] rfl t10_3 ?_; (with_reducible refine (ih k (by omega) (Int.tmod a0 10) t123 _ A7.out).mono ?_); rintro e w' ⟨rfl, ⟨nd, rfl⟩⟩; refine ⟨_, rfl, ?_⟩))
   go_ret
   exact ⟨t10_2, t10_0⟩
  ·rw [if_neg c8] at H
   exact absurd H (by simp)
end Go.Proofs.YtfoengihiaegoaaDoor.P
