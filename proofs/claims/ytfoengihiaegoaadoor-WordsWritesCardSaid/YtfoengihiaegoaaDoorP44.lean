-- written by wip/tools/drive.py, a driver round the kit's printer
import Derived.Test.YtfoengihiaegoaaDoorP0
import Derived.Test.YtfoengihiaegoaaDoorXDefs
import Derived.Test.YtfoengihiaegoaaDoorXPlain
import Derived.Test.YtfoengihiaegoaaDoorXTplain
namespace Go.Proofs.YtfoengihiaegoaaDoor.P
open Go.RowKit Go.Proofs.YtfoengihiaegoaaDoorW.PrintWords Go.Proofs.YtfoengihiaegoaaDoorW.PrintLast Go.Proofs.YtfoengihiaegoaaDoorW.PrintMore
attribute [local go_sem] max2_int min2_int max_two min_two max_three min_three max_four min_four   -- for this text's walks alone
set_option linter.unusedVariables false
set_option linter.unusedSimpArgs false

/-! ### item_moment: function 90 -/
def item_moment.f (a0 : Int) : Option (Bool) := if a0 ≥ 0 then (some (decide (a0 ≤ 1099511627776))) else (some false)
set_option maxHeartbeats 8000000 in
set_option maxRecDepth 100000 in
theorem item_moment.calls (a0 : Int) (r : Bool) (w : World) (h : item_moment.f a0 = some r) :
    Calls Tryd.prog 90 #[.int .i64 a0] w fun e w' => e = .returned (.bool r) ∧ Drawn0 w w' := by
  have H : (if a0 ≥ 0 then (some (decide (a0 ≤ 1099511627776))) else (some false)) = some r := h
  clear h
  by_cases c2 : a0 ≥ 0
  · rw [if_pos c2] at H
    have c2b0 : decide (0 ≤ a0) = true := decide_eq_true c2
    clear c2
    obtain rfl := Option.some.inj H
    go_enter Tryd.func90, Tryd.ntmps90
    go_wp2
    go_ret
    exact ⟨by first | rfl | (simp; done) | (simp [*]; done), by repeat (first | exact Drawn0.refl _ | apply Drawn0.step)⟩
  · rw [if_neg c2] at H
    have c2b0 : decide (0 ≤ a0) = false := decide_eq_false c2
    clear c2
    obtain rfl := Option.some.inj H
    go_enter Tryd.func90, Tryd.ntmps90
    go_wp2
    go_ret
    exact ⟨by first | rfl | (simp; done) | (simp [*]; done), by repeat (first | exact Drawn0.refl _ | apply Drawn0.step)⟩

/-! ### item_Check: function 67 -/
def item_Check.j0 : Nat → Bool → ByteArray → ByteArray → Int → Int → Int → Option (Int)
  | 0, _, _, _, _, _, _ => none
  | k + 1, x3, x533000, x533001, x533002, x533003, x533004 => if x3 = true then (some 3) else ((item_moment.f x533003).bind fun t533 => (if t533 = true then (some 0) else (some 2)))
def item_Check.f (k : Nat) (a0_0 : ByteArray) (a0_1 : ByteArray) (a0_2 : Int) (a0_3 : Int) (a0_4 : Int) : Option (Int) := if (a0_0.size : Int) < 1 then (item_Check.j0 k (decide ((a0_0.size : Int) < 1)) a0_0 a0_1 a0_2 a0_3 a0_4) else (if (a0_0.size : Int) > 32 then (item_Check.j0 k (decide ((a0_0.size : Int) > 32)) a0_0 a0_1 a0_2 a0_3 a0_4) else (item_Check.j0 k (decide ((a0_1.size : Int) > 512)) a0_0 a0_1 a0_2 a0_3 a0_4))
theorem item_Check.mono_l : ∀ k, (∀ y0 y1 y2 y3 y4 y5, LeO (item_Check.j0 k y0 y1 y2 y3 y4 y5) (item_Check.j0 (k + 1) y0 y1 y2 y3 y4 y5))
  | 0 => fun _ _ _ _ _ _ r h => by simp [item_Check.j0] at h
  | k + 1 => by
    have ih0 := item_Check.mono_l k
    · intro y0 y1 y2 y3 y4 y5
      unfold item_Check.j0
      repeat' first
      | (with_reducible exact ih0 _ _ _ _ _ _)
      | (with_reducible exact LeO.refl _)
      | (with_reducible exact LeO.none _)
      | (with_reducible refine LeO.ite ?_ ?_)
      | (with_reducible refine LeO.bind ?_ (fun _ => ?_))
      | exact ih0 _ _ _ _ _ _
      | exact LeO.none _
      | refine LeO.ite ?_ ?_
      | refine LeO.bind ?_ (fun _ => ?_)
theorem item_Check.mono : ∀ a0 a1 a2 a3 a4 k, LeO (item_Check.f k a0 a1 a2 a3 a4) (item_Check.f (k + 1) a0 a1 a2 a3 a4) := by
  intro a0 a1 a2 a3 a4 k
  have ih0 := item_Check.mono_l k
  unfold item_Check.f
  repeat' first
      | (with_reducible exact ih0 _ _ _ _ _ _)
      | (with_reducible exact LeO.refl _)
      | (with_reducible exact LeO.none _)
      | (with_reducible refine LeO.ite ?_ ?_)
      | (with_reducible refine LeO.bind ?_ (fun _ => ?_))
      | exact ih0 _ _ _ _ _ _
      | exact LeO.none _
      | refine LeO.ite ?_ ?_
      | refine LeO.bind ?_ (fun _ => ?_)
set_option maxHeartbeats 8000000 in
set_option maxRecDepth 100000 in
theorem item_Check.calls (k : Nat) (a0_0 : ByteArray) (a0_1 : ByteArray) (a0_2 : Int) (a0_3 : Int) (a0_4 : Int) (r : Int) (w : World) (h : item_Check.f k a0_0 a0_1 a0_2 a0_3 a0_4 = some r) :
    Calls Tryd.prog 67 #[.agg #[.string a0_0, .string a0_1, .int .u32 a0_2, .int .i64 a0_3, .int .u64 a0_4]] w fun e w' => e = .returned (.int .i64 r) ∧ Below w.heap.size w w' := by
  have hu56 := Tryd.underlying56
  have HB := Aside0.mk (Below.refl w.heap.size w)
  have H : (if (a0_0.size : Int) < 1 then (item_Check.j0 k (decide ((a0_0.size : Int) < 1)) a0_0 a0_1 a0_2 a0_3 a0_4) else (if (a0_0.size : Int) > 32 then (item_Check.j0 k (decide ((a0_0.size : Int) > 32)) a0_0 a0_1 a0_2 a0_3 a0_4) else (item_Check.j0 k (decide ((a0_1.size : Int) > 512)) a0_0 a0_1 a0_2 a0_3 a0_4))) = some r := h
  clear h
  have HC2 := Aside0.mk H
  clear H
  go_enter Tryd.func67, Tryd.ntmps67
  go_upto_if 3 with (first | ((with_reducible refine gate_dst (N := 1) rfl ?_); refine box_event ?hg (N := 1) ?hd (cs := #[.string a0_0, .string a0_1, .int .u32 a0_2, .int .i64 a0_3, .int .u64 a0_4]) (t := 56) ?hr ?_; (case hd => rfl); (case hg => rfl); (case hr => first | (go_simp; done) | (go_simp; rfl)); intro gb532 hg w3 hbox hb; have n0_ := Aside0.mk (below_step (by repeat (first | (with_reducible first | exact HB.out | apply below_alloc | apply pw_below_drewN | apply below_drew1) | exact HB.out)) hb); have n1_ := Aside0.mk (hbox); have n2_ := Aside0.mk ((by rw [hg]; exact (below_size (by repeat (first | (with_reducible first | exact HB.out | apply below_alloc | apply pw_below_drewN | apply below_drew1) | exact HB.out))) : w.heap.size ≤ gb532)); have n3_ := Aside0.mk ((by rw [hg]; exact (below_size (by repeat (first | (with_reducible first | exact HB.out | apply below_alloc | apply pw_below_drewN | apply below_drew1) | exact HB.out))) : w.heap.size ≤ gb532)); clear HB; have HB := n0_; have BK532 := n1_; have GW532 := n2_; have GE532 := n3_; clear n0_ n1_ n2_ n3_; clear hb hbox hg; have hcz4_0 : w3.cell? ⟨gb532, 0, none⟩ = some (.string a0_0) := (blk_cell BK532.out 0).trans rfl; have hcz4_1 : w3.cell? ⟨gb532, 1, none⟩ = some (.string a0_1) := (blk_cell BK532.out 1).trans rfl; have hcz4_2 : w3.cell? ⟨gb532, 2, none⟩ = some (.int .u32 a0_2) := (blk_cell BK532.out 2).trans rfl; have hcz4_3 : w3.cell? ⟨gb532, 3, none⟩ = some (.int .i64 a0_3) := (blk_cell BK532.out 3).trans rfl; have hcz4_4 : w3.cell? ⟨gb532, 4, none⟩ = some (.int .u64 a0_4) := (blk_cell BK532.out 4).trans rfl; have hfz4_0 := blk_frozen BK532.out 0; have hfz4_1 := blk_frozen BK532.out 1; have hfz4_2 := blk_frozen BK532.out 2; have hfz4_3 := blk_frozen BK532.out 3; have hfz4_4 := blk_frozen BK532.out 4))
  (try simp only [Act.put, List.setIfInBounds_toArray, List.set_cons_zero, List.set_cons_succ])
  go_cut [3] (fun v3 wc => ∃ (kq : Nat) (x3_1 : Bool), v3 = .bool x3_1 ∧ Aside0 (item_Check.j0 kq x3_1 a0_0 a0_1 a0_2 a0_3 a0_4 = some r) ∧ Aside0 (kq ≤ k) ∧ Aside0 (wc.heap[gb532]? = some (.cells #[.string a0_0, .string a0_1, .int .u32 a0_2, .int .i64 a0_3, .int .u64 a0_4] 56 (0, 0))) ∧ Aside0 (Below w.heap.size w wc))
  case first =>
    have H := HC2.out
    clear HC2
    by_cases c5 : (a0_0.size : Int) < 1
    · rw [if_pos c5] at H
      have c5b0 : decide ((a0_0.size : Int) < 1) = true := decide_eq_true c5
      have c5b1 : decide (a0_0.size < 1) = true := decide_eq_true (by omega)
      clear c5
      (first | rw [c5b0] | (simp only [i64_w, i32_w]; rw [c5b0]) | skip)
      have H' := Aside0.mk H
      clear H
      go_wp2
      go_meet
      case rel => exact ⟨_, (decide ((a0_0.size : Int) < 1)), (by first | rfl | (simp; done) | (simp [*]; done) | exact x_nonempty _ | (simp [x_nonempty]; done)), H', ⟨by first | omega | exact Nat.le_refl _⟩, ⟨by (with_reducible repeat (first | refine blk_drewN ?_ _ | refine blk_drew ?_ | refine blk_alloc ?_ _)); exact BK532.out⟩, ⟨by repeat (first | (with_reducible first | exact HB.out | apply below_alloc | apply pw_below_drewN | apply below_drew1 | refine below_set ?_ GE532.out) | exact HB.out)⟩⟩
    · rw [if_neg c5] at H
      have c5b0 : decide ((a0_0.size : Int) < 1) = false := decide_eq_false c5
      have c5b1 : decide (a0_0.size < 1) = false := decide_eq_false (by omega)
      clear c5
      (first | rw [c5b0] | (simp only [i64_w, i32_w]; rw [c5b0]) | skip)
      by_cases c6 : (a0_0.size : Int) > 32
      · rw [if_pos c6] at H
        have c6b0 : decide (32 < (a0_0.size : Int)) = true := decide_eq_true c6
        have c6b1 : decide (32 < a0_0.size) = true := decide_eq_true (by omega)
        clear c6
        have H' := Aside0.mk H
        clear H
        have hcz7_0 : w3.cell? ⟨gb532, 0, none⟩ = some (.string a0_0) := (blk_cell BK532.out 0).trans rfl
        have hcz7_1 : w3.cell? ⟨gb532, 1, none⟩ = some (.string a0_1) := (blk_cell BK532.out 1).trans rfl
        have hcz7_2 : w3.cell? ⟨gb532, 2, none⟩ = some (.int .u32 a0_2) := (blk_cell BK532.out 2).trans rfl
        have hcz7_3 : w3.cell? ⟨gb532, 3, none⟩ = some (.int .i64 a0_3) := (blk_cell BK532.out 3).trans rfl
        have hcz7_4 : w3.cell? ⟨gb532, 4, none⟩ = some (.int .u64 a0_4) := (blk_cell BK532.out 4).trans rfl
        have hfz7_0 := blk_frozen BK532.out 0
        have hfz7_1 := blk_frozen BK532.out 1
        have hfz7_2 := blk_frozen BK532.out 2
        have hfz7_3 := blk_frozen BK532.out 3
        have hfz7_4 := blk_frozen BK532.out 4
        go_wp2
        go_meet
        case rel => exact ⟨_, (decide ((a0_0.size : Int) > 32)), (by first | rfl | (simp; done) | (simp [*]; done) | exact x_nonempty _ | (simp [x_nonempty]; done)), H', ⟨by first | omega | exact Nat.le_refl _⟩, ⟨by (with_reducible repeat (first | refine blk_drewN ?_ _ | refine blk_drew ?_ | refine blk_alloc ?_ _)); exact BK532.out⟩, ⟨by repeat (first | (with_reducible first | exact HB.out | apply below_alloc | apply pw_below_drewN | apply below_drew1 | refine below_set ?_ GE532.out) | exact HB.out)⟩⟩
      · rw [if_neg c6] at H
        have c6b0 : decide (32 < (a0_0.size : Int)) = false := decide_eq_false c6
        have c6b1 : decide (32 < a0_0.size) = false := decide_eq_false (by omega)
        clear c6
        have H' := Aside0.mk H
        clear H
        have hcz8_0 : w3.cell? ⟨gb532, 0, none⟩ = some (.string a0_0) := (blk_cell BK532.out 0).trans rfl
        have hcz8_1 : w3.cell? ⟨gb532, 1, none⟩ = some (.string a0_1) := (blk_cell BK532.out 1).trans rfl
        have hcz8_2 : w3.cell? ⟨gb532, 2, none⟩ = some (.int .u32 a0_2) := (blk_cell BK532.out 2).trans rfl
        have hcz8_3 : w3.cell? ⟨gb532, 3, none⟩ = some (.int .i64 a0_3) := (blk_cell BK532.out 3).trans rfl
        have hcz8_4 : w3.cell? ⟨gb532, 4, none⟩ = some (.int .u64 a0_4) := (blk_cell BK532.out 4).trans rfl
        have hfz8_0 := blk_frozen BK532.out 0
        have hfz8_1 := blk_frozen BK532.out 1
        have hfz8_2 := blk_frozen BK532.out 2
        have hfz8_3 := blk_frozen BK532.out 3
        have hfz8_4 := blk_frozen BK532.out 4
        go_wp2
        go_meet
        case rel => exact ⟨_, (decide ((a0_1.size : Int) > 512)), (by first | rfl | (simp; done) | (simp [*]; done) | exact x_nonempty _ | (simp [x_nonempty]; done)), H', ⟨by first | omega | exact Nat.le_refl _⟩, ⟨by (with_reducible repeat (first | refine blk_drewN ?_ _ | refine blk_drew ?_ | refine blk_alloc ?_ _)); exact BK532.out⟩, ⟨by repeat (first | (with_reducible first | exact HB.out | apply below_alloc | apply pw_below_drewN | apply below_drew1 | refine below_set ?_ GE532.out) | exact HB.out)⟩⟩
  case rest => as_aux_lemma =>
    clear HC2
    (try clear p2); (try clear c5); (try clear c5b0); (try clear c5b1); (try clear c6); (try clear c6b0); (try clear c6b1); (try clear hcz4_0); (try clear hcz4_1); (try clear hcz4_2); (try clear hcz4_3); (try clear hcz4_4); (try clear hcz7_0); (try clear hcz7_1); (try clear hcz7_2); (try clear hcz7_3); (try clear hcz7_4); (try clear hcz8_0); (try clear hcz8_1); (try clear hcz8_2); (try clear hcz8_3); (try clear hcz8_4); (try clear hfz4_0); (try clear hfz4_1); (try clear hfz4_2); (try clear hfz4_3); (try clear hfz4_4); (try clear hfz7_0); (try clear hfz7_1); (try clear hfz7_2); (try clear hfz7_3); (try clear hfz7_4); (try clear hfz8_0); (try clear hfz8_1); (try clear hfz8_2); (try clear hfz8_3); (try clear hfz8_4)
    obtain ⟨kq, x3_1, rfl, HA, HJ1, BK532, HB⟩ := hcut
    cases kq with
    | zero => exact absurd HA.out (by simp [item_Check.j0])
    | succ kj1 =>
      have H := HA.out
      clear HA
      simp only [item_Check.j0] at H
      by_cases c9 : x3_1 = true
      · subst c9
        have H1 : (some 3) = some r := by rw [if_pos rfl] at H; exact H
        clear H
        have H := H1
        clear H1
        obtain rfl := Option.some.inj H
        go_wp2
        go_ret
        exact ⟨by first | rfl | (simp [errW_none, errW_some] <;> rfl) | (simp [*, errW_none, errW_some] <;> rfl), by repeat (first | (with_reducible first | exact HB.out | apply below_alloc | apply pw_below_drewN | apply below_drew1 | refine below_set ?_ GE532.out) | exact HB.out)⟩
      · replace c9 := Bool.eq_false_iff.mpr c9
        subst c9
        have H1 : ((item_moment.f a0_3).bind fun t533 => (if t533 = true then (some 0) else (some 2))) = some r := by rw [if_neg (show ¬ (false = true) by decide)] at H; exact H
        clear H
        have H := H1
        clear H1
        replace H := Option.bind_eq_some_iff.mp H
        obtain ⟨t533, A100, H⟩ := H
        replace H : (if t533 = true then (some 0) else (some 2)) = some r := H
        have A10 := Aside0.mk A100
        clear A100
        by_cases c11 : t533 = true
        · subst c11
          have H1 : (some 0) = some r := by rw [if_pos rfl] at H; exact H
          clear H
          have H := H1
          clear H1
          obtain rfl := Option.some.inj H
          have hcz12_0 : wc.cell? ⟨gb532, 0, none⟩ = some (.string a0_0) := (blk_cell BK532.out 0).trans rfl
          have hcz12_1 : wc.cell? ⟨gb532, 1, none⟩ = some (.string a0_1) := (blk_cell BK532.out 1).trans rfl
          have hcz12_2 : wc.cell? ⟨gb532, 2, none⟩ = some (.int .u32 a0_2) := (blk_cell BK532.out 2).trans rfl
          have hcz12_3 : wc.cell? ⟨gb532, 3, none⟩ = some (.int .i64 a0_3) := (blk_cell BK532.out 3).trans rfl
          have hcz12_4 : wc.cell? ⟨gb532, 4, none⟩ = some (.int .u64 a0_4) := (blk_cell BK532.out 4).trans rfl
          have hfz12_0 := blk_frozen BK532.out 0
          have hfz12_1 := blk_frozen BK532.out 1
          have hfz12_2 := blk_frozen BK532.out 2
          have hfz12_3 := blk_frozen BK532.out 3
          have hfz12_4 := blk_frozen BK532.out 4
          go_wp2_with (first | ((with_reducible refine gate_callee (f := 90) rfl ?_); refine goesL_ (some 19) rfl rfl Tryd.func90 (by kernel_rfl) rfl #[.int .i64 a0_3] rfl (by (try simp only [List.map_toArray, List.map_cons, List.map_nil]); first | done | rfl | (simp only [List.length_drop, List.length_take]; rfl)) ?_; (with_reducible refine (item_moment.calls a0_3 true _ A10.out).mono ?_); rintro e w' ⟨rfl, ⟨nd, rfl⟩⟩; refine ⟨_, rfl, ?_⟩))
          go_ret
          exact ⟨by first | rfl | (simp [errW_none, errW_some] <;> rfl) | (simp [*, errW_none, errW_some] <;> rfl), by repeat (first | (with_reducible first | exact HB.out | apply below_alloc | apply pw_below_drewN | apply below_drew1 | refine below_set ?_ GE532.out) | exact HB.out)⟩
        · replace c11 := Bool.eq_false_iff.mpr c11
          subst c11
          have H1 : (some 2) = some r := by rw [if_neg (show ¬ (false = true) by decide)] at H; exact H
          clear H
          have H := H1
          clear H1
          obtain rfl := Option.some.inj H
          have hcz13_0 : wc.cell? ⟨gb532, 0, none⟩ = some (.string a0_0) := (blk_cell BK532.out 0).trans rfl
          have hcz13_1 : wc.cell? ⟨gb532, 1, none⟩ = some (.string a0_1) := (blk_cell BK532.out 1).trans rfl
          have hcz13_2 : wc.cell? ⟨gb532, 2, none⟩ = some (.int .u32 a0_2) := (blk_cell BK532.out 2).trans rfl
          have hcz13_3 : wc.cell? ⟨gb532, 3, none⟩ = some (.int .i64 a0_3) := (blk_cell BK532.out 3).trans rfl
          have hcz13_4 : wc.cell? ⟨gb532, 4, none⟩ = some (.int .u64 a0_4) := (blk_cell BK532.out 4).trans rfl
          have hfz13_0 := blk_frozen BK532.out 0
          have hfz13_1 := blk_frozen BK532.out 1
          have hfz13_2 := blk_frozen BK532.out 2
          have hfz13_3 := blk_frozen BK532.out 3
          have hfz13_4 := blk_frozen BK532.out 4
          go_wp2_with (first | ((with_reducible refine gate_callee (f := 90) rfl ?_); refine goesL_ (some 19) rfl rfl Tryd.func90 (by kernel_rfl) rfl #[.int .i64 a0_3] rfl (by (try simp only [List.map_toArray, List.map_cons, List.map_nil]); first | done | rfl | (simp only [List.length_drop, List.length_take]; rfl)) ?_; (with_reducible refine (item_moment.calls a0_3 false _ A10.out).mono ?_); rintro e w' ⟨rfl, ⟨nd, rfl⟩⟩; refine ⟨_, rfl, ?_⟩))
          go_ret
          exact ⟨by first | rfl | (simp [errW_none, errW_some] <;> rfl) | (simp [*, errW_none, errW_some] <;> rfl), by repeat (first | (with_reducible first | exact HB.out | apply below_alloc | apply pw_below_drewN | apply below_drew1 | refine below_set ?_ GE532.out) | exact HB.out)⟩

/-! ### words_result_1: function 66 -/
def words_result_1.f (k : Nat) (a0_0 : ByteArray) (a0_1 : ByteArray) (a0_2 : Int) (a0_3 : Int) (a0_4 : Int) : Option (Bool) := (item_Check.f k a0_0 a0_1 a0_2 a0_3 a0_4).bind fun t535 => (some (t535 != 0))
theorem words_result_1.mono : ∀ a0 a1 a2 a3 a4 k, LeO (words_result_1.f k a0 a1 a2 a3 a4) (words_result_1.f (k + 1) a0 a1 a2 a3 a4) := by
  intro a0 a1 a2 a3 a4 k
  unfold words_result_1.f
  repeat' first
      | (with_reducible exact item_Check.mono _ _ _ _ _ _)
      | (with_reducible exact LeO.refl _)
      | (with_reducible exact LeO.none _)
      | (with_reducible refine LeO.ite ?_ ?_)
      | (with_reducible refine LeO.bind ?_ (fun _ => ?_))
      | exact item_Check.mono _ _ _ _ _ _
      | exact LeO.none _
      | refine LeO.ite ?_ ?_
      | refine LeO.bind ?_ (fun _ => ?_)
set_option maxHeartbeats 8000000 in
set_option maxRecDepth 100000 in
theorem words_result_1.calls (k : Nat) (a0_0 : ByteArray) (a0_1 : ByteArray) (a0_2 : Int) (a0_3 : Int) (a0_4 : Int) (r : Bool) (w : World) (h : words_result_1.f k a0_0 a0_1 a0_2 a0_3 a0_4 = some r) :
    Calls Tryd.prog 66 #[.agg #[.string a0_0, .string a0_1, .int .u32 a0_2, .int .i64 a0_3, .int .u64 a0_4]] w fun e w' => e = .returned (.bool r) ∧ Below w.heap.size w w' := by
  have hu56 := Tryd.underlying56
  have HB := Aside0.mk (Below.refl w.heap.size w)
  have H : ((item_Check.f k a0_0 a0_1 a0_2 a0_3 a0_4).bind fun t535 => (some (t535 != 0))) = some r := h
  clear h
  replace H := Option.bind_eq_some_iff.mp H
  obtain ⟨t535, A20, H⟩ := H
  replace H : (some (t535 != 0)) = some r := H
  have A2 := Aside0.mk A20
  clear A20
  obtain rfl := Option.some.inj H
  go_enter Tryd.func66, Tryd.ntmps66
  go_wp2_with (first | ((with_reducible refine gate_dst (N := 1) rfl ?_); refine box_event ?hg (N := 1) ?hd (cs := #[.string a0_0, .string a0_1, .int .u32 a0_2, .int .i64 a0_3, .int .u64 a0_4]) (t := 56) ?hr ?_; (case hd => rfl); (case hg => rfl); (case hr => first | (go_simp; done) | (go_simp; rfl)); intro gb534 hg w3 hbox hb; have n0_ := Aside0.mk (below_step (by repeat (first | (with_reducible first | exact HB.out | apply below_alloc | apply pw_below_drewN | apply below_drew1) | exact HB.out)) hb); have n1_ := Aside0.mk (hbox); have n2_ := Aside0.mk ((by rw [hg]; exact (below_size (by repeat (first | (with_reducible first | exact HB.out | apply below_alloc | apply pw_below_drewN | apply below_drew1) | exact HB.out))) : w.heap.size ≤ gb534)); have n3_ := Aside0.mk ((by rw [hg]; exact (below_size (by repeat (first | (with_reducible first | exact HB.out | apply below_alloc | apply pw_below_drewN | apply below_drew1) | exact HB.out))) : w.heap.size ≤ gb534)); clear HB; have HB := n0_; have BK534 := n1_; have GW534 := n2_; have GE534 := n3_; clear n0_ n1_ n2_ n3_; clear hb hbox hg; have hcz4_0 : w3.cell? ⟨gb534, 0, none⟩ = some (.string a0_0) := (blk_cell BK534.out 0).trans rfl; have hcz4_1 : w3.cell? ⟨gb534, 1, none⟩ = some (.string a0_1) := (blk_cell BK534.out 1).trans rfl; have hcz4_2 : w3.cell? ⟨gb534, 2, none⟩ = some (.int .u32 a0_2) := (blk_cell BK534.out 2).trans rfl; have hcz4_3 : w3.cell? ⟨gb534, 3, none⟩ = some (.int .i64 a0_3) := (blk_cell BK534.out 3).trans rfl; have hcz4_4 : w3.cell? ⟨gb534, 4, none⟩ = some (.int .u64 a0_4) := (blk_cell BK534.out 4).trans rfl; have hfz4_0 := blk_frozen BK534.out 0; have hfz4_1 := blk_frozen BK534.out 1; have hfz4_2 := blk_frozen BK534.out 2; have hfz4_3 := blk_frozen BK534.out 3; have hfz4_4 := blk_frozen BK534.out 4) | ((with_reducible refine gate_callee (f := 67) rfl ?_); refine goesL_ (some 4) rfl rfl Tryd.func67 (by kernel_rfl) rfl #[.agg #[.string a0_0, .string a0_1, .int .u32 a0_2, .int .i64 a0_3, .int .u64 a0_4]] rfl (by (try simp only [List.map_toArray, List.map_cons, List.map_nil]); first | done | rfl | (simp only [List.length_drop, List.length_take]; rfl)) ?_; (with_reducible refine (item_Check.calls k a0_0 a0_1 a0_2 a0_3 a0_4 t535 _ A2.out).mono ?_); rintro e w5 ⟨rfl, hb⟩; refine ⟨_, rfl, ?_⟩; have n0_ := Aside0.mk (blk_below (g := gb534) (o := .cells #[.string a0_0, .string a0_1, .int .u32 a0_2, .int .i64 a0_3, .int .u64 a0_4] 56 (0, 0)) (by (with_reducible repeat (first | refine blk_drewN ?_ _ | refine blk_drew ?_ | refine blk_alloc ?_ _)); exact BK534.out) hb); have n1_ := Aside0.mk (below_step (by repeat (first | (with_reducible first | exact HB.out | apply below_alloc | apply pw_below_drewN | apply below_drew1 | refine below_set ?_ GE534.out) | exact HB.out)) hb); clear BK534; clear HB; have BK534 := n0_; have HB := n1_; clear n0_ n1_; (try clear hb); (try clear hb2); (try clear hk); (try clear hi)))
  go_ret
  exact ⟨by first | rfl | (simp [errW_none, errW_some] <;> rfl) | (simp [*, errW_none, errW_some] <;> rfl), by repeat (first | (with_reducible first | exact HB.out | apply below_alloc | apply pw_below_drewN | apply below_drew1 | refine below_set ?_ GE534.out) | exact HB.out)⟩

/-! ### words_Write_1: function 22 -/
def words_Write_1.f (a0_0 : ByteArray) (a0_1 : ByteArray) (a0_2 : Int) (a0_3 : Int) (a0_4 : Int) : Option (Bool) := (words_plain.f a0_0).bind fun t537 => (some (!t537))
set_option maxHeartbeats 8000000 in
set_option maxRecDepth 100000 in
theorem words_Write_1.calls (a0_0 : ByteArray) (a0_1 : ByteArray) (a0_2 : Int) (a0_3 : Int) (a0_4 : Int) (r : Bool) (w : World) (h : words_Write_1.f a0_0 a0_1 a0_2 a0_3 a0_4 = some r) :
    Calls Tryd.prog 22 #[.agg #[.string a0_0, .string a0_1, .int .u32 a0_2, .int .i64 a0_3, .int .u64 a0_4]] w fun e w' => e = .returned (.bool r) ∧ Below w.heap.size w w' := by
  have hu56 := Tryd.underlying56
  have HB := Aside0.mk (Below.refl w.heap.size w)
  have H : ((words_plain.f a0_0).bind fun t537 => (some (!t537))) = some r := h
  clear h
  replace H := Option.bind_eq_some_iff.mp H
  obtain ⟨t537, A20, H⟩ := H
  replace H : (some (!t537)) = some r := H
  have A2 := Aside0.mk A20
  clear A20
  obtain rfl := Option.some.inj H
  go_enter Tryd.func22, Tryd.ntmps22
  go_wp2_with (first | ((with_reducible refine gate_dst (N := 1) rfl ?_); refine box_event ?hg (N := 1) ?hd (cs := #[.string a0_0, .string a0_1, .int .u32 a0_2, .int .i64 a0_3, .int .u64 a0_4]) (t := 56) ?hr ?_; (case hd => rfl); (case hg => rfl); (case hr => first | (go_simp; done) | (go_simp; rfl)); intro gb536 hg w3 hbox hb; have n0_ := Aside0.mk (below_step (by repeat (first | (with_reducible first | exact HB.out | apply below_alloc | apply pw_below_drewN | apply below_drew1) | exact HB.out)) hb); have n1_ := Aside0.mk (hbox); have n2_ := Aside0.mk ((by rw [hg]; exact (below_size (by repeat (first | (with_reducible first | exact HB.out | apply below_alloc | apply pw_below_drewN | apply below_drew1) | exact HB.out))) : w.heap.size ≤ gb536)); have n3_ := Aside0.mk ((by rw [hg]; exact (below_size (by repeat (first | (with_reducible first | exact HB.out | apply below_alloc | apply pw_below_drewN | apply below_drew1) | exact HB.out))) : w.heap.size ≤ gb536)); clear HB; have HB := n0_; have BK536 := n1_; have GW536 := n2_; have GE536 := n3_; clear n0_ n1_ n2_ n3_; clear hb hbox hg; have hcz4_0 : w3.cell? ⟨gb536, 0, none⟩ = some (.string a0_0) := (blk_cell BK536.out 0).trans rfl; have hcz4_1 : w3.cell? ⟨gb536, 1, none⟩ = some (.string a0_1) := (blk_cell BK536.out 1).trans rfl; have hcz4_2 : w3.cell? ⟨gb536, 2, none⟩ = some (.int .u32 a0_2) := (blk_cell BK536.out 2).trans rfl; have hcz4_3 : w3.cell? ⟨gb536, 3, none⟩ = some (.int .i64 a0_3) := (blk_cell BK536.out 3).trans rfl; have hcz4_4 : w3.cell? ⟨gb536, 4, none⟩ = some (.int .u64 a0_4) := (blk_cell BK536.out 4).trans rfl; have hfz4_0 := blk_frozen BK536.out 0; have hfz4_1 := blk_frozen BK536.out 1; have hfz4_2 := blk_frozen BK536.out 2; have hfz4_3 := blk_frozen BK536.out 3; have hfz4_4 := blk_frozen BK536.out 4) | ((with_reducible refine gate_callee (f := 20) rfl ?_); refine goesL_ (some 5) rfl rfl Tryd.func20 (by kernel_rfl) rfl #[.string a0_0] rfl (by (try simp only [List.map_toArray, List.map_cons, List.map_nil]); first | done | rfl | (simp only [List.length_drop, List.length_take]; rfl)) ?_; (with_reducible refine (words_plain.calls a0_0 t537 _ A2.out).mono ?_); rintro e w5 ⟨rfl, hb⟩; refine ⟨_, rfl, ?_⟩; have n0_ := Aside0.mk (blk_below (g := gb536) (o := .cells #[.string a0_0, .string a0_1, .int .u32 a0_2, .int .i64 a0_3, .int .u64 a0_4] 56 (0, 0)) (by (with_reducible repeat (first | refine blk_drewN ?_ _ | refine blk_drew ?_ | refine blk_alloc ?_ _)); exact BK536.out) hb); have n1_ := Aside0.mk (below_step (by repeat (first | (with_reducible first | exact HB.out | apply below_alloc | apply pw_below_drewN | apply below_drew1 | refine below_set ?_ GE536.out) | exact HB.out)) hb); clear BK536; clear HB; have BK536 := n0_; have HB := n1_; clear n0_ n1_; (try clear hb); (try clear hb2); (try clear hk); (try clear hi)))
  go_ret
  exact ⟨by first | rfl | (simp [errW_none, errW_some] <;> rfl) | (simp [*, errW_none, errW_some] <;> rfl), by repeat (first | (with_reducible first | exact HB.out | apply below_alloc | apply pw_below_drewN | apply below_drew1 | refine below_set ?_ GE536.out) | exact HB.out)⟩

/-! ### text_Write_1: function 33 -/
def text_Write_1.f (a0 : ByteArray) : Option (Bool) := (text_plain.f a0 32).bind fun t538 => (some (!t538))
set_option maxHeartbeats 8000000 in
set_option maxRecDepth 100000 in
theorem text_Write_1.calls (a0 : ByteArray) (r : Bool) (w : World) (h : text_Write_1.f a0 = some r) :
    Calls Tryd.prog 33 #[.string a0] w fun e w' => e = .returned (.bool r) ∧ Below w.heap.size w w' := by
  have HB := Aside0.mk (Below.refl w.heap.size w)
  have H : ((text_plain.f a0 32).bind fun t538 => (some (!t538))) = some r := h
  clear h
  replace H := Option.bind_eq_some_iff.mp H
  obtain ⟨t538, A20, H⟩ := H
  replace H : (some (!t538)) = some r := H
  have A2 := Aside0.mk A20
  clear A20
  obtain rfl := Option.some.inj H
  go_enter Tryd.func33, Tryd.ntmps33
  go_wp2_with (first | ((with_reducible refine gate_callee (f := 34) rfl ?_); refine goesL_ (some 4) rfl rfl Tryd.func34 (by kernel_rfl) rfl #[.string a0, .int .i64 32] rfl (by (try simp only [List.map_toArray, List.map_cons, List.map_nil]); first | done | rfl | (simp only [List.length_drop, List.length_take]; rfl)) ?_; (with_reducible refine (text_plain.calls a0 32 t538 _ A2.out).mono ?_); rintro e w3 ⟨rfl, hb⟩; refine ⟨_, rfl, ?_⟩; have n0_ := Aside0.mk (below_step (by repeat (first | (with_reducible first | exact HB.out | apply below_alloc | apply pw_below_drewN | apply below_drew1) | exact HB.out)) hb); clear HB; have HB := n0_; clear n0_; (try clear hb); (try clear hb2); (try clear hk); (try clear hi)))
  go_ret
  exact ⟨by first | rfl | (simp [errW_none, errW_some] <;> rfl) | (simp [*, errW_none, errW_some] <;> rfl), by repeat (first | (with_reducible first | exact HB.out | apply below_alloc | apply pw_below_drewN | apply below_drew1) | exact HB.out)⟩

end Go.Proofs.YtfoengihiaegoaaDoor.P
