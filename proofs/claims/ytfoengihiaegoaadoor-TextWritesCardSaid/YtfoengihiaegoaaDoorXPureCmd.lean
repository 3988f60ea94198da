/- The plain law of commands: what order.Check says of a command, and what the document says of it, is one: 'cmdOk'. -/
import Derived.Test.YtfoengihiaegoaaDoorP22
import Derived.Test.YtfoengihiaegoaaDoorP21
import Derived.Test.YtfoengihiaegoaaDoorP20
import Derived.Test.YtfoengihiaegoaaDoorP18
import Derived.Test.YtfoengihiaegoaaDoorP19
import Derived.Test.YtfoengihiaegoaaDoorP28
import Derived.Test.YtfoengihiaegoaaDoorP27
import Derived.Test.YtfoengihiaegoaaDoorP26
import Derived.Test.YtfoengihiaegoaaDoorP29
import Derived.Test.YtfoengihiaegoaaDoorXEv
namespace Go.Proofs.YtfoengihiaegoaaDoor.P
open Go.RowKit Go.Proofs.YtfoengihiaegoaaDoorW.PrintWords
set_option linter.unusedVariables false
set_option linter.unusedSimpArgs false
theorem index_ev (xs : List ByteArray) (x : ByteArray) (hn : xs.length < 9223372036854775807) : ∀ m i, xs.length - i = m → i ≤ xs.length → ∃ r, Evt (fun k => slices_Index_string_string.l0 k xs x (xs.length : Int) (i : Int)) r ∧ (decide (r ≥ 0) = (xs.drop i).any fun y => decide (x = y)) := by
  intro m
  induction m with
  | zero =>
    intro i hm hi
    refine ⟨-1, Evt.succ ?_, ?_⟩
    · simp only [slices_Index_string_string.l0, if_neg (show ¬ (i : Int) < (xs.length : Int) by omega)]
      exact Evt.done _
    · rw [List.drop_eq_nil_of_le (by omega)]
      rfl
  | succ m ih =>
    intro i hm hi
    have hi' : i < xs.length := by omega
    rw [List.drop_eq_getElem_cons hi', List.any_cons]
    by_cases e : x = xs[i]
    · refine ⟨(i : Int), Evt.succ ?_, ?_⟩
      · simp only [slices_Index_string_string.l0, if_pos (show (i : Int) < (xs.length : Int) by omega), if_pos (show (0 : Int) ≤ (i : Int) by omega), rdS_at xs i hi', toList_inj, if_pos e]
        exact Evt.done _
      · rw [decide_eq_true e, Bool.true_or]
        exact decide_eq_true (by omega)
    · obtain ⟨r, hr, hb⟩ := ih (i + 1) (by omega) (by omega)
      refine ⟨r, Evt.succ ?_, ?_⟩
      · simp only [slices_Index_string_string.l0, if_pos (show (i : Int) < (xs.length : Int) by omega), if_pos (show (0 : Int) ≤ (i : Int) by omega), rdS_at xs i hi', toList_inj, if_neg e, wrapN_succ i (by omega)]
        exact hr
      · rw [hb, decide_eq_false e, Bool.false_or]
theorem contains_ev (xs : List ByteArray) (x : ByteArray) (hn : xs.length < 9223372036854775807) : Evt (fun k => slices_Contains_string_string.f k xs x) (xs.any fun y => decide (x = y)) := by
  obtain ⟨r, hr, hb⟩ := index_ev xs x hn xs.length 0 (by omega) (by omega)
  rw [List.drop_zero] at hb
  rw [← hb]
  unfold slices_Contains_string_string.f slices_Index_string_string.f
  exact Evt.bind hr (Evt.done _)
theorem sz_bad1 {x : ByteArray} (h : (x.size : Int) < 1) : keySz x = false := by
  unfold keySz
  rw [decide_eq_false (by omega), Bool.false_and]
theorem sz_bad2 {x : ByteArray} (h : (x.size : Int) > 32) : keySz x = false := by
  unfold keySz
  rw [decide_eq_false (show ¬ x.size ≤ 32 by omega), Bool.and_false]
theorem sz_ok {x : ByteArray} (h1 : ¬ (x.size : Int) < 1) (h2 : ¬ (x.size : Int) > 32) : keySz x = true := by
  unfold keySz
  rw [decide_eq_true (by omega), decide_eq_true (by omega)]
  rfl
section
variable (kind tenant : Int) (keys : List ByteArray) (value : ByteArray) (flags for_ unique by_ : Int)
theorem keyed_ev (hn : keys.length < 9223372036854775807) : ∀ m i, keys.length - i = m → i ≤ keys.length → Evt (fun k => order_keyed.l0 k keys (keys.length : Int) (i : Int) kind tenant keys value flags for_ unique by_) ((keys.drop i).all keySz && noTwice (keys.take i) (keys.drop i)) := by
  intro m
  induction m with
  | zero =>
    intro i hm hi
    refine Evt.succ ?_
    simp only [order_keyed.l0, if_neg (show ¬ (i : Int) < (keys.length : Int) by omega)]
    rw [List.drop_eq_nil_of_le (by omega)]
    exact Evt.done _
  | succ m ih =>
    intro i hm hi
    have hi' : i < keys.length := by omega
    have ht : keys.take i ++ [keys[i]] = keys.take (i + 1) := (List.take_succ_eq_append_getElem hi').symm
    rw [List.drop_eq_getElem_cons hi', List.all_cons]
    simp only [noTwice, ht]
    refine Evt.succ ?_
    simp only [order_keyed.l0, if_pos (show (i : Int) < (keys.length : Int) by omega), if_pos (show (0 : Int) ≤ (i : Int) by omega), if_pos (show (i : Int) ≤ (keys.length : Int) by omega), rdS_at keys i hi', wrapN_succ i (by omega), Int.toNat_natCast]
    by_cases h1 : (keys[i].size : Int) < 1
    · simp only [if_pos h1, sz_bad1 h1, Bool.false_and]
      exact Evt.done _
    by_cases h2 : (keys[i].size : Int) > 32
    · simp only [if_neg h1, if_pos h2, sz_bad2 h2, Bool.false_and]
      exact Evt.done _
    simp only [if_neg h1, if_neg h2, sz_ok h1 h2, Bool.true_and]
    refine Evt.bind (contains_ev (keys.take i) keys[i] (by rw [List.length_take]; omega)) ?_
    cases hc : (keys.take i).any fun y => decide (keys[i] = y) with
    | true => simp only [if_true, Bool.not_true, Bool.false_and, Bool.and_false]; exact Evt.done _
    | false =>
      simp only [Bool.false_eq_true, if_false, Bool.not_false, Bool.true_and]
      exact ih (i + 1) (by omega) (by omega)
theorem keyed_j0 (hn : keys.length < 9223372036854775807) (lo hi : Nat) : Evt (fun k => order_keyed.j0 k (lo : Int) (hi : Int) kind tenant keys value flags for_ unique by_) (decide (lo ≤ keys.length) && decide (keys.length ≤ hi) && keys.all keySz && noTwice [] keys) := by
  refine Evt.succ ?_
  have hk := keyed_ev kind tenant keys value flags for_ unique by_ hn keys.length 0 (by omega) (by omega)
  rw [List.drop_zero, List.take_zero] at hk
  simp only [order_keyed.j0]
  by_cases h1 : (keys.length : Int) < (lo : Int)
  · simp only [if_pos h1, decide_eq_false (show ¬ lo ≤ keys.length by omega), Bool.false_and]
    refine Evt.succ ?_
    simp only [order_keyed.j1, if_true]
    exact Evt.done _
  · simp only [if_neg h1, decide_eq_true (show lo ≤ keys.length by omega), Bool.true_and]
    refine Evt.succ ?_
    simp only [order_keyed.j1]
    by_cases h2 : (keys.length : Int) > (hi : Int)
    · simp only [decide_eq_true h2, decide_eq_false (show ¬ keys.length ≤ hi by omega), if_true, Bool.false_and]
      exact Evt.done _
    · simp only [decide_eq_false h2, decide_eq_true (show keys.length ≤ hi by omega), Bool.false_eq_true, if_false, Bool.true_and]
      exact hk
def hasOf (kind : Int) : Int :=
  if kind = 1 ∨ kind = 10 then 129 else if kind = 2 ∨ kind = 3 ∨ kind = 4 then 142 else if kind = 5 then 158 else if kind = 6 ∨ kind = 7 then 160 else if kind = 8 then 130 else if kind = 9 then 132 else if kind = 11 then 192 else 0
theorem has_ev : Evt (fun k => order_has.f k kind) (hasOf kind) := by
  unfold order_has.f hasOf
  by_cases h1 : kind = 1
  · simp only [h1, if_true, true_or]; refine Evt.succ ?_; simp only [order_has.j0]; exact Evt.done _
  simp only [if_neg h1, h1, false_or]
  refine Evt.succ ?_
  simp only [order_has.j0]
  by_cases h10 : kind = 10
  · simp only [h10, beq_self_eq_true, if_true]; exact Evt.done _
  simp only [h10, beq_eq_false_iff_ne.2 h10, Bool.false_eq_true, if_false]
  by_cases h2 : kind = 2
  · simp only [h2, if_true, true_or, beq_self_eq_true]; refine Evt.succ ?_; simp only [order_has.j1, if_true]; exact Evt.done _
  by_cases h3 : kind = 3
  · simp only [h3, if_true, true_or, or_true, beq_self_eq_true, if_false, show ¬ (3 : Int) = 2 by decide]; refine Evt.succ ?_; simp only [order_has.j1, if_true]; exact Evt.done _
  by_cases h4 : kind = 4
  · simp only [h4, if_true, true_or, or_true, beq_self_eq_true, if_false, show ¬ (4 : Int) = 2 by decide, show ¬ (4 : Int) = 3 by decide]; refine Evt.succ ?_; simp only [order_has.j1, if_true]; exact Evt.done _
  simp only [h2, h3, h4, if_false, or_self, beq_eq_false_iff_ne.2 h4]
  refine Evt.succ ?_
  simp only [order_has.j1, Bool.false_eq_true, if_false]
  by_cases h5 : kind = 5
  · simp only [h5, if_true]; exact Evt.done _
  by_cases h6 : kind = 6
  · simp only [h6, if_true, true_or, beq_self_eq_true, if_false, show ¬ (6 : Int) = 5 by decide]; refine Evt.succ ?_; simp only [order_has.j2, if_true]; exact Evt.done _
  by_cases h7 : kind = 7
  · simp only [h7, if_true, true_or, or_true, beq_self_eq_true, if_false, show ¬ (7 : Int) = 5 by decide, show ¬ (7 : Int) = 6 by decide]; refine Evt.succ ?_; simp only [order_has.j2, if_true]; exact Evt.done _
  simp only [h5, h6, h7, if_false, or_self, beq_eq_false_iff_ne.2 h7]
  refine Evt.succ ?_
  simp only [order_has.j2, Bool.false_eq_true, if_false]
  by_cases h8 : kind = 8
  · simp only [h8, if_true]; exact Evt.done _
  by_cases h9 : kind = 9
  · simp only [h9, if_true, if_false, show ¬ (9 : Int) = 8 by decide]; exact Evt.done _
  by_cases h11 : kind = 11
  · simp only [h11, if_true, if_false, show ¬ (11 : Int) = 8 by decide, show ¬ (11 : Int) = 9 by decide]; exact Evt.done _
  simp only [h8, h9, h11, if_false]
  exact Evt.done _
def bitB (h m : Int) : Bool := !decide (Go.bits .and .i64 h m = 0)
theorem may_j1 (h : Int) (b : Bool) : Evt (fun k => order_may.j1 k h b kind tenant keys value flags for_ unique by_) (!b && (decide (0 ≤ for_) && decide (for_ ≤ 1099511627776) && (for_ == 0 || bitB h 4)) && (flags == 0 || bitB h 8) && (unique == 0 || bitB h 16) && (by_ == 0 || bitB h 32)) := by
  refine Evt.succ ?_
  simp only [order_may.j1, bitB]
  cases b with
  | true => exact Evt.done _
  | false =>
    by_cases h1 : for_ < 0
    · simp only [h1, if_true, decide_eq_false (show ¬ 0 ≤ for_ by omega), Bool.false_eq_true, if_false, Bool.and_false, Bool.false_and]; exact Evt.done _
    by_cases h2 : for_ > 1099511627776
    · simp only [h1, h2, if_true, decide_eq_false (show ¬ for_ ≤ 1099511627776 by omega), Bool.false_eq_true, if_false, Bool.and_false, Bool.false_and]; exact Evt.done _
    simp only [h1, h2, Bool.false_eq_true, if_false, decide_eq_true (show 0 ≤ for_ by omega), decide_eq_true (show for_ ≤ 1099511627776 by omega), Bool.not_false, Bool.true_and]
    by_cases e4 : Go.bits .and .i64 h 4 = 0 <;> by_cases e8 : Go.bits .and .i64 h 8 = 0 <;> by_cases e16 : Go.bits .and .i64 h 16 = 0 <;> by_cases e32 : Go.bits .and .i64 h 32 = 0 <;> by_cases f0 : for_ = 0 <;> by_cases f1 : flags = 0 <;> by_cases f2 : unique = 0 <;> by_cases f3 : by_ = 0 <;>
      (simp [e4, e8, e16, e32, f0, f1, f2, f3, beq_dec]; exact Evt.done _)
theorem may_j0 (h : Int) (b : Bool) : Evt (fun k => order_may.j0 k h b kind tenant keys value flags for_ unique by_) (!b && (decide (value.size ≤ 512) && (decide (value.size = 0) || bitB h 2)) && (decide (0 ≤ for_) && decide (for_ ≤ 1099511627776) && (for_ == 0 || bitB h 4)) && (flags == 0 || bitB h 8) && (unique == 0 || bitB h 16) && (by_ == 0 || bitB h 32)) := by
  refine Evt.succ ?_
  simp only [order_may.j0]
  cases b with
  | true => exact Evt.done _
  | false =>
    have hne : (value.toList != ([] : List UInt8)) = !decide (value.size = 0) := by
      have := nil_size value
      by_cases h : value.size = 0
      · rw [this.2 h, decide_eq_true h]; rfl
      · rw [decide_eq_false h]; exact bne_iff_ne.2 (fun e => h (this.1 e))
    by_cases h1 : (value.size : Int) > 512
    · simp only [h1, if_true, decide_true, decide_eq_false (show ¬ value.size ≤ 512 by omega), Bool.false_eq_true, if_false, Bool.and_false, Bool.false_and]
      exact (may_j1 kind tenant keys value flags for_ unique by_ h true).cast (by simp)
    simp only [h1, Bool.false_eq_true, if_false, decide_eq_true (show value.size ≤ 512 by omega), Bool.not_false, Bool.true_and, hne]
    by_cases e2 : Go.bits .and .i64 h 2 = 0
    · simp only [e2, if_true]
      refine (may_j1 kind tenant keys value flags for_ unique by_ h _).cast ?_
      have : bitB h 2 = false := by unfold bitB; rw [e2]; rfl
      rw [this, Bool.or_false, Bool.not_not]
    · simp only [e2, if_false]
      refine (may_j1 kind tenant keys value flags for_ unique by_ h _).cast ?_
      have : bitB h 2 = true := by unfold bitB; rw [decide_eq_false e2]; rfl
      rw [this, Bool.or_true]
      rfl
theorem kinds {k : Int} (h : 1 ≤ k ∧ k ≤ 11) : k = 1 ∨ k = 2 ∨ k = 3 ∨ k = 4 ∨ k = 5 ∨ k = 6 ∨ k = 7 ∨ k = 8 ∨ k = 9 ∨ k = 10 ∨ k = 11 := by omega
theorem has_bits (h : 1 ≤ kind ∧ kind ≤ 11) : bitB (hasOf kind) 2 = (puts kind || kind == 8) ∧ bitB (hasOf kind) 4 = (puts kind || kind == 9) ∧ bitB (hasOf kind) 8 = puts kind ∧ bitB (hasOf kind) 16 = (kind == 5) ∧ bitB (hasOf kind) 32 = (kind == 6 || kind == 7) ∧ ¬ hasOf kind = 0 := by
  rcases kinds h with rfl | rfl | rfl | rfl | rfl | rfl | rfl | rfl | rfl | rfl | rfl <;> decide
theorem keyed_f (hn : keys.length < 9223372036854775807) (h : 1 ≤ kind ∧ kind ≤ 11) : Evt (fun k => order_keyed.f k kind tenant keys value flags for_ unique by_ (hasOf kind)) (keysOk kind keys) := by
  unfold order_keyed.f keysOk
  have k11 := keyed_j0 kind tenant keys value flags for_ unique by_ hn 1 1
  have k18 := keyed_j0 kind tenant keys value flags for_ unique by_ hn 1 8
  have k00 := keyed_j0 kind tenant keys value flags for_ unique by_ hn 0 0
  have e0 : (decide (0 ≤ keys.length) && decide (keys.length ≤ 0) && keys.all keySz && noTwice [] keys) = keys.isEmpty := by cases keys <;> simp [noTwice]
  rw [e0] at k00
  rcases kinds h with rfl | rfl | rfl | rfl | rfl | rfl | rfl | rfl | rfl | rfl | rfl
  · simp only [show ¬ Go.bits .and .i64 (hasOf 1) 1 = 0 by decide, if_false]; exact k18.cast (by simp)
  · simp only [show Go.bits .and .i64 (hasOf 2) 1 = 0 by decide, show Go.bits .and .i64 (hasOf 2) 64 = 0 by decide, if_true]; exact k11.cast (by simp)
  · simp only [show Go.bits .and .i64 (hasOf 3) 1 = 0 by decide, show Go.bits .and .i64 (hasOf 3) 64 = 0 by decide, if_true]; exact k11.cast (by simp)
  · simp only [show Go.bits .and .i64 (hasOf 4) 1 = 0 by decide, show Go.bits .and .i64 (hasOf 4) 64 = 0 by decide, if_true]; exact k11.cast (by simp)
  · simp only [show Go.bits .and .i64 (hasOf 5) 1 = 0 by decide, show Go.bits .and .i64 (hasOf 5) 64 = 0 by decide, if_true]; exact k11.cast (by simp)
  · simp only [show Go.bits .and .i64 (hasOf 6) 1 = 0 by decide, show Go.bits .and .i64 (hasOf 6) 64 = 0 by decide, if_true]; exact k11.cast (by simp)
  · simp only [show Go.bits .and .i64 (hasOf 7) 1 = 0 by decide, show Go.bits .and .i64 (hasOf 7) 64 = 0 by decide, if_true]; exact k11.cast (by simp)
  · simp only [show Go.bits .and .i64 (hasOf 8) 1 = 0 by decide, show Go.bits .and .i64 (hasOf 8) 64 = 0 by decide, if_true]; exact k11.cast (by simp)
  · simp only [show Go.bits .and .i64 (hasOf 9) 1 = 0 by decide, show Go.bits .and .i64 (hasOf 9) 64 = 0 by decide, if_true]; exact k11.cast (by simp)
  · simp only [show ¬ Go.bits .and .i64 (hasOf 10) 1 = 0 by decide, if_false]; exact k18.cast (by simp)
  · simp only [show Go.bits .and .i64 (hasOf 11) 1 = 0 by decide, show ¬ Go.bits .and .i64 (hasOf 11) 64 = 0 by decide, if_true, if_false]; exact k00.cast (by simp)
theorem may_ev (hn : keys.length < 9223372036854775807) : Evt (fun k => order_may.f k kind tenant keys value flags for_ unique by_) (cmdOk kind tenant keys value flags for_ unique by_) := by
  unfold order_may.f cmdOk
  refine Evt.bind (has_ev kind) ?_
  by_cases h1 : 1 ≤ kind ∧ kind ≤ 11
  · obtain ⟨b2, b4, b8, b16, b32, b0⟩ := has_bits kind h1
    simp only [b0, if_false, decide_eq_true h1.1, decide_eq_true h1.2, Bool.true_and]
    by_cases t0 : tenant < 0
    · simp only [t0, if_true, decide_true, decide_eq_false (show ¬ 0 ≤ tenant by omega), Bool.false_and]
      exact (may_j0 kind tenant keys value flags for_ unique by_ _ true).cast (by simp)
    by_cases t4 : tenant ≥ 4
    · simp only [t0, t4, if_true, if_false, decide_true, decide_eq_false (show ¬ tenant < 4 by omega), Bool.false_and, Bool.and_false]
      exact (may_j0 kind tenant keys value flags for_ unique by_ _ true).cast (by simp)
    simp only [t0, t4, if_false, decide_eq_true (show 0 ≤ tenant by omega), decide_eq_true (show tenant < 4 by omega), Bool.true_and]
    refine Evt.bind (keyed_f kind tenant keys value flags for_ unique by_ hn h1) ?_
    refine (may_j0 kind tenant keys value flags for_ unique by_ _ _).cast ?_
    rw [b2, b4, b8, b16, b32, Bool.not_not]
    simp only [Bool.or_assoc]
  · have e : hasOf kind = 0 := by unfold hasOf; repeat' (rw [if_neg (by omega)])
    have e2 : (decide (1 ≤ kind) && decide (kind ≤ 11)) = false := by
      by_cases g : 1 ≤ kind
      · rw [decide_eq_false (show ¬ kind ≤ 11 from fun g' => h1 ⟨g, g'⟩), Bool.and_false]
      · rw [decide_eq_false g, Bool.false_and]
    simp only [e, if_true, e2, Bool.false_and]
    exact (may_j0 kind tenant keys value flags for_ unique by_ 0 true).cast (by simp)
theorem check_ev (hn : keys.length < 9223372036854775807) : Evt (fun k => order_Check.f k kind tenant keys value flags for_ unique by_) (if cmdOk kind tenant keys value flags for_ unique by_ = true then 0 else 100) := by
  unfold order_Check.f
  refine Evt.bind (may_ev kind tenant keys value flags for_ unique by_ hn) ?_
  cases cmdOk kind tenant keys value flags for_ unique by_ <;> exact Evt.done _
theorem twice_ev (hn : keys.length < 9223372036854775807) : ∀ m i, keys.length - i = m → i ≤ keys.length → Evt (fun k => cloakroomref10_twice.l0 k keys (i : Int)) (!noTwice (keys.take i) (keys.drop i)) := by
  intro m
  induction m with
  | zero =>
    intro i hm hi
    refine Evt.succ ?_
    simp only [cloakroomref10_twice.l0, if_neg (show ¬ (i : Int) < (keys.length : Int) by omega)]
    rw [List.drop_eq_nil_of_le (by omega)]
    exact Evt.done _
  | succ m ih =>
    intro i hm hi
    have hi' : i < keys.length := by omega
    have ht : keys.take i ++ [keys[i]] = keys.take (i + 1) := (List.take_succ_eq_append_getElem hi').symm
    have hin : ∀ m j, i - j = m → j ≤ i → Evt (fun k => cloakroomref10_twice.l1 k keys (i : Int) (j : Int)) (((keys.take i).drop j).any (fun y => decide (keys[i] = y)) || !noTwice (keys.take (i + 1)) (keys.drop (i + 1))) := by
      intro m
      induction m with
      | zero =>
        intro j hm hj
        refine Evt.succ ?_
        simp only [cloakroomref10_twice.l1, if_neg (show ¬ (j : Int) < (i : Int) by omega), wrapN_succ i (by omega)]
        rw [List.drop_eq_nil_of_le (by rw [List.length_take]; omega)]
        exact (ih (i + 1) (by omega) (by omega)).cast (by simp)
      | succ m ihj =>
        intro j hm hj
        have hj' : j < (keys.take i).length := by rw [List.length_take]; omega
        rw [List.drop_eq_getElem_cons hj', List.any_cons, List.getElem_take]
        refine Evt.succ ?_
        simp only [cloakroomref10_twice.l1, if_pos (show (j : Int) < (i : Int) by omega), if_pos (show (0 : Int) ≤ (i : Int) by omega), if_pos (show (i : Int) < (keys.length : Int) by omega), if_pos (show (0 : Int) ≤ (j : Int) by omega), if_pos (show (j : Int) < (keys.length : Int) by omega), rdS_at keys i hi', rdS_at keys j (by omega), toList_inj, wrapN_succ j (by omega)]
        by_cases e : keys[i] = keys[j]
        · simp only [e, if_true, decide_true, Bool.true_or]
          exact Evt.done _
        · simp only [e, if_false, decide_false, Bool.false_or]
          exact ihj (j + 1) (by omega) (by omega)
    rw [List.drop_eq_getElem_cons hi']
    simp only [noTwice, ht]
    refine Evt.succ ?_
    simp only [cloakroomref10_twice.l0, if_pos (show (i : Int) < (keys.length : Int) by omega)]
    refine (hin i 0 (by omega) (by omega)).cast ?_
    rw [List.drop_zero]
    cases (keys.take i).any (fun y => decide (keys[i] = y)) <;> simp
theorem keys_l0 (hn : keys.length < 9223372036854775807) : ∀ m i, keys.length - i = m → i ≤ keys.length → Evt (fun k => cloakroomref10_keys.l0 k (keys.length : Int) (i : Int) kind tenant keys value flags for_ unique by_) ((keys.drop i).all keySz && noTwice [] keys) := by
  intro m
  induction m with
  | zero =>
    intro i hm hi
    refine Evt.succ ?_
    simp only [cloakroomref10_keys.l0, if_neg (show ¬ (i : Int) < (keys.length : Int) by omega)]
    rw [List.drop_eq_nil_of_le (by omega)]
    have := twice_ev keys hn keys.length 0 (by omega) (by omega)
    rw [List.drop_zero, List.take_zero] at this
    refine Evt.bind (g := fun k => cloakroomref10_twice.f k keys) (by unfold cloakroomref10_twice.f; exact this) ?_
    exact (Evt.done _).cast (by simp)
  | succ m ih =>
    intro i hm hi
    have hi' : i < keys.length := by omega
    rw [List.drop_eq_getElem_cons hi', List.all_cons]
    refine Evt.succ ?_
    simp only [cloakroomref10_keys.l0, if_pos (show (i : Int) < (keys.length : Int) by omega), if_pos (show (0 : Int) ≤ (i : Int) by omega), rdS_at keys i hi', wrapN_succ i (by omega)]
    by_cases h1 : (keys[i].size : Int) < 1
    · simp only [if_pos h1, sz_bad1 h1, Bool.false_and]
      exact Evt.done _
    by_cases h2 : (keys[i].size : Int) > 32
    · simp only [if_neg h1, if_pos h2, sz_bad2 h2, Bool.false_and]
      exact Evt.done _
    simp only [if_neg h1, if_neg h2, sz_ok h1 h2, Bool.true_and]
    exact ih (i + 1) (by omega) (by omega)
theorem keys_ev (hn : keys.length < 9223372036854775807) : Evt (fun k => cloakroomref10_keys.f k kind tenant keys value flags for_ unique by_) (keysOk kind keys) := by
  unfold cloakroomref10_keys.f keysOk
  by_cases h11 : kind = 11
  · simp only [h11, if_true]
    exact (Evt.done _).cast (by cases keys <;> simp; omega)
  simp only [h11, if_false]
  have hl := keys_l0 kind tenant keys value flags for_ unique by_ hn keys.length 0 (by omega) (by omega)
  rw [List.drop_zero] at hl
  by_cases h1 : (keys.length : Int) < 1
  · simp only [h1, if_true, decide_eq_false (show ¬ 1 ≤ keys.length by omega), Bool.false_and]
    refine Evt.succ ?_
    simp only [cloakroomref10_keys.j0, if_true]
    exact Evt.done _
  simp only [h1, if_false, decide_eq_true (show 1 ≤ keys.length by omega), Bool.true_and]
  by_cases h8 : (keys.length : Int) > 8
  · simp only [h8, if_true, decide_eq_false (show ¬ keys.length ≤ (if kind = 1 ∨ kind = 10 then 8 else 1) by split <;> omega), Bool.false_and]
    refine Evt.succ ?_
    simp only [cloakroomref10_keys.j0, if_true]
    exact Evt.done _
  simp only [h8, if_false]
  by_cases hg : (keys.length : Int) > 1
  · simp only [hg, if_true]
    by_cases k1 : kind = 1
    · simp only [k1, if_true, true_or, decide_eq_true (show keys.length ≤ 8 by omega), Bool.true_and]
      refine Evt.succ ?_
      simp only [cloakroomref10_keys.j0, Bool.false_eq_true, if_false]
      rw [k1] at hl
      exact hl
    · simp only [k1, if_false, false_or]
      refine Evt.succ ?_
      by_cases k10 : kind = 10
      · simp only [cloakroomref10_keys.j0, k10, bne_self_eq_false, Bool.false_eq_true, if_false, if_true, decide_eq_true (show keys.length ≤ 8 by omega), Bool.true_and]
        rw [k10] at hl
        exact hl
      · simp only [cloakroomref10_keys.j0, bne_iff_ne.2 k10, k10, if_true, if_false, decide_eq_false (show ¬ keys.length ≤ 1 by omega), Bool.false_and]
        exact Evt.done _
  · simp only [hg, if_false, decide_eq_true (show keys.length ≤ (if kind = 1 ∨ kind = 10 then 8 else 1) by split <;> omega), Bool.true_and]
    refine Evt.succ ?_
    simp only [cloakroomref10_keys.j0, Bool.false_eq_true, if_false]
    exact hl
theorem ref_j3 (p b : Bool) : Evt (fun k => cloakroomref10_May.j3 k p b kind tenant keys value flags for_ unique by_) (!b && (flags == 0 || p) && (unique == 0 || kind == 5) && (by_ == 0 || kind == 6 || kind == 7)) := by
  refine Evt.succ ?_
  simp only [cloakroomref10_May.j3]
  cases b with
  | true => exact Evt.done _
  | false =>
    by_cases f1 : flags = 0 <;> cases p <;> by_cases f2 : unique = 0 <;> by_cases f3 : by_ = 0 <;> by_cases k5 : kind = 5 <;> by_cases k6 : kind = 6 <;>
      first | (exfalso; omega) | (simp [f1, f2, f3, k5, k6, beq_dec]; exact Evt.done _)
theorem ref_j2 (p b : Bool) : Evt (fun k => cloakroomref10_May.j2 k p b kind tenant keys value flags for_ unique by_) (!b && (decide (0 ≤ for_) && decide (for_ ≤ 1099511627776) && (for_ == 0 || p || kind == 9)) && (flags == 0 || p) && (unique == 0 || kind == 5) && (by_ == 0 || kind == 6 || kind == 7)) := by
  refine Evt.succ ?_
  simp only [cloakroomref10_May.j2]
  cases b with
  | true => exact Evt.done _
  | false =>
    simp only [Bool.false_eq_true, if_false]
    by_cases h1 : for_ < 0
    · simp only [h1, if_true, decide_eq_false (show ¬ 0 ≤ for_ by omega)]
      exact (ref_j3 kind tenant keys value flags for_ unique by_ p true).cast (by simp)
    by_cases h2 : for_ > 1099511627776
    · simp only [h1, h2, if_true, if_false, decide_eq_false (show ¬ for_ ≤ 1099511627776 by omega)]
      exact (ref_j3 kind tenant keys value flags for_ unique by_ p true).cast (by simp)
    simp only [h1, h2, if_false, decide_eq_true (show 0 ≤ for_ by omega), decide_eq_true (show for_ ≤ 1099511627776 by omega), Bool.true_and, Bool.not_false]
    by_cases f0 : for_ = 0
    · simp only [f0, if_true]
      exact (ref_j3 kind tenant keys value flags 0 unique by_ p false).cast (by simp)
    simp only [f0, if_false]
    cases p with
    | true => exact (ref_j3 kind tenant keys value flags for_ unique by_ true false).cast (by simp)
    | false => exact (ref_j3 kind tenant keys value flags for_ unique by_ false _).cast (by by_cases k9 : kind = 9 <;> simp [f0, k9, beq_dec, bne_dec])
theorem ref_j1 (p : Bool) : Evt (fun k => cloakroomref10_May.j1 k p kind tenant keys value flags for_ unique by_) ((decide (value.size ≤ 512) && (decide (value.size = 0) || p || kind == 8)) && (decide (0 ≤ for_) && decide (for_ ≤ 1099511627776) && (for_ == 0 || p || kind == 9)) && (flags == 0 || p) && (unique == 0 || kind == 5) && (by_ == 0 || kind == 6 || kind == 7)) := by
  refine Evt.succ ?_
  have hne := nil_size value
  simp only [cloakroomref10_May.j1, hne]
  by_cases h1 : (value.size : Int) > 512
  · simp only [h1, if_true, decide_eq_false (show ¬ value.size ≤ 512 by omega)]
    exact (ref_j2 kind tenant keys value flags for_ unique by_ p true).cast (by simp)
  simp only [h1, if_false, decide_eq_true (show value.size ≤ 512 by omega), Bool.true_and]
  by_cases h0 : value.size = 0
  · simp only [h0, if_true]
    exact (ref_j2 kind tenant keys value flags for_ unique by_ p false).cast (by simp)
  simp only [h0, if_false]
  cases p with
  | true => exact (ref_j2 kind tenant keys value flags for_ unique by_ true false).cast (by simp)
  | false => exact (ref_j2 kind tenant keys value flags for_ unique by_ false _).cast (by by_cases k8 : kind = 8 <;> simp [k8, beq_dec, bne_dec])
theorem ref_j0 (b : Bool) : Evt (fun k => cloakroomref10_May.j0 k b kind tenant keys value flags for_ unique by_) (!b && (decide (value.size ≤ 512) && (decide (value.size = 0) || puts kind || kind == 8)) && (decide (0 ≤ for_) && decide (for_ ≤ 1099511627776) && (for_ == 0 || puts kind || kind == 9)) && (flags == 0 || puts kind) && (unique == 0 || kind == 5) && (by_ == 0 || kind == 6 || kind == 7)) := by
  refine Evt.succ ?_
  simp only [cloakroomref10_May.j0]
  cases b with
  | true => exact Evt.done _
  | false =>
    simp only [Bool.false_eq_true, if_false]
    by_cases h2 : kind ≥ 2
    · simp only [h2, if_true]
      refine (ref_j1 kind tenant keys value flags for_ unique by_ _).cast ?_
      rw [show puts kind = decide (kind ≤ 5) by unfold puts; rw [decide_eq_true (show 2 ≤ kind by omega), Bool.true_and]]
      simp
    · simp only [h2, if_false]
      refine (ref_j1 kind tenant keys value flags for_ unique by_ _).cast ?_
      rw [show puts kind = false by unfold puts; rw [decide_eq_false (show ¬ 2 ≤ kind by omega), Bool.false_and]]
      simp
theorem refMay_ev (hn : keys.length < 9223372036854775807) : Evt (fun k => cloakroomref10_May.f k kind tenant keys value flags for_ unique by_) (cmdOk kind tenant keys value flags for_ unique by_) := by
  unfold cloakroomref10_May.f cmdOk
  by_cases h1 : kind < 1
  · simp only [h1, if_true, decide_eq_false (show ¬ 1 ≤ kind by omega)]
    exact (ref_j0 kind tenant keys value flags for_ unique by_ true).cast (by simp)
  by_cases h11 : kind > 11
  · simp only [h1, h11, if_true, if_false, decide_eq_false (show ¬ kind ≤ 11 by omega)]
    exact (ref_j0 kind tenant keys value flags for_ unique by_ true).cast (by simp)
  by_cases t0 : tenant < 0
  · simp only [h1, h11, t0, if_true, if_false, decide_eq_false (show ¬ 0 ≤ tenant by omega)]
    exact (ref_j0 kind tenant keys value flags for_ unique by_ true).cast (by simp)
  by_cases t4 : tenant ≥ 4
  · simp only [h1, h11, t0, t4, if_true, if_false, decide_eq_false (show ¬ tenant < 4 by omega)]
    exact (ref_j0 kind tenant keys value flags for_ unique by_ true).cast (by simp)
  simp only [h1, h11, t0, t4, if_false, decide_eq_true (show 1 ≤ kind by omega), decide_eq_true (show kind ≤ 11 by omega), decide_eq_true (show 0 ≤ tenant by omega), decide_eq_true (show tenant < 4 by omega), Bool.true_and]
  refine Evt.bind (keys_ev kind tenant keys value flags for_ unique by_ hn) ?_
  exact (ref_j0 kind tenant keys value flags for_ unique by_ _).cast (by rw [Bool.not_not])
theorem refCheck_ev (hn : keys.length < 9223372036854775807) : Evt (fun k => cloakroomref10_Check.f k kind tenant keys value flags for_ unique by_) (if cmdOk kind tenant keys value flags for_ unique by_ = true then 0 else 100) := by
  unfold cloakroomref10_Check.f
  refine Evt.bind (refMay_ev kind tenant keys value flags for_ unique by_ hn) ?_
  cases cmdOk kind tenant keys value flags for_ unique by_ <;> exact Evt.done _
end
end Go.Proofs.YtfoengihiaegoaaDoor.P
