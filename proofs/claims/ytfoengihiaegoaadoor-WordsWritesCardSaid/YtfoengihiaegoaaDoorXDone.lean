/- The walk of words.done: the lines of what was done: a strings.Builder, a loop over the items, one over the words. -/
import Derived.Test.YtfoengihiaegoaaDoorXDefs
import Derived.Test.YtfoengihiaegoaaDoorShelf
import Derived.Test.YtfoengihiaegoaaDoorXJoin
import Derived.Lib.Hide
import Derived.Test.YtfoengihiaegoaaDoorP6
import Derived.Test.YtfoengihiaegoaaDoorP6
import Derived.Test.YtfoengihiaegoaaDoorP3
namespace Go.Proofs.YtfoengihiaegoaaDoor.P
set_option linter.unusedVariables false
set_option linter.unusedSimpArgs false
open Go.Shelf Go.RowKit Go.Lib Go.Proofs.YtfoengihiaegoaaDoorW.PrintWords Go.Proofs.YtfoengihiaegoaaDoorW.PrintLast Go.Proofs.YtfoengihiaegoaaDoorW.PrintMore

theorem x_builder_below {T e B b : Nat} {bs : List Value} {w w' : World} (h : Lib.IsBuilder T e B b bs w) (hb : Below w.heap.size w w') : Lib.IsBuilder T e B b bs w' := by
  have hg : w.grownBy w' none := ⟨hb.os, hb.tape, hb.output, hb.size, fun k hk _ => hb.block k hk⟩
  have one : ∀ p, Lib.BuilderAt T e B b p bs w → Lib.BuilderAt T e B b p bs w' := by
    rintro p ⟨hB, v, hbk, hown, hne⟩
    refine ⟨hB, v, blk_below hbk hb, hown.kept hg ?_, hne⟩
    cases hv : v.ownBlock <;> simp
  exact h.imp (one _) (one _)
theorem x_builder_le {T e B b : Nat} {bs : List Value} {w : World} (h : Lib.IsBuilder T e B b bs w) : B ≤ w.heap.size := by
  rcases h with h | h
  all_goals
    have h1 := h.lt
    have h2 := h.1
    omega
theorem x_builder_new {T e g : Nat} {w : World} (h : w.heap[g]? = some (.cells #[.pointer none, .slice none 0 0] T (0, 0))) : Lib.IsBuilder T e g g [] w :=
  Or.inl ⟨Nat.le_refl _, _, h, World.ownsRow_nil _ _ _ _, by simp [Value.ownBlock]⟩
theorem x_laid_on {w w' : World} (hL : Laid w) (hb : Below w.heap.size w w') : Laid w' := Laid.below hL hb
def pieces (x : S56) : List ByteArray := [(⟨#[86, 65, 76, 85, 69]⟩ : ByteArray), x.f0, txt (dec x.f2), txt (dec x.f3), txt (dec x.f4), txt (dec x.f1.size)]
/-- Six texts laid into a new row. -/
def Row6 (w : World) (b : Nat) (l : List ByteArray) : Prop := ∀ j x, l[j]? = some x → w.cell? ⟨b, j, none⟩ = some (.string x)
theorem x_row6 (w : World) (x : S56) : Row6 (w.alloc (.cells #[.string (⟨#[86, 65, 76, 85, 69]⟩ : ByteArray), .string x.f0, .string (txt (dec x.f2)), .string (txt (dec x.f3)), .string (txt (dec x.f4)), .string (txt (dec x.f1.size))] 9 (0, 0))) w.heap.size (pieces x) := by
  intro j y hj
  have hn := blk_new w (.cells #[.string (⟨#[86, 65, 76, 85, 69]⟩ : ByteArray), .string x.f0, .string (txt (dec x.f2)), .string (txt (dec x.f3)), .string (txt (dec x.f4)), .string (txt (dec x.f1.size))] 9 (0, 0))
  rw [blk_cell hn j]
  rcases j with _ | _ | _ | _ | _ | _ | j
  all_goals first | (obtain rfl := Option.some.inj hj; rfl) | (simp [pieces] at hj)
def itemHead (x : S56) : List UInt8 := [86, 65, 76, 85, 69] ++ sp ++ chs x.f0 ++ sp ++ dec x.f2 ++ sp ++ dec x.f3 ++ sp ++ dec x.f4 ++ sp ++ dec x.f1.size
theorem x_dec_len (n : Int) (h : u64ok n = true) : (dec n).length ≤ 20 := by
  unfold dec
  simp only [u64ok, Bool.and_eq_true, decide_eq_true_eq] at h
  rw [Lib.decDigits_length]
  by_cases h0 : 1 ≤ n.toNat
  · have := Lib.numDigits_eq n.toNat h0 (by omega)
    split at this <;> omega
  · have : n.toNat = 0 := by omega
    rw [this, Lib.nDigits_small (by omega)]
    omega
theorem x_join (x : S56) : Lib.join ((pieces x).map chs) (chs (⟨#[32]⟩ : ByteArray)) = itemHead x := by
  simp [pieces, itemHead, Lib.join, chs, txt, sp]
theorem x_head_len (x : S56) (h0 : x.f0.size ≤ 32) (h1 : u64ok (x.f1.size : Int) = true) (h2 : u64ok x.f2 = true) (h3 : u64ok x.f3 = true) (h4 : u64ok x.f4 = true) : (itemHead x).length ≤ 200 := by
  have e1 := x_dec_len _ h1
  have e2 := x_dec_len _ h2
  have e3 := x_dec_len _ h3
  have e4 := x_dec_len _ h4
  have e0 : (chs x.f0).length = x.f0.size := Array.length_toList
  simp only [itemHead, sp, List.length_append, List.length_cons, List.length_nil]
  omega
theorem x_itemLine (x : S56) : chs (((txt (itemHead x) ++ (⟨#[13, 10]⟩ : ByteArray)) ++ x.f1) ++ (⟨#[13, 10]⟩ : ByteArray)) = itemLine x := by
  simp [itemLine, itemHead, crlf, txt, chs, ByteArray.data_append]
theorem x_line_len (x : S56) (h : (itemHead x).length ≤ 200) (h1 : x.f1.size ≤ 512) : (itemLine x).length ≤ 716 := by
  have e : itemLine x = itemHead x ++ crlf ++ chs x.f1 ++ crlf := by simp [itemLine, itemHead]
  rw [e]
  have e0 : (chs x.f1).length = x.f1.size := Array.length_toList
  simp only [crlf, List.length_append, List.length_cons, List.length_nil]
  omega
def rowsList : List (List UInt8) := [[83, 84, 79, 82, 69, 68], [78, 85, 77, 66, 69, 82], [84, 79, 85, 67, 72, 69, 68], [68, 69, 76, 69, 84, 69, 68], [70, 76, 85, 83, 72, 69, 68], [69, 78, 68]]
/-- The words ahead of the j-th one that are the command's. -/
def rowsTo (of : Int) (j : Nat) : List UInt8 := (rowsList.take j).flatMap fun r => if r = rowWord of then r else []
theorem rowsTo_succ (of : Int) (j : Nat) (r : List UInt8) (h : rowsList[j]? = some r) : rowsTo of (j + 1) = rowsTo of j ++ if r = rowWord of then r else [] := by
  unfold rowsTo
  rw [List.take_add_one, h]
  simp
theorem rowsTo_all (of : Int) (h1 : 1 ≤ of) (h2 : of ≤ 11) : rowsTo of 6 = rowWord of := by
  have : of = 1 ∨ of = 2 ∨ of = 3 ∨ of = 4 ∨ of = 5 ∨ of = 6 ∨ of = 7 ∨ of = 8 ∨ of = 9 ∨ of = 10 ∨ of = 11 := by omega
  rcases this with rfl | rfl | rfl | rfl | rfl | rfl | rfl | rfl | rfl | rfl | rfl <;> decide
theorem rowsTo_len (of : Int) (j : Nat) : (rowsTo of j).length ≤ 48 := by
  have h : ∀ l : List (List UInt8), (l.flatMap fun r => if r = rowWord of then r else []).length ≤ (l.map List.length).sum := by
    intro l
    induction l with
    | nil => simp
    | cons a l ih => simp only [List.flatMap_cons, List.length_append, List.map_cons, List.sum_cons]; split; (· omega); (· simp only [List.length_nil]; omega)
  refine Nat.le_trans (h _) ?_
  have : ∀ j, ((rowsList.take j).map List.length).sum ≤ 48 := by
    intro j
    rcases j with _ | _ | _ | _ | _ | _ | j
    all_goals first | decide | (rw [List.take_of_length_le (by simp [rowsList])]; decide)
  exact this j
theorem words_of_row (r : List UInt8) (of : Int) (h1 : 1 ≤ of) (h2 : of ≤ 11) : words_of.f 2 (txt r) of = some (decide (r = rowWord of)) := by
  have : of = 1 ∨ of = 2 ∨ of = 3 ∨ of = 4 ∨ of = 5 ∨ of = 6 ∨ of = 7 ∨ of = 8 ∨ of = 9 ∨ of = 10 ∨ of = 11 := by omega
  have e : (txt r).toList = r := ByteArray.toList_mk r
  rcases this with rfl | rfl | rfl | rfl | rfl | rfl | rfl | rfl | rfl | rfl | rfl <;> (simp [words_of.f, words_of.j0, words_of.j1, rowWord, e]; try (rw [Bool.eq_iff_iff]; simp))

theorem x_cell {w : World} {g i : Nat} {cs : Array Value} {v : Value} (h : w.cell? ⟨g, i, none⟩ = cs[i]?) (hv : cs[i]? = some v) : w.cell? ⟨g, i, none⟩ = some v := h.trans hv
theorem x_cells7 {w : World} {g : Nat} {t : TypeId} {v0 v1 v2 v3 v4 v5 v6 : Value} (h : w.heap[g]? = some (.cells #[v0, v1, v2, v3, v4, v5, v6] t (0, 0))) : w.cell? ⟨g, 0, none⟩ = some v0 ∧ w.cell? ⟨g, 1, none⟩ = some v1 ∧ w.cell? ⟨g, 2, none⟩ = some v2 ∧ w.cell? ⟨g, 3, none⟩ = some v3 ∧ w.cell? ⟨g, 4, none⟩ = some v4 ∧ w.cell? ⟨g, 5, none⟩ = some v5 ∧ w.cell? ⟨g, 6, none⟩ = some v6 :=
  ⟨(blk_cell h 0).trans rfl, (blk_cell h 1).trans rfl, (blk_cell h 2).trans rfl, (blk_cell h 3).trans rfl, (blk_cell h 4).trans rfl, (blk_cell h 5).trans rfl, (blk_cell h 6).trans rfl⟩
theorem x_txt_size (l : List UInt8) : (txt l).size = l.length := by simp [txt, ByteArray.size]
theorem below_drawn {w w' : World} (h : Drawn0 w w') : Below w.heap.size w w' := by
  obtain ⟨n, rfl⟩ := h
  exact pw_below_drewN (Below.refl _ _) n
theorem x_wrap_u64 (y : Int) (h0 : 0 ≤ y) (h1 : y < 18446744073709551616) : IntKind.u64.wrap y = y := by
  simp [IntKind.wrap, IntKind.bits, IntKind.signed]
  omega
theorem x_builder_lt {T e B b : Nat} {bs : List Value} {w : World} (h : Lib.IsBuilder T e B b bs w) : b < w.heap.size := by
  rcases h with h | h <;> exact h.lt
theorem x_builder_drew {T e B b : Nat} {bs : List Value} {w : World} (h : Lib.IsBuilder T e B b bs w) : Lib.IsBuilder T e B b bs w.drew := h
/-- A store into a block that the builder has no part in. -/
theorem x_builder_far {T e g gI : Nat} {bs : List Value} {w : World} (h : Lib.IsBuilder T e g g bs w) {cs : Array Value} {t : Nat} (hI : w.heap[gI]? = some (.cells cs t (0, 0))) (ht : t ≠ e) (hT : t ≠ T) (i : Nat) (v : Value) : Lib.IsBuilder T e g g bs (w.setCell ⟨gI, i, none⟩ v) := by
  have one : ∀ p, Lib.BuilderAt T e g g p bs w → Lib.BuilderAt T e g g p bs (w.setCell ⟨gI, i, none⟩ v) := by
    rintro p ⟨hB, u, hbk, hown, hne⟩
    have hg : g ≠ gI := by
      rintro rfl
      rw [hbk] at hI
      simp only [Option.some.injEq, Obj.cells.injEq] at hI
      exact hT hI.2.1.symm
    refine ⟨hB, u, (Below.heap_setCell _ _ _ _ hg).trans hbk, hown.kept (row := some gI) ⟨rfl, rfl, rfl, by simp [World.setCell], fun k _ hk => Below.heap_setCell _ _ _ _ (fun e => hk (by simp [e]))⟩ ?_, hne⟩
    exact Or.inr (Lib.ownBlock_ne hown hI ht)
  exact h.imp (one _) (one _)
theorem x_builder_far5 {g gI : Nat} {bs : List Value} {w2 : World} {x : S56} (hU : Lib.IsBuilder 92 5 g g bs w2) (hI : w2.heap[gI]? = some (.cells #[.string (⟨#[]⟩ : ByteArray), .string (⟨#[]⟩ : ByteArray), .int .u32 0, .int .i64 0, .int .u64 0] 56 (0, 0))) : Lib.IsBuilder 92 5 g g bs (((((w2.setCell ⟨gI, 0, none⟩ (.string x.f0)).setCell ⟨gI, 1, none⟩ (.string x.f1)).setCell ⟨gI, 2, none⟩ (.int .u32 x.f2)).setCell ⟨gI, 3, none⟩ (.int .i64 x.f3)).setCell ⟨gI, 4, none⟩ (.int .u64 x.f4)) := by
  replace hU := x_builder_far hU hI (by decide) (by decide) 0 (.string x.f0)
  have h0 : (w2.setCell ⟨gI, 0, none⟩ (.string x.f0)).heap[gI]? = some (.cells #[(.string x.f0), .string (⟨#[]⟩ : ByteArray), .int .u32 0, .int .i64 0, .int .u64 0] 56 (0, 0)) := by refine blk_put (cs := #[.string (⟨#[]⟩ : ByteArray), .string (⟨#[]⟩ : ByteArray), .int .u32 0, .int .i64 0, .int .u64 0]) ?_ 0 _ rfl; exact hI
  clear hI
  have hI := h0
  replace hU := x_builder_far hU hI (by decide) (by decide) 1 (.string x.f1)
  have h1 : ((w2.setCell ⟨gI, 0, none⟩ (.string x.f0)).setCell ⟨gI, 1, none⟩ (.string x.f1)).heap[gI]? = some (.cells #[(.string x.f0), (.string x.f1), .int .u32 0, .int .i64 0, .int .u64 0] 56 (0, 0)) := by refine blk_put (cs := #[(.string x.f0), .string (⟨#[]⟩ : ByteArray), .int .u32 0, .int .i64 0, .int .u64 0]) ?_ 1 _ rfl; exact hI
  clear hI
  have hI := h1
  replace hU := x_builder_far hU hI (by decide) (by decide) 2 (.int .u32 x.f2)
  have h2 : (((w2.setCell ⟨gI, 0, none⟩ (.string x.f0)).setCell ⟨gI, 1, none⟩ (.string x.f1)).setCell ⟨gI, 2, none⟩ (.int .u32 x.f2)).heap[gI]? = some (.cells #[(.string x.f0), (.string x.f1), (.int .u32 x.f2), .int .i64 0, .int .u64 0] 56 (0, 0)) := by refine blk_put (cs := #[(.string x.f0), (.string x.f1), .int .u32 0, .int .i64 0, .int .u64 0]) ?_ 2 _ rfl; exact hI
  clear hI
  have hI := h2
  replace hU := x_builder_far hU hI (by decide) (by decide) 3 (.int .i64 x.f3)
  have h3 : ((((w2.setCell ⟨gI, 0, none⟩ (.string x.f0)).setCell ⟨gI, 1, none⟩ (.string x.f1)).setCell ⟨gI, 2, none⟩ (.int .u32 x.f2)).setCell ⟨gI, 3, none⟩ (.int .i64 x.f3)).heap[gI]? = some (.cells #[(.string x.f0), (.string x.f1), (.int .u32 x.f2), (.int .i64 x.f3), .int .u64 0] 56 (0, 0)) := by refine blk_put (cs := #[(.string x.f0), (.string x.f1), (.int .u32 x.f2), .int .i64 0, .int .u64 0]) ?_ 3 _ rfl; exact hI
  clear hI
  have hI := h3
  replace hU := x_builder_far hU hI (by decide) (by decide) 4 (.int .u64 x.f4)
  have h4 : (((((w2.setCell ⟨gI, 0, none⟩ (.string x.f0)).setCell ⟨gI, 1, none⟩ (.string x.f1)).setCell ⟨gI, 2, none⟩ (.int .u32 x.f2)).setCell ⟨gI, 3, none⟩ (.int .i64 x.f3)).setCell ⟨gI, 4, none⟩ (.int .u64 x.f4)).heap[gI]? = some (.cells #[(.string x.f0), (.string x.f1), (.int .u32 x.f2), (.int .i64 x.f3), (.int .u64 x.f4)] 56 (0, 0)) := by refine blk_put (cs := #[(.string x.f0), (.string x.f1), (.int .u32 x.f2), (.int .i64 x.f3), .int .u64 0]) ?_ 4 _ rfl; exact hI
  clear hI
  have hI := h4
  exact hU
theorem x_lines_len (l : List S56) (i : Nat) (hl : l.length ≤ 8) (h : ∀ x ∈ l, x.f0.size ≤ 32 ∧ x.f1.size ≤ 512 ∧ u64ok x.f2 = true ∧ u64ok x.f3 = true ∧ u64ok x.f4 = true) : ((l.take i).flatMap itemLine).length ≤ 5728 := by
  have one : ∀ m : List S56, (∀ x ∈ m, x ∈ l) → (m.flatMap itemLine).length ≤ 716 * m.length := by
    intro m
    induction m with
    | nil => simp
    | cons a m ih =>
      intro hm
      obtain ⟨h0, h1, h2, h3, h4⟩ := h a (hm a List.mem_cons_self)
      have hx1 : u64ok (a.f1.size : Int) = true := by simp only [u64ok, Bool.and_eq_true, decide_eq_true_eq]; omega
      have ha := x_line_len a (x_head_len a h0 hx1 h2 h3 h4) h1
      have := ih (fun x hx => hm x (List.mem_cons_of_mem _ hx))
      simp only [List.flatMap_cons, List.length_append, List.length_cons]
      omega
  have h1 := one (l.take i) (fun x hx => List.mem_of_mem_take hx)
  have h2 : (l.take i).length ≤ 8 := by rw [List.length_take]; omega
  omega
theorem x_row_len (of : Int) : (rowWord of).length ≤ 8 := by
  unfold rowWord
  repeat' split
  all_goals decide
theorem x_row_pos (of : Int) : rowWord of ≠ [] := by
  unfold rowWord
  repeat' split
  all_goals decide
theorem x_row_ne (T : List UInt8) (of : Int) : T ++ rowWord of ≠ [] := fun h => x_row_pos of (List.append_eq_nil_iff.1 h).2
theorem x_row_ne2 (T : List UInt8) (of : Int) (m : List UInt8) : T ++ rowWord of ++ m ≠ [] := fun h => x_row_ne T of (List.append_eq_nil_iff.1 h).1
@[local go_sem] theorem x_index6_0 (W : World) (s0 s1 s2 s3 s4 s5 : ByteArray) : (Instr.index 97 (.agg #[.string s0, .string s1, .string s2, .string s3, .string s4, .string s5]) (.int .i64 0)).run Tryd.prog W = .ok (.string s0) W := by
  have h := Tryd.underlying97
  have h9 := Tryd.sizeOf9
  have h8 := Tryd.isAgg9
  simp [Instr.index, asIntOf, part, go_sem, h9, h8]
@[local go_sem] theorem x_index6_1 (W : World) (s0 s1 s2 s3 s4 s5 : ByteArray) : (Instr.index 97 (.agg #[.string s0, .string s1, .string s2, .string s3, .string s4, .string s5]) (.int .i64 1)).run Tryd.prog W = .ok (.string s1) W := by
  have h := Tryd.underlying97
  have h9 := Tryd.sizeOf9
  have h8 := Tryd.isAgg9
  simp [Instr.index, asIntOf, part, go_sem, h9, h8]
@[local go_sem] theorem x_index6_2 (W : World) (s0 s1 s2 s3 s4 s5 : ByteArray) : (Instr.index 97 (.agg #[.string s0, .string s1, .string s2, .string s3, .string s4, .string s5]) (.int .i64 2)).run Tryd.prog W = .ok (.string s2) W := by
  have h := Tryd.underlying97
  have h9 := Tryd.sizeOf9
  have h8 := Tryd.isAgg9
  simp [Instr.index, asIntOf, part, go_sem, h9, h8]
@[local go_sem] theorem x_index6_3 (W : World) (s0 s1 s2 s3 s4 s5 : ByteArray) : (Instr.index 97 (.agg #[.string s0, .string s1, .string s2, .string s3, .string s4, .string s5]) (.int .i64 3)).run Tryd.prog W = .ok (.string s3) W := by
  have h := Tryd.underlying97
  have h9 := Tryd.sizeOf9
  have h8 := Tryd.isAgg9
  simp [Instr.index, asIntOf, part, go_sem, h9, h8]
@[local go_sem] theorem x_index6_4 (W : World) (s0 s1 s2 s3 s4 s5 : ByteArray) : (Instr.index 97 (.agg #[.string s0, .string s1, .string s2, .string s3, .string s4, .string s5]) (.int .i64 4)).run Tryd.prog W = .ok (.string s4) W := by
  have h := Tryd.underlying97
  have h9 := Tryd.sizeOf9
  have h8 := Tryd.isAgg9
  simp [Instr.index, asIntOf, part, go_sem, h9, h8]
@[local go_sem] theorem x_index6_5 (W : World) (s0 s1 s2 s3 s4 s5 : ByteArray) : (Instr.index 97 (.agg #[.string s0, .string s1, .string s2, .string s3, .string s4, .string s5]) (.int .i64 5)).run Tryd.prog W = .ok (.string s5) W := by
  have h := Tryd.underlying97
  have h9 := Tryd.sizeOf9
  have h8 := Tryd.isAgg9
  simp [Instr.index, asIntOf, part, go_sem, h9, h8]
set_option maxHeartbeats 8000000 in
set_option maxRecDepth 100000 in
theorem words_done.calls (a0_0 : Int) (a0_1 : Int) (a0_2 : Int) (A0_3 : Option Addr) (c0_3 : Nat) (l0_3 : List (S56)) (a0_4 : Int) (a0_5 : Bool) (a0_6 : ByteArray) (r : ByteArray) (w : World) (hr0_3 : Kd.C k56 w A0_3 l0_3.length l0_3) (hc0_3 : l0_3.length ≤ c0_3) (hL : Laid w) (h : words_done.f a0_0 a0_1 a0_2 l0_3 a0_4 a0_5 a0_6 = some r) :
    Calls Tryd.prog 24 #[.agg #[.int .u8 a0_0, .int .u8 a0_1, .int .u8 a0_2, .slice A0_3 l0_3.length c0_3, .int .u64 a0_4, .bool a0_5, .string a0_6]] w fun e w' => e = .returned (.string r) ∧ Below w.heap.size w w' := by
  unfold words_done.f at h
  split at h
  case isFalse => cases h
  rename_i hd
  obtain rfl := Option.some.inj h
  clear h
  simp only [Bool.and_eq_true, decide_eq_true_eq] at hd
  obtain ⟨⟨⟨⟨⟨ho1, ho2⟩, hlen⟩, hok⟩, hfit⟩, hnum⟩ := hd
  have hitem : ∀ x ∈ l0_3, x.f0.size ≤ 32 ∧ x.f1.size ≤ 512 ∧ u64ok x.f2 = true ∧ u64ok x.f3 = true ∧ u64ok x.f4 = true := by
    intro x hx
    have e1 := List.all_eq_true.1 hok x hx
    have e2 := List.all_eq_true.1 hfit x hx
    simp only [itemOk, itemFits, Bool.and_eq_true, decide_eq_true_eq] at e1 e2
    exact ⟨e1.1.1.1.2, e1.1.1.2, e2.1, by simp only [u64ok, Bool.and_eq_true, decide_eq_true_eq]; omega, e2.2⟩
  have HIT := Aside0.mk hitem
  have HLN := Aside0.mk hlen
  have HNU := Aside0.mk hnum
  have HO1 := Aside0.mk ho1
  have HO2 := Aside0.mk ho2
  clear hok hfit hitem hlen hnum ho1 ho2
  have HR := Aside0.mk hr0_3
  have HLL := Aside0.mk hL
  have HLW := Aside0.mk hL
  clear hr0_3 hL
  have hT0 : ∀ (y : Int) (W : World), Laid W → u64ok y = true → Calls Tryd.prog 57 #[.int .u64 y] W fun e w' => e = .returned (.string (txt (dec y))) ∧ Below W.heap.size W w' := fun y W hl hy =>
    item_Text.calls y _ W hl (by simp [item_Text.f, strconv_FormatUint.f, hy])
  have hT : ∀ (y : Int) (W : World), Laid W → u64ok y = true → Calls Tryd.prog 57 #[.int .u64 (IntKind.u64.wrap y)] W fun e w' => e = .returned (.string (txt (dec y))) ∧ Below W.heap.size W w' := fun y W hl hy => by
    have e : IntKind.u64.wrap y = y := by
      simp only [u64ok, Bool.and_eq_true, decide_eq_true_eq] at hy
      exact x_wrap_u64 y hy.1 hy.2
    rw [e]
    exact hT0 y W hl hy
  have hWS : ∀ (g : Nat) (l : List UInt8) (s : ByteArray) (W : World), Lib.IsBuilder 92 5 g g (Lib.byteCells l) W → l.length + s.size ≤ 140737488355328 →
      Calls Tryd.prog 56 #[.pointer (some ⟨g, 0, none⟩), .string s] W fun e w' => e = .returned (.tuple #[.int .i64 s.size, .nilIface]) ∧ Lib.IsBuilder 92 5 g g (Lib.byteCells (l ++ chs s)) w' ∧ Below g W w' := fun g l s W hbu hl => by
    refine (Any.Builder_WriteString (ρ := Tryd.lays156_ren) { Tryd.lays156 with } Tryd.Builder_Extra_156 g g _ s W hbu (by rw [Lib.byteCells_length]; exact hl) (x_builder_le hbu)).mono ?_
    rintro e w' ⟨rfl, h1, h2⟩
    refine ⟨rfl, ?_, h2⟩
    rw [Lib.byteCells_append]
    exact Or.inr h1
  have hST : ∀ (g : Nat) (l : List UInt8) (W : World), Lib.IsBuilder 92 5 g g (Lib.byteCells l) W → l ≠ [] →
      Calls Tryd.prog 61 #[.pointer (some ⟨g, 0, none⟩)] W fun e w' => e = .returned (.string (txt l)) ∧ Below g W w' := fun g l W hbu hl =>
    Any.Builder_String (ρ := Tryd.lays156_ren) { Tryd.lays156 with } Tryd.Builder_Extra_156 g g l W hbu hl
  have hJ : ∀ (b : Nat) (x : S56) (W : World), Row6 W b (pieces x) → (itemHead x).length ≤ 200 →
      Calls Tryd.prog 36 #[.slice (some ⟨b, 0, none⟩) 6 6, .string (⟨#[32]⟩ : ByteArray)] W fun e w' => e = .returned (.string (txt (itemHead x))) ∧ Below W.heap.size W w' := fun b x W hrow hh => by
    refine strings_Join.calls (some ⟨b, 0, none⟩) 6 (pieces x) _ _ W ?_ (Nat.le_refl _) ?_
    · refine Kd.C_of_reads (enc := Value.string) (d := ByteArray.empty) (h1 := fun _ => rfl) ⟨rfl, by show 6 ≤ 9223372036854775807; decide, fun _ => ⟨⟨b, 0, none⟩, rfl, fun j hj => ?_⟩⟩
      have hj' : j < (pieces x).length := hj
      rw [List.getD_eq_getElem?_getD, List.getElem?_eq_getElem hj', Option.getD_some]
      have := hrow j _ (List.getElem?_eq_getElem hj')
      rw [Lib.add_plain, Nat.zero_add]
      exact this
    · have e := x_join x
      unfold strings_Join.f
      rw [e, if_pos ⟨by show 6 ≤ 140737488355328; decide, by omega⟩]
  have hOf : ∀ (r : List UInt8) (W : World), Calls Tryd.prog 59 #[.string (txt r), .int .u8 a0_1] W fun e w' => e = .returned (.bool (decide (r = rowWord a0_1))) ∧ Drawn0 W w' := fun r W =>
    words_of.calls 2 _ _ _ W (words_of_row r a0_1 HO1.out HO2.out)
  have hCo : ∀ (W : World), Calls Tryd.prog 60 #[.int .u8 a0_1] W fun e w' => e = .returned (.bool (cnt a0_1)) ∧ Drawn0 W w' := fun W =>
    words_counts.calls _ _ W (by
      unfold words_counts.f cnt
      by_cases h6 : a0_1 = 6 <;> by_cases h7 : a0_1 = 7 <;> simp [h6, h7])
  have hRows : ∀ (W : World), Calls Tryd.prog 58 #[] W fun e w' => e = .returned (.agg #[.string (⟨#[83, 84, 79, 82, 69, 68]⟩ : ByteArray), .string (⟨#[78, 85, 77, 66, 69, 82]⟩ : ByteArray), .string (⟨#[84, 79, 85, 67, 72, 69, 68]⟩ : ByteArray), .string (⟨#[68, 69, 76, 69, 84, 69, 68]⟩ : ByteArray), .string (⟨#[70, 76, 85, 83, 72, 69, 68]⟩ : ByteArray), .string (⟨#[69, 78, 68]⟩ : ByteArray)]) ∧ Below W.heap.size W w' := fun W => by
    have HB := Aside0.mk (Below.refl W.heap.size W)
    go_enter Tryd.func58, Tryd.ntmps58
    go_wp2_with (first | ((with_reducible refine gate_dst (N := 0) rfl ?_); refine box_event ?hg (N := 0) ?hd (cs := #[.string (⟨#[]⟩ : ByteArray), .string (⟨#[]⟩ : ByteArray), .string (⟨#[]⟩ : ByteArray), .string (⟨#[]⟩ : ByteArray), .string (⟨#[]⟩ : ByteArray), .string (⟨#[]⟩ : ByteArray)]) (t := 97) ?hr ?_; (case hd => rfl); (case hg => rfl); (case hr => first | (go_simp; done) | (go_simp; rfl)); intro gR hg w1 hbox hb; have BR := Aside0.mk hbox; have GR : Aside0 (W.heap.size ≤ gR) := ⟨by rw [hg]; exact Nat.le_refl _⟩; have HB2 := Aside0.mk (below_step HB.out hb); clear hb hbox hg HB; have HB := HB2; clear HB2; have hz_0 : w1.cell? ⟨gR, 0, none⟩ = some (.string (⟨#[]⟩ : ByteArray)) := (blk_cell BR.out 0).trans rfl; have hz_1 : w1.cell? ⟨gR, 1, none⟩ = some (.string (⟨#[]⟩ : ByteArray)) := (blk_cell BR.out 1).trans rfl; have hz_2 : w1.cell? ⟨gR, 2, none⟩ = some (.string (⟨#[]⟩ : ByteArray)) := (blk_cell BR.out 2).trans rfl; have hz_3 : w1.cell? ⟨gR, 3, none⟩ = some (.string (⟨#[]⟩ : ByteArray)) := (blk_cell BR.out 3).trans rfl; have hz_4 : w1.cell? ⟨gR, 4, none⟩ = some (.string (⟨#[]⟩ : ByteArray)) := (blk_cell BR.out 4).trans rfl; have hz_5 : w1.cell? ⟨gR, 5, none⟩ = some (.string (⟨#[]⟩ : ByteArray)) := (blk_cell BR.out 5).trans rfl; have hf_0 := blk_frozen BR.out 0; have hf_1 := blk_frozen BR.out 1; have hf_2 := blk_frozen BR.out 2; have hf_3 := blk_frozen BR.out 3; have hf_4 := blk_frozen BR.out 4; have hf_5 := blk_frozen BR.out 5))
    refine bodyPost_ret (results_cell_row rfl _ _ gR 97 #[.string (⟨#[83, 84, 79, 82, 69, 68]⟩ : ByteArray), .string (⟨#[78, 85, 77, 66, 69, 82]⟩ : ByteArray), .string (⟨#[84, 79, 85, 67, 72, 69, 68]⟩ : ByteArray), .string (⟨#[68, 69, 76, 69, 84, 69, 68]⟩ : ByteArray), .string (⟨#[70, 76, 85, 83, 72, 69, 68]⟩ : ByteArray), .string (⟨#[69, 78, 68]⟩ : ByteArray)] (0, 0) _ rfl (by refine blk_put (cs := #[.string (⟨#[83, 84, 79, 82, 69, 68]⟩ : ByteArray), .string (⟨#[78, 85, 77, 66, 69, 82]⟩ : ByteArray), .string (⟨#[84, 79, 85, 67, 72, 69, 68]⟩ : ByteArray), .string (⟨#[68, 69, 76, 69, 84, 69, 68]⟩ : ByteArray), .string (⟨#[70, 76, 85, 83, 72, 69, 68]⟩ : ByteArray), .string (⟨#[]⟩ : ByteArray)]) ?_ 5 _ rfl; refine blk_put (cs := #[.string (⟨#[83, 84, 79, 82, 69, 68]⟩ : ByteArray), .string (⟨#[78, 85, 77, 66, 69, 82]⟩ : ByteArray), .string (⟨#[84, 79, 85, 67, 72, 69, 68]⟩ : ByteArray), .string (⟨#[68, 69, 76, 69, 84, 69, 68]⟩ : ByteArray), .string (⟨#[]⟩ : ByteArray), .string (⟨#[]⟩ : ByteArray)]) ?_ 4 _ rfl; refine blk_put (cs := #[.string (⟨#[83, 84, 79, 82, 69, 68]⟩ : ByteArray), .string (⟨#[78, 85, 77, 66, 69, 82]⟩ : ByteArray), .string (⟨#[84, 79, 85, 67, 72, 69, 68]⟩ : ByteArray), .string (⟨#[]⟩ : ByteArray), .string (⟨#[]⟩ : ByteArray), .string (⟨#[]⟩ : ByteArray)]) ?_ 3 _ rfl; refine blk_put (cs := #[.string (⟨#[83, 84, 79, 82, 69, 68]⟩ : ByteArray), .string (⟨#[78, 85, 77, 66, 69, 82]⟩ : ByteArray), .string (⟨#[]⟩ : ByteArray), .string (⟨#[]⟩ : ByteArray), .string (⟨#[]⟩ : ByteArray), .string (⟨#[]⟩ : ByteArray)]) ?_ 2 _ rfl; refine blk_put (cs := #[.string (⟨#[83, 84, 79, 82, 69, 68]⟩ : ByteArray), .string (⟨#[]⟩ : ByteArray), .string (⟨#[]⟩ : ByteArray), .string (⟨#[]⟩ : ByteArray), .string (⟨#[]⟩ : ByteArray), .string (⟨#[]⟩ : ByteArray)]) ?_ 1 _ rfl; refine blk_put (cs := #[.string (⟨#[]⟩ : ByteArray), .string (⟨#[]⟩ : ByteArray), .string (⟨#[]⟩ : ByteArray), .string (⟨#[]⟩ : ByteArray), .string (⟨#[]⟩ : ByteArray), .string (⟨#[]⟩ : ByteArray)]) ?_ 0 _ rfl; exact BR.out) Tryd.underlying97 rfl (by kernel_rfl)) rfl ?_
    exact ⟨rfl, by repeat (first | (with_reducible exact HB.out) | refine below_set ?_ GR.out)⟩
  have HT0 := Aside0.mk hT0
  have HT := Aside0.mk hT
  have HWS := Aside0.mk hWS
  have HST := Aside0.mk hST
  have HJ := Aside0.mk hJ
  have HOF := Aside0.mk hOf
  have HCO := Aside0.mk hCo
  have HROWS := Aside0.mk hRows
  clear hT0 hT hWS hST hJ hOf hCo hRows
  go_enter Tryd.func24, Tryd.ntmps24
  go_wp2_with (first
    | ((with_reducible refine gate_dst (N := 1) rfl ?_); refine box_event ?hg (N := 1) ?hd (cs := #[.int .u8 a0_0, .int .u8 a0_1, .int .u8 a0_2, .slice A0_3 l0_3.length c0_3, .int .u64 a0_4, .bool a0_5, .string a0_6]) (t := 27) ?hr ?_; (case hd => rfl); (case hg => rfl); (case hr => first | (go_simp; done) | (go_simp; rfl)); intro gA hg wA hbox hb; have BA := Aside0.mk hbox; have HB := Aside0.mk hb; have HLW' := Aside0.mk (Laid.below HLW.out hb); clear HLW; have HLW := HLW'; clear HLW'; clear hb hbox hg)
    | ((with_reducible refine gate_dst (N := 3) rfl ?_); refine box_event ?hg (N := 3) ?hd (cs := #[.pointer none, .slice none 0 0]) (t := 92) ?hr ?_; (case hd => rfl); (case hg => rfl); (case hr => first | (go_simp; done) | (go_simp; rfl)); intro gB hg wB hbox hb; have HAB : Aside0 (gA < gB) := ⟨by rw [hg]; exact blk_lt BA.out⟩; have GB : Aside0 (w.heap.size ≤ gB) := ⟨by rw [hg]; exact HB.out.size⟩; have n0_ := Aside0.mk (blk_below BA.out hb); have BU := Aside0.mk (x_builder_new (e := 5) hbox); have n3_ := Aside0.mk (below_step HB.out hb); have n4_ := Aside0.mk (Laid.below HLW.out hb); clear BA HB HLW hb hbox hg; have BA := n0_; have HB := n3_; have HLW := n4_; clear n0_ n3_ n4_; obtain ⟨-, hc_1, -, hc_3, hc_4, -, -⟩ := x_cells7 BA.out))
  go_loopg [12] l0_3.length (fun kq v12 w' => ∃ i : Nat, v12 = .int .i64 i ∧ Aside0 (i ≤ l0_3.length) ∧ Aside0 (l0_3.length - i ≤ kq) ∧ Aside0 (w'.heap[gA]? = some (.cells #[.int .u8 a0_0, .int .u8 a0_1, .int .u8 a0_2, .slice A0_3 l0_3.length c0_3, .int .u64 a0_4, .bool a0_5, .string a0_6] 27 (0, 0))) ∧ Aside0 (Lib.IsBuilder 92 5 gB gB (Lib.byteCells ((l0_3.take i).flatMap itemLine)) w') ∧ Aside0 (Below w.heap.size w w') ∧ Aside0 (Laid w'))
  case atStart => exact ⟨0, rfl, ⟨Nat.zero_le _⟩, ⟨by omega⟩, BA, BU, HB, HLW⟩
  case round =>
    clear BA BU HB HLW
    obtain ⟨i, rfl, HI, HG, BA, BU, HB, HLW⟩ := hrel
    by_cases hlt : i < l0_3.length
    · have p1 : 0 ≤ (i : Int) := by omega
      have q1 : (i : Int) < (l0_3.length : Int) := by omega
      obtain ⟨ad, e1, x0, x1, x2, x3, x4⟩ := at_T56 HR.out (i : Int) p1 q1
      cases e1
      have hx : rd_T56 l0_3 (i : Int) = l0_3[i] := by
        unfold rd_T56
        rw [Int.toNat_natCast, List.getD_eq_getElem?_getD, List.getElem?_eq_getElem hlt, Option.getD_some]
      have hmem : l0_3[i] ∈ l0_3 := List.getElem_mem hlt
      have htake : (l0_3.take (i + 1)).flatMap itemLine = (l0_3.take i).flatMap itemLine ++ itemLine l0_3[i] := by
        rw [List.take_add_one, List.getElem?_eq_getElem hlt, List.flatMap_append]
        simp only [Option.toList_some, List.flatMap_cons, List.flatMap_nil, List.append_nil]
      have hbound : ((l0_3.take i).flatMap itemLine).length ≤ 5728 := x_lines_len l0_3 i HLN.out (fun y hy => HIT.out y hy)
      rw [hx] at x0 x1 x2 x3 x4
      rw [Int.toNat_natCast] at x0 x1 x2 x3 x4
      generalize l0_3[i] = x at hmem htake x0 x1 x2 x3 x4
      clear hx
      obtain ⟨hx0, hx5, hx2, hx3, hx4⟩ := HIT.out x hmem
      have hx1 : u64ok (x.f1.size : Int) = true := by simp only [u64ok, Bool.and_eq_true, decide_eq_true_eq]; omega
      replace hx0 := x_head_len x hx0 hx1 hx2 hx3 hx4
      have hsz : ((l0_3.take i).flatMap itemLine).length + (((txt (itemHead x) ++ (⟨#[13, 10]⟩ : ByteArray)) ++ x.f1) ++ (⟨#[13, 10]⟩ : ByteArray)).size ≤ 140737488355328 := by
        simp only [ByteArray.size_append, x_txt_size, x_size_lit, List.size_toArray, List.length_cons, List.length_nil]; omega
      have z1 : (txt (itemHead x)).size + 2 ≤ 9223372036854775807 := by simp only [ByteArray.size_append, x_txt_size, x_size_lit, List.size_toArray, List.length_cons, List.length_nil]; omega
      have z1b0 := eq_true z1
      have z1b1 := decide_eq_true z1
      have z1b2 : (9223372036854775807 < (txt (itemHead x)).size + 2) = False := eq_false (Nat.not_lt.2 z1)
      try (have z1b3 := z1b2; simp only [ByteArray.size_append, x_size_lit, List.size_toArray, List.length_cons, List.length_nil, Nat.zero_add, Nat.reduceAdd] at z1b3)
      have z2 : (txt (itemHead x) ++ (⟨#[13, 10]⟩ : ByteArray)).size + x.f1.size ≤ 9223372036854775807 := by simp only [ByteArray.size_append, x_txt_size, x_size_lit, List.size_toArray, List.length_cons, List.length_nil]; omega
      have z2b0 := eq_true z2
      have z2b1 := decide_eq_true z2
      have z2b2 : (9223372036854775807 < (txt (itemHead x) ++ (⟨#[13, 10]⟩ : ByteArray)).size + x.f1.size) = False := eq_false (Nat.not_lt.2 z2)
      try (have z2b3 := z2b2; simp only [ByteArray.size_append, x_size_lit, List.size_toArray, List.length_cons, List.length_nil, Nat.zero_add, Nat.reduceAdd] at z2b3)
      have z3 : ((txt (itemHead x) ++ (⟨#[13, 10]⟩ : ByteArray)) ++ x.f1).size + 2 ≤ 9223372036854775807 := by simp only [ByteArray.size_append, x_txt_size, x_size_lit, List.size_toArray, List.length_cons, List.length_nil]; omega
      have z3b0 := eq_true z3
      have z3b1 := decide_eq_true z3
      have z3b2 : (9223372036854775807 < ((txt (itemHead x) ++ (⟨#[13, 10]⟩ : ByteArray)) ++ x.f1).size + 2) = False := eq_false (Nat.not_lt.2 z3)
      try (have z3b3 := z3b2; simp only [ByteArray.size_append, x_size_lit, List.size_toArray, List.length_cons, List.length_nil, Nat.zero_add, Nat.reduceAdd] at z3b3)
      have HSZ := Aside0.mk hsz
      have HTK := Aside0.mk htake
      have HX0 := Aside0.mk hx0
      have HX1 := Aside0.mk hx1
      have HX2 := Aside0.mk hx2
      have HX3 := Aside0.mk hx3
      have HX4 := Aside0.mk hx4
      have HIL := Aside0.mk hlt
      clear hsz htake hmem hbound hx0 hx1 hx2 hx3 hx4 hx5 hlt
      replace x0 := (HB.out.cell (World.block_lt_of_cell? w _ x0)).trans x0
      replace x1 := (HB.out.cell (World.block_lt_of_cell? w _ x1)).trans x1
      replace x2 := (HB.out.cell (World.block_lt_of_cell? w _ x2)).trans x2
      replace x3 := (HB.out.cell (World.block_lt_of_cell? w _ x3)).trans x3
      replace x4 := (HB.out.cell (World.block_lt_of_cell? w _ x4)).trans x4
      replace p1 := eq_true p1
      replace q1 := eq_true q1
      go_wp2_with (first | ((with_reducible refine gate_dst (N := 5) rfl ?_); refine box_event ?hg (N := 5) ?hd (cs := #[.string (⟨#[]⟩ : ByteArray), .string (⟨#[]⟩ : ByteArray), .int .u32 0, .int .i64 0, .int .u64 0]) (t := 56) ?hr ?_; (case hd => rfl); (case hg => rfl); (case hr => first | (go_simp; done) | (go_simp; rfl)); intro gI hg w2 hbox hb; have BI := Aside0.mk hbox; have GI : Aside0 (w.heap.size ≤ gI) := ⟨by rw [hg]; exact HB.out.size⟩; have GBI : Aside0 (gB < gI) := ⟨by rw [hg]; exact x_builder_lt BU.out⟩; have n0_ := Aside0.mk (blk_below BA.out hb); have n2_ := Aside0.mk (x_builder_below BU.out hb); have n3_ := Aside0.mk (below_step HB.out hb); have hnAI : Aside0 (gA ≠ gI) := ⟨by have := HAB.out; have := GBI.out; omega⟩; clear BA BU HB hb hbox hg; have BA := n0_; have BU := n2_; have HB := n3_; clear n0_ n2_ n3_; have hz_0 : w2.cell? ⟨gI, 0, none⟩ = some (.string (⟨#[]⟩ : ByteArray)) := (blk_cell BI.out 0).trans rfl; have hz_1 : w2.cell? ⟨gI, 1, none⟩ = some (.string (⟨#[]⟩ : ByteArray)) := (blk_cell BI.out 1).trans rfl; have hz_2 : w2.cell? ⟨gI, 2, none⟩ = some (.int .u32 0) := (blk_cell BI.out 2).trans rfl; have hz_3 : w2.cell? ⟨gI, 3, none⟩ = some (.int .i64 0) := (blk_cell BI.out 3).trans rfl; have hz_4 : w2.cell? ⟨gI, 4, none⟩ = some (.int .u64 0) := (blk_cell BI.out 4).trans rfl; have hf_0 := blk_frozen BI.out 0; have hf_1 := blk_frozen BI.out 1; have hf_2 := blk_frozen BI.out 2; have hf_3 := blk_frozen BI.out 3; have hf_4 := blk_frozen BI.out 4))
      have n0_ : Aside0 ((((((w2.setCell ⟨gI, 0, none⟩ (.string x.f0)).setCell ⟨gI, 1, none⟩ (.string x.f1)).setCell ⟨gI, 2, none⟩ (.int .u32 x.f2)).setCell ⟨gI, 3, none⟩ (.int .i64 x.f3)).setCell ⟨gI, 4, none⟩ (.int .u64 x.f4)).heap[gA]? = some (.cells #[.int .u8 a0_0, .int .u8 a0_1, .int .u8 a0_2, .slice (some ad) l0_3.length c0_3, .int .u64 a0_4, .bool a0_5, .string a0_6] 27 (0, 0))) := ⟨by refine blk_far ?_ hnAI.out _; refine blk_far ?_ hnAI.out _; refine blk_far ?_ hnAI.out _; refine blk_far ?_ hnAI.out _; refine blk_far ?_ hnAI.out _; exact BA.out⟩
      have n1_ : Aside0 ((((((w2.setCell ⟨gI, 0, none⟩ (.string x.f0)).setCell ⟨gI, 1, none⟩ (.string x.f1)).setCell ⟨gI, 2, none⟩ (.int .u32 x.f2)).setCell ⟨gI, 3, none⟩ (.int .i64 x.f3)).setCell ⟨gI, 4, none⟩ (.int .u64 x.f4)).heap[gI]? = some (.cells #[(.string x.f0), (.string x.f1), (.int .u32 x.f2), (.int .i64 x.f3), (.int .u64 x.f4)] 56 (0, 0))) := ⟨by refine blk_put (cs := #[(.string x.f0), (.string x.f1), (.int .u32 x.f2), (.int .i64 x.f3), .int .u64 0]) ?_ 4 _ rfl; refine blk_put (cs := #[(.string x.f0), (.string x.f1), (.int .u32 x.f2), .int .i64 0, .int .u64 0]) ?_ 3 _ rfl; refine blk_put (cs := #[(.string x.f0), (.string x.f1), .int .u32 0, .int .i64 0, .int .u64 0]) ?_ 2 _ rfl; refine blk_put (cs := #[(.string x.f0), .string (⟨#[]⟩ : ByteArray), .int .u32 0, .int .i64 0, .int .u64 0]) ?_ 1 _ rfl; refine blk_put (cs := #[.string (⟨#[]⟩ : ByteArray), .string (⟨#[]⟩ : ByteArray), .int .u32 0, .int .i64 0, .int .u64 0]) ?_ 0 _ rfl;  exact BI.out⟩
      have n2_ : Aside0 (Lib.IsBuilder 92 5 gB gB (Lib.byteCells ((l0_3.take i).flatMap itemLine)) (((((w2.setCell ⟨gI, 0, none⟩ (.string x.f0)).setCell ⟨gI, 1, none⟩ (.string x.f1)).setCell ⟨gI, 2, none⟩ (.int .u32 x.f2)).setCell ⟨gI, 3, none⟩ (.int .i64 x.f3)).setCell ⟨gI, 4, none⟩ (.int .u64 x.f4))) := ⟨x_builder_far5 BU.out BI.out⟩
      have n3_ : Aside0 (Below w.heap.size w (((((w2.setCell ⟨gI, 0, none⟩ (.string x.f0)).setCell ⟨gI, 1, none⟩ (.string x.f1)).setCell ⟨gI, 2, none⟩ (.int .u32 x.f2)).setCell ⟨gI, 3, none⟩ (.int .i64 x.f3)).setCell ⟨gI, 4, none⟩ (.int .u64 x.f4))) := ⟨by repeat (first | (with_reducible exact HB.out) | refine below_set ?_ GI.out)⟩
      have n4_ : Aside0 (Laid (((((w2.setCell ⟨gI, 0, none⟩ (.string x.f0)).setCell ⟨gI, 1, none⟩ (.string x.f1)).setCell ⟨gI, 2, none⟩ (.int .u32 x.f2)).setCell ⟨gI, 3, none⟩ (.int .i64 x.f3)).setCell ⟨gI, 4, none⟩ (.int .u64 x.f4))) := ⟨x_laid_on HLL.out n3_.out⟩
      generalize (((((w2.setCell ⟨gI, 0, none⟩ (.string x.f0)).setCell ⟨gI, 1, none⟩ (.string x.f1)).setCell ⟨gI, 2, none⟩ (.int .u32 x.f2)).setCell ⟨gI, 3, none⟩ (.int .i64 x.f3)).setCell ⟨gI, 4, none⟩ (.int .u64 x.f4)) = w3 at n0_ n1_ n2_ n3_ n4_ ⊢
      clear BA BI BU HB HLW
      have BA := Aside0.mk (blk_drew n0_.out)
      have BI := Aside0.mk (blk_drew n1_.out)
      have BU := Aside0.mk (x_builder_drew n2_.out)
      have HB := Aside0.mk (below_drew1 n3_.out)
      have HLW := Aside0.mk (x_laid_on HLL.out HB.out)
      clear n0_ n1_ n2_ n3_ n4_
      refine start_ (n := 26) (S := fun w' => w'.cell? ⟨gI, 0, none⟩ = some (.string x.f0) ∧ w'.cell? ⟨gI, 1, none⟩ = some (.string x.f1) ∧ w'.cell? ⟨gI, 2, none⟩ = some (.int .u32 x.f2) ∧ w'.cell? ⟨gI, 3, none⟩ = some (.int .i64 x.f3) ∧ w'.cell? ⟨gI, 4, none⟩ = some (.int .u64 x.f4)) (ds := [25]) #[false, false, false, false, false, false, false, false, false, false, false, false, false, false, false, false, false, false, false, false, false, false, false, false, false, false] (by kernel_rfl) rfl rfl ⟨(blk_cell BI.out 0).trans rfl, (blk_cell BI.out 1).trans rfl, (blk_cell BI.out 2).trans rfl, (blk_cell BI.out 3).trans rfl, (blk_cell BI.out 4).trans rfl⟩ (fun hHeld => ?_)
      refine pure_ (i := 0) (N := some 16) (v := ?_) (a' := ?_) #[true, false, false, false, false, false, false, false, false, false, false, false, false, false, false, false, false, false, false, false, false, false, false, false, false, false] rfl rfl (by kernel_rfl) (fun _ _ _ h => h) (Or.inl ⟨by rfl, ?_⟩) ?_ ?_
      rotate_left
      · intro w'
        go_simp
        with_reducible rfl
      rotate_left
      · simp only [Act.put, List.setIfInBounds_toArray, List.set_cons_zero, List.set_cons_succ, i64_w, i32_w]
        rfl
      refine pure_ (i := 2) (N := some 18) (v := ?_) (a' := ?_) #[true, false, true, false, false, false, false, false, false, false, false, false, false, false, false, false, false, false, false, false, false, false, false, false, false, false] rfl rfl (by kernel_rfl) (fun _ _ _ h => h) (Or.inl ⟨by rfl, ?_⟩) ?_ ?_
      rotate_left
      · intro w'
        go_simp
        with_reducible rfl
      rotate_left
      · simp only [Act.put, List.setIfInBounds_toArray, List.set_cons_zero, List.set_cons_succ, i64_w, i32_w]
        rfl
      refine pure_ (i := 6) (N := some 22) (v := ?_) (a' := ?_) #[true, false, true, false, false, false, true, false, false, false, false, false, false, false, false, false, false, false, false, false, false, false, false, false, false, false] rfl rfl (by kernel_rfl) (fun _ _ _ h => h) (Or.inl ⟨by rfl, ?_⟩) ?_ ?_
      rotate_left
      · intro w'
        go_simp
        with_reducible rfl
      rotate_left
      · simp only [Act.put, List.setIfInBounds_toArray, List.set_cons_zero, List.set_cons_succ, i64_w, i32_w]
        rfl
      refine pure_ (i := 10) (N := some 26) (v := ?_) (a' := ?_) #[true, false, true, false, false, false, true, false, false, false, true, false, false, false, false, false, false, false, false, false, false, false, false, false, false, false] rfl rfl (by kernel_rfl) (fun _ _ _ h => h) (Or.inl ⟨by rfl, ?_⟩) ?_ ?_
      rotate_left
      · intro w'
        go_simp
        with_reducible rfl
      rotate_left
      · simp only [Act.put, List.setIfInBounds_toArray, List.set_cons_zero, List.set_cons_succ, i64_w, i32_w]
        rfl
      refine pure_ (i := 13) (N := some 29) (v := ?_) (a' := ?_) #[true, false, true, false, false, false, true, false, false, false, true, false, false, true, false, false, false, false, false, false, false, false, false, false, false, false] rfl rfl (by kernel_rfl) (fun _ _ _ h => h) (Or.inl ⟨by rfl, ?_⟩) ?_ ?_
      rotate_left
      · intro w'
        go_simp
        with_reducible rfl
      rotate_left
      · simp only [Act.put, List.setIfInBounds_toArray, List.set_cons_zero, List.set_cons_succ, i64_w, i32_w]
        rfl
      refine pure_ (i := 21) (N := some 37) (v := ?_) (a' := ?_) #[true, false, true, false, false, false, true, false, false, false, true, false, false, true, false, false, false, false, false, false, false, true, false, false, false, false] rfl rfl (by kernel_rfl) (fun _ _ _ h => h) (Or.inl ⟨by rfl, ?_⟩) ?_ ?_
      rotate_left
      · intro w'
        go_simp
        with_reducible rfl
      rotate_left
      · simp only [Act.put, List.setIfInBounds_toArray, List.set_cons_zero, List.set_cons_succ, i64_w, i32_w]
        rfl
      refine take_ (i := 1) (N := some 17) (v := ?_) (a' := ?_) #[true, true, true, false, false, false, true, false, false, false, true, false, false, true, false, false, false, false, false, false, false, true, false, false, false, false] rfl rfl (by kernel_rfl) (fun _ _ _ h => h) (Or.inl ⟨by rfl, ?_⟩) hHeld ?_ ?_
      rotate_left
      · rintro w' ⟨s0, s1, s2, s3, s4⟩
        go_simp
        with_reducible rfl
      rotate_left
      · simp only [Act.put, List.setIfInBounds_toArray, List.set_cons_zero, List.set_cons_succ, i64_w, i32_w]
        rfl
      refine take_ (i := 3) (N := some 19) (v := ?_) (a' := ?_) #[true, true, true, true, false, false, true, false, false, false, true, false, false, true, false, false, false, false, false, false, false, true, false, false, false, false] rfl rfl (by kernel_rfl) (fun _ _ _ h => h) (Or.inl ⟨by rfl, ?_⟩) hHeld ?_ ?_
      rotate_left
      · rintro w' ⟨s0, s1, s2, s3, s4⟩
        go_simp
        with_reducible rfl
      rotate_left
      · simp only [Act.put, List.setIfInBounds_toArray, List.set_cons_zero, List.set_cons_succ, i64_w, i32_w]
        rfl
      refine pure_ (i := 4) (N := some 20) (v := ?_) (a' := ?_) #[true, true, true, true, true, false, true, false, false, false, true, false, false, true, false, false, false, false, false, false, false, true, false, false, false, false] rfl rfl (by kernel_rfl) (fun _ _ _ h => h) (Or.inl ⟨by rfl, ?_⟩) ?_ ?_
      rotate_left
      · intro w'
        go_simp
        with_reducible rfl
      rotate_left
      · simp only [Act.put, List.setIfInBounds_toArray, List.set_cons_zero, List.set_cons_succ, i64_w, i32_w]
        rfl
      refine take_ (i := 7) (N := some 23) (v := ?_) (a' := ?_) #[true, true, true, true, true, false, true, true, false, false, true, false, false, true, false, false, false, false, false, false, false, true, false, false, false, false] rfl rfl (by kernel_rfl) (fun _ _ _ h => h) (Or.inl ⟨by rfl, ?_⟩) hHeld ?_ ?_
      rotate_left
      · rintro w' ⟨s0, s1, s2, s3, s4⟩
        go_simp
        with_reducible rfl
      rotate_left
      · simp only [Act.put, List.setIfInBounds_toArray, List.set_cons_zero, List.set_cons_succ, i64_w, i32_w]
        rfl
      refine pure_ (i := 8) (N := some 24) (v := ?_) (a' := ?_) #[true, true, true, true, true, false, true, true, true, false, true, false, false, true, false, false, false, false, false, false, false, true, false, false, false, false] rfl rfl (by kernel_rfl) (fun _ _ _ h => h) (Or.inl ⟨by rfl, ?_⟩) ?_ ?_
      rotate_left
      · intro w'
        go_simp
        with_reducible rfl
      rotate_left
      · simp only [Act.put, List.setIfInBounds_toArray, List.set_cons_zero, List.set_cons_succ, i64_w, i32_w]
        rfl
      refine take_ (i := 11) (N := some 27) (v := ?_) (a' := ?_) #[true, true, true, true, true, false, true, true, true, false, true, true, false, true, false, false, false, false, false, false, false, true, false, false, false, false] rfl rfl (by kernel_rfl) (fun _ _ _ h => h) (Or.inl ⟨by rfl, ?_⟩) hHeld ?_ ?_
      rotate_left
      · rintro w' ⟨s0, s1, s2, s3, s4⟩
        go_simp
        with_reducible rfl
      rotate_left
      · simp only [Act.put, List.setIfInBounds_toArray, List.set_cons_zero, List.set_cons_succ, i64_w, i32_w]
        rfl
      refine take_ (i := 14) (N := some 30) (v := ?_) (a' := ?_) #[true, true, true, true, true, false, true, true, true, false, true, true, false, true, true, false, false, false, false, false, false, true, false, false, false, false] rfl rfl (by kernel_rfl) (fun _ _ _ h => h) (Or.inl ⟨by rfl, ?_⟩) hHeld ?_ ?_
      rotate_left
      · rintro w' ⟨s0, s1, s2, s3, s4⟩
        go_simp
        with_reducible rfl
      rotate_left
      · simp only [Act.put, List.setIfInBounds_toArray, List.set_cons_zero, List.set_cons_succ, i64_w, i32_w]
        rfl
      refine pure_ (i := 15) (N := some 31) (v := ?_) (a' := ?_) #[true, true, true, true, true, false, true, true, true, false, true, true, false, true, true, true, false, false, false, false, false, true, false, false, false, false] rfl rfl (by kernel_rfl) (fun _ _ _ h => h) (Or.inl ⟨by rfl, ?_⟩) ?_ ?_
      rotate_left
      · intro w'
        go_simp
        with_reducible rfl
      rotate_left
      · simp only [Act.put, List.setIfInBounds_toArray, List.set_cons_zero, List.set_cons_succ, i64_w, i32_w]
        rfl
      refine pure_ (i := 16) (N := some 32) (v := ?_) (a' := ?_) #[true, true, true, true, true, false, true, true, true, false, true, true, false, true, true, true, true, false, false, false, false, true, false, false, false, false] rfl rfl (by kernel_rfl) (fun _ _ _ h => h) (Or.inl ⟨by rfl, ?_⟩) ?_ ?_
      rotate_left
      · intro w'
        go_simp
        with_reducible rfl
      rotate_left
      · simp only [Act.put, List.setIfInBounds_toArray, List.set_cons_zero, List.set_cons_succ, i64_w, i32_w]
        rfl
      refine take_ (i := 22) (N := some 38) (v := ?_) (a' := ?_) #[true, true, true, true, true, false, true, true, true, false, true, true, false, true, true, true, true, false, false, false, false, true, true, false, false, false] rfl rfl (by kernel_rfl) (fun _ _ _ h => h) (Or.inl ⟨by rfl, ?_⟩) hHeld ?_ ?_
      rotate_left
      · rintro w' ⟨s0, s1, s2, s3, s4⟩
        go_simp
        with_reducible rfl
      rotate_left
      · simp only [Act.put, List.setIfInBounds_toArray, List.set_cons_zero, List.set_cons_succ, i64_w, i32_w]
        rfl
      refine one_ (i := 5) (N := some 21) #[true, true, true, true, true, true, true, true, true, false, true, true, false, true, true, true, true, false, false, false, false, true, true, false, false, false] rfl rfl (by kernel_rfl) (by decide) (fun K hK => ?_)
      refine goes_ Tryd.func57 (by kernel_rfl) rfl #[.int .u64 (IntKind.u64.wrap x.f2)] (by rfl) rfl rfl (by simp only [List.map_toArray, List.map_cons, List.map_nil]; rfl) ?_
      with_reducible refine (HT.out x.f2 _ HLW.out HX2.out).mono ?_
      rintro e w3 ⟨rfl, hb⟩
      refine ⟨_, rfl, ?_⟩
      have n0_ := Aside0.mk (blk_below BA.out hb)
      have n1_ := Aside0.mk (blk_below BI.out hb)
      have n2_ := Aside0.mk (x_builder_below BU.out hb)
      have n3_ := Aside0.mk (below_step HB.out hb)
      have n4_ := Aside0.mk (Laid.below HLW.out hb)
      clear BA BI BU HB HLW hb
      have BA := n0_; have BI := n1_; have BU := n2_; have HB := n3_; have HLW := n4_
      clear n0_ n1_ n2_ n3_ n4_
      refine hK.out _ _ ⟨(blk_cell BI.out 0).trans rfl, (blk_cell BI.out 1).trans rfl, (blk_cell BI.out 2).trans rfl, (blk_cell BI.out 3).trans rfl, (blk_cell BI.out 4).trans rfl⟩ (fun hHeld => ?_)
      clear hK K
      refine norm_ (a' := ?_) ?_ ?_
      rotate_left
      · show Act.put _ (some 21) _ = _
        simp only [Act.put, List.setIfInBounds_toArray, List.set_cons_zero, List.set_cons_succ, i64_w, i32_w]
        rfl
      refine one_ (i := 9) (N := some 25) #[true, true, true, true, true, true, true, true, true, true, true, true, false, true, true, true, true, false, false, false, false, true, true, false, false, false] rfl rfl (by kernel_rfl) (by decide) (fun K hK => ?_)
      refine goes_ Tryd.func57 (by kernel_rfl) rfl #[.int .u64 (IntKind.u64.wrap x.f3)] (by rfl) rfl rfl (by simp only [List.map_toArray, List.map_cons, List.map_nil]; rfl) ?_
      with_reducible refine (HT.out x.f3 _ HLW.out HX3.out).mono ?_
      rintro e w3 ⟨rfl, hb⟩
      refine ⟨_, rfl, ?_⟩
      have n0_ := Aside0.mk (blk_below BA.out hb)
      have n1_ := Aside0.mk (blk_below BI.out hb)
      have n2_ := Aside0.mk (x_builder_below BU.out hb)
      have n3_ := Aside0.mk (below_step HB.out hb)
      have n4_ := Aside0.mk (Laid.below HLW.out hb)
      clear BA BI BU HB HLW hb
      have BA := n0_; have BI := n1_; have BU := n2_; have HB := n3_; have HLW := n4_
      clear n0_ n1_ n2_ n3_ n4_
      refine hK.out _ _ ⟨(blk_cell BI.out 0).trans rfl, (blk_cell BI.out 1).trans rfl, (blk_cell BI.out 2).trans rfl, (blk_cell BI.out 3).trans rfl, (blk_cell BI.out 4).trans rfl⟩ (fun hHeld => ?_)
      clear hK K
      refine norm_ (a' := ?_) ?_ ?_
      rotate_left
      · show Act.put _ (some 25) _ = _
        simp only [Act.put, List.setIfInBounds_toArray, List.set_cons_zero, List.set_cons_succ, i64_w, i32_w]
        rfl
      refine one_ (i := 12) (N := some 28) #[true, true, true, true, true, true, true, true, true, true, true, true, true, true, true, true, true, false, false, false, false, true, true, false, false, false] rfl rfl (by kernel_rfl) (by decide) (fun K hK => ?_)
      refine goes_ Tryd.func57 (by kernel_rfl) rfl #[.int .u64 (x.f4)] (by rfl) rfl rfl (by simp only [List.map_toArray, List.map_cons, List.map_nil]; rfl) ?_
      with_reducible refine (HT0.out x.f4 _ HLW.out HX4.out).mono ?_
      rintro e w3 ⟨rfl, hb⟩
      refine ⟨_, rfl, ?_⟩
      have n0_ := Aside0.mk (blk_below BA.out hb)
      have n1_ := Aside0.mk (blk_below BI.out hb)
      have n2_ := Aside0.mk (x_builder_below BU.out hb)
      have n3_ := Aside0.mk (below_step HB.out hb)
      have n4_ := Aside0.mk (Laid.below HLW.out hb)
      clear BA BI BU HB HLW hb
      have BA := n0_; have BI := n1_; have BU := n2_; have HB := n3_; have HLW := n4_
      clear n0_ n1_ n2_ n3_ n4_
      refine hK.out _ _ ⟨(blk_cell BI.out 0).trans rfl, (blk_cell BI.out 1).trans rfl, (blk_cell BI.out 2).trans rfl, (blk_cell BI.out 3).trans rfl, (blk_cell BI.out 4).trans rfl⟩ (fun hHeld => ?_)
      clear hK K
      refine norm_ (a' := ?_) ?_ ?_
      rotate_left
      · show Act.put _ (some 28) _ = _
        simp only [Act.put, List.setIfInBounds_toArray, List.set_cons_zero, List.set_cons_succ, i64_w, i32_w]
        rfl
      refine one_ (i := 17) (N := some 33) #[true, true, true, true, true, true, true, true, true, true, true, true, true, true, true, true, true, true, false, false, false, true, true, false, false, false] rfl rfl (by kernel_rfl) (by decide) (fun K hK => ?_)
      refine goes_ Tryd.func57 (by kernel_rfl) rfl #[.int .u64 (IntKind.u64.wrap (x.f1.size : Int))] (by rfl) rfl rfl (by simp only [List.map_toArray, List.map_cons, List.map_nil]; rfl) ?_
      with_reducible refine (HT.out x.f1.size _ HLW.out HX1.out).mono ?_
      rintro e w3 ⟨rfl, hb⟩
      refine ⟨_, rfl, ?_⟩
      have n0_ := Aside0.mk (blk_below BA.out hb)
      have n1_ := Aside0.mk (blk_below BI.out hb)
      have n2_ := Aside0.mk (x_builder_below BU.out hb)
      have n3_ := Aside0.mk (below_step HB.out hb)
      have n4_ := Aside0.mk (Laid.below HLW.out hb)
      clear BA BI BU HB HLW hb
      have BA := n0_; have BI := n1_; have BU := n2_; have HB := n3_; have HLW := n4_
      clear n0_ n1_ n2_ n3_ n4_
      refine hK.out _ _ ⟨(blk_cell BI.out 0).trans rfl, (blk_cell BI.out 1).trans rfl, (blk_cell BI.out 2).trans rfl, (blk_cell BI.out 3).trans rfl, (blk_cell BI.out 4).trans rfl⟩ (fun hHeld => ?_)
      clear hK K
      refine norm_ (a' := ?_) ?_ ?_
      rotate_left
      · show Act.put _ (some 33) _ = _
        simp only [Act.put, List.setIfInBounds_toArray, List.set_cons_zero, List.set_cons_succ, i64_w, i32_w]
        rfl
      refine one_ (i := 18) (N := some 34) #[true, true, true, true, true, true, true, true, true, true, true, true, true, true, true, true, true, true, true, false, false, true, true, false, false, false] rfl rfl (by kernel_rfl) (by decide) (fun K hK => ?_)
      refine value_ (w1 := ?_) (v := ?_) (by rfl) rfl ?_ ?_
      rotate_left 2
      · go_simp
        constructor
        · rfl
        · rfl
      have hrow : Row6 (w3.alloc (.cells #[.string (⟨#[86, 65, 76, 85, 69]⟩ : ByteArray), .string x.f0, .string (txt (dec x.f2)), .string (txt (dec x.f3)), .string (txt (dec x.f4)), .string (txt (dec x.f1.size))] 9 (0, 0))) w3.heap.size (pieces x) := x_row6 w3 x
      have hb := below_alloc (Below.refl w3.heap.size w3) (.cells #[.string (⟨#[86, 65, 76, 85, 69]⟩ : ByteArray), .string x.f0, .string (txt (dec x.f2)), .string (txt (dec x.f3)), .string (txt (dec x.f4)), .string (txt (dec x.f1.size))] 9 (0, 0))
      obtain ⟨b, hbe⟩ : ∃ b, b = w3.heap.size := ⟨_, rfl⟩
      rw [← hbe] at hrow ⊢
      generalize (w3.alloc (.cells #[.string (⟨#[86, 65, 76, 85, 69]⟩ : ByteArray), .string x.f0, .string (txt (dec x.f2)), .string (txt (dec x.f3)), .string (txt (dec x.f4)), .string (txt (dec x.f1.size))] 9 (0, 0))) = w4 at hrow hb ⊢
      clear hbe
      have n0_ := Aside0.mk (blk_below BA.out hb)
      have n1_ := Aside0.mk (blk_below BI.out hb)
      have n2_ := Aside0.mk (x_builder_below BU.out hb)
      have n3_ := Aside0.mk (below_step HB.out hb)
      have n4_ := Aside0.mk (Laid.below HLW.out hb)
      clear BA BI BU HB HLW hb
      have BA := n0_; have BI := n1_; have BU := n2_; have HB := n3_; have HLW := n4_
      clear n0_ n1_ n2_ n3_ n4_
      have HROW := Aside0.mk hrow
      clear hrow
      refine hK.out _ _ ⟨(blk_cell BI.out 0).trans rfl, (blk_cell BI.out 1).trans rfl, (blk_cell BI.out 2).trans rfl, (blk_cell BI.out 3).trans rfl, (blk_cell BI.out 4).trans rfl⟩ (fun hHeld => ?_)
      clear hK K
      refine norm_ (a' := ?_) ?_ ?_
      rotate_left
      · show Act.put _ (some 34) _ = _
        simp only [Act.put, List.setIfInBounds_toArray, List.set_cons_zero, List.set_cons_succ, i64_w, i32_w]
        rfl
      refine one_ (i := 19) (N := some 35) #[true, true, true, true, true, true, true, true, true, true, true, true, true, true, true, true, true, true, true, true, false, true, true, false, false, false] rfl rfl (by kernel_rfl) (by decide) (fun K hK => ?_)
      refine goes_ Tryd.func36 (by kernel_rfl) rfl #[.slice (some ⟨b, 0, none⟩) 6 6, .string (⟨#[32]⟩ : ByteArray)] (by rfl) rfl rfl (by simp only [List.map_toArray, List.map_cons, List.map_nil]; rfl) ?_
      with_reducible refine (HJ.out b x _ HROW.out HX0.out).mono ?_
      rintro e w3 ⟨rfl, hb⟩
      refine ⟨_, rfl, ?_⟩
      clear HROW
      have n0_ := Aside0.mk (blk_below BA.out hb)
      have n1_ := Aside0.mk (blk_below BI.out hb)
      have n2_ := Aside0.mk (x_builder_below BU.out hb)
      have n3_ := Aside0.mk (below_step HB.out hb)
      have n4_ := Aside0.mk (Laid.below HLW.out hb)
      clear BA BI BU HB HLW hb
      have BA := n0_; have BI := n1_; have BU := n2_; have HB := n3_; have HLW := n4_
      clear n0_ n1_ n2_ n3_ n4_
      refine hK.out _ _ ⟨(blk_cell BI.out 0).trans rfl, (blk_cell BI.out 1).trans rfl, (blk_cell BI.out 2).trans rfl, (blk_cell BI.out 3).trans rfl, (blk_cell BI.out 4).trans rfl⟩ (fun hHeld => ?_)
      clear hK K
      refine norm_ (a' := ?_) ?_ ?_
      rotate_left
      · show Act.put _ (some 35) _ = _
        simp only [Act.put, List.setIfInBounds_toArray, List.set_cons_zero, List.set_cons_succ, i64_w, i32_w]
        rfl
      refine pure_ (i := 20) (N := some 36) (v := ?_) (a' := ?_) #[true, true, true, true, true, true, true, true, true, true, true, true, true, true, true, true, true, true, true, true, true, true, true, false, false, false] rfl rfl (by kernel_rfl) (fun _ _ _ h => h) (Or.inl ⟨by rfl, ?_⟩) ?_ ?_
      rotate_left
      · intro w'
        go_simp
        with_reducible rfl
      rotate_left
      · simp only [Act.put, List.setIfInBounds_toArray, List.set_cons_zero, List.set_cons_succ, i64_w, i32_w]
        rfl
      refine pure_ (i := 23) (N := some 39) (v := ?_) (a' := ?_) #[true, true, true, true, true, true, true, true, true, true, true, true, true, true, true, true, true, true, true, true, true, true, true, true, false, false] rfl rfl (by kernel_rfl) (fun _ _ _ h => h) (Or.inl ⟨by rfl, ?_⟩) ?_ ?_
      rotate_left
      · intro w'
        go_simp
        with_reducible rfl
      rotate_left
      · simp only [Act.put, List.setIfInBounds_toArray, List.set_cons_zero, List.set_cons_succ, i64_w, i32_w]
        rfl
      refine pure_ (i := 24) (N := some 40) (v := ?_) (a' := ?_) #[true, true, true, true, true, true, true, true, true, true, true, true, true, true, true, true, true, true, true, true, true, true, true, true, true, false] rfl rfl (by kernel_rfl) (fun _ _ _ h => h) (Or.inl ⟨by rfl, ?_⟩) ?_ ?_
      rotate_left
      · intro w'
        go_simp
        with_reducible rfl
      rotate_left
      · simp only [Act.put, List.setIfInBounds_toArray, List.set_cons_zero, List.set_cons_succ, i64_w, i32_w]
        rfl
      refine last_ (i := 25) (N := some 41) #[true, true, true, true, true, true, true, true, true, true, true, true, true, true, true, true, true, true, true, true, true, true, true, true, true, true] rfl rfl (by kernel_rfl) (by decide) (fun K hK => ?_)
      refine goes_ Tryd.func56 (by kernel_rfl) rfl #[.pointer (some ⟨gB, 0, none⟩), .string (((txt (itemHead x) ++ (⟨#[13, 10]⟩ : ByteArray)) ++ x.f1) ++ (⟨#[13, 10]⟩ : ByteArray))] (by rfl) rfl rfl (by simp only [List.map_toArray, List.map_cons, List.map_nil]; rfl) ?_
      with_reducible refine (HWS.out gB _ _ _ BU.out HSZ.out).mono ?_
      rintro e w3 ⟨rfl, hbu, hb⟩
      refine ⟨_, rfl, ?_⟩
      have n0_ : Aside0 (w3.heap[gA]? = some (.cells #[.int .u8 a0_0, .int .u8 a0_1, .int .u8 a0_2, .slice (some ad) l0_3.length c0_3, .int .u64 a0_4, .bool a0_5, .string a0_6] 27 (0, 0))) := ⟨(hb.block gA HAB.out).trans BA.out⟩
      have n2_ := Aside0.mk hbu
      have n3_ := Aside0.mk (HB.out.trans (hb.mono (GB.out)))
      have n4_ := Aside0.mk (x_laid_on HLL.out n3_.out)
      clear BA BI BU HB HLW hb hbu
      have BA := n0_; have BU := n2_; have HB := n3_; have HLW := n4_
      clear n0_ n2_ n3_ n4_
      refine hK.out _ _ ?_
      clear hK K
      refine norm_ (a' := ?_) ?_ ?_
      rotate_left
      · show Act.put _ (some 41) _ = _
        simp only [Act.put, List.setIfInBounds_toArray, List.set_cons_zero, List.set_cons_succ, i64_w, i32_w]
        rfl
      refine done_ (by kernel_rfl) ?_
      try go_wp2
      go_roundg (l0_3.length - (i + 1))
      case measure => have := HG.out; have := HIL.out; omega
      case rel =>
        refine ⟨i + 1, ?_, ⟨by have := HIL.out; omega⟩, ⟨by have := HG.out; omega⟩, BA, ⟨?_⟩, HB, HLW⟩
        · have h1 := HIL.out
          have h2 := HLN.out
          have e : wrap64 ((i : Int) + 1) = (i : Int) + 1 := by unfold wrap64; omega
          rw [e]
          rfl
        have e := BU.out
        rw [x_itemLine, ← HTK.out] at e
        exact e
    · have e : i = l0_3.length := by have := HI.out; omega
      subst e
      rw [List.take_length] at BU
      have hbound : (l0_3.flatMap itemLine).length ≤ 5728 := by
        have := x_lines_len l0_3 l0_3.length HLN.out (fun y hy => HIT.out y hy)
        rwa [List.take_length] at this
      have hfin : doneLines a0_1 l0_3 a0_4 = (l0_3.flatMap itemLine ++ rowWord a0_1) ++ (if cnt a0_1 then sp ++ dec a0_4 else []) := rfl
      have HFIN := Aside0.mk hfin
      clear hfin
      obtain ⟨-, hc_1, -, hc_3, hc_4, -, -⟩ := x_cells7 BA.out
      generalize l0_3.flatMap itemLine = T1 at BU HFIN hbound
      have HBD := Aside0.mk hbound
      clear hbound hlt
      go_wp2_with (go_at_call 58; refine (HROWS.out _).mono ?_; rintro e w5 ⟨rfl, hb⟩; have n0_ := Aside0.mk (blk_below BA.out hb); have n2_ := Aside0.mk (x_builder_below BU.out hb); have n3_ := Aside0.mk (below_step HB.out hb); have n4_ := Aside0.mk (Laid.below HLW.out hb); clear BA BU HB HLW hb; have BA := n0_; have BU := n2_; have HB := n3_; have HLW := n4_; clear n0_ n2_ n3_ n4_; obtain ⟨-, hc_1, -, hc_3, hc_4, -, -⟩ := x_cells7 BA.out)
      go_loopg [44] 6 (fun kq v44 w' => ∃ j : Nat, v44 = .int .i64 j ∧ Aside0 (j ≤ 6) ∧ Aside0 (6 - j ≤ kq) ∧ Aside0 (w'.heap[gA]? = some (.cells #[.int .u8 a0_0, .int .u8 a0_1, .int .u8 a0_2, .slice A0_3 l0_3.length c0_3, .int .u64 a0_4, .bool a0_5, .string a0_6] 27 (0, 0))) ∧ Aside0 (Lib.IsBuilder 92 5 gB gB (Lib.byteCells (T1 ++ rowsTo a0_1 j)) w') ∧ Aside0 (Below w.heap.size w w') ∧ Aside0 (Laid w'))
      case atStart => exact ⟨0, rfl, ⟨by omega⟩, ⟨by omega⟩, BA, ⟨by simpa [rowsTo] using BU.out⟩, HB, HLW⟩
      case round =>
        clear BA BU HB HLW
        obtain ⟨j, rfl, HI2, HG2, BA, BU, HB, HLW⟩ := hrel
        have hj : j = 0 ∨ j = 1 ∨ j = 2 ∨ j = 3 ∨ j = 4 ∨ j = 5 ∨ j = 6 := by have := HI2.out; omega
        rcases hj with rfl | rfl | rfl | rfl | rfl | rfl | rfl
        · have hs := rowsTo_succ a0_1 0 [83, 84, 79, 82, 69, 68] rfl
          obtain ⟨-, hc_1, -, hc_3, hc_4, -, -⟩ := x_cells7 BA.out
          by_cases hrow : ([83, 84, 79, 82, 69, 68] : List UInt8) = rowWord a0_1
          · have hO := HOF.out [83, 84, 79, 82, 69, 68]
            rw [decide_eq_true hrow] at hO
            rw [if_pos hrow] at hs
            have HS := Aside0.mk hs
            clear hs hrow
            have HLN2 : Aside0 ((T1 ++ rowsTo a0_1 0).length + (⟨#[83, 84, 79, 82, 69, 68]⟩ : ByteArray).size ≤ 140737488355328) := ⟨by have := HBD.out; have := rowsTo_len a0_1 0; simp only [List.length_append, x_size_lit, List.size_toArray, List.length_cons, List.length_nil]; omega⟩
            go_wp2_with (first | (go_at_call 59; refine (hO _).mono ?_; rintro e w6 ⟨rfl, hb0⟩; have hb := below_drawn hb0; clear hb0; have n0_ := Aside0.mk (blk_below BA.out hb); have n2_ := Aside0.mk (x_builder_below BU.out hb); have n3_ := Aside0.mk (below_step HB.out hb); have n4_ := Aside0.mk (Laid.below HLW.out hb); clear BA BU HB HLW hb; have BA := n0_; have BU := n2_; have HB := n3_; have HLW := n4_; clear n0_ n2_ n3_ n4_; obtain ⟨-, hc_1, -, hc_3, hc_4, -, -⟩ := x_cells7 BA.out) | (go_at_call 56; refine (HWS.out gB _ (⟨#[83, 84, 79, 82, 69, 68]⟩ : ByteArray) _ BU.out HLN2.out).mono ?_; rintro e w9 ⟨rfl, hbu, hb⟩; have n0_ := Aside0.mk ((hb.block gA HAB.out).trans BA.out); have n2_ := Aside0.mk hbu; have n3_ := Aside0.mk (HB.out.trans (hb.mono GB.out)); have n4_ := Aside0.mk (x_laid_on HLL.out n3_.out); clear BA BU HB HLW hb hbu; have BA := n0_; have BU := n2_; have HB := n3_; have HLW := n4_; clear n0_ n2_ n3_ n4_; obtain ⟨-, hc_1, -, hc_3, hc_4, -, -⟩ := x_cells7 BA.out))
            go_roundg (6 - 1)
            case measure => have := HG2.out; omega
            case rel => exact ⟨1, by go_num, ⟨by omega⟩, ⟨by omega⟩, BA, ⟨by have e := BU.out; rw [HS.out, ← List.append_assoc]; exact e⟩, HB, HLW⟩
          · have hO := HOF.out [83, 84, 79, 82, 69, 68]
            rw [decide_eq_false hrow] at hO
            rw [if_neg hrow, List.append_nil] at hs
            have HS := Aside0.mk hs
            clear hs hrow
            go_wp2_with (go_at_call 59; refine (hO _).mono ?_; rintro e w6 ⟨rfl, hb0⟩; have hb := below_drawn hb0; clear hb0; have n0_ := Aside0.mk (blk_below BA.out hb); have n2_ := Aside0.mk (x_builder_below BU.out hb); have n3_ := Aside0.mk (below_step HB.out hb); have n4_ := Aside0.mk (Laid.below HLW.out hb); clear BA BU HB HLW hb; have BA := n0_; have BU := n2_; have HB := n3_; have HLW := n4_; clear n0_ n2_ n3_ n4_; obtain ⟨-, hc_1, -, hc_3, hc_4, -, -⟩ := x_cells7 BA.out)
            go_roundg (6 - 1)
            case measure => have := HG2.out; omega
            case rel => exact ⟨1, by go_num, ⟨by omega⟩, ⟨by omega⟩, BA, ⟨by rw [HS.out]; exact BU.out⟩, HB, HLW⟩
        · have hs := rowsTo_succ a0_1 1 [78, 85, 77, 66, 69, 82] rfl
          obtain ⟨-, hc_1, -, hc_3, hc_4, -, -⟩ := x_cells7 BA.out
          by_cases hrow : ([78, 85, 77, 66, 69, 82] : List UInt8) = rowWord a0_1
          · have hO := HOF.out [78, 85, 77, 66, 69, 82]
            rw [decide_eq_true hrow] at hO
            rw [if_pos hrow] at hs
            have HS := Aside0.mk hs
            clear hs hrow
            have HLN2 : Aside0 ((T1 ++ rowsTo a0_1 1).length + (⟨#[78, 85, 77, 66, 69, 82]⟩ : ByteArray).size ≤ 140737488355328) := ⟨by have := HBD.out; have := rowsTo_len a0_1 1; simp only [List.length_append, x_size_lit, List.size_toArray, List.length_cons, List.length_nil]; omega⟩
            go_wp2_with (first | (go_at_call 59; refine (hO _).mono ?_; rintro e w6 ⟨rfl, hb0⟩; have hb := below_drawn hb0; clear hb0; have n0_ := Aside0.mk (blk_below BA.out hb); have n2_ := Aside0.mk (x_builder_below BU.out hb); have n3_ := Aside0.mk (below_step HB.out hb); have n4_ := Aside0.mk (Laid.below HLW.out hb); clear BA BU HB HLW hb; have BA := n0_; have BU := n2_; have HB := n3_; have HLW := n4_; clear n0_ n2_ n3_ n4_; obtain ⟨-, hc_1, -, hc_3, hc_4, -, -⟩ := x_cells7 BA.out) | (go_at_call 56; refine (HWS.out gB _ (⟨#[78, 85, 77, 66, 69, 82]⟩ : ByteArray) _ BU.out HLN2.out).mono ?_; rintro e w9 ⟨rfl, hbu, hb⟩; have n0_ := Aside0.mk ((hb.block gA HAB.out).trans BA.out); have n2_ := Aside0.mk hbu; have n3_ := Aside0.mk (HB.out.trans (hb.mono GB.out)); have n4_ := Aside0.mk (x_laid_on HLL.out n3_.out); clear BA BU HB HLW hb hbu; have BA := n0_; have BU := n2_; have HB := n3_; have HLW := n4_; clear n0_ n2_ n3_ n4_; obtain ⟨-, hc_1, -, hc_3, hc_4, -, -⟩ := x_cells7 BA.out))
            go_roundg (6 - 2)
            case measure => have := HG2.out; omega
            case rel => exact ⟨2, by go_num, ⟨by omega⟩, ⟨by omega⟩, BA, ⟨by have e := BU.out; rw [HS.out, ← List.append_assoc]; exact e⟩, HB, HLW⟩
          · have hO := HOF.out [78, 85, 77, 66, 69, 82]
            rw [decide_eq_false hrow] at hO
            rw [if_neg hrow, List.append_nil] at hs
            have HS := Aside0.mk hs
            clear hs hrow
            go_wp2_with (go_at_call 59; refine (hO _).mono ?_; rintro e w6 ⟨rfl, hb0⟩; have hb := below_drawn hb0; clear hb0; have n0_ := Aside0.mk (blk_below BA.out hb); have n2_ := Aside0.mk (x_builder_below BU.out hb); have n3_ := Aside0.mk (below_step HB.out hb); have n4_ := Aside0.mk (Laid.below HLW.out hb); clear BA BU HB HLW hb; have BA := n0_; have BU := n2_; have HB := n3_; have HLW := n4_; clear n0_ n2_ n3_ n4_; obtain ⟨-, hc_1, -, hc_3, hc_4, -, -⟩ := x_cells7 BA.out)
            go_roundg (6 - 2)
            case measure => have := HG2.out; omega
            case rel => exact ⟨2, by go_num, ⟨by omega⟩, ⟨by omega⟩, BA, ⟨by rw [HS.out]; exact BU.out⟩, HB, HLW⟩
        · have hs := rowsTo_succ a0_1 2 [84, 79, 85, 67, 72, 69, 68] rfl
          obtain ⟨-, hc_1, -, hc_3, hc_4, -, -⟩ := x_cells7 BA.out
          by_cases hrow : ([84, 79, 85, 67, 72, 69, 68] : List UInt8) = rowWord a0_1
          · have hO := HOF.out [84, 79, 85, 67, 72, 69, 68]
            rw [decide_eq_true hrow] at hO
            rw [if_pos hrow] at hs
            have HS := Aside0.mk hs
            clear hs hrow
            have HLN2 : Aside0 ((T1 ++ rowsTo a0_1 2).length + (⟨#[84, 79, 85, 67, 72, 69, 68]⟩ : ByteArray).size ≤ 140737488355328) := ⟨by have := HBD.out; have := rowsTo_len a0_1 2; simp only [List.length_append, x_size_lit, List.size_toArray, List.length_cons, List.length_nil]; omega⟩
            go_wp2_with (first | (go_at_call 59; refine (hO _).mono ?_; rintro e w6 ⟨rfl, hb0⟩; have hb := below_drawn hb0; clear hb0; have n0_ := Aside0.mk (blk_below BA.out hb); have n2_ := Aside0.mk (x_builder_below BU.out hb); have n3_ := Aside0.mk (below_step HB.out hb); have n4_ := Aside0.mk (Laid.below HLW.out hb); clear BA BU HB HLW hb; have BA := n0_; have BU := n2_; have HB := n3_; have HLW := n4_; clear n0_ n2_ n3_ n4_; obtain ⟨-, hc_1, -, hc_3, hc_4, -, -⟩ := x_cells7 BA.out) | (go_at_call 56; refine (HWS.out gB _ (⟨#[84, 79, 85, 67, 72, 69, 68]⟩ : ByteArray) _ BU.out HLN2.out).mono ?_; rintro e w9 ⟨rfl, hbu, hb⟩; have n0_ := Aside0.mk ((hb.block gA HAB.out).trans BA.out); have n2_ := Aside0.mk hbu; have n3_ := Aside0.mk (HB.out.trans (hb.mono GB.out)); have n4_ := Aside0.mk (x_laid_on HLL.out n3_.out); clear BA BU HB HLW hb hbu; have BA := n0_; have BU := n2_; have HB := n3_; have HLW := n4_; clear n0_ n2_ n3_ n4_; obtain ⟨-, hc_1, -, hc_3, hc_4, -, -⟩ := x_cells7 BA.out))
            go_roundg (6 - 3)
            case measure => have := HG2.out; omega
            case rel => exact ⟨3, by go_num, ⟨by omega⟩, ⟨by omega⟩, BA, ⟨by have e := BU.out; rw [HS.out, ← List.append_assoc]; exact e⟩, HB, HLW⟩
          · have hO := HOF.out [84, 79, 85, 67, 72, 69, 68]
            rw [decide_eq_false hrow] at hO
            rw [if_neg hrow, List.append_nil] at hs
            have HS := Aside0.mk hs
            clear hs hrow
            go_wp2_with (go_at_call 59; refine (hO _).mono ?_; rintro e w6 ⟨rfl, hb0⟩; have hb := below_drawn hb0; clear hb0; have n0_ := Aside0.mk (blk_below BA.out hb); have n2_ := Aside0.mk (x_builder_below BU.out hb); have n3_ := Aside0.mk (below_step HB.out hb); have n4_ := Aside0.mk (Laid.below HLW.out hb); clear BA BU HB HLW hb; have BA := n0_; have BU := n2_; have HB := n3_; have HLW := n4_; clear n0_ n2_ n3_ n4_; obtain ⟨-, hc_1, -, hc_3, hc_4, -, -⟩ := x_cells7 BA.out)
            go_roundg (6 - 3)
            case measure => have := HG2.out; omega
            case rel => exact ⟨3, by go_num, ⟨by omega⟩, ⟨by omega⟩, BA, ⟨by rw [HS.out]; exact BU.out⟩, HB, HLW⟩
        · have hs := rowsTo_succ a0_1 3 [68, 69, 76, 69, 84, 69, 68] rfl
          obtain ⟨-, hc_1, -, hc_3, hc_4, -, -⟩ := x_cells7 BA.out
          by_cases hrow : ([68, 69, 76, 69, 84, 69, 68] : List UInt8) = rowWord a0_1
          · have hO := HOF.out [68, 69, 76, 69, 84, 69, 68]
            rw [decide_eq_true hrow] at hO
            rw [if_pos hrow] at hs
            have HS := Aside0.mk hs
            clear hs hrow
            have HLN2 : Aside0 ((T1 ++ rowsTo a0_1 3).length + (⟨#[68, 69, 76, 69, 84, 69, 68]⟩ : ByteArray).size ≤ 140737488355328) := ⟨by have := HBD.out; have := rowsTo_len a0_1 3; simp only [List.length_append, x_size_lit, List.size_toArray, List.length_cons, List.length_nil]; omega⟩
            go_wp2_with (first | (go_at_call 59; refine (hO _).mono ?_; rintro e w6 ⟨rfl, hb0⟩; have hb := below_drawn hb0; clear hb0; have n0_ := Aside0.mk (blk_below BA.out hb); have n2_ := Aside0.mk (x_builder_below BU.out hb); have n3_ := Aside0.mk (below_step HB.out hb); have n4_ := Aside0.mk (Laid.below HLW.out hb); clear BA BU HB HLW hb; have BA := n0_; have BU := n2_; have HB := n3_; have HLW := n4_; clear n0_ n2_ n3_ n4_; obtain ⟨-, hc_1, -, hc_3, hc_4, -, -⟩ := x_cells7 BA.out) | (go_at_call 56; refine (HWS.out gB _ (⟨#[68, 69, 76, 69, 84, 69, 68]⟩ : ByteArray) _ BU.out HLN2.out).mono ?_; rintro e w9 ⟨rfl, hbu, hb⟩; have n0_ := Aside0.mk ((hb.block gA HAB.out).trans BA.out); have n2_ := Aside0.mk hbu; have n3_ := Aside0.mk (HB.out.trans (hb.mono GB.out)); have n4_ := Aside0.mk (x_laid_on HLL.out n3_.out); clear BA BU HB HLW hb hbu; have BA := n0_; have BU := n2_; have HB := n3_; have HLW := n4_; clear n0_ n2_ n3_ n4_; obtain ⟨-, hc_1, -, hc_3, hc_4, -, -⟩ := x_cells7 BA.out))
            go_roundg (6 - 4)
            case measure => have := HG2.out; omega
            case rel => exact ⟨4, by go_num, ⟨by omega⟩, ⟨by omega⟩, BA, ⟨by have e := BU.out; rw [HS.out, ← List.append_assoc]; exact e⟩, HB, HLW⟩
          · have hO := HOF.out [68, 69, 76, 69, 84, 69, 68]
            rw [decide_eq_false hrow] at hO
            rw [if_neg hrow, List.append_nil] at hs
            have HS := Aside0.mk hs
            clear hs hrow
            go_wp2_with (go_at_call 59; refine (hO _).mono ?_; rintro e w6 ⟨rfl, hb0⟩; have hb := below_drawn hb0; clear hb0; have n0_ := Aside0.mk (blk_below BA.out hb); have n2_ := Aside0.mk (x_builder_below BU.out hb); have n3_ := Aside0.mk (below_step HB.out hb); have n4_ := Aside0.mk (Laid.below HLW.out hb); clear BA BU HB HLW hb; have BA := n0_; have BU := n2_; have HB := n3_; have HLW := n4_; clear n0_ n2_ n3_ n4_; obtain ⟨-, hc_1, -, hc_3, hc_4, -, -⟩ := x_cells7 BA.out)
            go_roundg (6 - 4)
            case measure => have := HG2.out; omega
            case rel => exact ⟨4, by go_num, ⟨by omega⟩, ⟨by omega⟩, BA, ⟨by rw [HS.out]; exact BU.out⟩, HB, HLW⟩
        · have hs := rowsTo_succ a0_1 4 [70, 76, 85, 83, 72, 69, 68] rfl
          obtain ⟨-, hc_1, -, hc_3, hc_4, -, -⟩ := x_cells7 BA.out
          by_cases hrow : ([70, 76, 85, 83, 72, 69, 68] : List UInt8) = rowWord a0_1
          · have hO := HOF.out [70, 76, 85, 83, 72, 69, 68]
            rw [decide_eq_true hrow] at hO
            rw [if_pos hrow] at hs
            have HS := Aside0.mk hs
            clear hs hrow
            have HLN2 : Aside0 ((T1 ++ rowsTo a0_1 4).length + (⟨#[70, 76, 85, 83, 72, 69, 68]⟩ : ByteArray).size ≤ 140737488355328) := ⟨by have := HBD.out; have := rowsTo_len a0_1 4; simp only [List.length_append, x_size_lit, List.size_toArray, List.length_cons, List.length_nil]; omega⟩
            go_wp2_with (first | (go_at_call 59; refine (hO _).mono ?_; rintro e w6 ⟨rfl, hb0⟩; have hb := below_drawn hb0; clear hb0; have n0_ := Aside0.mk (blk_below BA.out hb); have n2_ := Aside0.mk (x_builder_below BU.out hb); have n3_ := Aside0.mk (below_step HB.out hb); have n4_ := Aside0.mk (Laid.below HLW.out hb); clear BA BU HB HLW hb; have BA := n0_; have BU := n2_; have HB := n3_; have HLW := n4_; clear n0_ n2_ n3_ n4_; obtain ⟨-, hc_1, -, hc_3, hc_4, -, -⟩ := x_cells7 BA.out) | (go_at_call 56; refine (HWS.out gB _ (⟨#[70, 76, 85, 83, 72, 69, 68]⟩ : ByteArray) _ BU.out HLN2.out).mono ?_; rintro e w9 ⟨rfl, hbu, hb⟩; have n0_ := Aside0.mk ((hb.block gA HAB.out).trans BA.out); have n2_ := Aside0.mk hbu; have n3_ := Aside0.mk (HB.out.trans (hb.mono GB.out)); have n4_ := Aside0.mk (x_laid_on HLL.out n3_.out); clear BA BU HB HLW hb hbu; have BA := n0_; have BU := n2_; have HB := n3_; have HLW := n4_; clear n0_ n2_ n3_ n4_; obtain ⟨-, hc_1, -, hc_3, hc_4, -, -⟩ := x_cells7 BA.out))
            go_roundg (6 - 5)
            case measure => have := HG2.out; omega
            case rel => exact ⟨5, by go_num, ⟨by omega⟩, ⟨by omega⟩, BA, ⟨by have e := BU.out; rw [HS.out, ← List.append_assoc]; exact e⟩, HB, HLW⟩
          · have hO := HOF.out [70, 76, 85, 83, 72, 69, 68]
            rw [decide_eq_false hrow] at hO
            rw [if_neg hrow, List.append_nil] at hs
            have HS := Aside0.mk hs
            clear hs hrow
            go_wp2_with (go_at_call 59; refine (hO _).mono ?_; rintro e w6 ⟨rfl, hb0⟩; have hb := below_drawn hb0; clear hb0; have n0_ := Aside0.mk (blk_below BA.out hb); have n2_ := Aside0.mk (x_builder_below BU.out hb); have n3_ := Aside0.mk (below_step HB.out hb); have n4_ := Aside0.mk (Laid.below HLW.out hb); clear BA BU HB HLW hb; have BA := n0_; have BU := n2_; have HB := n3_; have HLW := n4_; clear n0_ n2_ n3_ n4_; obtain ⟨-, hc_1, -, hc_3, hc_4, -, -⟩ := x_cells7 BA.out)
            go_roundg (6 - 5)
            case measure => have := HG2.out; omega
            case rel => exact ⟨5, by go_num, ⟨by omega⟩, ⟨by omega⟩, BA, ⟨by rw [HS.out]; exact BU.out⟩, HB, HLW⟩
        · have hs := rowsTo_succ a0_1 5 [69, 78, 68] rfl
          obtain ⟨-, hc_1, -, hc_3, hc_4, -, -⟩ := x_cells7 BA.out
          by_cases hrow : ([69, 78, 68] : List UInt8) = rowWord a0_1
          · have hO := HOF.out [69, 78, 68]
            rw [decide_eq_true hrow] at hO
            rw [if_pos hrow] at hs
            have HS := Aside0.mk hs
            clear hs hrow
            have HLN2 : Aside0 ((T1 ++ rowsTo a0_1 5).length + (⟨#[69, 78, 68]⟩ : ByteArray).size ≤ 140737488355328) := ⟨by have := HBD.out; have := rowsTo_len a0_1 5; simp only [List.length_append, x_size_lit, List.size_toArray, List.length_cons, List.length_nil]; omega⟩
            go_wp2_with (first | (go_at_call 59; refine (hO _).mono ?_; rintro e w6 ⟨rfl, hb0⟩; have hb := below_drawn hb0; clear hb0; have n0_ := Aside0.mk (blk_below BA.out hb); have n2_ := Aside0.mk (x_builder_below BU.out hb); have n3_ := Aside0.mk (below_step HB.out hb); have n4_ := Aside0.mk (Laid.below HLW.out hb); clear BA BU HB HLW hb; have BA := n0_; have BU := n2_; have HB := n3_; have HLW := n4_; clear n0_ n2_ n3_ n4_; obtain ⟨-, hc_1, -, hc_3, hc_4, -, -⟩ := x_cells7 BA.out) | (go_at_call 56; refine (HWS.out gB _ (⟨#[69, 78, 68]⟩ : ByteArray) _ BU.out HLN2.out).mono ?_; rintro e w9 ⟨rfl, hbu, hb⟩; have n0_ := Aside0.mk ((hb.block gA HAB.out).trans BA.out); have n2_ := Aside0.mk hbu; have n3_ := Aside0.mk (HB.out.trans (hb.mono GB.out)); have n4_ := Aside0.mk (x_laid_on HLL.out n3_.out); clear BA BU HB HLW hb hbu; have BA := n0_; have BU := n2_; have HB := n3_; have HLW := n4_; clear n0_ n2_ n3_ n4_; obtain ⟨-, hc_1, -, hc_3, hc_4, -, -⟩ := x_cells7 BA.out))
            go_roundg (6 - 6)
            case measure => have := HG2.out; omega
            case rel => exact ⟨6, by go_num, ⟨by omega⟩, ⟨by omega⟩, BA, ⟨by have e := BU.out; rw [HS.out, ← List.append_assoc]; exact e⟩, HB, HLW⟩
          · have hO := HOF.out [69, 78, 68]
            rw [decide_eq_false hrow] at hO
            rw [if_neg hrow, List.append_nil] at hs
            have HS := Aside0.mk hs
            clear hs hrow
            go_wp2_with (go_at_call 59; refine (hO _).mono ?_; rintro e w6 ⟨rfl, hb0⟩; have hb := below_drawn hb0; clear hb0; have n0_ := Aside0.mk (blk_below BA.out hb); have n2_ := Aside0.mk (x_builder_below BU.out hb); have n3_ := Aside0.mk (below_step HB.out hb); have n4_ := Aside0.mk (Laid.below HLW.out hb); clear BA BU HB HLW hb; have BA := n0_; have BU := n2_; have HB := n3_; have HLW := n4_; clear n0_ n2_ n3_ n4_; obtain ⟨-, hc_1, -, hc_3, hc_4, -, -⟩ := x_cells7 BA.out)
            go_roundg (6 - 6)
            case measure => have := HG2.out; omega
            case rel => exact ⟨6, by go_num, ⟨by omega⟩, ⟨by omega⟩, BA, ⟨by rw [HS.out]; exact BU.out⟩, HB, HLW⟩
        · rw [rowsTo_all a0_1 HO1.out HO2.out] at BU
          obtain ⟨-, hc_1, -, hc_3, hc_4, -, -⟩ := x_cells7 BA.out
          have hCo := HCO.out
          cases hcn : cnt a0_1 with
          | false =>
            rw [hcn] at hCo
            have HCN := Aside0.mk hcn
            clear hcn
            go_wp2_with (first | (go_at_call 60; refine (hCo _).mono ?_; rintro e w6 ⟨rfl, hb0⟩; have hb := below_drawn hb0; clear hb0; have n0_ := Aside0.mk (blk_below BA.out hb); have n2_ := Aside0.mk (x_builder_below BU.out hb); have n3_ := Aside0.mk (below_step HB.out hb); have n4_ := Aside0.mk (Laid.below HLW.out hb); clear BA BU HB HLW hb; have BA := n0_; have BU := n2_; have HB := n3_; have HLW := n4_; clear n0_ n2_ n3_ n4_; obtain ⟨-, hc_1, -, hc_3, hc_4, -, -⟩ := x_cells7 BA.out) | (go_at_call 61; refine (HST.out gB _ _ BU.out (x_row_ne _ _)).mono ?_; rintro e w7 ⟨rfl, hb⟩))
            go_ret
            refine ⟨?_, HB.out.trans (hb.mono GB.out)⟩
            rw [HFIN.out, HCN.out]
            simp
          | true =>
            rw [hcn] at hCo
            have HCN := Aside0.mk hcn
            clear hcn
            have hdl := x_dec_len a0_4 HNU.out
            have hdl2 : 1 + (txt (dec a0_4)).size ≤ 9223372036854775807 := by rw [x_txt_size]; omega
            have hdl3 := eq_true hdl2
            have hdl4 := decide_eq_true hdl2
            have hdl5 : (9223372036854775807 < 1 + (txt (dec a0_4)).size) = False := eq_false (Nat.not_lt.2 hdl2)
            have HDL : Aside0 ((T1 ++ rowWord a0_1).length + ((⟨#[32]⟩ : ByteArray) ++ txt (dec a0_4)).size ≤ 140737488355328) := ⟨by
              have := HBD.out
              have := x_row_len a0_1
              simp only [List.length_append, ByteArray.size_append, x_txt_size, x_size_lit, List.size_toArray, List.length_cons, List.length_nil]
              omega⟩
            clear hdl hdl2
            go_wp2_with (first | (go_at_call 60; refine (hCo _).mono ?_; rintro e w6 ⟨rfl, hb0⟩; have hb := below_drawn hb0; clear hb0; have n0_ := Aside0.mk (blk_below BA.out hb); have n2_ := Aside0.mk (x_builder_below BU.out hb); have n3_ := Aside0.mk (below_step HB.out hb); have n4_ := Aside0.mk (Laid.below HLW.out hb); clear BA BU HB HLW hb; have BA := n0_; have BU := n2_; have HB := n3_; have HLW := n4_; clear n0_ n2_ n3_ n4_; obtain ⟨-, hc_1, -, hc_3, hc_4, -, -⟩ := x_cells7 BA.out) | (go_at_call 57; refine (HT0.out a0_4 _ HLW.out HNU.out).mono ?_; rintro e w8 ⟨rfl, hb⟩; have n0_ := Aside0.mk (blk_below BA.out hb); have n2_ := Aside0.mk (x_builder_below BU.out hb); have n3_ := Aside0.mk (below_step HB.out hb); have n4_ := Aside0.mk (Laid.below HLW.out hb); clear BA BU HB HLW hb; have BA := n0_; have BU := n2_; have HB := n3_; have HLW := n4_; clear n0_ n2_ n3_ n4_; obtain ⟨-, hc_1, -, hc_3, hc_4, -, -⟩ := x_cells7 BA.out) | (go_at_call 56; refine (HWS.out gB _ _ _ BU.out HDL.out).mono ?_; rintro e w9 ⟨rfl, hbu, hb⟩; have n0_ := Aside0.mk ((hb.block gA HAB.out).trans BA.out); have n2_ := Aside0.mk hbu; have n3_ := Aside0.mk (HB.out.trans (hb.mono GB.out)); have n4_ := Aside0.mk (x_laid_on HLL.out n3_.out); clear BA BU HB HLW hb hbu; have BA := n0_; have BU := n2_; have HB := n3_; have HLW := n4_; clear n0_ n2_ n3_ n4_; obtain ⟨-, hc_1, -, hc_3, hc_4, -, -⟩ := x_cells7 BA.out) | (go_at_call 61; refine (HST.out gB _ _ BU.out (x_row_ne2 _ _ _)).mono ?_; rintro e w7 ⟨rfl, hb⟩))
            go_ret
            refine ⟨?_, HB.out.trans (hb.mono GB.out)⟩
            rw [HFIN.out, HCN.out]
            simp [sp, chs, txt, ByteArray.data_append]
end Go.Proofs.YtfoengihiaegoaaDoor.P
