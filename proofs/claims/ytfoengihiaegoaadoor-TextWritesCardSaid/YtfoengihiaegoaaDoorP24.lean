-- written by wip/tools/drive.py, a driver round the kit's printer, and made smaller by wip/tools/slim.py
import Derived.Test.YtfoengihiaegoaaDoorP0
import Derived.Test.YtfoengihiaegoaaDoorP17
import Derived.Test.YtfoengihiaegoaaDoorP22
import Derived.Test.YtfoengihiaegoaaDoorP23
import Derived.Test.YtfoengihiaegoaaDoorXContainsS
import Derived.Test.YtfoengihiaegoaaDoorXDefs
import Derived.Test.YtfoengihiaegoaaDoorXJoin
namespace Go.Proofs.YtfoengihiaegoaaDoor.P
open Go.RowKit Go.Proofs.YtfoengihiaegoaaDoorW.PrintWords Go.Proofs.YtfoengihiaegoaaDoorW.PrintLast Go.Proofs.YtfoengihiaegoaaDoorW.PrintMore
set_option linter.unusedVariables false
set_option linter.unusedSimpArgs false
theorem t24_0 {p : Prop} (h : p := by repeat (first | (with_reducible first | exact HB.out | apply below_alloc | apply pw_below_drewN | apply below_drew1 | refine below_set ?_ GE243.out) | exact HB.out)) : p := h
theorem t24_1 {p : Prop} (h : p := by repeat (first | (with_reducible first | exact HB.out | apply below_alloc | apply pw_below_drewN | apply below_drew1 | refine below_set ?_ GE243.out | refine below_set ?_ GE245.out) | exact HB.out)) : p := h
theorem t24_2 {p : Prop} (h : p := by (with_reducible repeat (first | refine blk_drewN ?_ _ | refine blk_drew ?_ | refine blk_alloc ?_ _)); exact BK243.out) : p := h
theorem t24_3 {p : Prop} (h : p := by (with_reducible repeat (first | refine blk_drewN ?_ _ | refine blk_drew ?_ | refine blk_alloc ?_ _)); refine blk_put (cs := #[.int .u8 a0_1, .int .i64 a0_2, .slice A0_3 l0_3.length c0_3, .string a0_4, .int .u32 a0_5, .int .i64 a0_6, .int .u64 a0_7, .int .u64 0]) ?_ 7 _ rfl; (with_reducible repeat (first | refine blk_drewN ?_ _ | refine blk_drew ?_ | refine blk_alloc ?_ _)); refine blk_put (cs := #[.int .u8 a0_1, .int .i64 a0_2, .slice A0_3 l0_3.length c0_3, .string a0_4, .int .u32 a0_5, .int .i64 a0_6, .int .u64 0, .int .u64 0]) ?_ 6 _ rfl; (with_reducible repeat (first | refine blk_drewN ?_ _ | refine blk_drew ?_ | refine blk_alloc ?_ _)); refine blk_put (cs := #[.int .u8 a0_1, .int .i64 a0_2, .slice A0_3 l0_3.length c0_3, .string a0_4, .int .u32 a0_5, .int .i64 0, .int .u64 0, .int .u64 0]) ?_ 5 _ rfl; (with_reducible repeat (first | refine blk_drewN ?_ _ | refine blk_drew ?_ | refine blk_alloc ?_ _)); refine blk_put (cs := #[.int .u8 a0_1, .int .i64 a0_2, .slice A0_3 l0_3.length c0_3, .string a0_4, .int .u32 0, .int .i64 0, .int .u64 0, .int .u64 0]) ?_ 4 _ rfl; (with_reducible repeat (first | refine blk_drewN ?_ _ | refine blk_drew ?_ | refine blk_alloc ?_ _)); refine blk_put (cs := #[.int .u8 a0_1, .int .i64 a0_2, .slice A0_3 l0_3.length c0_3, .string (⟨#[]⟩ : ByteArray), .int .u32 0, .int .i64 0, .int .u64 0, .int .u64 0]) ?_ 3 _ rfl; (with_reducible repeat (first | refine blk_drewN ?_ _ | refine blk_drew ?_ | refine blk_alloc ?_ _)); refine blk_put (cs := #[.int .u8 a0_1, .int .i64 a0_2, .slice none 0 0, .string (⟨#[]⟩ : ByteArray), .int .u32 0, .int .i64 0, .int .u64 0, .int .u64 0]) ?_ 2 _ rfl; (with_reducible repeat (first | refine blk_drewN ?_ _ | refine blk_drew ?_ | refine blk_alloc ?_ _)); refine blk_put (cs := #[.int .u8 a0_1, .int .i64 0, .slice none 0 0, .string (⟨#[]⟩ : ByteArray), .int .u32 0, .int .i64 0, .int .u64 0, .int .u64 0]) ?_ 1 _ rfl; (with_reducible repeat (first | refine blk_drewN ?_ _ | refine blk_drew ?_ | refine blk_alloc ?_ _)); refine blk_put (cs := #[.int .u8 0, .int .i64 0, .slice none 0 0, .string (⟨#[]⟩ : ByteArray), .int .u32 0, .int .i64 0, .int .u64 0, .int .u64 0]) ?_ 0 _ rfl; (with_reducible repeat (first | refine blk_drewN ?_ _ | refine blk_drew ?_ | refine blk_alloc ?_ _)); exact BK245.out) : p := h
theorem t24_4 {p : Prop} (h : p := by (try simp only [List.map_toArray, List.map_cons, List.map_nil]); first | done | rfl | (simp only [List.length_drop, List.length_take]; rfl)) : p := h
theorem t24_5 {p : Prop} (h : p := by (with_reducible repeat (first | refine blk_drewN ?_ _ | refine blk_drew ?_ | refine blk_alloc ?_ _)); refine blk_far ?_ NB243_245.out _; (with_reducible repeat (first | refine blk_drewN ?_ _ | refine blk_drew ?_ | refine blk_alloc ?_ _)); refine blk_far ?_ NB243_245.out _; (with_reducible repeat (first | refine blk_drewN ?_ _ | refine blk_drew ?_ | refine blk_alloc ?_ _)); refine blk_far ?_ NB243_245.out _; (with_reducible repeat (first | refine blk_drewN ?_ _ | refine blk_drew ?_ | refine blk_alloc ?_ _)); refine blk_far ?_ NB243_245.out _; (with_reducible repeat (first | refine blk_drewN ?_ _ | refine blk_drew ?_ | refine blk_alloc ?_ _)); refine blk_far ?_ NB243_245.out _; (with_reducible repeat (first | refine blk_drewN ?_ _ | refine blk_drew ?_ | refine blk_alloc ?_ _)); refine blk_far ?_ NB243_245.out _; (with_reducible repeat (first | refine blk_drewN ?_ _ | refine blk_drew ?_ | refine blk_alloc ?_ _)); refine blk_far ?_ NB243_245.out _; (with_reducible repeat (first | refine blk_drewN ?_ _ | refine blk_drew ?_ | refine blk_alloc ?_ _)); refine blk_far ?_ NB243_245.out _; (with_reducible repeat (first | refine blk_drewN ?_ _ | refine blk_drew ?_ | refine blk_alloc ?_ _)); exact BK243.out) : p := h
theorem t24_6 {p : Prop} (h : p := by (with_reducible repeat (first | refine blk_drewN ?_ _ | refine blk_drew ?_ | refine blk_alloc ?_ _)); exact BK245.out) : p := h
theorem t24_7 {p : Prop} (h : p := by first | rfl | (simp [errW_none, errW_some] <;> rfl) | (simp [*, errW_none, errW_some] <;> rfl)) : p := h
theorem t24_8 {p : Prop} (h : p := by first | (with_reducible assumption) | exact of_eq_true (by assumption) | (simp only [ByteArray.size_append] at *; omega) | omega) : p := h
theorem t24_9 {p : Prop} (h : p := by (with_reducible repeat (first | apply Kd.R_alloc | apply Kd.R_drewN | apply Kd.R_drew)); exact HO250.out) : p := h
theorem t24_10 {p : Prop} (h : p := by first | rfl | (simp; done) | (simp [*]; done) | exact x_nonempty _ | (simp [x_nonempty]; done)) : p := h
theorem t24_11 {p : Prop} (h : p := by first | exact Kd.V_nil _ _ _ _ _ | exact Kd.R_nil _ _ _ _ _ | exact Kd.N_nil _ _ _ _ _ | exact Kd.V_nil _ _ _ _ _ | exact Kd.Q_nil _ _ _ _ _ | exact Kd.S_nil _ _ _ _ _) : p := h
theorem t24_12 {p : Prop} (h : p := by rw [hg]; exact Nat.ne_of_lt (blk_lt (g := gb243) (o := .cells #[.int .u8 a0_0, .int .u8 a0_1, .int .i64 a0_2, .slice A0_3 l0_3.length c0_3, .string a0_4, .int .u32 a0_5, .int .i64 a0_6, .int .u64 a0_7, .int .u64 a0_8, .int .i64 a0_9, .string a0_10, .bool a0_11, .bool a0_12] 42 (0, 0)) t24_2)) : p := h
theorem t24_13 {p : Prop} (h : p := by rw [hg]; exact Nat.ne_of_gt (blk_lt (g := gb243) (o := .cells #[.int .u8 a0_0, .int .u8 a0_1, .int .i64 a0_2, .slice A0_3 l0_3.length c0_3, .string a0_4, .int .u32 a0_5, .int .i64 a0_6, .int .u64 a0_7, .int .u64 a0_8, .int .i64 a0_9, .string a0_10, .bool a0_11, .bool a0_12] 42 (0, 0)) t24_2)) : p := h
theorem t24_14 {p : Prop} (h : p := by repeat (first | (with_reducible first | exact HB.out | apply below_alloc | apply pw_below_drewN | apply below_drew1) | exact HB.out)) : p := h
theorem t24_15 {p : Prop} (h : p := by (with_reducible repeat (first | apply Kd.R_alloc | apply Kd.R_drewN | apply Kd.R_drew)); exact HO262.out) : p := h
theorem t24_16 {p : Prop} (h : p := by (with_reducible repeat (first | apply Kd.R_alloc | apply Kd.R_drewN | apply Kd.R_drew)); exact HO269.out) : p := h
theorem t24_17 {p : Prop} (h : p := by (with_reducible repeat (first | apply Kd.R_alloc | apply Kd.R_drewN | apply Kd.R_drew)); exact HO276.out) : p := h
theorem t24_18 {p : Prop} (h : p := by (with_reducible repeat (first | apply Kd.R_alloc | apply Kd.R_drewN | apply Kd.R_drew)); exact HO283.out) : p := h
theorem t24_19 {p : Prop} (h : p := by (with_reducible repeat (first | apply Kd.R_alloc | apply Kd.R_drewN | apply Kd.R_drew)); exact HO290.out) : p := h
mutual
def text_Write.j0 : Nat → Bool → Int → Int → Int → List ByteArray → ByteArray → Int → Int → Int → Int → Int → ByteArray → Bool → Bool → Option (List Int × Int)
 | 0, _, _, _, _, _, _, _, _, _, _, _, _, _, _ => none
 | k + 1, x22, x244000, x244001, x244002, x244003, x244004, x244005, x244006, x244007, x244008, x244009, x244010, x244011, x244012 => if x22 = true then (some (([] : List Int), 8)) else (if x244000 = 1 then ((order_Check.f k x244001 x244002 x244003 x244004 x244005 x244006 x244007 x244008).bind fun t246 => (if t246 = 0 then (if x244002 = 0 then ((anyOddKey.f x244003 ()).bind fun t247 => (text_Write.j1 k t247 x244001 x244002 x244003 x244004 x244005 x244006 x244007 x244008)) else (text_Write.j1 k true x244001 x244002 x244003 x244004 x244005 x244006 x244007 x244008)) else (some (([] : List Int), t246)))) else (if x244000 = 2 then ((text_tens_int.f x244009).bind fun t259 => ((strings_Join.f (([(⟨#[117, 115, 101, 114]⟩ : ByteArray), t259, x244010] : List ByteArray)) (⟨#[32]⟩ : ByteArray)).bind fun t263 => (if t263.size + 2 ≤ 9223372036854775807 then (if (t263 ++ (⟨#[13, 10]⟩ : ByteArray)).size ≤ 9223372036854775807 then (some ((bytesOf (t263 ++ (⟨#[13, 10]⟩ : ByteArray))), 0)) else (none)) else (none)))) else (if x244000 = 3 then (if x244011 = true then ((strings_Join.f (([(⟨#[116, 114, 97, 99, 107]⟩ : ByteArray), (⟨#[111, 110]⟩ : ByteArray)] : List ByteArray)) (⟨#[32]⟩ : ByteArray)).bind fun t270 => (if t270.size + 2 ≤ 9223372036854775807 then (if (t270 ++ (⟨#[13, 10]⟩ : ByteArray)).size ≤ 9223372036854775807 then (some ((bytesOf (t270 ++ (⟨#[13, 10]⟩ : ByteArray))), 0)) else (none)) else (none))) else ((strings_Join.f (([(⟨#[116, 114, 97, 99, 107]⟩ : ByteArray), (⟨#[111, 102, 102]⟩ : ByteArray)] : List ByteArray)) (⟨#[32]⟩ : ByteArray)).bind fun t277 => (if t277.size + 2 ≤ 9223372036854775807 then (if (t277 ++ (⟨#[13, 10]⟩ : ByteArray)).size ≤ 9223372036854775807 then (some ((bytesOf (t277 ++ (⟨#[13, 10]⟩ : ByteArray))), 0)) else (none)) else (none)))) else (if x244000 = 4 then ((strings_Join.f (([(⟨#[112, 105, 110, 103]⟩ : ByteArray)] : List ByteArray)) (⟨#[32]⟩ : ByteArray)).bind fun t284 => (if t284.size + 2 ≤ 9223372036854775807 then (if (t284 ++ (⟨#[13, 10]⟩ : ByteArray)).size ≤ 9223372036854775807 then (some ((bytesOf (t284 ++ (⟨#[13, 10]⟩ : ByteArray))), 0)) else (none)) else (none))) else ((strings_Join.f (([(⟨#[113, 117, 105, 116]⟩ : ByteArray)] : List ByteArray)) (⟨#[32]⟩ : ByteArray)).bind fun t291 => (if t291.size + 2 ≤ 9223372036854775807 then (if (t291 ++ (⟨#[13, 10]⟩ : ByteArray)).size ≤ 9223372036854775807 then (some ((bytesOf (t291 ++ (⟨#[13, 10]⟩ : ByteArray))), 0)) else (none)) else (none)))))))
def text_Write.j1 : Nat → Bool → Int → Int → List ByteArray → ByteArray → Int → Int → Int → Int → Option (List Int × Int)
 | 0, _, _, _, _, _, _, _, _, _ => none
 | k + 1, x42, x246000, x246001, x246002, x246003, x246004, x246005, x246006, x246007 => if x42 = true then (some (([] : List Int), 8)) else ((text_words.f k x246000 x246001 x246002 x246003 x246004 x246005 x246006 x246007).bind fun bt248 => ((strings_Join.f bt248.1 (⟨#[32]⟩ : ByteArray)).bind fun t252 => (if t252.size + 2 ≤ 9223372036854775807 then (if bt248.2 = true then (if x246003.size + 2 ≤ 9223372036854775807 then (if (t252 ++ (⟨#[13, 10]⟩ : ByteArray)).size + (x246003 ++ (⟨#[13, 10]⟩ : ByteArray)).size ≤ 9223372036854775807 then (if ((t252 ++ (⟨#[13, 10]⟩ : ByteArray)) ++ (x246003 ++ (⟨#[13, 10]⟩ : ByteArray))).size ≤ 9223372036854775807 then (some ((bytesOf ((t252 ++ (⟨#[13, 10]⟩ : ByteArray)) ++ (x246003 ++ (⟨#[13, 10]⟩ : ByteArray)))), 0)) else (none)) else (none)) else (none)) else (if (t252 ++ (⟨#[13, 10]⟩ : ByteArray)).size ≤ 9223372036854775807 then (some ((bytesOf (t252 ++ (⟨#[13, 10]⟩ : ByteArray))), 0)) else (none))) else (none))))
end
def text_Write.f (k : Nat) (a0_0 : Int) (a0_1 : Int) (a0_2 : Int) (l0_3 : List ByteArray) (a0_4 : ByteArray) (a0_5 : Int) (a0_6 : Int) (a0_7 : Int) (a0_8 : Int) (a0_9 : Int) (a0_10 : ByteArray) (a0_11 : Bool) (a0_12 : Bool) : Option (List Int × Int) := if a0_0 < 1 then (text_Write.j0 k true a0_0 a0_1 a0_2 l0_3 a0_4 a0_5 a0_6 a0_7 a0_8 a0_9 a0_10 a0_11 a0_12) else (if a0_0 > 5 then (text_Write.j0 k true a0_0 a0_1 a0_2 l0_3 a0_4 a0_5 a0_6 a0_7 a0_8 a0_9 a0_10 a0_11 a0_12) else ((text_fits.f a0_0 a0_1 a0_2 l0_3 a0_4 a0_5 a0_6 a0_7 a0_8 a0_9 a0_10 a0_11 a0_12).bind fun t244 => (text_Write.j0 k (!t244) a0_0 a0_1 a0_2 l0_3 a0_4 a0_5 a0_6 a0_7 a0_8 a0_9 a0_10 a0_11 a0_12)))
theorem text_Write.mono_l : ∀ k, (∀ y0 y1 y2 y3 y4 y5 y6 y7 y8 y9 y10 y11 y12 y13, LeO (text_Write.j0 k y0 y1 y2 y3 y4 y5 y6 y7 y8 y9 y10 y11 y12 y13) (text_Write.j0 (k + 1) y0 y1 y2 y3 y4 y5 y6 y7 y8 y9 y10 y11 y12 y13)) ∧ (∀ y0 y1 y2 y3 y4 y5 y6 y7 y8, LeO (text_Write.j1 k y0 y1 y2 y3 y4 y5 y6 y7 y8) (text_Write.j1 (k + 1) y0 y1 y2 y3 y4 y5 y6 y7 y8))
 | 0 => ⟨fun _ _ _ _ _ _ _ _ _ _ _ _ _ _ r h => by simp [text_Write.j0] at h, fun _ _ _ _ _ _ _ _ _ r h => by simp [text_Write.j1] at h⟩
 | k + 1 => by
  obtain ⟨ih0, ih1⟩ := text_Write.mono_l k
  refine ⟨?_, ?_⟩
  all_goals intros
  all_goals (first | unfold text_Write.j0 | unfold text_Write.j1)
  all_goals repeat' first | (with_reducible first | apply ih0 | apply ih1 | apply order_Check.mono | apply text_words.mono | exact LeO.refl _ | exact LeO.none _ | refine LeO.ite ?_ ?_ | refine LeO.bind ?_ (fun _ => ?_)) | exact LeO.none _ | refine LeO.ite ?_ ?_ | refine LeO.bind ?_ (fun _ => ?_)
theorem text_Write.mono : ∀ a0 a1 a2 a3 a4 a5 a6 a7 a8 a9 a10 a11 a12 k, LeO (text_Write.f k a0 a1 a2 a3 a4 a5 a6 a7 a8 a9 a10 a11 a12) (text_Write.f (k + 1) a0 a1 a2 a3 a4 a5 a6 a7 a8 a9 a10 a11 a12) := by
 intro a0 a1 a2 a3 a4 a5 a6 a7 a8 a9 a10 a11 a12 k
 obtain ⟨ih0, ih1⟩ := text_Write.mono_l k
 unfold text_Write.f
 repeat' first | (with_reducible first | apply ih0 | apply ih1 | apply order_Check.mono | apply text_words.mono | exact LeO.refl _ | exact LeO.none _ | refine LeO.ite ?_ ?_ | refine LeO.bind ?_ (fun _ => ?_)) | exact LeO.none _ | refine LeO.ite ?_ ?_ | refine LeO.bind ?_ (fun _ => ?_)
set_option maxHeartbeats 40000000 in
set_option maxRecDepth 100000 in
theorem text_Write.calls (k : Nat) (a0_0 : Int) (a0_1 : Int) (a0_2 : Int) (A0_3 : Option Addr) (c0_3 : Nat) (l0_3 : List ByteArray) (a0_4 : ByteArray) (a0_5 : Int) (a0_6 : Int) (a0_7 : Int) (a0_8 : Int) (a0_9 : Int) (a0_10 : ByteArray) (a0_11 : Bool) (a0_12 : Bool) (r1 : List Int) (r2 : Int) (w : World) (hr0_3 : Kd.C Kd.string w A0_3 l0_3.length l0_3) (hc0_3 : l0_3.length ≤ c0_3) (hL : Laid w) (h : text_Write.f k a0_0 a0_1 a0_2 l0_3 a0_4 a0_5 a0_6 a0_7 a0_8 a0_9 a0_10 a0_11 a0_12 = some (r1, r2)) :
  Calls Tryd.prog 14 #[.agg #[.int .u8 a0_0, .int .u8 a0_1, .int .i64 a0_2, .slice A0_3 l0_3.length c0_3, .string a0_4, .int .u32 a0_5, .int .i64 a0_6, .int .u64 a0_7, .int .u64 a0_8, .int .i64 a0_9, .string a0_10, .bool a0_11, .bool a0_12]] w fun e w' => ∃ v0_ : Value, e = .returned (.tuple #[v0_, .int .i64 r2]) ∧ Kd.V (Kd.int .u8) 5 w' w.heap.size (fun k_ => (w.heap.size ≤ k_)) v0_ r1 ∧ Below w.heap.size w w' := by
 have hu42 := Tryd.underlying42
 have hu40 := Tryd.underlying40
 have HR0_3 := Aside0.mk hr0_3
 have HC0_3 := Aside0.mk hc0_3
 clear hr0_3 hc0_3
 have hml72_0 : ∀ W : World, (Instr.mapUpdate 72 (.map (some W.heap.size)) (.bool true) (.string (⟨#[111, 110]⟩ : ByteArray))).run Tryd.prog (W.alloc (.map #[] 0)) = .ok () (W.alloc (.map #[(⟨(.bool true), (.string (⟨#[111, 110]⟩ : ByteArray)), 0⟩ : MapEntry)] 1)) := fun W => x_map_ins Tryd.underlying72 Tryd.underlying4 (by exact trivial) (by rfl) W
 have hml72_1 : ∀ W : World, (Instr.mapUpdate 72 (.map (some W.heap.size)) (.bool false) (.string (⟨#[111, 102, 102]⟩ : ByteArray))).run Tryd.prog (W.alloc (.map #[(⟨(.bool true), (.string (⟨#[111, 110]⟩ : ByteArray)), 0⟩ : MapEntry)] 1)) = .ok () (W.alloc (.map #[(⟨(.bool true), (.string (⟨#[111, 110]⟩ : ByteArray)), 0⟩ : MapEntry), (⟨(.bool false), (.string (⟨#[111, 102, 102]⟩ : ByteArray)), 1⟩ : MapEntry)] 2)) := fun W => x_map_ins Tryd.underlying72 Tryd.underlying4 (by exact trivial) (by rfl) W
 have hmk72_0 : ∀ W : World, (Instr.lookup 72 (.map (some W.heap.size)) (.bool true) false).run Tryd.prog (W.alloc (.map #[(⟨(.bool true), (.string (⟨#[111, 110]⟩ : ByteArray)), 0⟩ : MapEntry), (⟨(.bool false), (.string (⟨#[111, 102, 102]⟩ : ByteArray)), 1⟩ : MapEntry)] 2)) = .ok (.string (⟨#[111, 110]⟩ : ByteArray)) (W.alloc (.map #[(⟨(.bool true), (.string (⟨#[111, 110]⟩ : ByteArray)), 0⟩ : MapEntry), (⟨(.bool false), (.string (⟨#[111, 102, 102]⟩ : ByteArray)), 1⟩ : MapEntry)] 2)) := fun W => x_map_look Tryd.underlying72 Tryd.underlying4 (by exact trivial) (by rfl) W
 have hmk72_1 : ∀ W : World, (Instr.lookup 72 (.map (some W.heap.size)) (.bool false) false).run Tryd.prog (W.alloc (.map #[(⟨(.bool true), (.string (⟨#[111, 110]⟩ : ByteArray)), 0⟩ : MapEntry), (⟨(.bool false), (.string (⟨#[111, 102, 102]⟩ : ByteArray)), 1⟩ : MapEntry)] 2)) = .ok (.string (⟨#[111, 102, 102]⟩ : ByteArray)) (W.alloc (.map #[(⟨(.bool true), (.string (⟨#[111, 110]⟩ : ByteArray)), 0⟩ : MapEntry), (⟨(.bool false), (.string (⟨#[111, 102, 102]⟩ : ByteArray)), 1⟩ : MapEntry)] 2)) := fun W => x_map_look Tryd.underlying72 Tryd.underlying4 (by exact trivial) (by rfl) W
 have hmm72 : ∀ W : World, (Instr.makeMap 72 none).run Tryd.prog W = .ok (.map (some W.heap.size)) (W.alloc (.map #[] 0)) := fun _ => rfl
 have HB := Aside0.mk (Below.refl w.heap.size w)
 have HLL := Aside0.mk hL
 clear hL
 have H : (if a0_0 < 1 then (text_Write.j0 k true a0_0 a0_1 a0_2 l0_3 a0_4 a0_5 a0_6 a0_7 a0_8 a0_9 a0_10 a0_11 a0_12) else (if a0_0 > 5 then (text_Write.j0 k true a0_0 a0_1 a0_2 l0_3 a0_4 a0_5 a0_6 a0_7 a0_8 a0_9 a0_10 a0_11 a0_12) else ((text_fits.f a0_0 a0_1 a0_2 l0_3 a0_4 a0_5 a0_6 a0_7 a0_8 a0_9 a0_10 a0_11 a0_12).bind fun t244 => (text_Write.j0 k (!t244) a0_0 a0_1 a0_2 l0_3 a0_4 a0_5 a0_6 a0_7 a0_8 a0_9 a0_10 a0_11 a0_12)))) = some (r1, r2) := h
 clear h
 have HC2 := Aside0.mk H
 clear H
 go_enter Tryd.func14, Tryd.ntmps14
 go_upto_region 1 with (first | ((with_reducible refine gate_dst (N := 1) rfl ?_); refine box_event ?hg (N := 1) ?hd (cs := #[.int .u8 a0_0, .int .u8 a0_1, .int .i64 a0_2, .slice A0_3 l0_3.length c0_3, .string a0_4, .int .u32 a0_5, .int .i64 a0_6, .int .u64 a0_7, .int .u64 a0_8, .int .i64 a0_9, .string a0_10, .bool a0_11, .bool a0_12]) (t := 42) ?hr ?_; (case hd => rfl); (case hg => rfl); (case hr => first | (go_simp; done) | (go_simp; rfl)); intro gb243 hg w3 hbox hb; have n0_ := Aside0.mk (below_step t24_14 hb); have n1_ := Aside0.mk (hbox); have n2_ := Aside0.mk ((by rw [hg]; exact (below_size t24_14) : w.heap.size ≤ gb243)); have n3_ := Aside0.mk ((by rw [hg]; exact (below_size t24_14) : w.heap.size ≤ gb243)); clear HB; have HB := n0_; have BK243 := n1_; have GW243 := n2_; have GE243 := n3_; clear n0_ n1_ n2_ n3_; clear hb hbox hg))
 (try simp only [Act.put, List.setIfInBounds_toArray, List.set_cons_zero, List.set_cons_succ])
 go_cut [22] (fun v22 wc => ∃ (kq : Nat) (x22_1 : Bool), v22 = .bool x22_1 ∧ Aside0 (text_Write.j0 kq x22_1 a0_0 a0_1 a0_2 l0_3 a0_4 a0_5 a0_6 a0_7 a0_8 a0_9 a0_10 a0_11 a0_12 = some (r1, r2)) ∧ Aside0 (kq ≤ k) ∧ Aside0 (wc.heap[gb243]? = some (.cells #[.int .u8 a0_0, .int .u8 a0_1, .int .i64 a0_2, (.slice A0_3 l0_3.length c0_3), .string a0_4, .int .u32 a0_5, .int .i64 a0_6, .int .u64 a0_7, .int .u64 a0_8, .int .i64 a0_9, .string a0_10, .bool a0_11, .bool a0_12] 42 (0, 0))) ∧ Aside0 (Below w.heap.size w wc))
 case first =>
  have H := HC2.out
  clear HC2
  by_cases c4 : a0_0 < 1
  ·rw [if_pos c4] at H
   have c4b0 : decide (a0_0 < 1) = true := decide_eq_true c4
   clear c4
   (first | rw [c4b0] | (simp only [i64_w, i32_w]; rw [c4b0]) | rw [c4b1] | skip)
   have H' := Aside0.mk H
   clear H
   have hz5 := blk13 BK243.out
   go_wp2
   go_meet
   case rel => exact ⟨_, (true), t24_10, H', ⟨by first | omega | exact Nat.le_refl _⟩, ⟨t24_2⟩, ⟨t24_0⟩⟩
  ·rw [if_neg c4] at H
   have c4b0 : decide (a0_0 < 1) = false := decide_eq_false c4
   clear c4
   (first | rw [c4b0] | (simp only [i64_w, i32_w]; rw [c4b0]) | rw [c4b1] | skip)
   by_cases c6 : a0_0 > 5
   ·rw [if_pos c6] at H
    have c6b0 : decide (5 < a0_0) = true := decide_eq_true c6
    clear c6
    have H' := Aside0.mk H
    clear H
    have hz7 := blk13 BK243.out
    go_wp2
    go_meet
    case rel => exact ⟨_, (true), t24_10, H', ⟨by first | omega | exact Nat.le_refl _⟩, ⟨t24_2⟩, ⟨t24_0⟩⟩
   ·rw [if_neg c6] at H
    have c6b0 : decide (5 < a0_0) = false := decide_eq_false c6
    clear c6
    replace H := Option.bind_eq_some_iff.mp H
    obtain ⟨t244, A80, H⟩ := H
    replace H : (text_Write.j0 k (!t244) a0_0 a0_1 a0_2 l0_3 a0_4 a0_5 a0_6 a0_7 a0_8 a0_9 a0_10 a0_11 a0_12) = some (r1, r2) := H
    have A8 := Aside0.mk A80
    clear A80
    have H' := Aside0.mk H
    clear H
    have hz9 := blk13 BK243.out
    go_wp2_with (first | (go_at_call 30; (with_reducible refine (text_fits.calls a0_0 a0_1 a0_2 _ _ l0_3 a0_4 a0_5 a0_6 a0_7 a0_8 a0_9 a0_10 a0_11 a0_12 t244 _ ?side1 ?side2 A8.out).mono ?_); (case side1 => repeat (first | exact (Kd.C_below HR0_3.out HB.out) | (with_reducible refine Kd.C_alloc ?_ _) | (with_reducible refine Kd.C_drewN ?_ _) | (with_reducible refine Kd.C_drew ?_))); (case side2 => exact HC0_3.out); rintro e w10 ⟨rfl, hb⟩; have n0_ := Aside0.mk (blk_below (g := gb243) (o := .cells #[.int .u8 a0_0, .int .u8 a0_1, .int .i64 a0_2, .slice A0_3 l0_3.length c0_3, .string a0_4, .int .u32 a0_5, .int .i64 a0_6, .int .u64 a0_7, .int .u64 a0_8, .int .i64 a0_9, .string a0_10, .bool a0_11, .bool a0_12] 42 (0, 0)) t24_2 hb); have n1_ := Aside0.mk (below_step t24_0 hb); clear BK243; clear HB; have BK243 := n0_; have HB := n1_; clear n0_ n1_; (try clear hb); (try clear hb2); (try clear hk); (try clear hi)))
    go_meet
    case rel => exact ⟨_, (!t244), t24_10, H', ⟨by first | omega | exact Nat.le_refl _⟩, ⟨t24_2⟩, ⟨t24_0⟩⟩
 case rest =>
  clear HC2
  obtain ⟨kq, x22_1, rfl, HA, HJ1, BK243, HB⟩ := hcut
  cases kq with
  | zero => exact absurd HA.out (by simp [text_Write.j0])
  | succ kj1 =>
   have H := HA.out
   clear HA
   simp only [text_Write.j0] at H
   by_cases c11 : x22_1 = true
   ·subst c11
    rw [if_pos rfl] at H
    simp only [Option.some.injEq, Prod.mk.injEq] at H
    obtain ⟨rfl, rfl⟩ := H
    go_wp2
    go_ret2
    exact ⟨_, t24_7, t24_11, t24_0⟩
   ·replace c11 := Bool.eq_false_iff.mpr c11
    subst c11
    rw [if_neg (show ¬ (false = true) by decide)] at H
    by_cases c12 : a0_0 = 1
    ·rw [if_pos c12] at H
     have c12b0 : (a0_0 == 1) = true := beq_iff_eq.mpr c12
     have c12b1 : (a0_0 != 1) = false := bne_eq_false_iff_eq.mpr c12
     clear c12
     replace H := Option.bind_eq_some_iff.mp H
     obtain ⟨t246, A130, H⟩ := H
     replace H : (if t246 = 0 then (if a0_2 = 0 then ((anyOddKey.f l0_3 ()).bind fun t247 => (text_Write.j1 kj1 t247 a0_1 a0_2 l0_3 a0_4 a0_5 a0_6 a0_7 a0_8)) else (text_Write.j1 kj1 true a0_1 a0_2 l0_3 a0_4 a0_5 a0_6 a0_7 a0_8)) else (some (([] : List Int), t246))) = some (r1, r2) := H
     have A13 := Aside0.mk A130
     clear A130
     by_cases c14 : t246 = 0
     ·rw [if_pos c14] at H
      have c14b0 : (t246 == 0) = true := beq_iff_eq.mpr c14
      have c14b1 : (t246 != 0) = false := bne_eq_false_iff_eq.mpr c14
      clear c14
      have HC15 := Aside0.mk H
      clear H
      have hz16 := blk13 BK243.out
      go_upto_region 11 with (first | ((with_reducible refine gate_dst (N := 5) rfl ?_); refine box_event ?hg (N := 5) ?hd (cs := #[.int .u8 0, .int .i64 0, .slice none 0 0, .string (⟨#[]⟩ : ByteArray), .int .u32 0, .int .i64 0, .int .u64 0, .int .u64 0]) (t := 40) ?hr ?_; (case hd => rfl); (case hg => rfl); (case hr => first | (go_simp; done) | (go_simp; rfl)); intro gb245 hg w17 hbox hb; have n0_ := Aside0.mk (blk_below (g := gb243) (o := .cells #[.int .u8 a0_0, .int .u8 a0_1, .int .i64 a0_2, .slice A0_3 l0_3.length c0_3, .string a0_4, .int .u32 a0_5, .int .i64 a0_6, .int .u64 a0_7, .int .u64 a0_8, .int .i64 a0_9, .string a0_10, .bool a0_11, .bool a0_12] 42 (0, 0)) t24_2 hb); have n1_ := Aside0.mk (below_step t24_0 hb); have n2_ := Aside0.mk (hbox); have n3_ := Aside0.mk ((by rw [hg]; exact (below_size t24_0) : w.heap.size ≤ gb245)); have n4_ := Aside0.mk ((by rw [hg]; exact (below_size t24_0) : w.heap.size ≤ gb245)); have n5_ := Aside0.mk ((t24_12 : gb243 ≠ gb245)); have n6_ := Aside0.mk ((t24_13 : gb245 ≠ gb243)); clear BK243; clear HB; have BK243 := n0_; have HB := n1_; have BK245 := n2_; have GW245 := n3_; have GE245 := n4_; have NB243_245 := n5_; have NB245_243 := n6_; clear n0_ n1_ n2_ n3_ n4_ n5_ n6_; clear hb hbox hg; have hnb18 := NB245_243.out; have hnc18 := NB243_245.out; have hz19 := blk8 BK245.out) | ((with_reducible refine gate_callee (f := 31) rfl ?_); refine goesL_ (some 31) rfl rfl Tryd.func31 (by kernel_rfl) rfl #[.agg #[.int .u8 a0_1, .int .i64 a0_2, .slice A0_3 l0_3.length c0_3, .string a0_4, .int .u32 a0_5, .int .i64 a0_6, .int .u64 a0_7, .int .u64 a0_8]] rfl t24_4 ?_; (with_reducible refine (order_Check.calls kj1 a0_1 a0_2 _ _ l0_3 a0_4 a0_5 a0_6 a0_7 a0_8 t246 _ ?side1 ?side2 A13.out).mono ?_); (case side1 => exact Kd.C_below HR0_3.out t24_1); (case side2 => exact HC0_3.out); rintro e w20 ⟨rfl, hb⟩; refine ⟨_, rfl, ?_⟩; have n0_ := Aside0.mk (blk_below (g := gb243) (o := .cells #[.int .u8 a0_0, .int .u8 a0_1, .int .i64 a0_2, .slice A0_3 l0_3.length c0_3, .string a0_4, .int .u32 a0_5, .int .i64 a0_6, .int .u64 a0_7, .int .u64 a0_8, .int .i64 a0_9, .string a0_10, .bool a0_11, .bool a0_12] 42 (0, 0)) t24_5 hb); have n1_ := Aside0.mk (blk_below (g := gb245) (o := .cells #[.int .u8 a0_1, .int .i64 a0_2, .slice A0_3 l0_3.length c0_3, .string a0_4, .int .u32 a0_5, .int .i64 a0_6, .int .u64 a0_7, .int .u64 a0_8] 40 (0, 0)) t24_3 hb); have n2_ := Aside0.mk (below_step t24_1 hb); clear BK243; clear BK245; clear HB; have BK243 := n0_; have BK245 := n1_; have HB := n2_; clear n0_ n1_ n2_; (try clear hb); (try clear hb2); (try clear hk); (try clear hi)))
      (try simp only [Act.put, List.setIfInBounds_toArray, List.set_cons_zero, List.set_cons_succ])
      go_cut [42] (fun v42 wc => ∃ (kq : Nat) (x42_14 : Bool), v42 = .bool x42_14 ∧ Aside0 (text_Write.j1 kq x42_14 a0_1 a0_2 l0_3 a0_4 a0_5 a0_6 a0_7 a0_8 = some (r1, r2)) ∧ Aside0 (kq ≤ kj1) ∧ Aside0 (wc.heap[gb243]? = some (.cells #[.int .u8 a0_0, .int .u8 a0_1, .int .i64 a0_2, (.slice A0_3 l0_3.length c0_3), .string a0_4, .int .u32 a0_5, .int .i64 a0_6, .int .u64 a0_7, .int .u64 a0_8, .int .i64 a0_9, .string a0_10, .bool a0_11, .bool a0_12] 42 (0, 0))) ∧ Aside0 (wc.heap[gb245]? = some (.cells #[.int .u8 a0_1, .int .i64 a0_2, (.slice A0_3 l0_3.length c0_3), .string a0_4, .int .u32 a0_5, .int .i64 a0_6, .int .u64 a0_7, .int .u64 a0_8] 40 (0, 0))) ∧ Aside0 (Below w.heap.size w wc))
      case first =>
       have H := HC15.out
       clear HC15
       by_cases c21 : a0_2 = 0
       ·rw [if_pos c21] at H
        have c21b0 : (a0_2 == 0) = true := beq_iff_eq.mpr c21
        have c21b1 : (a0_2 != 0) = false := bne_eq_false_iff_eq.mpr c21
        clear c21
        (first | rw [c21b0] | (simp only [i64_w, i32_w]; rw [c21b0]) | rw [c21b1] | skip)
        replace H := Option.bind_eq_some_iff.mp H
        obtain ⟨t247, A220, H⟩ := H
        replace H : (text_Write.j1 kj1 t247 a0_1 a0_2 l0_3 a0_4 a0_5 a0_6 a0_7 a0_8) = some (r1, r2) := H
        have A22 := Aside0.mk A220
        clear A220
        have H' := Aside0.mk H
        clear H
        have hnb23 := NB245_243.out
        have hnc23 := NB243_245.out
        have hz24 := blk8 BK245.out
        go_wp2_with (first | (go_at_call 32; (with_reducible refine (anyOddKey.calls _ _ l0_3 () t247 _ ?side1 ?side2 A22.out).mono ?_); (case side1 => repeat (first | exact (Kd.C_below HR0_3.out HB.out) | (with_reducible refine Kd.C_alloc ?_ _) | (with_reducible refine Kd.C_drewN ?_ _) | (with_reducible refine Kd.C_drew ?_))); (case side2 => exact HC0_3.out); rintro e w25 ⟨rfl, hb⟩; have n0_ := Aside0.mk (blk_below (g := gb243) (o := .cells #[.int .u8 a0_0, .int .u8 a0_1, .int .i64 a0_2, .slice A0_3 l0_3.length c0_3, .string a0_4, .int .u32 a0_5, .int .i64 a0_6, .int .u64 a0_7, .int .u64 a0_8, .int .i64 a0_9, .string a0_10, .bool a0_11, .bool a0_12] 42 (0, 0)) t24_2 hb); have n1_ := Aside0.mk (blk_below (g := gb245) (o := .cells #[.int .u8 a0_1, .int .i64 a0_2, .slice A0_3 l0_3.length c0_3, .string a0_4, .int .u32 a0_5, .int .i64 a0_6, .int .u64 a0_7, .int .u64 a0_8] 40 (0, 0)) t24_6 hb); have n2_ := Aside0.mk (below_step t24_1 hb); clear BK243; clear BK245; clear HB; have BK243 := n0_; have BK245 := n1_; have HB := n2_; clear n0_ n1_ n2_; (try clear hb); (try clear hb2); (try clear hk); (try clear hi)))
        go_meet
        case rel => exact ⟨_, (t247), t24_10, H', ⟨by have := HJ1.out; first | omega | exact Nat.le_refl _⟩, ⟨t24_2⟩, ⟨t24_6⟩, ⟨t24_1⟩⟩
       ·rw [if_neg c21] at H
        have c21b0 : (a0_2 == 0) = false := beq_eq_false_iff_ne.mpr c21
        have c21b1 : (a0_2 != 0) = true := bne_iff_ne.mpr c21
        (first | rw [c21b0] | (simp only [i64_w, i32_w]; rw [c21b0]) | rw [c21b1] | skip)
        have H' := Aside0.mk H
        clear H
        have hnb26 := NB245_243.out
        have hnc26 := NB243_245.out
        have hz27 := blk8 BK245.out
        go_wp2
        go_meet
        case rel => exact ⟨_, (true), t24_10, H', ⟨by have := HJ1.out; first | omega | exact Nat.le_refl _⟩, ⟨t24_2⟩, ⟨t24_6⟩, ⟨t24_1⟩⟩
      case rest =>
       clear HC15
       (try clear c11); (try clear c12); (try clear c12b0); (try clear c12b1); (try clear c14); (try clear c14b0); (try clear c14b1); (try clear hz16); (try clear hz19)
       obtain ⟨kq, x42_14, rfl, HA, HJ14, BK243, BK245, HB⟩ := hcut
       cases kq with
       | zero => exact absurd HA.out (by simp [text_Write.j1])
       | succ kj14 =>
        have H := HA.out
        clear HA
        simp only [text_Write.j1] at H
        by_cases c28 : x42_14 = true
        ·subst c28
         rw [if_pos rfl] at H
         simp only [Option.some.injEq, Prod.mk.injEq] at H
         obtain ⟨rfl, rfl⟩ := H
         go_wp2
         go_ret2
         exact ⟨_, t24_7, t24_11, t24_1⟩
        ·replace c28 := Bool.eq_false_iff.mpr c28
         subst c28
         rw [if_neg (show ¬ (false = true) by decide)] at H
         replace H := Option.bind_eq_some_iff.mp H
         obtain ⟨⟨t248, t251⟩, A290, H⟩ := H
         replace H : ((strings_Join.f t248 (⟨#[32]⟩ : ByteArray)).bind fun t252 => (if t252.size + 2 ≤ 9223372036854775807 then (if t251 = true then (if a0_4.size + 2 ≤ 9223372036854775807 then (if (t252 ++ (⟨#[13, 10]⟩ : ByteArray)).size + (a0_4 ++ (⟨#[13, 10]⟩ : ByteArray)).size ≤ 9223372036854775807 then (if ((t252 ++ (⟨#[13, 10]⟩ : ByteArray)) ++ (a0_4 ++ (⟨#[13, 10]⟩ : ByteArray))).size ≤ 9223372036854775807 then (some ((bytesOf ((t252 ++ (⟨#[13, 10]⟩ : ByteArray)) ++ (a0_4 ++ (⟨#[13, 10]⟩ : ByteArray)))), 0)) else (none)) else (none)) else (none)) else (if (t252 ++ (⟨#[13, 10]⟩ : ByteArray)).size ≤ 9223372036854775807 then (some ((bytesOf (t252 ++ (⟨#[13, 10]⟩ : ByteArray))), 0)) else (none))) else (none))) = some (r1, r2) := H
         have A29 := Aside0.mk A290
         clear A290
         replace H := Option.bind_eq_some_iff.mp H
         obtain ⟨t252, A300, H⟩ := H
         replace H : (if t252.size + 2 ≤ 9223372036854775807 then (if t251 = true then (if a0_4.size + 2 ≤ 9223372036854775807 then (if (t252 ++ (⟨#[13, 10]⟩ : ByteArray)).size + (a0_4 ++ (⟨#[13, 10]⟩ : ByteArray)).size ≤ 9223372036854775807 then (if ((t252 ++ (⟨#[13, 10]⟩ : ByteArray)) ++ (a0_4 ++ (⟨#[13, 10]⟩ : ByteArray))).size ≤ 9223372036854775807 then (some ((bytesOf ((t252 ++ (⟨#[13, 10]⟩ : ByteArray)) ++ (a0_4 ++ (⟨#[13, 10]⟩ : ByteArray)))), 0)) else (none)) else (none)) else (none)) else (if (t252 ++ (⟨#[13, 10]⟩ : ByteArray)).size ≤ 9223372036854775807 then (some ((bytesOf (t252 ++ (⟨#[13, 10]⟩ : ByteArray))), 0)) else (none))) else (none)) = some (r1, r2) := H
         have A30 := Aside0.mk A300
         clear A300
         by_cases c31 : t252.size + 2 ≤ 9223372036854775807
         ·rw [if_pos c31] at H
          have c31b0 := eq_true c31
          have c31b1 : decide (t252.size + 2 ≤ 9223372036854775807) = true := decide_eq_true c31
          try have c31b2 : (9223372036854775807 < t252.size + 2) = False := eq_false (Nat.not_lt.2 c31)
          try (have c31b3 := c31b2; simp only [ByteArray.size_append, x_size_lit, List.size_toArray, List.length_cons, List.length_nil, Nat.zero_add, Nat.reduceAdd] at c31b3)
          by_cases c32 : t251 = true
          ·subst c32
           rw [if_pos rfl] at H
           by_cases c33 : a0_4.size + 2 ≤ 9223372036854775807
           ·rw [if_pos c33] at H
            have c33b0 := eq_true c33
            have c33b1 : decide (a0_4.size + 2 ≤ 9223372036854775807) = true := decide_eq_true c33
            try have c33b2 : (9223372036854775807 < a0_4.size + 2) = False := eq_false (Nat.not_lt.2 c33)
            try (have c33b3 := c33b2; simp only [ByteArray.size_append, x_size_lit, List.size_toArray, List.length_cons, List.length_nil, Nat.zero_add, Nat.reduceAdd] at c33b3)
            by_cases c34 : (t252 ++ (⟨#[13, 10]⟩ : ByteArray)).size + (a0_4 ++ (⟨#[13, 10]⟩ : ByteArray)).size ≤ 9223372036854775807
            ·rw [if_pos c34] at H
             have c34b0 := eq_true c34
             have c34b1 : decide ((t252 ++ (⟨#[13, 10]⟩ : ByteArray)).size + (a0_4 ++ (⟨#[13, 10]⟩ : ByteArray)).size ≤ 9223372036854775807) = true := decide_eq_true c34
             try have c34b2 : (9223372036854775807 < (t252 ++ (⟨#[13, 10]⟩ : ByteArray)).size + (a0_4 ++ (⟨#[13, 10]⟩ : ByteArray)).size) = False := eq_false (Nat.not_lt.2 c34)
             try (have c34b3 := c34b2; simp only [ByteArray.size_append, x_size_lit, List.size_toArray, List.length_cons, List.length_nil, Nat.zero_add, Nat.reduceAdd] at c34b3)
             by_cases c35 : ((t252 ++ (⟨#[13, 10]⟩ : ByteArray)) ++ (a0_4 ++ (⟨#[13, 10]⟩ : ByteArray))).size ≤ 9223372036854775807
             ·rw [if_pos c35] at H
              have c35b0 := eq_true c35
              have c35b1 : decide (((t252 ++ (⟨#[13, 10]⟩ : ByteArray)) ++ (a0_4 ++ (⟨#[13, 10]⟩ : ByteArray))).size ≤ 9223372036854775807) = true := decide_eq_true c35
              try have c35b2 : (9223372036854775807 < ((t252 ++ (⟨#[13, 10]⟩ : ByteArray)) ++ (a0_4 ++ (⟨#[13, 10]⟩ : ByteArray))).size) = False := eq_false (Nat.not_lt.2 c35)
              try (have c35b3 := c35b2; simp only [ByteArray.size_append, x_size_lit, List.size_toArray, List.length_cons, List.length_nil, Nat.zero_add, Nat.reduceAdd] at c35b3)
              obtain ⟨y253, hy253⟩ : ∃ y_ : List Int, y_ = (bytesOf ((t252 ++ (⟨#[13, 10]⟩ : ByteArray)) ++ (a0_4 ++ (⟨#[13, 10]⟩ : ByteArray)))) := ⟨_, rfl⟩
              replace H : (some (y253, 0)) = some (r1, r2) := by first | (rw [hy253]; with_reducible exact H) | (have H2_ := (Option.bind_some _ _).symm.trans H; rw [hy253]; with_reducible exact H2_) | (have H2_ := (Option.bind_some _ _).symm.trans H; with_reducible exact H2_) | with_reducible exact H | (rw [hy253]; exact H) | exact H
              have Ny253 := Aside0.mk hy253
              clear hy253
              simp only [Option.some.injEq, Prod.mk.injEq] at H
              obtain ⟨rfl, rfl⟩ := H
              have hnb36 := NB245_243.out
              have hnc36 := NB243_245.out
              have hz37 := blk8 BK245.out
              go_wp2_with (first | ((with_reducible refine gate_callee (f := 35) rfl ?_); refine goesL_ (some 45) rfl rfl Tryd.func35 (by kernel_rfl) rfl #[.agg #[.int .u8 a0_1, .int .i64 a0_2, .slice A0_3 l0_3.length c0_3, .string a0_4, .int .u32 a0_5, .int .i64 a0_6, .int .u64 a0_7, .int .u64 a0_8]] rfl t24_4 ?_; (with_reducible refine (text_words.calls kj14 a0_1 a0_2 _ _ l0_3 a0_4 a0_5 a0_6 a0_7 a0_8 t248 true _ ?side1 ?side2 ?side3 A29.out).mono ?_); (case side1 => repeat (first | exact (Kd.C_below HR0_3.out HB.out) | (with_reducible refine Kd.C_alloc ?_ _) | (with_reducible refine Kd.C_drewN ?_ _) | (with_reducible refine Kd.C_drew ?_))); (case side2 => exact HC0_3.out); (case side3 => exact (Laid.below HLL.out t24_1)); rintro e w38 ⟨v249, rfl, ho0, hb⟩; refine ⟨_, rfl, ?_⟩; have n0_ := Aside0.mk (Kd.R_lower (Kd.R_newM (M := fun k_ => (w.heap.size ≤ k_)) ho0 (below_size t24_1) (fun k_ h_ => h_)) (below_size t24_1)); have n1_ := Aside0.mk (blk_below (g := gb243) (o := .cells #[.int .u8 a0_0, .int .u8 a0_1, .int .i64 a0_2, .slice A0_3 l0_3.length c0_3, .string a0_4, .int .u32 a0_5, .int .i64 a0_6, .int .u64 a0_7, .int .u64 a0_8, .int .i64 a0_9, .string a0_10, .bool a0_11, .bool a0_12] 42 (0, 0)) t24_2 hb); have n2_ := Aside0.mk (blk_below (g := gb245) (o := .cells #[.int .u8 a0_1, .int .i64 a0_2, .slice A0_3 l0_3.length c0_3, .string a0_4, .int .u32 a0_5, .int .i64 a0_6, .int .u64 a0_7, .int .u64 a0_8] 40 (0, 0)) t24_6 hb); have n3_ := Aside0.mk (below_step t24_1 hb); clear BK243; clear BK245; clear HB; have HO250 := n0_; have BK243 := n1_; have BK245 := n2_; have HB := n3_; clear n0_ n1_ n2_ n3_; (try clear hb); (try clear hb2); (try clear hk); (try clear hi); (try clear ho0); obtain ⟨Ao39, co39, eo39⟩ := Kd.R_slice HO250.out; subst eo39) | ((with_reducible refine gate_callee (f := 36) rfl ?_); refine goesL_ (some 49) rfl rfl Tryd.func36 (by kernel_rfl) rfl #[.slice Ao39 t248.length co39, .string (⟨#[32]⟩ : ByteArray)] rfl t24_4 ?_; (with_reducible refine (strings_Join.calls _ _ t248 (⟨#[32]⟩ : ByteArray) t252 _ ?side1 ?side2 A30.out).mono ?_); (case side1 => repeat (first | exact (Kd.R_reads' HO250.out).2.2 | (with_reducible refine Kd.C_alloc ?_ _) | (with_reducible refine Kd.C_drewN ?_ _) | (with_reducible refine Kd.C_drew ?_))); (case side2 => exact (Kd.R_reads' HO250.out).2.1); rintro e w40 ⟨rfl, hb⟩; refine ⟨_, rfl, ?_⟩; have n0_ := Aside0.mk (Kd.R_below t24_9 hb); have n1_ := Aside0.mk (blk_below (g := gb243) (o := .cells #[.int .u8 a0_0, .int .u8 a0_1, .int .i64 a0_2, .slice A0_3 l0_3.length c0_3, .string a0_4, .int .u32 a0_5, .int .i64 a0_6, .int .u64 a0_7, .int .u64 a0_8, .int .i64 a0_9, .string a0_10, .bool a0_11, .bool a0_12] 42 (0, 0)) t24_2 hb); have n2_ := Aside0.mk (blk_below (g := gb245) (o := .cells #[.int .u8 a0_1, .int .i64 a0_2, .slice A0_3 l0_3.length c0_3, .string a0_4, .int .u32 a0_5, .int .i64 a0_6, .int .u64 a0_7, .int .u64 a0_8] 40 (0, 0)) t24_6 hb); have n3_ := Aside0.mk (below_step t24_1 hb); clear HO250; clear BK243; clear BK245; clear HB; have HO250 := n0_; have BK243 := n1_; have BK245 := n2_; have HB := n3_; clear n0_ n1_ n2_ n3_; (try clear hb); (try clear hb2); (try clear hk); (try clear hi); have hz41 := blk8 BK245.out) | ((with_reducible refine gate_dst (N := 58) rfl ?_); refine x_conv _ 5 rfl (N := 58) rfl 9 29 _ rfl (s := ((t252 ++ (⟨#[13, 10]⟩ : ByteArray)) ++ (a0_4 ++ (⟨#[13, 10]⟩ : ByteArray)))) rfl Tryd.underlying9 Tryd.underlying29 Tryd.underlying5 t24_8 (Below.refl _ _) (Nat.le_refl _) ?_; intro v254 w42 ho43 hb hg_ hnew_; clear hg_ hnew_; (first | rw [← Ny253.out] at ho43 | (simp only [Int.reduceToNat] at ho43; rw [← Ny253.out] at ho43)); have n0_ := Aside0.mk (Kd.R_below t24_9 hb); have n1_ := Aside0.mk (Kd.V_lower (Kd.V_mono (ok' := fun k_ => (w.heap.size ≤ k_) ∧ some k_ ≠ (.slice Ao39 t248.length co39 : Value).ownBlock ∧ k_ ≠ gb243 ∧ k_ ≠ gb245) ho43 (fun k_ hk_ => ⟨(Nat.le_trans (below_size t24_1) hk_), (Kd.fresh' (Kd.R_lt t24_9) k_ hk_), (Kd.freshB (g := gb243) (o := .cells #[.int .u8 a0_0, .int .u8 a0_1, .int .i64 a0_2, .slice A0_3 l0_3.length c0_3, .string a0_4, .int .u32 a0_5, .int .i64 a0_6, .int .u64 a0_7, .int .u64 a0_8, .int .i64 a0_9, .string a0_10, .bool a0_11, .bool a0_12] 42 (0, 0)) t24_2 k_ hk_), (Kd.freshB (g := gb245) (o := .cells #[.int .u8 a0_1, .int .i64 a0_2, .slice A0_3 l0_3.length c0_3, .string a0_4, .int .u32 a0_5, .int .i64 a0_6, .int .u64 a0_7, .int .u64 a0_8] 40 (0, 0)) t24_6 k_ hk_)⟩)) (below_size t24_1)); have n2_ := Aside0.mk (blk_below (g := gb243) (o := .cells #[.int .u8 a0_0, .int .u8 a0_1, .int .i64 a0_2, .slice A0_3 l0_3.length c0_3, .string a0_4, .int .u32 a0_5, .int .i64 a0_6, .int .u64 a0_7, .int .u64 a0_8, .int .i64 a0_9, .string a0_10, .bool a0_11, .bool a0_12] 42 (0, 0)) t24_2 hb); have n3_ := Aside0.mk (blk_below (g := gb245) (o := .cells #[.int .u8 a0_1, .int .i64 a0_2, .slice A0_3 l0_3.length c0_3, .string a0_4, .int .u32 a0_5, .int .i64 a0_6, .int .u64 a0_7, .int .u64 a0_8] 40 (0, 0)) t24_6 hb); have n4_ := Aside0.mk (below_step t24_1 hb); clear HO250; clear BK243; clear BK245; clear HB; have HO250 := n0_; have HO255 := n1_; have BK243 := n2_; have BK245 := n3_; have HB := n4_; clear n0_ n1_ n2_ n3_ n4_; clear hb ho43))
              go_ret2
              exact ⟨_, t24_7, by (with_reducible repeat (first | apply Kd.V_alloc | apply Kd.V_drewN | apply Kd.V_drew)); exact Kd.V_mono HO255.out (fun _ hk => hk.1), t24_1⟩
             ·rw [if_neg c35] at H
              exact absurd H (by simp)
            ·rw [if_neg c34] at H
             exact absurd H (by simp)
           ·rw [if_neg c33] at H
            exact absurd H (by simp)
          ·replace c32 := Bool.eq_false_iff.mpr c32
           subst c32
           rw [if_neg (show ¬ (false = true) by decide)] at H
           by_cases c44 : (t252 ++ (⟨#[13, 10]⟩ : ByteArray)).size ≤ 9223372036854775807
           ·rw [if_pos c44] at H
            have c44b0 := eq_true c44
            have c44b1 : decide ((t252 ++ (⟨#[13, 10]⟩ : ByteArray)).size ≤ 9223372036854775807) = true := decide_eq_true c44
            try have c44b2 : (9223372036854775807 < (t252 ++ (⟨#[13, 10]⟩ : ByteArray)).size) = False := eq_false (Nat.not_lt.2 c44)
            try (have c44b3 := c44b2; simp only [ByteArray.size_append, x_size_lit, List.size_toArray, List.length_cons, List.length_nil, Nat.zero_add, Nat.reduceAdd] at c44b3)
            obtain ⟨y256, hy256⟩ : ∃ y_ : List Int, y_ = (bytesOf (t252 ++ (⟨#[13, 10]⟩ : ByteArray))) := ⟨_, rfl⟩
            replace H : (some (y256, 0)) = some (r1, r2) := by first | (rw [hy256]; with_reducible exact H) | (have H2_ := (Option.bind_some _ _).symm.trans H; rw [hy256]; with_reducible exact H2_) | (have H2_ := (Option.bind_some _ _).symm.trans H; with_reducible exact H2_) | with_reducible exact H | (rw [hy256]; exact H) | exact H
            have Ny256 := Aside0.mk hy256
            clear hy256
            simp only [Option.some.injEq, Prod.mk.injEq] at H
            obtain ⟨rfl, rfl⟩ := H
            have hnb45 := NB245_243.out
            have hnc45 := NB243_245.out
            have hz46 := blk8 BK245.out
            go_wp2_with (first | ((with_reducible refine gate_callee (f := 35) rfl ?_); refine goesL_ (some 45) rfl rfl Tryd.func35 (by kernel_rfl) rfl #[.agg #[.int .u8 a0_1, .int .i64 a0_2, .slice A0_3 l0_3.length c0_3, .string a0_4, .int .u32 a0_5, .int .i64 a0_6, .int .u64 a0_7, .int .u64 a0_8]] rfl t24_4 ?_; (with_reducible refine (text_words.calls kj14 a0_1 a0_2 _ _ l0_3 a0_4 a0_5 a0_6 a0_7 a0_8 t248 false _ ?side1 ?side2 ?side3 A29.out).mono ?_); (case side1 => repeat (first | exact (Kd.C_below HR0_3.out HB.out) | (with_reducible refine Kd.C_alloc ?_ _) | (with_reducible refine Kd.C_drewN ?_ _) | (with_reducible refine Kd.C_drew ?_))); (case side2 => exact HC0_3.out); (case side3 => exact (Laid.below HLL.out t24_1)); rintro e w47 ⟨v249, rfl, ho0, hb⟩; refine ⟨_, rfl, ?_⟩; have n0_ := Aside0.mk (Kd.R_lower (Kd.R_newM (M := fun k_ => (w.heap.size ≤ k_)) ho0 (below_size t24_1) (fun k_ h_ => h_)) (below_size t24_1)); have n1_ := Aside0.mk (blk_below (g := gb243) (o := .cells #[.int .u8 a0_0, .int .u8 a0_1, .int .i64 a0_2, .slice A0_3 l0_3.length c0_3, .string a0_4, .int .u32 a0_5, .int .i64 a0_6, .int .u64 a0_7, .int .u64 a0_8, .int .i64 a0_9, .string a0_10, .bool a0_11, .bool a0_12] 42 (0, 0)) t24_2 hb); have n2_ := Aside0.mk (blk_below (g := gb245) (o := .cells #[.int .u8 a0_1, .int .i64 a0_2, .slice A0_3 l0_3.length c0_3, .string a0_4, .int .u32 a0_5, .int .i64 a0_6, .int .u64 a0_7, .int .u64 a0_8] 40 (0, 0)) t24_6 hb); have n3_ := Aside0.mk (below_step t24_1 hb); clear BK243; clear BK245; clear HB; have HO250 := n0_; have BK243 := n1_; have BK245 := n2_; have HB := n3_; clear n0_ n1_ n2_ n3_; (try clear hb); (try clear hb2); (try clear hk); (try clear hi); (try clear ho0); obtain ⟨Ao48, co48, eo48⟩ := Kd.R_slice HO250.out; subst eo48) | ((with_reducible refine gate_callee (f := 36) rfl ?_); refine goesL_ (some 49) rfl rfl Tryd.func36 (by kernel_rfl) rfl #[.slice Ao48 t248.length co48, .string (⟨#[32]⟩ : ByteArray)] rfl t24_4 ?_; (with_reducible refine (strings_Join.calls _ _ t248 (⟨#[32]⟩ : ByteArray) t252 _ ?side1 ?side2 A30.out).mono ?_); (case side1 => repeat (first | exact (Kd.R_reads' HO250.out).2.2 | (with_reducible refine Kd.C_alloc ?_ _) | (with_reducible refine Kd.C_drewN ?_ _) | (with_reducible refine Kd.C_drew ?_))); (case side2 => exact (Kd.R_reads' HO250.out).2.1); rintro e w49 ⟨rfl, hb⟩; refine ⟨_, rfl, ?_⟩; have n0_ := Aside0.mk (Kd.R_below t24_9 hb); have n1_ := Aside0.mk (blk_below (g := gb243) (o := .cells #[.int .u8 a0_0, .int .u8 a0_1, .int .i64 a0_2, .slice A0_3 l0_3.length c0_3, .string a0_4, .int .u32 a0_5, .int .i64 a0_6, .int .u64 a0_7, .int .u64 a0_8, .int .i64 a0_9, .string a0_10, .bool a0_11, .bool a0_12] 42 (0, 0)) t24_2 hb); have n2_ := Aside0.mk (blk_below (g := gb245) (o := .cells #[.int .u8 a0_1, .int .i64 a0_2, .slice A0_3 l0_3.length c0_3, .string a0_4, .int .u32 a0_5, .int .i64 a0_6, .int .u64 a0_7, .int .u64 a0_8] 40 (0, 0)) t24_6 hb); have n3_ := Aside0.mk (below_step t24_1 hb); clear HO250; clear BK243; clear BK245; clear HB; have HO250 := n0_; have BK243 := n1_; have BK245 := n2_; have HB := n3_; clear n0_ n1_ n2_ n3_; (try clear hb); (try clear hb2); (try clear hk); (try clear hi)) | ((with_reducible refine gate_dst (N := 58) rfl ?_); refine x_conv _ 5 rfl (N := 58) rfl 9 29 _ rfl (s := (t252 ++ (⟨#[13, 10]⟩ : ByteArray))) rfl Tryd.underlying9 Tryd.underlying29 Tryd.underlying5 t24_8 (Below.refl _ _) (Nat.le_refl _) ?_; intro v257 w50 ho51 hb hg_ hnew_; clear hg_ hnew_; (first | rw [← Ny256.out] at ho51 | (simp only [Int.reduceToNat] at ho51; rw [← Ny256.out] at ho51)); have n0_ := Aside0.mk (Kd.R_below t24_9 hb); have n1_ := Aside0.mk (Kd.V_lower (Kd.V_mono (ok' := fun k_ => (w.heap.size ≤ k_) ∧ some k_ ≠ (.slice Ao48 t248.length co48 : Value).ownBlock ∧ k_ ≠ gb243 ∧ k_ ≠ gb245) ho51 (fun k_ hk_ => ⟨(Nat.le_trans (below_size t24_1) hk_), (Kd.fresh' (Kd.R_lt t24_9) k_ hk_), (Kd.freshB (g := gb243) (o := .cells #[.int .u8 a0_0, .int .u8 a0_1, .int .i64 a0_2, .slice A0_3 l0_3.length c0_3, .string a0_4, .int .u32 a0_5, .int .i64 a0_6, .int .u64 a0_7, .int .u64 a0_8, .int .i64 a0_9, .string a0_10, .bool a0_11, .bool a0_12] 42 (0, 0)) t24_2 k_ hk_), (Kd.freshB (g := gb245) (o := .cells #[.int .u8 a0_1, .int .i64 a0_2, .slice A0_3 l0_3.length c0_3, .string a0_4, .int .u32 a0_5, .int .i64 a0_6, .int .u64 a0_7, .int .u64 a0_8] 40 (0, 0)) t24_6 k_ hk_)⟩)) (below_size t24_1)); have n2_ := Aside0.mk (blk_below (g := gb243) (o := .cells #[.int .u8 a0_0, .int .u8 a0_1, .int .i64 a0_2, .slice A0_3 l0_3.length c0_3, .string a0_4, .int .u32 a0_5, .int .i64 a0_6, .int .u64 a0_7, .int .u64 a0_8, .int .i64 a0_9, .string a0_10, .bool a0_11, .bool a0_12] 42 (0, 0)) t24_2 hb); have n3_ := Aside0.mk (blk_below (g := gb245) (o := .cells #[.int .u8 a0_1, .int .i64 a0_2, .slice A0_3 l0_3.length c0_3, .string a0_4, .int .u32 a0_5, .int .i64 a0_6, .int .u64 a0_7, .int .u64 a0_8] 40 (0, 0)) t24_6 hb); have n4_ := Aside0.mk (below_step t24_1 hb); clear HO250; clear BK243; clear BK245; clear HB; have HO250 := n0_; have HO258 := n1_; have BK243 := n2_; have BK245 := n3_; have HB := n4_; clear n0_ n1_ n2_ n3_ n4_; clear hb ho51))
            go_ret2
            exact ⟨_, t24_7, by (with_reducible repeat (first | apply Kd.V_alloc | apply Kd.V_drewN | apply Kd.V_drew)); exact Kd.V_mono HO258.out (fun _ hk => hk.1), t24_1⟩
           ·rw [if_neg c44] at H
            exact absurd H (by simp)
         ·rw [if_neg c31] at H
          exact absurd H (by simp)
     ·rw [if_neg c14] at H
      have c14b0 : (t246 == 0) = false := beq_eq_false_iff_ne.mpr c14
      have c14b1 : (t246 != 0) = true := bne_iff_ne.mpr c14
      simp only [Option.some.injEq, Prod.mk.injEq] at H
      obtain ⟨rfl, rfl⟩ := H
      have hz52 := blk13 BK243.out
      go_wp2_with (first | ((with_reducible refine gate_dst (N := 5) rfl ?_); refine box_event ?hg (N := 5) ?hd (cs := #[.int .u8 0, .int .i64 0, .slice none 0 0, .string (⟨#[]⟩ : ByteArray), .int .u32 0, .int .i64 0, .int .u64 0, .int .u64 0]) (t := 40) ?hr ?_; (case hd => rfl); (case hg => rfl); (case hr => first | (go_simp; done) | (go_simp; rfl)); intro gb245 hg w53 hbox hb; have n0_ := Aside0.mk (blk_below (g := gb243) (o := .cells #[.int .u8 a0_0, .int .u8 a0_1, .int .i64 a0_2, .slice A0_3 l0_3.length c0_3, .string a0_4, .int .u32 a0_5, .int .i64 a0_6, .int .u64 a0_7, .int .u64 a0_8, .int .i64 a0_9, .string a0_10, .bool a0_11, .bool a0_12] 42 (0, 0)) t24_2 hb); have n1_ := Aside0.mk (below_step t24_0 hb); have n2_ := Aside0.mk (hbox); have n3_ := Aside0.mk ((by rw [hg]; exact (below_size t24_0) : w.heap.size ≤ gb245)); have n4_ := Aside0.mk ((by rw [hg]; exact (below_size t24_0) : w.heap.size ≤ gb245)); have n5_ := Aside0.mk ((t24_12 : gb243 ≠ gb245)); have n6_ := Aside0.mk ((t24_13 : gb245 ≠ gb243)); clear BK243; clear HB; have BK243 := n0_; have HB := n1_; have BK245 := n2_; have GW245 := n3_; have GE245 := n4_; have NB243_245 := n5_; have NB245_243 := n6_; clear n0_ n1_ n2_ n3_ n4_ n5_ n6_; clear hb hbox hg; have hnb54 := NB245_243.out; have hnc54 := NB243_245.out; have hz55 := blk8 BK245.out) | ((with_reducible refine gate_callee (f := 31) rfl ?_); refine goesL_ (some 31) rfl rfl Tryd.func31 (by kernel_rfl) rfl #[.agg #[.int .u8 a0_1, .int .i64 a0_2, .slice A0_3 l0_3.length c0_3, .string a0_4, .int .u32 a0_5, .int .i64 a0_6, .int .u64 a0_7, .int .u64 a0_8]] rfl t24_4 ?_; (with_reducible refine (order_Check.calls kj1 a0_1 a0_2 _ _ l0_3 a0_4 a0_5 a0_6 a0_7 a0_8 t246 _ ?side1 ?side2 A13.out).mono ?_); (case side1 => exact Kd.C_below HR0_3.out t24_1); (case side2 => exact HC0_3.out); rintro e w56 ⟨rfl, hb⟩; refine ⟨_, rfl, ?_⟩; have n0_ := Aside0.mk (blk_below (g := gb243) (o := .cells #[.int .u8 a0_0, .int .u8 a0_1, .int .i64 a0_2, .slice A0_3 l0_3.length c0_3, .string a0_4, .int .u32 a0_5, .int .i64 a0_6, .int .u64 a0_7, .int .u64 a0_8, .int .i64 a0_9, .string a0_10, .bool a0_11, .bool a0_12] 42 (0, 0)) t24_5 hb); have n1_ := Aside0.mk (blk_below (g := gb245) (o := .cells #[.int .u8 a0_1, .int .i64 a0_2, .slice A0_3 l0_3.length c0_3, .string a0_4, .int .u32 a0_5, .int .i64 a0_6, .int .u64 a0_7, .int .u64 a0_8] 40 (0, 0)) t24_3 hb); have n2_ := Aside0.mk (below_step t24_1 hb); clear BK243; clear BK245; clear HB; have BK243 := n0_; have BK245 := n1_; have HB := n2_; clear n0_ n1_ n2_; (try clear hb); (try clear hb2); (try clear hk); (try clear hi)))
      go_ret2
      exact ⟨_, t24_7, t24_11, t24_1⟩
    ·rw [if_neg c12] at H
     have c12b0 : (a0_0 == 1) = false := beq_eq_false_iff_ne.mpr c12
     have c12b1 : (a0_0 != 1) = true := bne_iff_ne.mpr c12
     by_cases c57 : a0_0 = 2
     ·rw [if_pos c57] at H
      have c57b0 : (a0_0 == 2) = true := beq_iff_eq.mpr c57
      have c57b1 : (a0_0 != 2) = false := bne_eq_false_iff_eq.mpr c57
      clear c57
      replace H := Option.bind_eq_some_iff.mp H
      obtain ⟨t259, A580, H⟩ := H
      replace H : ((strings_Join.f (([(⟨#[117, 115, 101, 114]⟩ : ByteArray), t259, a0_10] : List ByteArray)) (⟨#[32]⟩ : ByteArray)).bind fun t263 => (if t263.size + 2 ≤ 9223372036854775807 then (if (t263 ++ (⟨#[13, 10]⟩ : ByteArray)).size ≤ 9223372036854775807 then (some ((bytesOf (t263 ++ (⟨#[13, 10]⟩ : ByteArray))), 0)) else (none)) else (none))) = some (r1, r2) := H
      have A58 := Aside0.mk A580
      clear A580
      obtain ⟨y260, hy260⟩ : ∃ y_ : List ByteArray, y_ = (([(⟨#[117, 115, 101, 114]⟩ : ByteArray), t259, a0_10] : List ByteArray)) := ⟨_, rfl⟩
      replace H : ((strings_Join.f y260 (⟨#[32]⟩ : ByteArray)).bind fun t263 => (if t263.size + 2 ≤ 9223372036854775807 then (if (t263 ++ (⟨#[13, 10]⟩ : ByteArray)).size ≤ 9223372036854775807 then (some ((bytesOf (t263 ++ (⟨#[13, 10]⟩ : ByteArray))), 0)) else (none)) else (none))) = some (r1, r2) := by first | (rw [hy260]; with_reducible exact H) | (have H2_ := (Option.bind_some _ _).symm.trans H; rw [hy260]; with_reducible exact H2_) | (have H2_ := (Option.bind_some _ _).symm.trans H; with_reducible exact H2_) | with_reducible exact H | (rw [hy260]; exact H) | exact H
      have Ny260 := Aside0.mk hy260
      clear hy260
      replace H := Option.bind_eq_some_iff.mp H
      obtain ⟨t263, A590, H⟩ := H
      replace H : (if t263.size + 2 ≤ 9223372036854775807 then (if (t263 ++ (⟨#[13, 10]⟩ : ByteArray)).size ≤ 9223372036854775807 then (some ((bytesOf (t263 ++ (⟨#[13, 10]⟩ : ByteArray))), 0)) else (none)) else (none)) = some (r1, r2) := H
      have A59 := Aside0.mk A590
      clear A590
      by_cases c60 : t263.size + 2 ≤ 9223372036854775807
      ·rw [if_pos c60] at H
       have c60b0 := eq_true c60
       have c60b1 : decide (t263.size + 2 ≤ 9223372036854775807) = true := decide_eq_true c60
       try have c60b2 : (9223372036854775807 < t263.size + 2) = False := eq_false (Nat.not_lt.2 c60)
       try (have c60b3 := c60b2; simp only [ByteArray.size_append, x_size_lit, List.size_toArray, List.length_cons, List.length_nil, Nat.zero_add, Nat.reduceAdd] at c60b3)
       by_cases c61 : (t263 ++ (⟨#[13, 10]⟩ : ByteArray)).size ≤ 9223372036854775807
       ·rw [if_pos c61] at H
        have c61b0 := eq_true c61
        have c61b1 : decide ((t263 ++ (⟨#[13, 10]⟩ : ByteArray)).size ≤ 9223372036854775807) = true := decide_eq_true c61
        try have c61b2 : (9223372036854775807 < (t263 ++ (⟨#[13, 10]⟩ : ByteArray)).size) = False := eq_false (Nat.not_lt.2 c61)
        try (have c61b3 := c61b2; simp only [ByteArray.size_append, x_size_lit, List.size_toArray, List.length_cons, List.length_nil, Nat.zero_add, Nat.reduceAdd] at c61b3)
        obtain ⟨y264, hy264⟩ : ∃ y_ : List Int, y_ = (bytesOf (t263 ++ (⟨#[13, 10]⟩ : ByteArray))) := ⟨_, rfl⟩
        replace H : (some (y264, 0)) = some (r1, r2) := by first | (rw [hy264]; with_reducible exact H) | (have H2_ := (Option.bind_some _ _).symm.trans H; rw [hy264]; with_reducible exact H2_) | (have H2_ := (Option.bind_some _ _).symm.trans H; with_reducible exact H2_) | with_reducible exact H | (rw [hy264]; exact H) | exact H
        have Ny264 := Aside0.mk hy264
        clear hy264
        simp only [Option.some.injEq, Prod.mk.injEq] at H
        obtain ⟨rfl, rfl⟩ := H
        have hz62 := blk13 BK243.out
        try go_wp2
        have n0_ := Aside0.mk (blk_drew BK243.out)
        have n1_ := Aside0.mk (below_drew1 HB.out)
        clear BK243
        clear HB
        have BK243 := n0_
        have HB := n1_
        clear n0_ n1_
        refine start_ (n := 7) (S := fun w' => w'.cell? ⟨gb243, 0, none⟩ = some (.int .u8 a0_0) ∧ w'.cell? ⟨gb243, 1, none⟩ = some (.int .u8 a0_1) ∧ w'.cell? ⟨gb243, 2, none⟩ = some (.int .i64 a0_2) ∧ w'.cell? ⟨gb243, 3, none⟩ = some (.slice A0_3 l0_3.length c0_3) ∧ w'.cell? ⟨gb243, 4, none⟩ = some (.string a0_4) ∧ w'.cell? ⟨gb243, 5, none⟩ = some (.int .u32 a0_5) ∧ w'.cell? ⟨gb243, 6, none⟩ = some (.int .i64 a0_6) ∧ w'.cell? ⟨gb243, 7, none⟩ = some (.int .u64 a0_7) ∧ w'.cell? ⟨gb243, 8, none⟩ = some (.int .u64 a0_8) ∧ w'.cell? ⟨gb243, 9, none⟩ = some (.int .i64 a0_9) ∧ w'.cell? ⟨gb243, 10, none⟩ = some (.string a0_10) ∧ w'.cell? ⟨gb243, 11, none⟩ = some (.bool a0_11) ∧ w'.cell? ⟨gb243, 12, none⟩ = some (.bool a0_12)) (ds := []) #[false, false, false, false, false, false, false] (by kernel_rfl) rfl rfl ⟨(blk_cell BK243.out 0).trans rfl, (blk_cell BK243.out 1).trans rfl, (blk_cell BK243.out 2).trans rfl, (blk_cell BK243.out 3).trans rfl, (blk_cell BK243.out 4).trans rfl, (blk_cell BK243.out 5).trans rfl, (blk_cell BK243.out 6).trans rfl, (blk_cell BK243.out 7).trans rfl, (blk_cell BK243.out 8).trans rfl, (blk_cell BK243.out 9).trans rfl, (blk_cell BK243.out 10).trans rfl, (blk_cell BK243.out 11).trans rfl, (blk_cell BK243.out 12).trans rfl⟩ (fun hHeld => ?_)
        generalize wc.drew = w63 at BK243 HB hHeld ⊢
        refine pure_ (i := 0) (N := some 61) (v := ?_) (a' := ?_) #[true, false, false, false, false, false, false] rfl rfl (by kernel_rfl) (fun _ _ _ h => h) (Or.inl ⟨by rfl, ?_⟩) ?_ ?_
        rotate_left
        ·intro w'
         go_simp
         with_reducible rfl
        rotate_left
        ·simp only [Act.put, List.setIfInBounds_toArray, List.set_cons_zero, List.set_cons_succ, i64_w, i32_w]
         rfl
        refine pure_ (i := 3) (N := some 64) (v := ?_) (a' := ?_) #[true, false, false, true, false, false, false] rfl rfl (by kernel_rfl) (fun _ _ _ h => h) (Or.inl ⟨by rfl, ?_⟩) ?_ ?_
        rotate_left
        ·intro w'
         go_simp
         with_reducible rfl
        rotate_left
        ·simp only [Act.put, List.setIfInBounds_toArray, List.set_cons_zero, List.set_cons_succ, i64_w, i32_w]
         rfl
        refine take_ (i := 1) (N := some 62) (v := ?_) (a' := ?_) #[true, true, false, true, false, false, false] rfl rfl (by kernel_rfl) (fun _ _ _ h => h) (Or.inl ⟨by rfl, ?_⟩) hHeld ?_ ?_
        rotate_left
        ·rintro w' ⟨s0, s1, s2, s3, s4, s5, s6, s7, s8, s9, s10, s11, s12⟩
         go_simp
         with_reducible rfl
        rotate_left
        ·simp only [Act.put, List.setIfInBounds_toArray, List.set_cons_zero, List.set_cons_succ, i64_w, i32_w]
         rfl
        refine take_ (i := 4) (N := some 65) (v := ?_) (a' := ?_) #[true, true, false, true, true, false, false] rfl rfl (by kernel_rfl) (fun _ _ _ h => h) (Or.inl ⟨by rfl, ?_⟩) hHeld ?_ ?_
        rotate_left
        ·rintro w' ⟨s0, s1, s2, s3, s4, s5, s6, s7, s8, s9, s10, s11, s12⟩
         go_simp
         with_reducible rfl
        rotate_left
        ·simp only [Act.put, List.setIfInBounds_toArray, List.set_cons_zero, List.set_cons_succ, i64_w, i32_w]
         rfl
        refine one_ (i := 2) (N := some 63) #[true, true, true, true, true, false, false] rfl rfl (by kernel_rfl) (by decide) (fun K hK => ?_)
        refine goes_ Tryd.func37 (by kernel_rfl) rfl #[.int .i64 a0_9] (by rfl) rfl rfl t24_4 ?_
        with_reducible refine (text_tens_int.calls a0_9 t259 _ ?side1 A58.out).mono ?_
        (case side1 => exact (Laid.below HLL.out t24_0))
        rintro e w64 ⟨rfl, hb⟩
        refine ⟨_, rfl, ?_⟩
        have n0_ := Aside0.mk (blk_below (g := gb243) (o := .cells #[.int .u8 a0_0, .int .u8 a0_1, .int .i64 a0_2, .slice A0_3 l0_3.length c0_3, .string a0_4, .int .u32 a0_5, .int .i64 a0_6, .int .u64 a0_7, .int .u64 a0_8, .int .i64 a0_9, .string a0_10, .bool a0_11, .bool a0_12] 42 (0, 0)) t24_2 hb)
        have n1_ := Aside0.mk (below_step t24_0 hb)
        clear BK243
        clear HB
        have BK243 := n0_
        have HB := n1_
        clear n0_ n1_
        (try clear hb)
        refine hK.out _ _ ⟨(blk_cell BK243.out 0).trans rfl, (blk_cell BK243.out 1).trans rfl, (blk_cell BK243.out 2).trans rfl, (blk_cell BK243.out 3).trans rfl, (blk_cell BK243.out 4).trans rfl, (blk_cell BK243.out 5).trans rfl, (blk_cell BK243.out 6).trans rfl, (blk_cell BK243.out 7).trans rfl, (blk_cell BK243.out 8).trans rfl, (blk_cell BK243.out 9).trans rfl, (blk_cell BK243.out 10).trans rfl, (blk_cell BK243.out 11).trans rfl, (blk_cell BK243.out 12).trans rfl⟩ (fun hHeld => ?_)
        clear hK K
        refine norm_ (a' := ?_) ?_ ?_
        rotate_left
        ·show Act.put _ (some 63) _ = _
         simp only [Act.put, List.setIfInBounds_toArray, List.set_cons_zero, List.set_cons_succ, i64_w, i32_w]
         rfl
        refine one_ (i := 5) (N := some 66) #[true, true, true, true, true, true, false] rfl rfl (by kernel_rfl) (by decide) (fun K hK => ?_)
        refine Kd.R_lit_step Kd.string _ 9 ?hg (N := 66) ?hd (xs := ([(⟨#[117, 115, 101, 114]⟩ : ByteArray), t259, a0_10] : List ByteArray)) (inner := [.string (⟨#[117, 115, 101, 114]⟩ : ByteArray), .string t259, .string a0_10]) (ok := fun _ => True) (okp := fun _ => True) ?hr ?hp (fun _ hk => hk) trivial (Below.refl _ _) (Nat.le_refl _) (by simp) ?_; (case hd => rfl); (case hg => rfl); (case hr => first | (go_simp; done) | (go_simp; rfl)); (case hp => exact (Reps.one (show Kd.M Kd.string _ _ _ (⟨#[117, 115, 101, 114]⟩ : ByteArray) [.string (⟨#[117, 115, 101, 114]⟩ : ByteArray)] from rfl) (Reps.one (show Kd.M Kd.string _ _ _ t259 [.string t259] from rfl) (Reps.one (show Kd.M Kd.string _ _ _ a0_10 [.string a0_10] from rfl) (Reps.none _ _)))))
        intro v261 w65 ho66 hb hg_ hnew_
        clear hg_ hnew_
        (first | rw [← Ny260.out] at ho66 | (simp only [Int.reduceToNat] at ho66; rw [← Ny260.out] at ho66))
        have n0_ := Aside0.mk (Kd.R_lower (Kd.R_newM (M := fun k_ => (w.heap.size ≤ k_)) ho66 (below_size t24_0) (fun k_ h_ => h_)) (below_size t24_0))
        have n1_ := Aside0.mk (blk_below (g := gb243) (o := .cells #[.int .u8 a0_0, .int .u8 a0_1, .int .i64 a0_2, .slice A0_3 l0_3.length c0_3, .string a0_4, .int .u32 a0_5, .int .i64 a0_6, .int .u64 a0_7, .int .u64 a0_8, .int .i64 a0_9, .string a0_10, .bool a0_11, .bool a0_12] 42 (0, 0)) t24_2 hb)
        have n2_ := Aside0.mk (below_step t24_0 hb)
        clear BK243
        clear HB
        have HO262 := n0_
        have BK243 := n1_
        have HB := n2_
        clear n0_ n1_ n2_
        clear hb ho66
        refine hK.out _ _ ⟨(blk_cell BK243.out 0).trans rfl, (blk_cell BK243.out 1).trans rfl, (blk_cell BK243.out 2).trans rfl, (blk_cell BK243.out 3).trans rfl, (blk_cell BK243.out 4).trans rfl, (blk_cell BK243.out 5).trans rfl, (blk_cell BK243.out 6).trans rfl, (blk_cell BK243.out 7).trans rfl, (blk_cell BK243.out 8).trans rfl, (blk_cell BK243.out 9).trans rfl, (blk_cell BK243.out 10).trans rfl, (blk_cell BK243.out 11).trans rfl, (blk_cell BK243.out 12).trans rfl⟩ (fun hHeld => ?_)
        clear hK K
        refine norm_ (a' := ?_) ?_ ?_
        rotate_left
        ·show Act.put _ (some 66) _ = _
         simp only [Act.put, List.setIfInBounds_toArray, List.set_cons_zero, List.set_cons_succ, i64_w, i32_w]
         rfl
        refine pure_ (i := 6) (N := some 4) (v := ?_) (a' := ?_) #[true, true, true, true, true, true, true] rfl rfl (by kernel_rfl) (fun _ _ _ h => h) (Or.inl ⟨by rfl, ?_⟩) ?_ ?_
        rotate_left
        ·intro w'
         go_simp
         with_reducible rfl
        rotate_left
        ·simp only [Act.put, List.setIfInBounds_toArray, List.set_cons_zero, List.set_cons_succ, i64_w, i32_w]
         rfl
        refine done_ (by kernel_rfl) ?_
        obtain ⟨Ao67, co67, eo67⟩ := Kd.R_slice HO262.out
        subst eo67
        try go_wp2_with (first | ((with_reducible refine gate_callee (f := 36) rfl ?_); refine goesL_ (some 79) rfl rfl Tryd.func36 (by kernel_rfl) rfl #[.slice Ao67 y260.length co67, .string (⟨#[32]⟩ : ByteArray)] rfl t24_4 ?_; (with_reducible refine (strings_Join.calls _ _ y260 (⟨#[32]⟩ : ByteArray) t263 _ ?side1 ?side2 A59.out).mono ?_); (case side1 => repeat (first | exact (Kd.R_reads' HO262.out).2.2 | (with_reducible refine Kd.C_alloc ?_ _) | (with_reducible refine Kd.C_drewN ?_ _) | (with_reducible refine Kd.C_drew ?_))); (case side2 => exact (Kd.R_reads' HO262.out).2.1); rintro e w68 ⟨rfl, hb⟩; refine ⟨_, rfl, ?_⟩; have n0_ := Aside0.mk (Kd.R_below t24_15 hb); have n1_ := Aside0.mk (blk_below (g := gb243) (o := .cells #[.int .u8 a0_0, .int .u8 a0_1, .int .i64 a0_2, .slice A0_3 l0_3.length c0_3, .string a0_4, .int .u32 a0_5, .int .i64 a0_6, .int .u64 a0_7, .int .u64 a0_8, .int .i64 a0_9, .string a0_10, .bool a0_11, .bool a0_12] 42 (0, 0)) t24_2 hb); have n2_ := Aside0.mk (below_step t24_0 hb); clear HO262; clear BK243; clear HB; have HO262 := n0_; have BK243 := n1_; have HB := n2_; clear n0_ n1_ n2_; (try clear hb); (try clear hb2); (try clear hk); (try clear hi)) | ((with_reducible refine gate_dst (N := 81) rfl ?_); refine x_conv _ 5 rfl (N := 81) rfl 9 29 _ rfl (s := (t263 ++ (⟨#[13, 10]⟩ : ByteArray))) rfl Tryd.underlying9 Tryd.underlying29 Tryd.underlying5 t24_8 (Below.refl _ _) (Nat.le_refl _) ?_; intro v265 w69 ho70 hb hg_ hnew_; clear hg_ hnew_; (first | rw [← Ny264.out] at ho70 | (simp only [Int.reduceToNat] at ho70; rw [← Ny264.out] at ho70)); have n0_ := Aside0.mk (Kd.R_below t24_15 hb); have n1_ := Aside0.mk (Kd.V_lower (Kd.V_mono (ok' := fun k_ => (w.heap.size ≤ k_) ∧ some k_ ≠ (.slice Ao67 y260.length co67 : Value).ownBlock ∧ k_ ≠ gb243) ho70 (fun k_ hk_ => ⟨(Nat.le_trans (below_size t24_0) hk_), (Kd.fresh' (Kd.R_lt t24_15) k_ hk_), (Kd.freshB (g := gb243) (o := .cells #[.int .u8 a0_0, .int .u8 a0_1, .int .i64 a0_2, .slice A0_3 l0_3.length c0_3, .string a0_4, .int .u32 a0_5, .int .i64 a0_6, .int .u64 a0_7, .int .u64 a0_8, .int .i64 a0_9, .string a0_10, .bool a0_11, .bool a0_12] 42 (0, 0)) t24_2 k_ hk_)⟩)) (below_size t24_0)); have n2_ := Aside0.mk (blk_below (g := gb243) (o := .cells #[.int .u8 a0_0, .int .u8 a0_1, .int .i64 a0_2, .slice A0_3 l0_3.length c0_3, .string a0_4, .int .u32 a0_5, .int .i64 a0_6, .int .u64 a0_7, .int .u64 a0_8, .int .i64 a0_9, .string a0_10, .bool a0_11, .bool a0_12] 42 (0, 0)) t24_2 hb); have n3_ := Aside0.mk (below_step t24_0 hb); clear HO262; clear BK243; clear HB; have HO262 := n0_; have HO266 := n1_; have BK243 := n2_; have HB := n3_; clear n0_ n1_ n2_ n3_; clear hb ho70))
        go_ret2
        exact ⟨_, t24_7, by (with_reducible repeat (first | apply Kd.V_alloc | apply Kd.V_drewN | apply Kd.V_drew)); exact Kd.V_mono HO266.out (fun _ hk => hk.1), t24_0⟩
       ·rw [if_neg c61] at H
        exact absurd H (by simp)
      ·rw [if_neg c60] at H
       exact absurd H (by simp)
     ·rw [if_neg c57] at H
      have c57b0 : (a0_0 == 2) = false := beq_eq_false_iff_ne.mpr c57
      have c57b1 : (a0_0 != 2) = true := bne_iff_ne.mpr c57
      by_cases c71 : a0_0 = 3
      ·rw [if_pos c71] at H
       have c71b0 : (a0_0 == 3) = true := beq_iff_eq.mpr c71
       have c71b1 : (a0_0 != 3) = false := bne_eq_false_iff_eq.mpr c71
       clear c71
       by_cases c72 : a0_11 = true
       ·subst c72
        rw [if_pos rfl] at H
        obtain ⟨y267, hy267⟩ : ∃ y_ : List ByteArray, y_ = (([(⟨#[116, 114, 97, 99, 107]⟩ : ByteArray), (⟨#[111, 110]⟩ : ByteArray)] : List ByteArray)) := ⟨_, rfl⟩
        replace H : ((strings_Join.f y267 (⟨#[32]⟩ : ByteArray)).bind fun t270 => (if t270.size + 2 ≤ 9223372036854775807 then (if (t270 ++ (⟨#[13, 10]⟩ : ByteArray)).size ≤ 9223372036854775807 then (some ((bytesOf (t270 ++ (⟨#[13, 10]⟩ : ByteArray))), 0)) else (none)) else (none))) = some (r1, r2) := by first | (rw [hy267]; with_reducible exact H) | (have H2_ := (Option.bind_some _ _).symm.trans H; rw [hy267]; with_reducible exact H2_) | (have H2_ := (Option.bind_some _ _).symm.trans H; with_reducible exact H2_) | with_reducible exact H | (rw [hy267]; exact H) | exact H
        have Ny267 := Aside0.mk hy267
        clear hy267
        replace H := Option.bind_eq_some_iff.mp H
        obtain ⟨t270, A730, H⟩ := H
        replace H : (if t270.size + 2 ≤ 9223372036854775807 then (if (t270 ++ (⟨#[13, 10]⟩ : ByteArray)).size ≤ 9223372036854775807 then (some ((bytesOf (t270 ++ (⟨#[13, 10]⟩ : ByteArray))), 0)) else (none)) else (none)) = some (r1, r2) := H
        have A73 := Aside0.mk A730
        clear A730
        by_cases c74 : t270.size + 2 ≤ 9223372036854775807
        ·rw [if_pos c74] at H
         have c74b0 := eq_true c74
         have c74b1 : decide (t270.size + 2 ≤ 9223372036854775807) = true := decide_eq_true c74
         try have c74b2 : (9223372036854775807 < t270.size + 2) = False := eq_false (Nat.not_lt.2 c74)
         try (have c74b3 := c74b2; simp only [ByteArray.size_append, x_size_lit, List.size_toArray, List.length_cons, List.length_nil, Nat.zero_add, Nat.reduceAdd] at c74b3)
         by_cases c75 : (t270 ++ (⟨#[13, 10]⟩ : ByteArray)).size ≤ 9223372036854775807
         ·rw [if_pos c75] at H
          have c75b0 := eq_true c75
          have c75b1 : decide ((t270 ++ (⟨#[13, 10]⟩ : ByteArray)).size ≤ 9223372036854775807) = true := decide_eq_true c75
          try have c75b2 : (9223372036854775807 < (t270 ++ (⟨#[13, 10]⟩ : ByteArray)).size) = False := eq_false (Nat.not_lt.2 c75)
          try (have c75b3 := c75b2; simp only [ByteArray.size_append, x_size_lit, List.size_toArray, List.length_cons, List.length_nil, Nat.zero_add, Nat.reduceAdd] at c75b3)
          obtain ⟨y271, hy271⟩ : ∃ y_ : List Int, y_ = (bytesOf (t270 ++ (⟨#[13, 10]⟩ : ByteArray))) := ⟨_, rfl⟩
          replace H : (some (y271, 0)) = some (r1, r2) := by first | (rw [hy271]; with_reducible exact H) | (have H2_ := (Option.bind_some _ _).symm.trans H; rw [hy271]; with_reducible exact H2_) | (have H2_ := (Option.bind_some _ _).symm.trans H; with_reducible exact H2_) | with_reducible exact H | (rw [hy271]; exact H) | exact H
          have Ny271 := Aside0.mk hy271
          clear hy271
          simp only [Option.some.injEq, Prod.mk.injEq] at H
          obtain ⟨rfl, rfl⟩ := H
          have hzm76 := blk13 (blk_alloc BK243.out (.map #[(⟨(.bool true), (.string (⟨#[111, 110]⟩ : ByteArray)), 0⟩ : MapEntry), (⟨(.bool false), (.string (⟨#[111, 102, 102]⟩ : ByteArray)), 1⟩ : MapEntry)] 2))
          have hz76 := blk13 BK243.out
          go_wp2_with (first | ((with_reducible refine gate_dst (N := 74) rfl ?_); refine Kd.R_lit Kd.string _ 9 ?hg (N := 74) ?hd (xs := ([(⟨#[116, 114, 97, 99, 107]⟩ : ByteArray), (⟨#[111, 110]⟩ : ByteArray)] : List ByteArray)) (inner := [.string (⟨#[116, 114, 97, 99, 107]⟩ : ByteArray), .string (⟨#[111, 110]⟩ : ByteArray)]) (ok := fun _ => True) (okp := fun _ => True) ?hr ?hp (fun _ hk => hk) trivial (Below.refl _ _) (Nat.le_refl _) (by simp) ?_; (case hd => rfl); (case hg => rfl); (case hr => first | (go_simp; done) | (go_simp; rfl)); (case hp => exact (Reps.one (show Kd.M Kd.string _ _ _ (⟨#[116, 114, 97, 99, 107]⟩ : ByteArray) [.string (⟨#[116, 114, 97, 99, 107]⟩ : ByteArray)] from rfl) (Reps.one (show Kd.M Kd.string _ _ _ (⟨#[111, 110]⟩ : ByteArray) [.string (⟨#[111, 110]⟩ : ByteArray)] from rfl) (Reps.none _ _)))); intro v268 w77 ho78 hb hg_ hnew_; clear hg_ hnew_; (first | rw [← Ny267.out] at ho78 | (simp only [Int.reduceToNat] at ho78; rw [← Ny267.out] at ho78)); have n0_ := Aside0.mk (Kd.R_lower (Kd.R_newM (M := fun k_ => (w.heap.size ≤ k_)) ho78 (below_size t24_0) (fun k_ h_ => h_)) (below_size t24_0)); have n1_ := Aside0.mk (blk_below (g := gb243) (o := .cells #[.int .u8 a0_0, .int .u8 a0_1, .int .i64 a0_2, .slice A0_3 l0_3.length c0_3, .string a0_4, .int .u32 a0_5, .int .i64 a0_6, .int .u64 a0_7, .int .u64 a0_8, .int .i64 a0_9, .string a0_10, .bool true, .bool a0_12] 42 (0, 0)) t24_2 hb); have n2_ := Aside0.mk (below_step t24_0 hb); clear BK243; clear HB; have HO269 := n0_; have BK243 := n1_; have HB := n2_; clear n0_ n1_ n2_; clear hb ho78; obtain ⟨Ao79, co79, eo79⟩ := Kd.R_slice HO269.out; subst eo79) | ((with_reducible refine gate_callee (f := 36) rfl ?_); refine goesL_ (some 79) rfl rfl Tryd.func36 (by kernel_rfl) rfl #[.slice Ao79 y267.length co79, .string (⟨#[32]⟩ : ByteArray)] rfl t24_4 ?_; (with_reducible refine (strings_Join.calls _ _ y267 (⟨#[32]⟩ : ByteArray) t270 _ ?side1 ?side2 A73.out).mono ?_); (case side1 => repeat (first | exact (Kd.R_reads' HO269.out).2.2 | (with_reducible refine Kd.C_alloc ?_ _) | (with_reducible refine Kd.C_drewN ?_ _) | (with_reducible refine Kd.C_drew ?_))); (case side2 => exact (Kd.R_reads' HO269.out).2.1); rintro e w80 ⟨rfl, hb⟩; refine ⟨_, rfl, ?_⟩; have n0_ := Aside0.mk (Kd.R_below t24_16 hb); have n1_ := Aside0.mk (blk_below (g := gb243) (o := .cells #[.int .u8 a0_0, .int .u8 a0_1, .int .i64 a0_2, .slice A0_3 l0_3.length c0_3, .string a0_4, .int .u32 a0_5, .int .i64 a0_6, .int .u64 a0_7, .int .u64 a0_8, .int .i64 a0_9, .string a0_10, .bool true, .bool a0_12] 42 (0, 0)) t24_2 hb); have n2_ := Aside0.mk (below_step t24_0 hb); clear HO269; clear BK243; clear HB; have HO269 := n0_; have BK243 := n1_; have HB := n2_; clear n0_ n1_ n2_; (try clear hb); (try clear hb2); (try clear hk); (try clear hi)) | ((with_reducible refine gate_dst (N := 81) rfl ?_); refine x_conv _ 5 rfl (N := 81) rfl 9 29 _ rfl (s := (t270 ++ (⟨#[13, 10]⟩ : ByteArray))) rfl Tryd.underlying9 Tryd.underlying29 Tryd.underlying5 t24_8 (Below.refl _ _) (Nat.le_refl _) ?_; intro v272 w81 ho82 hb hg_ hnew_; clear hg_ hnew_; (first | rw [← Ny271.out] at ho82 | (simp only [Int.reduceToNat] at ho82; rw [← Ny271.out] at ho82)); have n0_ := Aside0.mk (Kd.R_below t24_16 hb); have n1_ := Aside0.mk (Kd.V_lower (Kd.V_mono (ok' := fun k_ => (w.heap.size ≤ k_) ∧ some k_ ≠ (.slice Ao79 y267.length co79 : Value).ownBlock ∧ k_ ≠ gb243) ho82 (fun k_ hk_ => ⟨(Nat.le_trans (below_size t24_0) hk_), (Kd.fresh' (Kd.R_lt t24_16) k_ hk_), (Kd.freshB (g := gb243) (o := .cells #[.int .u8 a0_0, .int .u8 a0_1, .int .i64 a0_2, .slice A0_3 l0_3.length c0_3, .string a0_4, .int .u32 a0_5, .int .i64 a0_6, .int .u64 a0_7, .int .u64 a0_8, .int .i64 a0_9, .string a0_10, .bool true, .bool a0_12] 42 (0, 0)) t24_2 k_ hk_)⟩)) (below_size t24_0)); have n2_ := Aside0.mk (blk_below (g := gb243) (o := .cells #[.int .u8 a0_0, .int .u8 a0_1, .int .i64 a0_2, .slice A0_3 l0_3.length c0_3, .string a0_4, .int .u32 a0_5, .int .i64 a0_6, .int .u64 a0_7, .int .u64 a0_8, .int .i64 a0_9, .string a0_10, .bool true, .bool a0_12] 42 (0, 0)) t24_2 hb); have n3_ := Aside0.mk (below_step t24_0 hb); clear HO269; clear BK243; clear HB; have HO269 := n0_; have HO273 := n1_; have BK243 := n2_; have HB := n3_; clear n0_ n1_ n2_ n3_; clear hb ho82))
          go_ret2
          exact ⟨_, t24_7, by (with_reducible repeat (first | apply Kd.V_alloc | apply Kd.V_drewN | apply Kd.V_drew)); exact Kd.V_mono HO273.out (fun _ hk => hk.1), t24_0⟩
         ·rw [if_neg c75] at H
          exact absurd H (by simp)
        ·rw [if_neg c74] at H
         exact absurd H (by simp)
       ·replace c72 := Bool.eq_false_iff.mpr c72
        subst c72
        rw [if_neg (show ¬ (false = true) by decide)] at H
        obtain ⟨y274, hy274⟩ : ∃ y_ : List ByteArray, y_ = (([(⟨#[116, 114, 97, 99, 107]⟩ : ByteArray), (⟨#[111, 102, 102]⟩ : ByteArray)] : List ByteArray)) := ⟨_, rfl⟩
        replace H : ((strings_Join.f y274 (⟨#[32]⟩ : ByteArray)).bind fun t277 => (if t277.size + 2 ≤ 9223372036854775807 then (if (t277 ++ (⟨#[13, 10]⟩ : ByteArray)).size ≤ 9223372036854775807 then (some ((bytesOf (t277 ++ (⟨#[13, 10]⟩ : ByteArray))), 0)) else (none)) else (none))) = some (r1, r2) := by first | (rw [hy274]; with_reducible exact H) | (have H2_ := (Option.bind_some _ _).symm.trans H; rw [hy274]; with_reducible exact H2_) | (have H2_ := (Option.bind_some _ _).symm.trans H; with_reducible exact H2_) | with_reducible exact H | (rw [hy274]; exact H) | exact H
        have Ny274 := Aside0.mk hy274
        clear hy274
        replace H := Option.bind_eq_some_iff.mp H
        obtain ⟨t277, A830, H⟩ := H
        replace H : (if t277.size + 2 ≤ 9223372036854775807 then (if (t277 ++ (⟨#[13, 10]⟩ : ByteArray)).size ≤ 9223372036854775807 then (some ((bytesOf (t277 ++ (⟨#[13, 10]⟩ : ByteArray))), 0)) else (none)) else (none)) = some (r1, r2) := H
        have A83 := Aside0.mk A830
        clear A830
        by_cases c84 : t277.size + 2 ≤ 9223372036854775807
        ·rw [if_pos c84] at H
         have c84b0 := eq_true c84
         have c84b1 : decide (t277.size + 2 ≤ 9223372036854775807) = true := decide_eq_true c84
         try have c84b2 : (9223372036854775807 < t277.size + 2) = False := eq_false (Nat.not_lt.2 c84)
         try (have c84b3 := c84b2; simp only [ByteArray.size_append, x_size_lit, List.size_toArray, List.length_cons, List.length_nil, Nat.zero_add, Nat.reduceAdd] at c84b3)
         by_cases c85 : (t277 ++ (⟨#[13, 10]⟩ : ByteArray)).size ≤ 9223372036854775807
         ·rw [if_pos c85] at H
          have c85b0 := eq_true c85
          have c85b1 : decide ((t277 ++ (⟨#[13, 10]⟩ : ByteArray)).size ≤ 9223372036854775807) = true := decide_eq_true c85
          try have c85b2 : (9223372036854775807 < (t277 ++ (⟨#[13, 10]⟩ : ByteArray)).size) = False := eq_false (Nat.not_lt.2 c85)
          try (have c85b3 := c85b2; simp only [ByteArray.size_append, x_size_lit, List.size_toArray, List.length_cons, List.length_nil, Nat.zero_add, Nat.reduceAdd] at c85b3)
          obtain ⟨y278, hy278⟩ : ∃ y_ : List Int, y_ = (bytesOf (t277 ++ (⟨#[13, 10]⟩ : ByteArray))) := ⟨_, rfl⟩
          replace H : (some (y278, 0)) = some (r1, r2) := by first | (rw [hy278]; with_reducible exact H) | (have H2_ := (Option.bind_some _ _).symm.trans H; rw [hy278]; with_reducible exact H2_) | (have H2_ := (Option.bind_some _ _).symm.trans H; with_reducible exact H2_) | with_reducible exact H | (rw [hy278]; exact H) | exact H
          have Ny278 := Aside0.mk hy278
          clear hy278
          simp only [Option.some.injEq, Prod.mk.injEq] at H
          obtain ⟨rfl, rfl⟩ := H
          have hzm86 := blk13 (blk_alloc BK243.out (.map #[(⟨(.bool true), (.string (⟨#[111, 110]⟩ : ByteArray)), 0⟩ : MapEntry), (⟨(.bool false), (.string (⟨#[111, 102, 102]⟩ : ByteArray)), 1⟩ : MapEntry)] 2))
          have hz86 := blk13 BK243.out
          go_wp2_with (first | ((with_reducible refine gate_dst (N := 74) rfl ?_); refine Kd.R_lit Kd.string _ 9 ?hg (N := 74) ?hd (xs := ([(⟨#[116, 114, 97, 99, 107]⟩ : ByteArray), (⟨#[111, 102, 102]⟩ : ByteArray)] : List ByteArray)) (inner := [.string (⟨#[116, 114, 97, 99, 107]⟩ : ByteArray), .string (⟨#[111, 102, 102]⟩ : ByteArray)]) (ok := fun _ => True) (okp := fun _ => True) ?hr ?hp (fun _ hk => hk) trivial (Below.refl _ _) (Nat.le_refl _) (by simp) ?_; (case hd => rfl); (case hg => rfl); (case hr => first | (go_simp; done) | (go_simp; rfl)); (case hp => exact (Reps.one (show Kd.M Kd.string _ _ _ (⟨#[116, 114, 97, 99, 107]⟩ : ByteArray) [.string (⟨#[116, 114, 97, 99, 107]⟩ : ByteArray)] from rfl) (Reps.one (show Kd.M Kd.string _ _ _ (⟨#[111, 102, 102]⟩ : ByteArray) [.string (⟨#[111, 102, 102]⟩ : ByteArray)] from rfl) (Reps.none _ _)))); intro v275 w87 ho88 hb hg_ hnew_; clear hg_ hnew_; (first | rw [← Ny274.out] at ho88 | (simp only [Int.reduceToNat] at ho88; rw [← Ny274.out] at ho88)); have n0_ := Aside0.mk (Kd.R_lower (Kd.R_newM (M := fun k_ => (w.heap.size ≤ k_)) ho88 (below_size t24_0) (fun k_ h_ => h_)) (below_size t24_0)); have n1_ := Aside0.mk (blk_below (g := gb243) (o := .cells #[.int .u8 a0_0, .int .u8 a0_1, .int .i64 a0_2, .slice A0_3 l0_3.length c0_3, .string a0_4, .int .u32 a0_5, .int .i64 a0_6, .int .u64 a0_7, .int .u64 a0_8, .int .i64 a0_9, .string a0_10, .bool false, .bool a0_12] 42 (0, 0)) t24_2 hb); have n2_ := Aside0.mk (below_step t24_0 hb); clear BK243; clear HB; have HO276 := n0_; have BK243 := n1_; have HB := n2_; clear n0_ n1_ n2_; clear hb ho88; obtain ⟨Ao89, co89, eo89⟩ := Kd.R_slice HO276.out; subst eo89) | ((with_reducible refine gate_callee (f := 36) rfl ?_); refine goesL_ (some 79) rfl rfl Tryd.func36 (by kernel_rfl) rfl #[.slice Ao89 y274.length co89, .string (⟨#[32]⟩ : ByteArray)] rfl t24_4 ?_; (with_reducible refine (strings_Join.calls _ _ y274 (⟨#[32]⟩ : ByteArray) t277 _ ?side1 ?side2 A83.out).mono ?_); (case side1 => repeat (first | exact (Kd.R_reads' HO276.out).2.2 | (with_reducible refine Kd.C_alloc ?_ _) | (with_reducible refine Kd.C_drewN ?_ _) | (with_reducible refine Kd.C_drew ?_))); (case side2 => exact (Kd.R_reads' HO276.out).2.1); rintro e w90 ⟨rfl, hb⟩; refine ⟨_, rfl, ?_⟩; have n0_ := Aside0.mk (Kd.R_below t24_17 hb); have n1_ := Aside0.mk (blk_below (g := gb243) (o := .cells #[.int .u8 a0_0, .int .u8 a0_1, .int .i64 a0_2, .slice A0_3 l0_3.length c0_3, .string a0_4, .int .u32 a0_5, .int .i64 a0_6, .int .u64 a0_7, .int .u64 a0_8, .int .i64 a0_9, .string a0_10, .bool false, .bool a0_12] 42 (0, 0)) t24_2 hb); have n2_ := Aside0.mk (below_step t24_0 hb); clear HO276; clear BK243; clear HB; have HO276 := n0_; have BK243 := n1_; have HB := n2_; clear n0_ n1_ n2_; (try clear hb); (try clear hb2); (try clear hk); (try clear hi)) | ((with_reducible refine gate_dst (N := 81) rfl ?_); refine x_conv _ 5 rfl (N := 81) rfl 9 29 _ rfl (s := (t277 ++ (⟨#[13, 10]⟩ : ByteArray))) rfl Tryd.underlying9 Tryd.underlying29 Tryd.underlying5 t24_8 (Below.refl _ _) (Nat.le_refl _) ?_; intro v279 w91 ho92 hb hg_ hnew_; clear hg_ hnew_; (first | rw [← Ny278.out] at ho92 | (simp only [Int.reduceToNat] at ho92; rw [← Ny278.out] at ho92)); have n0_ := Aside0.mk (Kd.R_below t24_17 hb); have n1_ := Aside0.mk (Kd.V_lower (Kd.V_mono (ok' := fun k_ => (w.heap.size ≤ k_) ∧ some k_ ≠ (.slice Ao89 y274.length co89 : Value).ownBlock ∧ k_ ≠ gb243) ho92 (fun k_ hk_ => ⟨(Nat.le_trans (below_size t24_0) hk_), (Kd.fresh' (Kd.R_lt t24_17) k_ hk_), (Kd.freshB (g := gb243) (o := .cells #[.int .u8 a0_0, .int .u8 a0_1, .int .i64 a0_2, .slice A0_3 l0_3.length c0_3, .string a0_4, .int .u32 a0_5, .int .i64 a0_6, .int .u64 a0_7, .int .u64 a0_8, .int .i64 a0_9, .string a0_10, .bool false, .bool a0_12] 42 (0, 0)) t24_2 k_ hk_)⟩)) (below_size t24_0)); have n2_ := Aside0.mk (blk_below (g := gb243) (o := .cells #[.int .u8 a0_0, .int .u8 a0_1, .int .i64 a0_2, .slice A0_3 l0_3.length c0_3, .string a0_4, .int .u32 a0_5, .int .i64 a0_6, .int .u64 a0_7, .int .u64 a0_8, .int .i64 a0_9, .string a0_10, .bool false, .bool a0_12] 42 (0, 0)) t24_2 hb); have n3_ := Aside0.mk (below_step t24_0 hb); clear HO276; clear BK243; clear HB; have HO276 := n0_; have HO280 := n1_; have BK243 := n2_; have HB := n3_; clear n0_ n1_ n2_ n3_; clear hb ho92))
          go_ret2
          exact ⟨_, t24_7, by (with_reducible repeat (first | apply Kd.V_alloc | apply Kd.V_drewN | apply Kd.V_drew)); exact Kd.V_mono HO280.out (fun _ hk => hk.1), t24_0⟩
         ·rw [if_neg c85] at H
          exact absurd H (by simp)
        ·rw [if_neg c84] at H
         exact absurd H (by simp)
      ·rw [if_neg c71] at H
       have c71b0 : (a0_0 == 3) = false := beq_eq_false_iff_ne.mpr c71
       have c71b1 : (a0_0 != 3) = true := bne_iff_ne.mpr c71
       by_cases c93 : a0_0 = 4
       ·rw [if_pos c93] at H
        have c93b0 : (a0_0 == 4) = true := beq_iff_eq.mpr c93
        have c93b1 : (a0_0 != 4) = false := bne_eq_false_iff_eq.mpr c93
        clear c93
        obtain ⟨y281, hy281⟩ : ∃ y_ : List ByteArray, y_ = (([(⟨#[112, 105, 110, 103]⟩ : ByteArray)] : List ByteArray)) := ⟨_, rfl⟩
        replace H : ((strings_Join.f y281 (⟨#[32]⟩ : ByteArray)).bind fun t284 => (if t284.size + 2 ≤ 9223372036854775807 then (if (t284 ++ (⟨#[13, 10]⟩ : ByteArray)).size ≤ 9223372036854775807 then (some ((bytesOf (t284 ++ (⟨#[13, 10]⟩ : ByteArray))), 0)) else (none)) else (none))) = some (r1, r2) := by first | (rw [hy281]; with_reducible exact H) | (have H2_ := (Option.bind_some _ _).symm.trans H; rw [hy281]; with_reducible exact H2_) | (have H2_ := (Option.bind_some _ _).symm.trans H; with_reducible exact H2_) | with_reducible exact H | (rw [hy281]; exact H) | exact H
        have Ny281 := Aside0.mk hy281
        clear hy281
        replace H := Option.bind_eq_some_iff.mp H
        obtain ⟨t284, A940, H⟩ := H
        replace H : (if t284.size + 2 ≤ 9223372036854775807 then (if (t284 ++ (⟨#[13, 10]⟩ : ByteArray)).size ≤ 9223372036854775807 then (some ((bytesOf (t284 ++ (⟨#[13, 10]⟩ : ByteArray))), 0)) else (none)) else (none)) = some (r1, r2) := H
        have A94 := Aside0.mk A940
        clear A940
        by_cases c95 : t284.size + 2 ≤ 9223372036854775807
        ·rw [if_pos c95] at H
         have c95b0 := eq_true c95
         have c95b1 : decide (t284.size + 2 ≤ 9223372036854775807) = true := decide_eq_true c95
         try have c95b2 : (9223372036854775807 < t284.size + 2) = False := eq_false (Nat.not_lt.2 c95)
         try (have c95b3 := c95b2; simp only [ByteArray.size_append, x_size_lit, List.size_toArray, List.length_cons, List.length_nil, Nat.zero_add, Nat.reduceAdd] at c95b3)
         by_cases c96 : (t284 ++ (⟨#[13, 10]⟩ : ByteArray)).size ≤ 9223372036854775807
         ·rw [if_pos c96] at H
          have c96b0 := eq_true c96
          have c96b1 : decide ((t284 ++ (⟨#[13, 10]⟩ : ByteArray)).size ≤ 9223372036854775807) = true := decide_eq_true c96
          try have c96b2 : (9223372036854775807 < (t284 ++ (⟨#[13, 10]⟩ : ByteArray)).size) = False := eq_false (Nat.not_lt.2 c96)
          try (have c96b3 := c96b2; simp only [ByteArray.size_append, x_size_lit, List.size_toArray, List.length_cons, List.length_nil, Nat.zero_add, Nat.reduceAdd] at c96b3)
          obtain ⟨y285, hy285⟩ : ∃ y_ : List Int, y_ = (bytesOf (t284 ++ (⟨#[13, 10]⟩ : ByteArray))) := ⟨_, rfl⟩
          replace H : (some (y285, 0)) = some (r1, r2) := by first | (rw [hy285]; with_reducible exact H) | (have H2_ := (Option.bind_some _ _).symm.trans H; rw [hy285]; with_reducible exact H2_) | (have H2_ := (Option.bind_some _ _).symm.trans H; with_reducible exact H2_) | with_reducible exact H | (rw [hy285]; exact H) | exact H
          have Ny285 := Aside0.mk hy285
          clear hy285
          simp only [Option.some.injEq, Prod.mk.injEq] at H
          obtain ⟨rfl, rfl⟩ := H
          have hz97 := blk13 BK243.out
          go_wp2_with (first | ((with_reducible refine gate_dst (N := 77) rfl ?_); refine Kd.R_lit Kd.string _ 9 ?hg (N := 77) ?hd (xs := ([(⟨#[112, 105, 110, 103]⟩ : ByteArray)] : List ByteArray)) (inner := [.string (⟨#[112, 105, 110, 103]⟩ : ByteArray)]) (ok := fun _ => True) (okp := fun _ => True) ?hr ?hp (fun _ hk => hk) trivial (Below.refl _ _) (Nat.le_refl _) (by simp) ?_; (case hd => rfl); (case hg => rfl); (case hr => first | (go_simp; done) | (go_simp; rfl)); (case hp => exact (Reps.one (show Kd.M Kd.string _ _ _ (⟨#[112, 105, 110, 103]⟩ : ByteArray) [.string (⟨#[112, 105, 110, 103]⟩ : ByteArray)] from rfl) (Reps.none _ _))); intro v282 w98 ho99 hb hg_ hnew_; clear hg_ hnew_; (first | rw [← Ny281.out] at ho99 | (simp only [Int.reduceToNat] at ho99; rw [← Ny281.out] at ho99)); have n0_ := Aside0.mk (Kd.R_lower (Kd.R_newM (M := fun k_ => (w.heap.size ≤ k_)) ho99 (below_size t24_0) (fun k_ h_ => h_)) (below_size t24_0)); have n1_ := Aside0.mk (blk_below (g := gb243) (o := .cells #[.int .u8 a0_0, .int .u8 a0_1, .int .i64 a0_2, .slice A0_3 l0_3.length c0_3, .string a0_4, .int .u32 a0_5, .int .i64 a0_6, .int .u64 a0_7, .int .u64 a0_8, .int .i64 a0_9, .string a0_10, .bool a0_11, .bool a0_12] 42 (0, 0)) t24_2 hb); have n2_ := Aside0.mk (below_step t24_0 hb); clear BK243; clear HB; have HO283 := n0_; have BK243 := n1_; have HB := n2_; clear n0_ n1_ n2_; clear hb ho99; obtain ⟨Ao100, co100, eo100⟩ := Kd.R_slice HO283.out; subst eo100) | ((with_reducible refine gate_callee (f := 36) rfl ?_); refine goesL_ (some 79) rfl rfl Tryd.func36 (by kernel_rfl) rfl #[.slice Ao100 y281.length co100, .string (⟨#[32]⟩ : ByteArray)] rfl t24_4 ?_; (with_reducible refine (strings_Join.calls _ _ y281 (⟨#[32]⟩ : ByteArray) t284 _ ?side1 ?side2 A94.out).mono ?_); (case side1 => repeat (first | exact (Kd.R_reads' HO283.out).2.2 | (with_reducible refine Kd.C_alloc ?_ _) | (with_reducible refine Kd.C_drewN ?_ _) | (with_reducible refine Kd.C_drew ?_))); (case side2 => exact (Kd.R_reads' HO283.out).2.1); rintro e w101 ⟨rfl, hb⟩; refine ⟨_, rfl, ?_⟩; have n0_ := Aside0.mk (Kd.R_below t24_18 hb); have n1_ := Aside0.mk (blk_below (g := gb243) (o := .cells #[.int .u8 a0_0, .int .u8 a0_1, .int .i64 a0_2, .slice A0_3 l0_3.length c0_3, .string a0_4, .int .u32 a0_5, .int .i64 a0_6, .int .u64 a0_7, .int .u64 a0_8, .int .i64 a0_9, .string a0_10, .bool a0_11, .bool a0_12] 42 (0, 0)) t24_2 hb); have n2_ := Aside0.mk (below_step t24_0 hb); clear HO283; clear BK243; clear HB; have HO283 := n0_; have BK243 := n1_; have HB := n2_; clear n0_ n1_ n2_; (try clear hb); (try clear hb2); (try clear hk); (try clear hi)) | ((with_reducible refine gate_dst (N := 81) rfl ?_); refine x_conv _ 5 rfl (N := 81) rfl 9 29 _ rfl (s := (t284 ++ (⟨#[13, 10]⟩ : ByteArray))) rfl Tryd.underlying9 Tryd.underlying29 Tryd.underlying5 t24_8 (Below.refl _ _) (Nat.le_refl _) ?_; intro v286 w102 ho103 hb hg_ hnew_; clear hg_ hnew_; (first | rw [← Ny285.out] at ho103 | (simp only [Int.reduceToNat] at ho103; rw [← Ny285.out] at ho103)); have n0_ := Aside0.mk (Kd.R_below t24_18 hb); have n1_ := Aside0.mk (Kd.V_lower (Kd.V_mono (ok' := fun k_ => (w.heap.size ≤ k_) ∧ some k_ ≠ (.slice Ao100 y281.length co100 : Value).ownBlock ∧ k_ ≠ gb243) ho103 (fun k_ hk_ => ⟨(Nat.le_trans (below_size t24_0) hk_), (Kd.fresh' (Kd.R_lt t24_18) k_ hk_), (Kd.freshB (g := gb243) (o := .cells #[.int .u8 a0_0, .int .u8 a0_1, .int .i64 a0_2, .slice A0_3 l0_3.length c0_3, .string a0_4, .int .u32 a0_5, .int .i64 a0_6, .int .u64 a0_7, .int .u64 a0_8, .int .i64 a0_9, .string a0_10, .bool a0_11, .bool a0_12] 42 (0, 0)) t24_2 k_ hk_)⟩)) (below_size t24_0)); have n2_ := Aside0.mk (blk_below (g := gb243) (o := .cells #[.int .u8 a0_0, .int .u8 a0_1, .int .i64 a0_2, .slice A0_3 l0_3.length c0_3, .string a0_4, .int .u32 a0_5, .int .i64 a0_6, .int .u64 a0_7, .int .u64 a0_8, .int .i64 a0_9, .string a0_10, .bool a0_11, .bool a0_12] 42 (0, 0)) t24_2 hb); have n3_ := Aside0.mk (below_step t24_0 hb); clear HO283; clear BK243; clear HB; have HO283 := n0_; have HO287 := n1_; have BK243 := n2_; have HB := n3_; clear n0_ n1_ n2_ n3_; clear hb ho103))
          go_ret2
          exact ⟨_, t24_7, by (with_reducible repeat (first | apply Kd.V_alloc | apply Kd.V_drewN | apply Kd.V_drew)); exact Kd.V_mono HO287.out (fun _ hk => hk.1), t24_0⟩
         ·rw [if_neg c96] at H
          exact absurd H (by simp)
        ·rw [if_neg c95] at H
         exact absurd H (by simp)
       ·rw [if_neg c93] at H
        have c93b0 : (a0_0 == 4) = false := beq_eq_false_iff_ne.mpr c93
        have c93b1 : (a0_0 != 4) = true := bne_iff_ne.mpr c93
        obtain ⟨y288, hy288⟩ : ∃ y_ : List ByteArray, y_ = (([(⟨#[113, 117, 105, 116]⟩ : ByteArray)] : List ByteArray)) := ⟨_, rfl⟩
        replace H : ((strings_Join.f y288 (⟨#[32]⟩ : ByteArray)).bind fun t291 => (if t291.size + 2 ≤ 9223372036854775807 then (if (t291 ++ (⟨#[13, 10]⟩ : ByteArray)).size ≤ 9223372036854775807 then (some ((bytesOf (t291 ++ (⟨#[13, 10]⟩ : ByteArray))), 0)) else (none)) else (none))) = some (r1, r2) := by first | (rw [hy288]; with_reducible exact H) | (have H2_ := (Option.bind_some _ _).symm.trans H; rw [hy288]; with_reducible exact H2_) | (have H2_ := (Option.bind_some _ _).symm.trans H; with_reducible exact H2_) | with_reducible exact H | (rw [hy288]; exact H) | exact H
        have Ny288 := Aside0.mk hy288
        clear hy288
        replace H := Option.bind_eq_some_iff.mp H
        obtain ⟨t291, A1040, H⟩ := H
        replace H : (if t291.size + 2 ≤ 9223372036854775807 then (if (t291 ++ (⟨#[13, 10]⟩ : ByteArray)).size ≤ 9223372036854775807 then (some ((bytesOf (t291 ++ (⟨#[13, 10]⟩ : ByteArray))), 0)) else (none)) else (none)) = some (r1, r2) := H
        have A104 := Aside0.mk A1040
        clear A1040
        by_cases c105 : t291.size + 2 ≤ 9223372036854775807
        ·rw [if_pos c105] at H
         have c105b0 := eq_true c105
         have c105b1 : decide (t291.size + 2 ≤ 9223372036854775807) = true := decide_eq_true c105
         try have c105b2 : (9223372036854775807 < t291.size + 2) = False := eq_false (Nat.not_lt.2 c105)
         try (have c105b3 := c105b2; simp only [ByteArray.size_append, x_size_lit, List.size_toArray, List.length_cons, List.length_nil, Nat.zero_add, Nat.reduceAdd] at c105b3)
         by_cases c106 : (t291 ++ (⟨#[13, 10]⟩ : ByteArray)).size ≤ 9223372036854775807
         ·rw [if_pos c106] at H
          have c106b0 := eq_true c106
          have c106b1 : decide ((t291 ++ (⟨#[13, 10]⟩ : ByteArray)).size ≤ 9223372036854775807) = true := decide_eq_true c106
          try have c106b2 : (9223372036854775807 < (t291 ++ (⟨#[13, 10]⟩ : ByteArray)).size) = False := eq_false (Nat.not_lt.2 c106)
          try (have c106b3 := c106b2; simp only [ByteArray.size_append, x_size_lit, List.size_toArray, List.length_cons, List.length_nil, Nat.zero_add, Nat.reduceAdd] at c106b3)
          obtain ⟨y292, hy292⟩ : ∃ y_ : List Int, y_ = (bytesOf (t291 ++ (⟨#[13, 10]⟩ : ByteArray))) := ⟨_, rfl⟩
          replace H : (some (y292, 0)) = some (r1, r2) := by first | (rw [hy292]; with_reducible exact H) | (have H2_ := (Option.bind_some _ _).symm.trans H; rw [hy292]; with_reducible exact H2_) | (have H2_ := (Option.bind_some _ _).symm.trans H; with_reducible exact H2_) | with_reducible exact H | (rw [hy292]; exact H) | exact H
          have Ny292 := Aside0.mk hy292
          clear hy292
          simp only [Option.some.injEq, Prod.mk.injEq] at H
          obtain ⟨rfl, rfl⟩ := H
          have hz107 := blk13 BK243.out
          go_wp2_with (first | ((with_reducible refine gate_dst (N := 25) rfl ?_); refine Kd.R_lit Kd.string _ 9 ?hg (N := 25) ?hd (xs := ([(⟨#[113, 117, 105, 116]⟩ : ByteArray)] : List ByteArray)) (inner := [.string (⟨#[113, 117, 105, 116]⟩ : ByteArray)]) (ok := fun _ => True) (okp := fun _ => True) ?hr ?hp (fun _ hk => hk) trivial (Below.refl _ _) (Nat.le_refl _) (by simp) ?_; (case hd => rfl); (case hg => rfl); (case hr => first | (go_simp; done) | (go_simp; rfl)); (case hp => exact (Reps.one (show Kd.M Kd.string _ _ _ (⟨#[113, 117, 105, 116]⟩ : ByteArray) [.string (⟨#[113, 117, 105, 116]⟩ : ByteArray)] from rfl) (Reps.none _ _))); intro v289 w108 ho109 hb hg_ hnew_; clear hg_ hnew_; (first | rw [← Ny288.out] at ho109 | (simp only [Int.reduceToNat] at ho109; rw [← Ny288.out] at ho109)); have n0_ := Aside0.mk (Kd.R_lower (Kd.R_newM (M := fun k_ => (w.heap.size ≤ k_)) ho109 (below_size t24_0) (fun k_ h_ => h_)) (below_size t24_0)); have n1_ := Aside0.mk (blk_below (g := gb243) (o := .cells #[.int .u8 a0_0, .int .u8 a0_1, .int .i64 a0_2, .slice A0_3 l0_3.length c0_3, .string a0_4, .int .u32 a0_5, .int .i64 a0_6, .int .u64 a0_7, .int .u64 a0_8, .int .i64 a0_9, .string a0_10, .bool a0_11, .bool a0_12] 42 (0, 0)) t24_2 hb); have n2_ := Aside0.mk (below_step t24_0 hb); clear BK243; clear HB; have HO290 := n0_; have BK243 := n1_; have HB := n2_; clear n0_ n1_ n2_; clear hb ho109; obtain ⟨Ao110, co110, eo110⟩ := Kd.R_slice HO290.out; subst eo110) | ((with_reducible refine gate_callee (f := 36) rfl ?_); refine goesL_ (some 79) rfl rfl Tryd.func36 (by kernel_rfl) rfl #[.slice Ao110 y288.length co110, .string (⟨#[32]⟩ : ByteArray)] rfl t24_4 ?_; (with_reducible refine (strings_Join.calls _ _ y288 (⟨#[32]⟩ : ByteArray) t291 _ ?side1 ?side2 A104.out).mono ?_); (case side1 => repeat (first | exact (Kd.R_reads' HO290.out).2.2 | (with_reducible refine Kd.C_alloc ?_ _) | (with_reducible refine Kd.C_drewN ?_ _) | (with_reducible refine Kd.C_drew ?_))); (case side2 => exact (Kd.R_reads' HO290.out).2.1); rintro e w111 ⟨rfl, hb⟩; refine ⟨_, rfl, ?_⟩; have n0_ := Aside0.mk (Kd.R_below t24_19 hb); have n1_ := Aside0.mk (blk_below (g := gb243) (o := .cells #[.int .u8 a0_0, .int .u8 a0_1, .int .i64 a0_2, .slice A0_3 l0_3.length c0_3, .string a0_4, .int .u32 a0_5, .int .i64 a0_6, .int .u64 a0_7, .int .u64 a0_8, .int .i64 a0_9, .string a0_10, .bool a0_11, .bool a0_12] 42 (0, 0)) t24_2 hb); have n2_ := Aside0.mk (below_step t24_0 hb); clear HO290; clear BK243; clear HB; have HO290 := n0_; have BK243 := n1_; have HB := n2_; clear n0_ n1_ n2_; (try clear hb); (try clear hb2); (try clear hk); (try clear hi)) | ((with_reducible refine gate_dst (N := 81) rfl ?_); refine x_conv _ 5 rfl (N := 81) rfl 9 29 _ rfl (s := (t291 ++ (⟨#[13, 10]⟩ : ByteArray))) rfl Tryd.underlying9 Tryd.underlying29 Tryd.underlying5 t24_8 (Below.refl _ _) (Nat.le_refl _) ?_; intro v293 w112 ho113 hb hg_ hnew_; clear hg_ hnew_; (first | rw [← Ny292.out] at ho113 | (simp only [Int.reduceToNat] at ho113; rw [← Ny292.out] at ho113)); have n0_ := Aside0.mk (Kd.R_below t24_19 hb); have n1_ := Aside0.mk (Kd.V_lower (Kd.V_mono (ok' := fun k_ => (w.heap.size ≤ k_) ∧ some k_ ≠ (.slice Ao110 y288.length co110 : Value).ownBlock ∧ k_ ≠ gb243) ho113 (fun k_ hk_ => ⟨(Nat.le_trans (below_size t24_0) hk_), (Kd.fresh' (Kd.R_lt t24_19) k_ hk_), (Kd.freshB (g := gb243) (o := .cells #[.int .u8 a0_0, .int .u8 a0_1, .int .i64 a0_2, .slice A0_3 l0_3.length c0_3, .string a0_4, .int .u32 a0_5, .int .i64 a0_6, .int .u64 a0_7, .int .u64 a0_8, .int .i64 a0_9, .string a0_10, .bool a0_11, .bool a0_12] 42 (0, 0)) t24_2 k_ hk_)⟩)) (below_size t24_0)); have n2_ := Aside0.mk (blk_below (g := gb243) (o := .cells #[.int .u8 a0_0, .int .u8 a0_1, .int .i64 a0_2, .slice A0_3 l0_3.length c0_3, .string a0_4, .int .u32 a0_5, .int .i64 a0_6, .int .u64 a0_7, .int .u64 a0_8, .int .i64 a0_9, .string a0_10, .bool a0_11, .bool a0_12] 42 (0, 0)) t24_2 hb); have n3_ := Aside0.mk (below_step t24_0 hb); clear HO290; clear BK243; clear HB; have HO290 := n0_; have HO294 := n1_; have BK243 := n2_; have HB := n3_; clear n0_ n1_ n2_ n3_; clear hb ho113))
          go_ret2
          exact ⟨_, t24_7, by (with_reducible repeat (first | apply Kd.V_alloc | apply Kd.V_drewN | apply Kd.V_drew)); exact Kd.V_mono HO294.out (fun _ hk => hk.1), t24_0⟩
         ·rw [if_neg c106] at H
          exact absurd H (by simp)
        ·rw [if_neg c105] at H
         exact absurd H (by simp)
end Go.Proofs.YtfoengihiaegoaaDoor.P
