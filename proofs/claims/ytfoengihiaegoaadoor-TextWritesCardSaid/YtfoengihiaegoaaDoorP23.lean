-- written by wip/tools/drive.py, a driver round the kit's printer, and made smaller by wip/tools/slim.py
import Derived.Test.YtfoengihiaegoaaDoorP0
import Derived.Test.YtfoengihiaegoaaDoorP22
namespace Go.Proofs.YtfoengihiaegoaaDoor.P
open Go.RowKit Go.Proofs.YtfoengihiaegoaaDoorW.PrintWords Go.Proofs.YtfoengihiaegoaaDoorW.PrintLast Go.Proofs.YtfoengihiaegoaaDoorW.PrintMore
set_option linter.unusedVariables false
set_option linter.unusedSimpArgs false
theorem t23_0 {p : Prop} (h : p := by repeat (first | (with_reducible first | exact HB.out | apply below_alloc | apply pw_below_drewN | apply below_drew1 | refine below_set ?_ GE185.out) | exact HB.out)) : p := h
theorem t23_1 {p : Prop} (h : p := by (with_reducible repeat (first | refine blk_drewN ?_ _ | refine blk_drew ?_ | refine blk_alloc ?_ _)); exact BK185.out) : p := h
theorem t23_2 {p : Prop} (h : p := by (with_reducible repeat (first | apply Kd.R_alloc | apply Kd.R_drewN | apply Kd.R_drew)); exact HO_6.out) : p := h
theorem t23_3 {p : Prop} (h : p := by (try simp only [List.map_toArray, List.map_cons, List.map_nil]); first | done | rfl | (simp only [List.length_drop, List.length_take]; rfl)) : p := h
theorem t23_4 {p : Prop} (h : p := by (with_reducible repeat (first | apply Kd.R_alloc | apply Kd.R_drewN | apply Kd.R_drew)); exact HO192.out) : p := h
theorem t23_5 {p : Prop} (h : p := by first | rfl | (simp [errW_none, errW_some] <;> rfl) | (simp [*, errW_none, errW_some] <;> rfl)) : p := h
theorem t23_6 {p : Prop} (h : p := by first | rfl | (simp; done) | (simp [*]; done) | exact x_nonempty _ | (simp [x_nonempty]; done)) : p := h
theorem t23_7 {p : Prop} (h : p := by repeat (first | (with_reducible first | exact HB.out | apply below_alloc | apply pw_below_drewN | apply below_drew1) | exact HB.out)) : p := h
theorem t23_8 {p : Prop} (h : p := by (with_reducible repeat (first | apply Kd.R_alloc | apply Kd.R_drewN | apply Kd.R_drew)); exact HO207.out) : p := h
mutual
def text_words.j0 : Nat → ByteArray → ByteArray → Int → Int → List ByteArray → ByteArray → Int → Int → Int → Int → Option (List ByteArray × Bool)
 | 0, _, _, _, _, _, _, _, _, _, _ => none
 | k + 1, x4, x5, x186000, x186001, x186002, x186003, x186004, x186005, x186006, x186007 => (text_tens_uint32.f x186004).bind fun t188 => ((text_tens_int.f x186005).bind fun t189 => ((some (([x4, t188, t189, x5] : List ByteArray) : List ByteArray)).bind fun y190 => (if x186000 = 1 then ((some (([(⟨#[103, 101, 116]⟩ : ByteArray)] : List ByteArray) : List ByteArray)).bind fun y193 => (if y193.length + x186002.length < 8796093022208 then (some ((y193 ++ x186002), false)) else (none))) else (if x186000 = 10 then ((some (([(⟨#[100, 101, 108, 101, 116, 101]⟩ : ByteArray)] : List ByteArray) : List ByteArray)).bind fun y199 => (if y199.length + x186002.length < 8796093022208 then (some ((y199 ++ x186002), false)) else (none))) else (if x186000 = 2 then (text_words.j1 k x4 x5 y190 x186000 (x186000 == 2) x186000 x186001 x186002 x186003 x186004 x186005 x186006 x186007) else (if x186000 = 3 then (text_words.j1 k x4 x5 y190 x186000 (x186000 == 3) x186000 x186001 x186002 x186003 x186004 x186005 x186006 x186007) else (text_words.j1 k x4 x5 y190 x186000 (x186000 == 4) x186000 x186001 x186002 x186003 x186004 x186005 x186006 x186007)))))))
def text_words.j1 : Nat → ByteArray → ByteArray → List ByteArray → Int → Bool → Int → Int → List ByteArray → ByteArray → Int → Int → Int → Int → Option (List ByteArray × Bool)
 | 0, _, _, _, _, _, _, _, _, _, _, _, _, _ => none
 | k + 1, x4, x5, x6, x29, x42, x186000, x186001, x186002, x186003, x186004, x186005, x186006, x186007 => if x42 = true then ((some (([(⟨#[115, 101, 116]⟩ : ByteArray), (⟨#[97, 100, 100]⟩ : ByteArray), (⟨#[114, 101, 112, 108, 97, 99, 101]⟩ : ByteArray)] : List ByteArray) : List ByteArray)).bind fun y205 => (if 0 ≤ ((x186000 - 2) % 256) then (if ((x186000 - 2) % 256) < (y205.length : Int) then ((some (([rdOf ByteArray.empty y205 ((x186000 - 2) % 256)] : List ByteArray) : List ByteArray)).bind fun y209 => (if y209.length + x6.length < 8796093022208 then (some ((y209 ++ x6), true)) else (none))) else (none)) else (none))) else (if x29 = 5 then ((some (([(⟨#[99, 97, 115]⟩ : ByteArray)] : List ByteArray) : List ByteArray)).bind fun y215 => (if y215.length + x6.length < 8796093022208 then ((some (y215 ++ x6 : List ByteArray)).bind fun y218 => ((text_tens_uint64.f x186006).bind fun t221 => (if y218.length < 8796093022208 then (some ((y218 ++ [t221]), true)) else (none)))) else (none))) else (if x29 = 8 then (some ((([(⟨#[97, 112, 112, 101, 110, 100]⟩ : ByteArray), x4, x5] : List ByteArray)), true)) else (if x29 = 6 then ((text_tens_uint64.f x186007).bind fun t228 => (some ((([(⟨#[105, 110, 99, 114]⟩ : ByteArray), x4, t228] : List ByteArray)), false))) else (if x29 = 7 then ((text_tens_uint64.f x186007).bind fun t232 => (some ((([(⟨#[100, 101, 99, 114]⟩ : ByteArray), x4, t232] : List ByteArray)), false))) else (if x29 = 9 then ((text_tens_int.f x186005).bind fun t236 => (some ((([(⟨#[116, 111, 117, 99, 104]⟩ : ByteArray), x4, t236] : List ByteArray)), false))) else (some ((([(⟨#[102, 108, 117, 115, 104]⟩ : ByteArray)] : List ByteArray)), false)))))))
end
def text_words.f (k : Nat) (a0_0 : Int) (a0_1 : Int) (l0_2 : List ByteArray) (a0_3 : ByteArray) (a0_4 : Int) (a0_5 : Int) (a0_6 : Int) (a0_7 : Int) : Option (List ByteArray × Bool) := (text_tens_int.f (a0_3.size : Int)).bind fun t186 => (if (l0_2.length : Int) > 0 then (if 0 < (l0_2.length : Int) then (text_words.j0 k (rdOf ByteArray.empty l0_2 0) t186 a0_0 a0_1 l0_2 a0_3 a0_4 a0_5 a0_6 a0_7) else (none)) else (text_words.j0 k (⟨#[]⟩ : ByteArray) t186 a0_0 a0_1 l0_2 a0_3 a0_4 a0_5 a0_6 a0_7))
theorem text_words.mono_l : ∀ k, (∀ y0 y1 y2 y3 y4 y5 y6 y7 y8 y9, LeO (text_words.j0 k y0 y1 y2 y3 y4 y5 y6 y7 y8 y9) (text_words.j0 (k + 1) y0 y1 y2 y3 y4 y5 y6 y7 y8 y9)) ∧ (∀ y0 y1 y2 y3 y4 y5 y6 y7 y8 y9 y10 y11 y12, LeO (text_words.j1 k y0 y1 y2 y3 y4 y5 y6 y7 y8 y9 y10 y11 y12) (text_words.j1 (k + 1) y0 y1 y2 y3 y4 y5 y6 y7 y8 y9 y10 y11 y12))
 | 0 => ⟨fun _ _ _ _ _ _ _ _ _ _ r h => by simp [text_words.j0] at h, fun _ _ _ _ _ _ _ _ _ _ _ _ _ r h => by simp [text_words.j1] at h⟩
 | k + 1 => by
  obtain ⟨ih0, ih1⟩ := text_words.mono_l k
  refine ⟨?_, ?_⟩
  all_goals intros
  all_goals (first | unfold text_words.j0 | unfold text_words.j1)
  all_goals repeat' first | (with_reducible first | apply ih0 | apply ih1 | exact LeO.refl _ | exact LeO.none _ | refine LeO.ite ?_ ?_ | refine LeO.bind ?_ (fun _ => ?_)) | exact LeO.none _ | refine LeO.ite ?_ ?_ | refine LeO.bind ?_ (fun _ => ?_)
theorem text_words.mono : ∀ a0 a1 a2 a3 a4 a5 a6 a7 k, LeO (text_words.f k a0 a1 a2 a3 a4 a5 a6 a7) (text_words.f (k + 1) a0 a1 a2 a3 a4 a5 a6 a7) := by
 intro a0 a1 a2 a3 a4 a5 a6 a7 k
 obtain ⟨ih0, ih1⟩ := text_words.mono_l k
 unfold text_words.f
 repeat' first | (with_reducible first | apply ih0 | apply ih1 | exact LeO.refl _ | exact LeO.none _ | refine LeO.ite ?_ ?_ | refine LeO.bind ?_ (fun _ => ?_)) | exact LeO.none _ | refine LeO.ite ?_ ?_ | refine LeO.bind ?_ (fun _ => ?_)
def text_words.T4 : Bool × List (List Nat × List Nat) := (true, [([], []), ([], []), ([1], [1]), ([2], [2]), ([], []), ([4], [4]), ([5, 3], [5]), ([], []), ([0, 3, 6, 7], [0, 3, 6, 7]), ([8, 6, 0, 1, 2, 3, 4, 5, 6, 7, 8], [8])])
def text_words.B4 : List Nat := [0, 0, 2, 6, 0, 16, 62, 0, 255, 511]
theorem text_words.tab4 : rtab .any (opsOf Tryd.f35 4) = text_words.T4 := by kernel_rfl
theorem text_words.bits4 : waitsOk text_words.T4.2 text_words.B4 = true := by kernel_rfl
def text_words.T15 : Bool × List (List Nat × List Nat) := (true, [([], []), ([], []), ([0, 1], [0, 1]), ([], []), ([3], [3]), ([4, 2], [4]), ([5], [5]), ([2, 6, 5], [2, 6]), ([7, 7, 0, 1, 2, 3, 4, 5, 6, 7], [7]), ([8, 0, 1, 2, 3, 4, 5, 6, 7, 8], [])])
def text_words.B15 : List Nat := [0, 0, 3, 0, 8, 31, 63, 127, 255, 511]
theorem text_words.tab15 : rtab .any (opsOf Tryd.f35 15) = text_words.T15 := by kernel_rfl
theorem text_words.bits15 : waitsOk text_words.T15.2 text_words.B15 = true := by kernel_rfl
set_option maxHeartbeats 8000000 in
set_option maxRecDepth 100000 in
theorem text_words.calls (k : Nat) (a0_0 : Int) (a0_1 : Int) (A0_2 : Option Addr) (c0_2 : Nat) (l0_2 : List ByteArray) (a0_3 : ByteArray) (a0_4 : Int) (a0_5 : Int) (a0_6 : Int) (a0_7 : Int) (r1 : List ByteArray) (r2 : Bool) (w : World) (hr0_2 : Kd.C Kd.string w A0_2 l0_2.length l0_2) (hc0_2 : l0_2.length ≤ c0_2) (hL : Laid w) (h : text_words.f k a0_0 a0_1 l0_2 a0_3 a0_4 a0_5 a0_6 a0_7 = some (r1, r2)) :
  Calls Tryd.prog 35 #[.agg #[.int .u8 a0_0, .int .i64 a0_1, .slice A0_2 l0_2.length c0_2, .string a0_3, .int .u32 a0_4, .int .i64 a0_5, .int .u64 a0_6, .int .u64 a0_7]] w fun e w' => ∃ v0_ : Value, e = .returned (.tuple #[v0_, .bool r2]) ∧ Kd.R Kd.string 9 w' w.heap.size (fun _ => True) v0_ r1 ∧ Below w.heap.size w w' := by
 have hu40 := Tryd.underlying40
 have HR0_2 := Aside0.mk hr0_2
 have HC0_2 := Aside0.mk hc0_2
 clear hr0_2 hc0_2
 have HB := Aside0.mk (Below.refl w.heap.size w)
 have HLL := Aside0.mk hL
 clear hL
 have H : ((text_tens_int.f (a0_3.size : Int)).bind fun t186 => (if (l0_2.length : Int) > 0 then (if 0 < (l0_2.length : Int) then (text_words.j0 k (rdOf ByteArray.empty l0_2 0) t186 a0_0 a0_1 l0_2 a0_3 a0_4 a0_5 a0_6 a0_7) else (none)) else (text_words.j0 k (⟨#[]⟩ : ByteArray) t186 a0_0 a0_1 l0_2 a0_3 a0_4 a0_5 a0_6 a0_7))) = some (r1, r2) := h
 clear h
 replace H := Option.bind_eq_some_iff.mp H
 obtain ⟨t186, A20, H⟩ := H
 replace H : (if (l0_2.length : Int) > 0 then (if 0 < (l0_2.length : Int) then (text_words.j0 k (rdOf ByteArray.empty l0_2 0) t186 a0_0 a0_1 l0_2 a0_3 a0_4 a0_5 a0_6 a0_7) else (none)) else (text_words.j0 k (⟨#[]⟩ : ByteArray) t186 a0_0 a0_1 l0_2 a0_3 a0_4 a0_5 a0_6 a0_7)) = some (r1, r2) := H
 have A2 := Aside0.mk A20
 clear A20
 have HC3 := Aside0.mk H
 clear H
 go_enter Tryd.func35, Tryd.ntmps35
 go_upto_if 14 with (first | ((with_reducible refine gate_dst (N := 1) rfl ?_); refine box_event ?hg (N := 1) ?hd (cs := #[.int .u8 a0_0, .int .i64 a0_1, .slice A0_2 l0_2.length c0_2, .string a0_3, .int .u32 a0_4, .int .i64 a0_5, .int .u64 a0_6, .int .u64 a0_7]) (t := 40) ?hr ?_; (case hd => rfl); (case hg => rfl); (case hr => first | (go_simp; done) | (go_simp; rfl)); intro gb185 hg w4 hbox hb; have n0_ := Aside0.mk (below_step t23_7 hb); have n1_ := Aside0.mk (hbox); have n2_ := Aside0.mk ((by rw [hg]; exact (below_size t23_7) : w.heap.size ≤ gb185)); have n3_ := Aside0.mk ((by rw [hg]; exact (below_size t23_7) : w.heap.size ≤ gb185)); clear HB; have HB := n0_; have BK185 := n1_; have GW185 := n2_; have GE185 := n3_; clear n0_ n1_ n2_ n3_; clear hb hbox hg; have hz5 := blk8 BK185.out) | ((with_reducible refine gate_callee (f := 37) rfl ?_); refine goesL_ (some 10) rfl rfl Tryd.func37 (by kernel_rfl) rfl #[.int .i64 (a0_3.size : Int)] rfl t23_3 ?_; (with_reducible refine (text_tens_int.calls (a0_3.size : Int) t186 _ ?side1 A2.out).mono ?_); (case side1 => exact (Laid.below HLL.out t23_0)); rintro e w6 ⟨rfl, hb⟩; refine ⟨_, rfl, ?_⟩; have n0_ := Aside0.mk (blk_below (g := gb185) (o := .cells #[.int .u8 a0_0, .int .i64 a0_1, .slice A0_2 l0_2.length c0_2, .string a0_3, .int .u32 a0_4, .int .i64 a0_5, .int .u64 a0_6, .int .u64 a0_7] 40 (0, 0)) t23_1 hb); have n1_ := Aside0.mk (below_step t23_0 hb); clear BK185; clear HB; have BK185 := n0_; have HB := n1_; clear n0_ n1_; (try clear hb); (try clear hb2); (try clear hk); (try clear hi); have hz7 := blk8 BK185.out))
 (try simp only [Act.put, List.setIfInBounds_toArray, List.set_cons_zero, List.set_cons_succ])
 go_cut [4] (fun v4 wc => ∃ (kq : Nat) (x4_2 : ByteArray), v4 = .string x4_2 ∧ Aside0 (text_words.j0 kq x4_2 t186 a0_0 a0_1 l0_2 a0_3 a0_4 a0_5 a0_6 a0_7 = some (r1, r2)) ∧ Aside0 (kq ≤ k) ∧ Aside0 (wc.heap[gb185]? = some (.cells #[.int .u8 a0_0, .int .i64 a0_1, (.slice A0_2 l0_2.length c0_2), .string a0_3, .int .u32 a0_4, .int .i64 a0_5, .int .u64 a0_6, .int .u64 a0_7] 40 (0, 0))) ∧ Aside0 (Below w.heap.size w wc))
 case first =>
  have H := HC3.out
  clear HC3
  by_cases c8 : (l0_2.length : Int) > 0
  ·rw [if_pos c8] at H
   have c8b0 : decide (0 < (l0_2.length : Int)) = true := decide_eq_true c8
   have c8b1 : decide (0 < l0_2.length) = true := decide_eq_true (by omega)
   clear c8
   (first | rw [c8b0] | (simp only [i64_w, i32_w]; rw [c8b0]) | rw [c8b1] | skip)
   by_cases c9 : 0 < (l0_2.length : Int)
   ·rw [if_pos c9] at H
    have c9b0 : decide (0 < (l0_2.length : Int)) = true := decide_eq_true c9
    have c9b1 : decide (0 < l0_2.length) = true := decide_eq_true (by omega)
    clear c9
    have H' := Aside0.mk H
    clear H
    have hz10 := blk8 BK185.out
    have p187 : 0 ≤ (0 : Int) := (by omega)
    have q187 : 0 < (l0_2.length : Int) := of_decide_eq_true (by first | (with_reducible assumption) | assumption)
    obtain ⟨ad187, e187, hx187_0⟩ := Kd.at_string HR0_2.out 0 p187 q187
    cases e187
    have qi187 : (0 < l0_2.length) = True := eq_true (by omega)
    (try rw [show ((0 : Int)).toNat = 0 from rfl] at hx187_0)
    (try rw [Addr.add_zero'] at hx187_0)
    replace hx187_0 := (HB.out.cell (World.block_lt_of_cell? w _ hx187_0)).trans hx187_0
    replace p187 := eq_true p187
    replace q187 := eq_true q187
    go_wp2
    go_meet
    case rel => exact ⟨_, (rdOf ByteArray.empty l0_2 0), t23_6, H', ⟨by first | omega | exact Nat.le_refl _⟩, ⟨t23_1⟩, ⟨t23_0⟩⟩
   ·rw [if_neg c9] at H
    exact absurd H (by simp)
  ·rw [if_neg c8] at H
   have c8b0 : decide (0 < (l0_2.length : Int)) = false := decide_eq_false c8
   have c8b1 : decide (0 < l0_2.length) = false := decide_eq_false (by omega)
   clear c8
   (first | rw [c8b0] | (simp only [i64_w, i32_w]; rw [c8b0]) | rw [c8b1] | skip)
   have H' := Aside0.mk H
   clear H
   go_wp2
   go_meet
   case rel => exact ⟨_, ((⟨#[]⟩ : ByteArray)), t23_6, H', ⟨by first | omega | exact Nat.le_refl _⟩, ⟨t23_1⟩, ⟨t23_0⟩⟩
 case rest => as_aux_lemma =>
  clear HC3
  (try clear hz5); (try clear hz7)
  obtain ⟨kq, x4_2, rfl, HA, HJ2, BK185, HB⟩ := hcut
  cases kq with
  | zero => exact absurd HA.out (by simp [text_words.j0])
  | succ kj2 =>
   have H := HA.out
   clear HA
   simp only [text_words.j0] at H
   replace H := Option.bind_eq_some_iff.mp H
   obtain ⟨t188, A110, H⟩ := H
   replace H : ((text_tens_int.f a0_5).bind fun t189 => ((some (([x4_2, t188, t189, t186] : List ByteArray) : List ByteArray)).bind fun y190 => (if a0_0 = 1 then ((some (([(⟨#[103, 101, 116]⟩ : ByteArray)] : List ByteArray) : List ByteArray)).bind fun y193 => (if y193.length + l0_2.length < 8796093022208 then (some ((y193 ++ l0_2), false)) else (none))) else (if a0_0 = 10 then ((some (([(⟨#[100, 101, 108, 101, 116, 101]⟩ : ByteArray)] : List ByteArray) : List ByteArray)).bind fun y199 => (if y199.length + l0_2.length < 8796093022208 then (some ((y199 ++ l0_2), false)) else (none))) else (if a0_0 = 2 then (text_words.j1 kj2 x4_2 t186 y190 a0_0 (a0_0 == 2) a0_0 a0_1 l0_2 a0_3 a0_4 a0_5 a0_6 a0_7) else (if a0_0 = 3 then (text_words.j1 kj2 x4_2 t186 y190 a0_0 (a0_0 == 3) a0_0 a0_1 l0_2 a0_3 a0_4 a0_5 a0_6 a0_7) else (text_words.j1 kj2 x4_2 t186 y190 a0_0 (a0_0 == 4) a0_0 a0_1 l0_2 a0_3 a0_4 a0_5 a0_6 a0_7))))))) = some (r1, r2) := H
   have A11 := Aside0.mk A110
   clear A110
   replace H := Option.bind_eq_some_iff.mp H
   obtain ⟨t189, A120, H⟩ := H
   replace H : ((some (([x4_2, t188, t189, t186] : List ByteArray) : List ByteArray)).bind fun y190 => (if a0_0 = 1 then ((some (([(⟨#[103, 101, 116]⟩ : ByteArray)] : List ByteArray) : List ByteArray)).bind fun y193 => (if y193.length + l0_2.length < 8796093022208 then (some ((y193 ++ l0_2), false)) else (none))) else (if a0_0 = 10 then ((some (([(⟨#[100, 101, 108, 101, 116, 101]⟩ : ByteArray)] : List ByteArray) : List ByteArray)).bind fun y199 => (if y199.length + l0_2.length < 8796093022208 then (some ((y199 ++ l0_2), false)) else (none))) else (if a0_0 = 2 then (text_words.j1 kj2 x4_2 t186 y190 a0_0 (a0_0 == 2) a0_0 a0_1 l0_2 a0_3 a0_4 a0_5 a0_6 a0_7) else (if a0_0 = 3 then (text_words.j1 kj2 x4_2 t186 y190 a0_0 (a0_0 == 3) a0_0 a0_1 l0_2 a0_3 a0_4 a0_5 a0_6 a0_7) else (text_words.j1 kj2 x4_2 t186 y190 a0_0 (a0_0 == 4) a0_0 a0_1 l0_2 a0_3 a0_4 a0_5 a0_6 a0_7)))))) = some (r1, r2) := H
   have A12 := Aside0.mk A120
   clear A120
   obtain ⟨y190, hy190⟩ : ∃ y_ : List ByteArray, y_ = (([x4_2, t188, t189, t186] : List ByteArray)) := ⟨_, rfl⟩
   replace H : (if a0_0 = 1 then ((some (([(⟨#[103, 101, 116]⟩ : ByteArray)] : List ByteArray) : List ByteArray)).bind fun y193 => (if y193.length + l0_2.length < 8796093022208 then (some ((y193 ++ l0_2), false)) else (none))) else (if a0_0 = 10 then ((some (([(⟨#[100, 101, 108, 101, 116, 101]⟩ : ByteArray)] : List ByteArray) : List ByteArray)).bind fun y199 => (if y199.length + l0_2.length < 8796093022208 then (some ((y199 ++ l0_2), false)) else (none))) else (if a0_0 = 2 then (text_words.j1 kj2 x4_2 t186 y190 a0_0 (a0_0 == 2) a0_0 a0_1 l0_2 a0_3 a0_4 a0_5 a0_6 a0_7) else (if a0_0 = 3 then (text_words.j1 kj2 x4_2 t186 y190 a0_0 (a0_0 == 3) a0_0 a0_1 l0_2 a0_3 a0_4 a0_5 a0_6 a0_7) else (text_words.j1 kj2 x4_2 t186 y190 a0_0 (a0_0 == 4) a0_0 a0_1 l0_2 a0_3 a0_4 a0_5 a0_6 a0_7))))) = some (r1, r2) := by first | (rw [hy190]; with_reducible exact H) | (have H2_ := (Option.bind_some _ _).symm.trans H; rw [hy190]; with_reducible exact H2_) | (have H2_ := (Option.bind_some _ _).symm.trans H; with_reducible exact H2_) | with_reducible exact H | (rw [hy190]; exact H) | exact H
   have Ny190 := Aside0.mk hy190
   clear hy190
   by_cases c13 : a0_0 = 1
   ·rw [if_pos c13] at H
    have c13b0 : (a0_0 == 1) = true := beq_iff_eq.mpr c13
    have c13b1 : (a0_0 != 1) = false := bne_eq_false_iff_eq.mpr c13
    clear c13
    obtain ⟨y193, hy193⟩ : ∃ y_ : List ByteArray, y_ = (([(⟨#[103, 101, 116]⟩ : ByteArray)] : List ByteArray)) := ⟨_, rfl⟩
    replace H : (if y193.length + l0_2.length < 8796093022208 then (some ((y193 ++ l0_2), false)) else (none)) = some (r1, r2) := by first | (rw [hy193]; with_reducible exact H) | (have H2_ := (Option.bind_some _ _).symm.trans H; rw [hy193]; with_reducible exact H2_) | (have H2_ := (Option.bind_some _ _).symm.trans H; with_reducible exact H2_) | with_reducible exact H | (rw [hy193]; exact H) | exact H
    have Ny193 := Aside0.mk hy193
    clear hy193
    by_cases c14 : y193.length + l0_2.length < 8796093022208
    ·rw [if_pos c14] at H
     have LMc14 := Aside0.mk c14
     clear c14
     obtain ⟨y196, hy196⟩ : ∃ y_ : List ByteArray, y_ = (y193 ++ l0_2) := ⟨_, rfl⟩
     replace H : (some (y196, false)) = some (r1, r2) := by first | (rw [hy196]; with_reducible exact H) | (have H2_ := (Option.bind_some _ _).symm.trans H; rw [hy196]; with_reducible exact H2_) | (have H2_ := (Option.bind_some _ _).symm.trans H; with_reducible exact H2_) | with_reducible exact H | (rw [hy196]; exact H) | exact H
     have Ny196 := Aside0.mk hy196
     clear hy196
     simp only [Option.some.injEq, Prod.mk.injEq] at H
     obtain ⟨rfl, rfl⟩ := H
     try go_wp2
     have n0_ := Aside0.mk (blk_drew BK185.out)
     have n1_ := Aside0.mk (below_drew1 HB.out)
     clear BK185
     clear HB
     have BK185 := n0_
     have HB := n1_
     clear n0_ n1_
     refine start_ (n := 10) (S := fun w' => w'.cell? ⟨gb185, 0, none⟩ = some (.int .u8 a0_0) ∧ w'.cell? ⟨gb185, 1, none⟩ = some (.int .i64 a0_1) ∧ w'.cell? ⟨gb185, 2, none⟩ = some (.slice A0_2 l0_2.length c0_2) ∧ w'.cell? ⟨gb185, 3, none⟩ = some (.string a0_3) ∧ w'.cell? ⟨gb185, 4, none⟩ = some (.int .u32 a0_4) ∧ w'.cell? ⟨gb185, 5, none⟩ = some (.int .i64 a0_5) ∧ w'.cell? ⟨gb185, 6, none⟩ = some (.int .u64 a0_6) ∧ w'.cell? ⟨gb185, 7, none⟩ = some (.int .u64 a0_7)) (ds := []) #[false, false, false, false, false, false, false, false, false, false] (by kernel_rfl) rfl rfl ⟨(blk_cell BK185.out 0).trans rfl, (blk_cell BK185.out 1).trans rfl, (blk_cell BK185.out 2).trans rfl, (blk_cell BK185.out 3).trans rfl, (blk_cell BK185.out 4).trans rfl, (blk_cell BK185.out 5).trans rfl, (blk_cell BK185.out 6).trans rfl, (blk_cell BK185.out 7).trans rfl⟩ (fun hHeld => ?_); refine with_tabW text_words.tab4 text_words.bits4 (fun HT_ HW_ => ?_)
     generalize wc.drew = w15 at BK185 HB hHeld ⊢
     refine pure_ (i := 0) (N := some 19) (v := ?_) (a' := ?_) #[true, false, false, false, false, false, false, false, false, false] rfl rfl (any_of HT_.out (by kernel_rfl)) (fun _ _ _ h => h) (Or.inl ⟨by rfl, ?_⟩) ?_ ?_
     rotate_left
     ·intro w'
      go_simp
      with_reducible rfl
     rotate_left
     ·simp only [Act.put, List.setIfInBounds_toArray, List.set_cons_zero, List.set_cons_succ, i64_w, i32_w]
      rfl
     refine pure_ (i := 1) (N := some 20) (v := ?_) (a' := ?_) #[true, true, false, false, false, false, false, false, false, false] rfl rfl (any_of HT_.out (by kernel_rfl)) (fun _ _ _ h => h) (Or.inl ⟨by rfl, ?_⟩) ?_ ?_
     rotate_left
     ·intro w'
      go_simp
      with_reducible rfl
     rotate_left
     ·simp only [Act.put, List.setIfInBounds_toArray, List.set_cons_zero, List.set_cons_succ, i64_w, i32_w]
      rfl
     refine pure_ (i := 4) (N := some 23) (v := ?_) (a' := ?_) #[true, true, false, false, true, false, false, false, false, false] rfl rfl (any_of HT_.out (by kernel_rfl)) (fun _ _ _ h => h) (Or.inl ⟨by rfl, ?_⟩) ?_ ?_
     rotate_left
     ·intro w'
      go_simp
      with_reducible rfl
     rotate_left
     ·simp only [Act.put, List.setIfInBounds_toArray, List.set_cons_zero, List.set_cons_succ, i64_w, i32_w]
      rfl
     refine pure_ (i := 7) (N := some 26) (v := ?_) (a' := ?_) #[true, true, false, false, true, false, false, true, false, false] rfl rfl (any_of HT_.out (by kernel_rfl)) (fun _ _ _ h => h) (Or.inl ⟨by rfl, ?_⟩) ?_ ?_
     rotate_left
     ·intro w'
      go_simp
      with_reducible rfl
     rotate_left
     ·simp only [Act.put, List.setIfInBounds_toArray, List.set_cons_zero, List.set_cons_succ, i64_w, i32_w]
      rfl
     refine take_ (i := 2) (N := some 21) (v := ?_) (a' := ?_) #[true, true, true, false, true, false, false, true, false, false] rfl rfl (take_ofW HT_.out HW_.out (by kernel_rfl)) (fun _ _ _ h => h) (Or.inl ⟨by rfl, ?_⟩) hHeld ?_ ?_
     rotate_left
     ·rintro w' ⟨s0, s1, s2, s3, s4, s5, s6, s7⟩
      go_simp
      with_reducible rfl
     rotate_left
     ·simp only [Act.put, List.setIfInBounds_toArray, List.set_cons_zero, List.set_cons_succ, i64_w, i32_w]
      rfl
     refine take_ (i := 5) (N := some 24) (v := ?_) (a' := ?_) #[true, true, true, false, true, true, false, true, false, false] rfl rfl (take_ofW HT_.out HW_.out (by kernel_rfl)) (fun _ _ _ h => h) (Or.inl ⟨by rfl, ?_⟩) hHeld ?_ ?_
     rotate_left
     ·rintro w' ⟨s0, s1, s2, s3, s4, s5, s6, s7⟩
      go_simp
      with_reducible rfl
     rotate_left
     ·simp only [Act.put, List.setIfInBounds_toArray, List.set_cons_zero, List.set_cons_succ, i64_w, i32_w]
      rfl
     refine one_ (i := 3) (N := some 22) #[true, true, true, true, true, true, false, true, false, false] rfl rfl (one_of HT_.out (by kernel_rfl)) (by decide) (fun K hK => ?_)
     refine goes_ Tryd.func72 (by kernel_rfl) rfl #[.int .u32 a0_4] (by rfl) rfl rfl t23_3 ?_
     with_reducible refine (text_tens_uint32.calls a0_4 t188 _ ?side1 A11.out).mono ?_
     (case side1 => exact (Laid.below HLL.out t23_0))
     rintro e w16 ⟨rfl, hb⟩
     refine ⟨_, rfl, ?_⟩
     have n0_ := Aside0.mk (blk_below (g := gb185) (o := .cells #[.int .u8 a0_0, .int .i64 a0_1, .slice A0_2 l0_2.length c0_2, .string a0_3, .int .u32 a0_4, .int .i64 a0_5, .int .u64 a0_6, .int .u64 a0_7] 40 (0, 0)) t23_1 hb)
     have n1_ := Aside0.mk (below_step t23_0 hb)
     clear BK185
     clear HB
     have BK185 := n0_
     have HB := n1_
     clear n0_ n1_
     (try clear hb)
     refine hK.out _ _ ⟨(blk_cell BK185.out 0).trans rfl, (blk_cell BK185.out 1).trans rfl, (blk_cell BK185.out 2).trans rfl, (blk_cell BK185.out 3).trans rfl, (blk_cell BK185.out 4).trans rfl, (blk_cell BK185.out 5).trans rfl, (blk_cell BK185.out 6).trans rfl, (blk_cell BK185.out 7).trans rfl⟩ (fun hHeld => ?_)
     clear hK K
     refine norm_ (a' := ?_) ?_ ?_
     rotate_left
     ·show Act.put _ (some 22) _ = _
      simp only [Act.put, List.setIfInBounds_toArray, List.set_cons_zero, List.set_cons_succ, i64_w, i32_w]
      rfl
     refine one_ (i := 6) (N := some 25) #[true, true, true, true, true, true, true, true, false, false] rfl rfl (one_of HT_.out (by kernel_rfl)) (by decide) (fun K hK => ?_)
     refine goes_ Tryd.func37 (by kernel_rfl) rfl #[.int .i64 a0_5] (by rfl) rfl rfl t23_3 ?_
     with_reducible refine (text_tens_int.calls a0_5 t189 _ ?side1 A12.out).mono ?_
     (case side1 => exact (Laid.below HLL.out t23_0))
     rintro e w17 ⟨rfl, hb⟩
     refine ⟨_, rfl, ?_⟩
     have n0_ := Aside0.mk (blk_below (g := gb185) (o := .cells #[.int .u8 a0_0, .int .i64 a0_1, .slice A0_2 l0_2.length c0_2, .string a0_3, .int .u32 a0_4, .int .i64 a0_5, .int .u64 a0_6, .int .u64 a0_7] 40 (0, 0)) t23_1 hb)
     have n1_ := Aside0.mk (below_step t23_0 hb)
     clear BK185
     clear HB
     have BK185 := n0_
     have HB := n1_
     clear n0_ n1_
     (try clear hb)
     refine hK.out _ _ ⟨(blk_cell BK185.out 0).trans rfl, (blk_cell BK185.out 1).trans rfl, (blk_cell BK185.out 2).trans rfl, (blk_cell BK185.out 3).trans rfl, (blk_cell BK185.out 4).trans rfl, (blk_cell BK185.out 5).trans rfl, (blk_cell BK185.out 6).trans rfl, (blk_cell BK185.out 7).trans rfl⟩ (fun hHeld => ?_)
     clear hK K
     refine norm_ (a' := ?_) ?_ ?_
     rotate_left
     ·show Act.put _ (some 25) _ = _
      simp only [Act.put, List.setIfInBounds_toArray, List.set_cons_zero, List.set_cons_succ, i64_w, i32_w]
      rfl
     refine one_ (i := 8) (N := some 27) #[true, true, true, true, true, true, true, true, true, false] rfl rfl (one_of HT_.out (by kernel_rfl)) (by decide) (fun K hK => ?_)
     refine Kd.R_lit_step Kd.string _ 9 ?hg (N := 27) ?hd (xs := ([x4_2, t188, t189, t186] : List ByteArray)) (inner := [.string x4_2, .string t188, .string t189, .string t186]) (ok := fun _ => True) (okp := fun _ => True) ?hr ?hp (fun _ hk => hk) trivial (Below.refl _ _) (Nat.le_refl _) (by simp) ?_; (case hd => rfl); (case hg => rfl); (case hr => first | (go_simp; done) | (go_simp; rfl)); (case hp => exact (Reps.one (show Kd.M Kd.string _ _ _ x4_2 [.string x4_2] from rfl) (Reps.one (show Kd.M Kd.string _ _ _ t188 [.string t188] from rfl) (Reps.one (show Kd.M Kd.string _ _ _ t189 [.string t189] from rfl) (Reps.one (show Kd.M Kd.string _ _ _ t186 [.string t186] from rfl) (Reps.none _ _))))))
     intro v191 w18 ho19 hb hg_ hnew_
     clear hg_ hnew_
     (first | rw [← Ny190.out] at ho19 | (simp only [Int.reduceToNat] at ho19; rw [← Ny190.out] at ho19))
     have n0_ := Aside0.mk (Kd.R_lower ho19 (below_size t23_0))
     have n1_ := Aside0.mk (blk_below (g := gb185) (o := .cells #[.int .u8 a0_0, .int .i64 a0_1, .slice A0_2 l0_2.length c0_2, .string a0_3, .int .u32 a0_4, .int .i64 a0_5, .int .u64 a0_6, .int .u64 a0_7] 40 (0, 0)) t23_1 hb)
     have n2_ := Aside0.mk (below_step t23_0 hb)
     clear BK185
     clear HB
     have HO192 := n0_
     have BK185 := n1_
     have HB := n2_
     clear n0_ n1_ n2_
     clear hb ho19
     refine hK.out _ _ ⟨(blk_cell BK185.out 0).trans rfl, (blk_cell BK185.out 1).trans rfl, (blk_cell BK185.out 2).trans rfl, (blk_cell BK185.out 3).trans rfl, (blk_cell BK185.out 4).trans rfl, (blk_cell BK185.out 5).trans rfl, (blk_cell BK185.out 6).trans rfl, (blk_cell BK185.out 7).trans rfl⟩ (fun hHeld => ?_)
     clear hK K
     refine norm_ (a' := ?_) ?_ ?_
     rotate_left
     ·show Act.put _ (some 27) _ = _
      simp only [Act.put, List.setIfInBounds_toArray, List.set_cons_zero, List.set_cons_succ, i64_w, i32_w]
      rfl
     refine pure_ (i := 9) (N := some 6) (v := ?_) (a' := ?_) #[true, true, true, true, true, true, true, true, true, true] rfl rfl (any_of HT_.out (by kernel_rfl)) (fun _ _ _ h => h) (Or.inl ⟨by rfl, ?_⟩) ?_ ?_
     rotate_left
     ·intro w'
      go_simp
      with_reducible rfl
     rotate_left
     ·simp only [Act.put, List.setIfInBounds_toArray, List.set_cons_zero, List.set_cons_succ, i64_w, i32_w]
      rfl
     refine done_ (done_of HT_.out (by kernel_rfl)) ?_
     have hz20 := blk8 BK185.out
     try go_wp2_with (first | ((with_reducible refine gate_dst (N := 32) rfl ?_); refine Kd.R_lit Kd.string _ 9 ?hg (N := 32) ?hd (xs := ([(⟨#[103, 101, 116]⟩ : ByteArray)] : List ByteArray)) (inner := [.string (⟨#[103, 101, 116]⟩ : ByteArray)]) (ok := fun _ => True) (okp := fun _ => True) ?hr ?hp (fun _ hk => hk) trivial (Below.refl _ _) (Nat.le_refl _) (by simp) ?_; (case hd => rfl); (case hg => rfl); (case hr => first | (go_simp; done) | (go_simp; rfl)); (case hp => exact (Reps.one (show Kd.M Kd.string _ _ _ (⟨#[103, 101, 116]⟩ : ByteArray) [.string (⟨#[103, 101, 116]⟩ : ByteArray)] from rfl) (Reps.none _ _))); intro v194 w21 ho22 hb hg_ hnew_; clear hg_ hnew_; (first | rw [← Ny193.out] at ho22 | (simp only [Int.reduceToNat] at ho22; rw [← Ny193.out] at ho22)); have n0_ := Aside0.mk (Kd.R_elder' t23_4 (Kd.R_base ho22) hb); have n1_ := Aside0.mk (Kd.R_lower (Kd.R_new' ho22 (Kd.R_lt t23_4)) (below_size t23_0)); have n2_ := Aside0.mk (blk_below (g := gb185) (o := .cells #[.int .u8 a0_0, .int .i64 a0_1, .slice A0_2 l0_2.length c0_2, .string a0_3, .int .u32 a0_4, .int .i64 a0_5, .int .u64 a0_6, .int .u64 a0_7] 40 (0, 0)) t23_1 hb); have n3_ := Aside0.mk (below_step t23_0 hb); clear HO192; clear BK185; clear HB; have HO192 := n0_; have HO195 := n1_; have BK185 := n2_; have HB := n3_; clear n0_ n1_ n2_ n3_; clear hb ho22; have hz23 := blk8 BK185.out) | ((with_reducible refine gate_builtin (b := .append) (xs := #[.tmp 32, .tmp 34]) rfl ?_); at_builtin; refine Kd.R_append_rows Kd.string (w0 := w) w.heap.size rfl (.tmp 32) (.tmp 34) 37 9 (.string ⟨#[]⟩) 16 rfl Tryd.underlying37 info9 rfl (by decide) (by omega) v194 y193 l0_2 _ _ _ (fun k_ => some k_ ≠ (v191 : Value).ownBlock) (fun _ => False) rfl rfl ?aO ?aR (fun _ _ h => h) (fun _ h => h.elim) ?aF ?aB ?aS ?aL ?_; (case aR => repeat (first | exact (Kd.C_below HR0_2.out HB.out) | (with_reducible refine Kd.C_alloc ?_ _) | (with_reducible refine Kd.C_drewN ?_ _) | (with_reducible refine Kd.C_drew ?_))); (case aB => exact t23_0); (case aF => exact (fun k_ hk => Kd.fresh' (Kd.R_lt t23_4) k_ hk)); (case aO => exact (by (with_reducible repeat (first | apply Kd.R_alloc | apply Kd.R_drewN | apply Kd.R_drew)); exact Kd.R_mono HO195.out (fun _ hk => hk.2))); (case aS => exact (below_size t23_0)); (case aL => have := LMc14.out; omega); intro v197 w24 ho hb hg hat; rw [← Ny196.out] at ho; have n0_ := Aside0.mk (blk_grown (g := gb185) (o := .cells #[.int .u8 a0_0, .int .i64 a0_1, .slice A0_2 l0_2.length c0_2, .string a0_3, .int .u32 a0_4, .int .i64 a0_5, .int .u64 a0_6, .int .u64 a0_7] 40 (0, 0)) t23_1 hg (Kd.R_ne HO195.out BK185.out (by decide))); have n1_ := Aside0.mk (Kd.R_after (ok := (fun _ => True)) t23_4 hg hat); have n2_ := Aside0.mk (hb); have n3_ := Aside0.mk (ho); clear BK185; clear HO192; clear HB; clear HO195; have BK185 := n0_; have HO192 := n1_; have HB := n2_; have HO198 := n3_; clear n0_ n1_ n2_ n3_; clear ho hb hg hat))
     go_ret2
     exact ⟨_, t23_5, by (with_reducible repeat (first | apply Kd.R_alloc | apply Kd.R_drewN | apply Kd.R_drew)); exact Kd.R_mono HO198.out (fun _ hk => trivial), t23_0⟩
    ·rw [if_neg c14] at H
     exact absurd H (by simp)
   ·rw [if_neg c13] at H
    have c13b0 : (a0_0 == 1) = false := beq_eq_false_iff_ne.mpr c13
    have c13b1 : (a0_0 != 1) = true := bne_iff_ne.mpr c13
    by_cases c25 : a0_0 = 10
    ·rw [if_pos c25] at H
     have c25b0 : (a0_0 == 10) = true := beq_iff_eq.mpr c25
     have c25b1 : (a0_0 != 10) = false := bne_eq_false_iff_eq.mpr c25
     clear c25
     obtain ⟨y199, hy199⟩ : ∃ y_ : List ByteArray, y_ = (([(⟨#[100, 101, 108, 101, 116, 101]⟩ : ByteArray)] : List ByteArray)) := ⟨_, rfl⟩
     replace H : (if y199.length + l0_2.length < 8796093022208 then (some ((y199 ++ l0_2), false)) else (none)) = some (r1, r2) := by first | (rw [hy199]; with_reducible exact H) | (have H2_ := (Option.bind_some _ _).symm.trans H; rw [hy199]; with_reducible exact H2_) | (have H2_ := (Option.bind_some _ _).symm.trans H; with_reducible exact H2_) | with_reducible exact H | (rw [hy199]; exact H) | exact H
     have Ny199 := Aside0.mk hy199
     clear hy199
     by_cases c26 : y199.length + l0_2.length < 8796093022208
     ·rw [if_pos c26] at H
      have LMc26 := Aside0.mk c26
      clear c26
      obtain ⟨y202, hy202⟩ : ∃ y_ : List ByteArray, y_ = (y199 ++ l0_2) := ⟨_, rfl⟩
      replace H : (some (y202, false)) = some (r1, r2) := by first | (rw [hy202]; with_reducible exact H) | (have H2_ := (Option.bind_some _ _).symm.trans H; rw [hy202]; with_reducible exact H2_) | (have H2_ := (Option.bind_some _ _).symm.trans H; with_reducible exact H2_) | with_reducible exact H | (rw [hy202]; exact H) | exact H
      have Ny202 := Aside0.mk hy202
      clear hy202
      simp only [Option.some.injEq, Prod.mk.injEq] at H
      obtain ⟨rfl, rfl⟩ := H
      try go_wp2
      have n0_ := Aside0.mk (blk_drew BK185.out)
      have n1_ := Aside0.mk (below_drew1 HB.out)
      clear BK185
      clear HB
      have BK185 := n0_
      have HB := n1_
      clear n0_ n1_
      refine start_ (n := 10) (S := fun w' => w'.cell? ⟨gb185, 0, none⟩ = some (.int .u8 a0_0) ∧ w'.cell? ⟨gb185, 1, none⟩ = some (.int .i64 a0_1) ∧ w'.cell? ⟨gb185, 2, none⟩ = some (.slice A0_2 l0_2.length c0_2) ∧ w'.cell? ⟨gb185, 3, none⟩ = some (.string a0_3) ∧ w'.cell? ⟨gb185, 4, none⟩ = some (.int .u32 a0_4) ∧ w'.cell? ⟨gb185, 5, none⟩ = some (.int .i64 a0_5) ∧ w'.cell? ⟨gb185, 6, none⟩ = some (.int .u64 a0_6) ∧ w'.cell? ⟨gb185, 7, none⟩ = some (.int .u64 a0_7)) (ds := []) #[false, false, false, false, false, false, false, false, false, false] (by kernel_rfl) rfl rfl ⟨(blk_cell BK185.out 0).trans rfl, (blk_cell BK185.out 1).trans rfl, (blk_cell BK185.out 2).trans rfl, (blk_cell BK185.out 3).trans rfl, (blk_cell BK185.out 4).trans rfl, (blk_cell BK185.out 5).trans rfl, (blk_cell BK185.out 6).trans rfl, (blk_cell BK185.out 7).trans rfl⟩ (fun hHeld => ?_); refine with_tabW text_words.tab4 text_words.bits4 (fun HT_ HW_ => ?_)
      generalize wc.drew = w27 at BK185 HB hHeld ⊢
      refine pure_ (i := 0) (N := some 19) (v := ?_) (a' := ?_) #[true, false, false, false, false, false, false, false, false, false] rfl rfl (any_of HT_.out (by kernel_rfl)) (fun _ _ _ h => h) (Or.inl ⟨by rfl, ?_⟩) ?_ ?_
      rotate_left
      ·intro w'
       go_simp
       with_reducible rfl
      rotate_left
      ·simp only [Act.put, List.setIfInBounds_toArray, List.set_cons_zero, List.set_cons_succ, i64_w, i32_w]
       rfl
      refine pure_ (i := 1) (N := some 20) (v := ?_) (a' := ?_) #[true, true, false, false, false, false, false, false, false, false] rfl rfl (any_of HT_.out (by kernel_rfl)) (fun _ _ _ h => h) (Or.inl ⟨by rfl, ?_⟩) ?_ ?_
      rotate_left
      ·intro w'
       go_simp
       with_reducible rfl
      rotate_left
      ·simp only [Act.put, List.setIfInBounds_toArray, List.set_cons_zero, List.set_cons_succ, i64_w, i32_w]
       rfl
      refine pure_ (i := 4) (N := some 23) (v := ?_) (a' := ?_) #[true, true, false, false, true, false, false, false, false, false] rfl rfl (any_of HT_.out (by kernel_rfl)) (fun _ _ _ h => h) (Or.inl ⟨by rfl, ?_⟩) ?_ ?_
      rotate_left
      ·intro w'
       go_simp
       with_reducible rfl
      rotate_left
      ·simp only [Act.put, List.setIfInBounds_toArray, List.set_cons_zero, List.set_cons_succ, i64_w, i32_w]
       rfl
      refine pure_ (i := 7) (N := some 26) (v := ?_) (a' := ?_) #[true, true, false, false, true, false, false, true, false, false] rfl rfl (any_of HT_.out (by kernel_rfl)) (fun _ _ _ h => h) (Or.inl ⟨by rfl, ?_⟩) ?_ ?_
      rotate_left
      ·intro w'
       go_simp
       with_reducible rfl
      rotate_left
      ·simp only [Act.put, List.setIfInBounds_toArray, List.set_cons_zero, List.set_cons_succ, i64_w, i32_w]
       rfl
      refine take_ (i := 2) (N := some 21) (v := ?_) (a' := ?_) #[true, true, true, false, true, false, false, true, false, false] rfl rfl (take_ofW HT_.out HW_.out (by kernel_rfl)) (fun _ _ _ h => h) (Or.inl ⟨by rfl, ?_⟩) hHeld ?_ ?_
      rotate_left
      ·rintro w' ⟨s0, s1, s2, s3, s4, s5, s6, s7⟩
       go_simp
       with_reducible rfl
      rotate_left
      ·simp only [Act.put, List.setIfInBounds_toArray, List.set_cons_zero, List.set_cons_succ, i64_w, i32_w]
       rfl
      refine take_ (i := 5) (N := some 24) (v := ?_) (a' := ?_) #[true, true, true, false, true, true, false, true, false, false] rfl rfl (take_ofW HT_.out HW_.out (by kernel_rfl)) (fun _ _ _ h => h) (Or.inl ⟨by rfl, ?_⟩) hHeld ?_ ?_
      rotate_left
      ·rintro w' ⟨s0, s1, s2, s3, s4, s5, s6, s7⟩
       go_simp
       with_reducible rfl
      rotate_left
      ·simp only [Act.put, List.setIfInBounds_toArray, List.set_cons_zero, List.set_cons_succ, i64_w, i32_w]
       rfl
      refine one_ (i := 3) (N := some 22) #[true, true, true, true, true, true, false, true, false, false] rfl rfl (one_of HT_.out (by kernel_rfl)) (by decide) (fun K hK => ?_)
      refine goes_ Tryd.func72 (by kernel_rfl) rfl #[.int .u32 a0_4] (by rfl) rfl rfl t23_3 ?_
      with_reducible refine (text_tens_uint32.calls a0_4 t188 _ ?side1 A11.out).mono ?_
      (case side1 => exact (Laid.below HLL.out t23_0))
      rintro e w28 ⟨rfl, hb⟩
      refine ⟨_, rfl, ?_⟩
      have n0_ := Aside0.mk (blk_below (g := gb185) (o := .cells #[.int .u8 a0_0, .int .i64 a0_1, .slice A0_2 l0_2.length c0_2, .string a0_3, .int .u32 a0_4, .int .i64 a0_5, .int .u64 a0_6, .int .u64 a0_7] 40 (0, 0)) t23_1 hb)
      have n1_ := Aside0.mk (below_step t23_0 hb)
      clear BK185
      clear HB
      have BK185 := n0_
      have HB := n1_
      clear n0_ n1_
      (try clear hb)
      refine hK.out _ _ ⟨(blk_cell BK185.out 0).trans rfl, (blk_cell BK185.out 1).trans rfl, (blk_cell BK185.out 2).trans rfl, (blk_cell BK185.out 3).trans rfl, (blk_cell BK185.out 4).trans rfl, (blk_cell BK185.out 5).trans rfl, (blk_cell BK185.out 6).trans rfl, (blk_cell BK185.out 7).trans rfl⟩ (fun hHeld => ?_)
      clear hK K
      refine norm_ (a' := ?_) ?_ ?_
      rotate_left
      ·show Act.put _ (some 22) _ = _
       simp only [Act.put, List.setIfInBounds_toArray, List.set_cons_zero, List.set_cons_succ, i64_w, i32_w]
       rfl
      refine one_ (i := 6) (N := some 25) #[true, true, true, true, true, true, true, true, false, false] rfl rfl (one_of HT_.out (by kernel_rfl)) (by decide) (fun K hK => ?_)
      refine goes_ Tryd.func37 (by kernel_rfl) rfl #[.int .i64 a0_5] (by rfl) rfl rfl t23_3 ?_
      with_reducible refine (text_tens_int.calls a0_5 t189 _ ?side1 A12.out).mono ?_
      (case side1 => exact (Laid.below HLL.out t23_0))
      rintro e w29 ⟨rfl, hb⟩
      refine ⟨_, rfl, ?_⟩
      have n0_ := Aside0.mk (blk_below (g := gb185) (o := .cells #[.int .u8 a0_0, .int .i64 a0_1, .slice A0_2 l0_2.length c0_2, .string a0_3, .int .u32 a0_4, .int .i64 a0_5, .int .u64 a0_6, .int .u64 a0_7] 40 (0, 0)) t23_1 hb)
      have n1_ := Aside0.mk (below_step t23_0 hb)
      clear BK185
      clear HB
      have BK185 := n0_
      have HB := n1_
      clear n0_ n1_
      (try clear hb)
      refine hK.out _ _ ⟨(blk_cell BK185.out 0).trans rfl, (blk_cell BK185.out 1).trans rfl, (blk_cell BK185.out 2).trans rfl, (blk_cell BK185.out 3).trans rfl, (blk_cell BK185.out 4).trans rfl, (blk_cell BK185.out 5).trans rfl, (blk_cell BK185.out 6).trans rfl, (blk_cell BK185.out 7).trans rfl⟩ (fun hHeld => ?_)
      clear hK K
      refine norm_ (a' := ?_) ?_ ?_
      rotate_left
      ·show Act.put _ (some 25) _ = _
       simp only [Act.put, List.setIfInBounds_toArray, List.set_cons_zero, List.set_cons_succ, i64_w, i32_w]
       rfl
      refine one_ (i := 8) (N := some 27) #[true, true, true, true, true, true, true, true, true, false] rfl rfl (one_of HT_.out (by kernel_rfl)) (by decide) (fun K hK => ?_)
      refine Kd.R_lit_step Kd.string _ 9 ?hg (N := 27) ?hd (xs := ([x4_2, t188, t189, t186] : List ByteArray)) (inner := [.string x4_2, .string t188, .string t189, .string t186]) (ok := fun _ => True) (okp := fun _ => True) ?hr ?hp (fun _ hk => hk) trivial (Below.refl _ _) (Nat.le_refl _) (by simp) ?_; (case hd => rfl); (case hg => rfl); (case hr => first | (go_simp; done) | (go_simp; rfl)); (case hp => exact (Reps.one (show Kd.M Kd.string _ _ _ x4_2 [.string x4_2] from rfl) (Reps.one (show Kd.M Kd.string _ _ _ t188 [.string t188] from rfl) (Reps.one (show Kd.M Kd.string _ _ _ t189 [.string t189] from rfl) (Reps.one (show Kd.M Kd.string _ _ _ t186 [.string t186] from rfl) (Reps.none _ _))))))
      intro v191 w30 ho31 hb hg_ hnew_
      clear hg_ hnew_
      (first | rw [← Ny190.out] at ho31 | (simp only [Int.reduceToNat] at ho31; rw [← Ny190.out] at ho31))
      have n0_ := Aside0.mk (Kd.R_lower ho31 (below_size t23_0))
      have n1_ := Aside0.mk (blk_below (g := gb185) (o := .cells #[.int .u8 a0_0, .int .i64 a0_1, .slice A0_2 l0_2.length c0_2, .string a0_3, .int .u32 a0_4, .int .i64 a0_5, .int .u64 a0_6, .int .u64 a0_7] 40 (0, 0)) t23_1 hb)
      have n2_ := Aside0.mk (below_step t23_0 hb)
      clear BK185
      clear HB
      have HO192 := n0_
      have BK185 := n1_
      have HB := n2_
      clear n0_ n1_ n2_
      clear hb ho31
      refine hK.out _ _ ⟨(blk_cell BK185.out 0).trans rfl, (blk_cell BK185.out 1).trans rfl, (blk_cell BK185.out 2).trans rfl, (blk_cell BK185.out 3).trans rfl, (blk_cell BK185.out 4).trans rfl, (blk_cell BK185.out 5).trans rfl, (blk_cell BK185.out 6).trans rfl, (blk_cell BK185.out 7).trans rfl⟩ (fun hHeld => ?_)
      clear hK K
      refine norm_ (a' := ?_) ?_ ?_
      rotate_left
      ·show Act.put _ (some 27) _ = _
       simp only [Act.put, List.setIfInBounds_toArray, List.set_cons_zero, List.set_cons_succ, i64_w, i32_w]
       rfl
      refine pure_ (i := 9) (N := some 6) (v := ?_) (a' := ?_) #[true, true, true, true, true, true, true, true, true, true] rfl rfl (any_of HT_.out (by kernel_rfl)) (fun _ _ _ h => h) (Or.inl ⟨by rfl, ?_⟩) ?_ ?_
      rotate_left
      ·intro w'
       go_simp
       with_reducible rfl
      rotate_left
      ·simp only [Act.put, List.setIfInBounds_toArray, List.set_cons_zero, List.set_cons_succ, i64_w, i32_w]
       rfl
      refine done_ (done_of HT_.out (by kernel_rfl)) ?_
      have hz32 := blk8 BK185.out
      try go_wp2_with (first | ((with_reducible refine gate_dst (N := 38) rfl ?_); refine Kd.R_lit Kd.string _ 9 ?hg (N := 38) ?hd (xs := ([(⟨#[100, 101, 108, 101, 116, 101]⟩ : ByteArray)] : List ByteArray)) (inner := [.string (⟨#[100, 101, 108, 101, 116, 101]⟩ : ByteArray)]) (ok := fun _ => True) (okp := fun _ => True) ?hr ?hp (fun _ hk => hk) trivial (Below.refl _ _) (Nat.le_refl _) (by simp) ?_; (case hd => rfl); (case hg => rfl); (case hr => first | (go_simp; done) | (go_simp; rfl)); (case hp => exact (Reps.one (show Kd.M Kd.string _ _ _ (⟨#[100, 101, 108, 101, 116, 101]⟩ : ByteArray) [.string (⟨#[100, 101, 108, 101, 116, 101]⟩ : ByteArray)] from rfl) (Reps.none _ _))); intro v200 w33 ho34 hb hg_ hnew_; clear hg_ hnew_; (first | rw [← Ny199.out] at ho34 | (simp only [Int.reduceToNat] at ho34; rw [← Ny199.out] at ho34)); have n0_ := Aside0.mk (Kd.R_elder' t23_4 (Kd.R_base ho34) hb); have n1_ := Aside0.mk (Kd.R_lower (Kd.R_new' ho34 (Kd.R_lt t23_4)) (below_size t23_0)); have n2_ := Aside0.mk (blk_below (g := gb185) (o := .cells #[.int .u8 a0_0, .int .i64 a0_1, .slice A0_2 l0_2.length c0_2, .string a0_3, .int .u32 a0_4, .int .i64 a0_5, .int .u64 a0_6, .int .u64 a0_7] 40 (0, 0)) t23_1 hb); have n3_ := Aside0.mk (below_step t23_0 hb); clear HO192; clear BK185; clear HB; have HO192 := n0_; have HO201 := n1_; have BK185 := n2_; have HB := n3_; clear n0_ n1_ n2_ n3_; clear hb ho34; have hz35 := blk8 BK185.out) | ((with_reducible refine gate_builtin (b := .append) (xs := #[.tmp 38, .tmp 40]) rfl ?_); at_builtin; refine Kd.R_append_rows Kd.string (w0 := w) w.heap.size rfl (.tmp 38) (.tmp 40) 37 9 (.string ⟨#[]⟩) 16 rfl Tryd.underlying37 info9 rfl (by decide) (by omega) v200 y199 l0_2 _ _ _ (fun k_ => some k_ ≠ (v191 : Value).ownBlock) (fun _ => False) rfl rfl ?aO ?aR (fun _ _ h => h) (fun _ h => h.elim) ?aF ?aB ?aS ?aL ?_; (case aR => repeat (first | exact (Kd.C_below HR0_2.out HB.out) | (with_reducible refine Kd.C_alloc ?_ _) | (with_reducible refine Kd.C_drewN ?_ _) | (with_reducible refine Kd.C_drew ?_))); (case aB => exact t23_0); (case aF => exact (fun k_ hk => Kd.fresh' (Kd.R_lt t23_4) k_ hk)); (case aO => exact (by (with_reducible repeat (first | apply Kd.R_alloc | apply Kd.R_drewN | apply Kd.R_drew)); exact Kd.R_mono HO201.out (fun _ hk => hk.2))); (case aS => exact (below_size t23_0)); (case aL => have := LMc26.out; omega); intro v203 w36 ho hb hg hat; rw [← Ny202.out] at ho; have n0_ := Aside0.mk (blk_grown (g := gb185) (o := .cells #[.int .u8 a0_0, .int .i64 a0_1, .slice A0_2 l0_2.length c0_2, .string a0_3, .int .u32 a0_4, .int .i64 a0_5, .int .u64 a0_6, .int .u64 a0_7] 40 (0, 0)) t23_1 hg (Kd.R_ne HO201.out BK185.out (by decide))); have n1_ := Aside0.mk (Kd.R_after (ok := (fun _ => True)) t23_4 hg hat); have n2_ := Aside0.mk (hb); have n3_ := Aside0.mk (ho); clear BK185; clear HO192; clear HB; clear HO201; have BK185 := n0_; have HO192 := n1_; have HB := n2_; have HO204 := n3_; clear n0_ n1_ n2_ n3_; clear ho hb hg hat))
      go_ret2
      exact ⟨_, t23_5, by (with_reducible repeat (first | apply Kd.R_alloc | apply Kd.R_drewN | apply Kd.R_drew)); exact Kd.R_mono HO204.out (fun _ hk => trivial), t23_0⟩
     ·rw [if_neg c26] at H
      exact absurd H (by simp)
    ·rw [if_neg c25] at H
     have c25b0 : (a0_0 == 10) = false := beq_eq_false_iff_ne.mpr c25
     have c25b1 : (a0_0 != 10) = true := bne_iff_ne.mpr c25
     have HC37 := Aside0.mk H
     clear H
     try go_wp2
     have n0_ := Aside0.mk (blk_drew BK185.out)
     have n1_ := Aside0.mk (below_drew1 HB.out)
     clear BK185
     clear HB
     have BK185 := n0_
     have HB := n1_
     clear n0_ n1_
     refine start_ (n := 10) (S := fun w' => w'.cell? ⟨gb185, 0, none⟩ = some (.int .u8 a0_0) ∧ w'.cell? ⟨gb185, 1, none⟩ = some (.int .i64 a0_1) ∧ w'.cell? ⟨gb185, 2, none⟩ = some (.slice A0_2 l0_2.length c0_2) ∧ w'.cell? ⟨gb185, 3, none⟩ = some (.string a0_3) ∧ w'.cell? ⟨gb185, 4, none⟩ = some (.int .u32 a0_4) ∧ w'.cell? ⟨gb185, 5, none⟩ = some (.int .i64 a0_5) ∧ w'.cell? ⟨gb185, 6, none⟩ = some (.int .u64 a0_6) ∧ w'.cell? ⟨gb185, 7, none⟩ = some (.int .u64 a0_7)) (ds := []) #[false, false, false, false, false, false, false, false, false, false] (by kernel_rfl) rfl rfl ⟨(blk_cell BK185.out 0).trans rfl, (blk_cell BK185.out 1).trans rfl, (blk_cell BK185.out 2).trans rfl, (blk_cell BK185.out 3).trans rfl, (blk_cell BK185.out 4).trans rfl, (blk_cell BK185.out 5).trans rfl, (blk_cell BK185.out 6).trans rfl, (blk_cell BK185.out 7).trans rfl⟩ (fun hHeld => ?_); refine with_tabW text_words.tab4 text_words.bits4 (fun HT_ HW_ => ?_)
     generalize wc.drew = w38 at BK185 HB hHeld ⊢
     refine pure_ (i := 0) (N := some 19) (v := ?_) (a' := ?_) #[true, false, false, false, false, false, false, false, false, false] rfl rfl (any_of HT_.out (by kernel_rfl)) (fun _ _ _ h => h) (Or.inl ⟨by rfl, ?_⟩) ?_ ?_
     rotate_left
     ·intro w'
      go_simp
      with_reducible rfl
     rotate_left
     ·simp only [Act.put, List.setIfInBounds_toArray, List.set_cons_zero, List.set_cons_succ, i64_w, i32_w]
      rfl
     refine pure_ (i := 1) (N := some 20) (v := ?_) (a' := ?_) #[true, true, false, false, false, false, false, false, false, false] rfl rfl (any_of HT_.out (by kernel_rfl)) (fun _ _ _ h => h) (Or.inl ⟨by rfl, ?_⟩) ?_ ?_
     rotate_left
     ·intro w'
      go_simp
      with_reducible rfl
     rotate_left
     ·simp only [Act.put, List.setIfInBounds_toArray, List.set_cons_zero, List.set_cons_succ, i64_w, i32_w]
      rfl
     refine pure_ (i := 4) (N := some 23) (v := ?_) (a' := ?_) #[true, true, false, false, true, false, false, false, false, false] rfl rfl (any_of HT_.out (by kernel_rfl)) (fun _ _ _ h => h) (Or.inl ⟨by rfl, ?_⟩) ?_ ?_
     rotate_left
     ·intro w'
      go_simp
      with_reducible rfl
     rotate_left
     ·simp only [Act.put, List.setIfInBounds_toArray, List.set_cons_zero, List.set_cons_succ, i64_w, i32_w]
      rfl
     refine pure_ (i := 7) (N := some 26) (v := ?_) (a' := ?_) #[true, true, false, false, true, false, false, true, false, false] rfl rfl (any_of HT_.out (by kernel_rfl)) (fun _ _ _ h => h) (Or.inl ⟨by rfl, ?_⟩) ?_ ?_
     rotate_left
     ·intro w'
      go_simp
      with_reducible rfl
     rotate_left
     ·simp only [Act.put, List.setIfInBounds_toArray, List.set_cons_zero, List.set_cons_succ, i64_w, i32_w]
      rfl
     refine take_ (i := 2) (N := some 21) (v := ?_) (a' := ?_) #[true, true, true, false, true, false, false, true, false, false] rfl rfl (take_ofW HT_.out HW_.out (by kernel_rfl)) (fun _ _ _ h => h) (Or.inl ⟨by rfl, ?_⟩) hHeld ?_ ?_
     rotate_left
     ·rintro w' ⟨s0, s1, s2, s3, s4, s5, s6, s7⟩
      go_simp
      with_reducible rfl
     rotate_left
     ·simp only [Act.put, List.setIfInBounds_toArray, List.set_cons_zero, List.set_cons_succ, i64_w, i32_w]
      rfl
     refine take_ (i := 5) (N := some 24) (v := ?_) (a' := ?_) #[true, true, true, false, true, true, false, true, false, false] rfl rfl (take_ofW HT_.out HW_.out (by kernel_rfl)) (fun _ _ _ h => h) (Or.inl ⟨by rfl, ?_⟩) hHeld ?_ ?_
     rotate_left
     ·rintro w' ⟨s0, s1, s2, s3, s4, s5, s6, s7⟩
      go_simp
      with_reducible rfl
     rotate_left
     ·simp only [Act.put, List.setIfInBounds_toArray, List.set_cons_zero, List.set_cons_succ, i64_w, i32_w]
      rfl
     refine one_ (i := 3) (N := some 22) #[true, true, true, true, true, true, false, true, false, false] rfl rfl (one_of HT_.out (by kernel_rfl)) (by decide) (fun K hK => ?_)
     refine goes_ Tryd.func72 (by kernel_rfl) rfl #[.int .u32 a0_4] (by rfl) rfl rfl t23_3 ?_
     with_reducible refine (text_tens_uint32.calls a0_4 t188 _ ?side1 A11.out).mono ?_
     (case side1 => exact (Laid.below HLL.out t23_0))
     rintro e w39 ⟨rfl, hb⟩
     refine ⟨_, rfl, ?_⟩
     have n0_ := Aside0.mk (blk_below (g := gb185) (o := .cells #[.int .u8 a0_0, .int .i64 a0_1, .slice A0_2 l0_2.length c0_2, .string a0_3, .int .u32 a0_4, .int .i64 a0_5, .int .u64 a0_6, .int .u64 a0_7] 40 (0, 0)) t23_1 hb)
     have n1_ := Aside0.mk (below_step t23_0 hb)
     clear BK185
     clear HB
     have BK185 := n0_
     have HB := n1_
     clear n0_ n1_
     (try clear hb)
     refine hK.out _ _ ⟨(blk_cell BK185.out 0).trans rfl, (blk_cell BK185.out 1).trans rfl, (blk_cell BK185.out 2).trans rfl, (blk_cell BK185.out 3).trans rfl, (blk_cell BK185.out 4).trans rfl, (blk_cell BK185.out 5).trans rfl, (blk_cell BK185.out 6).trans rfl, (blk_cell BK185.out 7).trans rfl⟩ (fun hHeld => ?_)
     clear hK K
     refine norm_ (a' := ?_) ?_ ?_
     rotate_left
     ·show Act.put _ (some 22) _ = _
      simp only [Act.put, List.setIfInBounds_toArray, List.set_cons_zero, List.set_cons_succ, i64_w, i32_w]
      rfl
     refine one_ (i := 6) (N := some 25) #[true, true, true, true, true, true, true, true, false, false] rfl rfl (one_of HT_.out (by kernel_rfl)) (by decide) (fun K hK => ?_)
     refine goes_ Tryd.func37 (by kernel_rfl) rfl #[.int .i64 a0_5] (by rfl) rfl rfl t23_3 ?_
     with_reducible refine (text_tens_int.calls a0_5 t189 _ ?side1 A12.out).mono ?_
     (case side1 => exact (Laid.below HLL.out t23_0))
     rintro e w40 ⟨rfl, hb⟩
     refine ⟨_, rfl, ?_⟩
     have n0_ := Aside0.mk (blk_below (g := gb185) (o := .cells #[.int .u8 a0_0, .int .i64 a0_1, .slice A0_2 l0_2.length c0_2, .string a0_3, .int .u32 a0_4, .int .i64 a0_5, .int .u64 a0_6, .int .u64 a0_7] 40 (0, 0)) t23_1 hb)
     have n1_ := Aside0.mk (below_step t23_0 hb)
     clear BK185
     clear HB
     have BK185 := n0_
     have HB := n1_
     clear n0_ n1_
     (try clear hb)
     refine hK.out _ _ ⟨(blk_cell BK185.out 0).trans rfl, (blk_cell BK185.out 1).trans rfl, (blk_cell BK185.out 2).trans rfl, (blk_cell BK185.out 3).trans rfl, (blk_cell BK185.out 4).trans rfl, (blk_cell BK185.out 5).trans rfl, (blk_cell BK185.out 6).trans rfl, (blk_cell BK185.out 7).trans rfl⟩ (fun hHeld => ?_)
     clear hK K
     refine norm_ (a' := ?_) ?_ ?_
     rotate_left
     ·show Act.put _ (some 25) _ = _
      simp only [Act.put, List.setIfInBounds_toArray, List.set_cons_zero, List.set_cons_succ, i64_w, i32_w]
      rfl
     refine one_ (i := 8) (N := some 27) #[true, true, true, true, true, true, true, true, true, false] rfl rfl (one_of HT_.out (by kernel_rfl)) (by decide) (fun K hK => ?_)
     refine Kd.R_lit_step Kd.string _ 9 ?hg (N := 27) ?hd (xs := ([x4_2, t188, t189, t186] : List ByteArray)) (inner := [.string x4_2, .string t188, .string t189, .string t186]) (ok := fun _ => True) (okp := fun _ => True) ?hr ?hp (fun _ hk => hk) trivial (Below.refl _ _) (Nat.le_refl _) (by simp) ?_; (case hd => rfl); (case hg => rfl); (case hr => first | (go_simp; done) | (go_simp; rfl)); (case hp => exact (Reps.one (show Kd.M Kd.string _ _ _ x4_2 [.string x4_2] from rfl) (Reps.one (show Kd.M Kd.string _ _ _ t188 [.string t188] from rfl) (Reps.one (show Kd.M Kd.string _ _ _ t189 [.string t189] from rfl) (Reps.one (show Kd.M Kd.string _ _ _ t186 [.string t186] from rfl) (Reps.none _ _))))))
     intro v191 w41 ho42 hb hg_ hnew_
     clear hg_ hnew_
     (first | rw [← Ny190.out] at ho42 | (simp only [Int.reduceToNat] at ho42; rw [← Ny190.out] at ho42))
     have n0_ := Aside0.mk (Kd.R_lower ho42 (below_size t23_0))
     have n1_ := Aside0.mk (blk_below (g := gb185) (o := .cells #[.int .u8 a0_0, .int .i64 a0_1, .slice A0_2 l0_2.length c0_2, .string a0_3, .int .u32 a0_4, .int .i64 a0_5, .int .u64 a0_6, .int .u64 a0_7] 40 (0, 0)) t23_1 hb)
     have n2_ := Aside0.mk (below_step t23_0 hb)
     clear BK185
     clear HB
     have HO192 := n0_
     have BK185 := n1_
     have HB := n2_
     clear n0_ n1_ n2_
     clear hb ho42
     refine hK.out _ _ ⟨(blk_cell BK185.out 0).trans rfl, (blk_cell BK185.out 1).trans rfl, (blk_cell BK185.out 2).trans rfl, (blk_cell BK185.out 3).trans rfl, (blk_cell BK185.out 4).trans rfl, (blk_cell BK185.out 5).trans rfl, (blk_cell BK185.out 6).trans rfl, (blk_cell BK185.out 7).trans rfl⟩ (fun hHeld => ?_)
     clear hK K
     refine norm_ (a' := ?_) ?_ ?_
     rotate_left
     ·show Act.put _ (some 27) _ = _
      simp only [Act.put, List.setIfInBounds_toArray, List.set_cons_zero, List.set_cons_succ, i64_w, i32_w]
      rfl
     refine pure_ (i := 9) (N := some 6) (v := ?_) (a' := ?_) #[true, true, true, true, true, true, true, true, true, true] rfl rfl (any_of HT_.out (by kernel_rfl)) (fun _ _ _ h => h) (Or.inl ⟨by rfl, ?_⟩) ?_ ?_
     rotate_left
     ·intro w'
      go_simp
      with_reducible rfl
     rotate_left
     ·simp only [Act.put, List.setIfInBounds_toArray, List.set_cons_zero, List.set_cons_succ, i64_w, i32_w]
      rfl
     refine done_ (done_of HT_.out (by kernel_rfl)) ?_
     have hz43 := blk8 BK185.out
     go_upto_if 42 with (fail)
     go_cut [42] (fun v42 wc => ∃ (kq : Nat) (x42_36 : Bool), v42 = .bool x42_36 ∧ Aside0 (text_words.j1 kq x4_2 t186 y190 a0_0 x42_36 a0_0 a0_1 l0_2 a0_3 a0_4 a0_5 a0_6 a0_7 = some (r1, r2)) ∧ Aside0 (kq ≤ kj2) ∧ Aside0 (Kd.R Kd.string 9 wc w.heap.size (fun _ => True) v191 y190) ∧ Aside0 (wc.heap[gb185]? = some (.cells #[.int .u8 a0_0, .int .i64 a0_1, (.slice A0_2 l0_2.length c0_2), .string a0_3, .int .u32 a0_4, .int .i64 a0_5, .int .u64 a0_6, .int .u64 a0_7] 40 (0, 0))) ∧ Aside0 (Below w.heap.size w wc))
     case first =>
      have H := HC37.out
      clear HC37
      by_cases c44 : a0_0 = 2
      ·rw [if_pos c44] at H
       have c44b0 : (a0_0 == 2) = true := beq_iff_eq.mpr c44
       have c44b1 : (a0_0 != 2) = false := bne_eq_false_iff_eq.mpr c44
       clear c44
       (first | rw [c44b0] | (simp only [i64_w, i32_w]; rw [c44b0]) | rw [c44b1] | skip)
       have H' := Aside0.mk H
       clear H
       go_wp2
       go_meet
       case rel => exact ⟨_, ((a0_0 == 2)), t23_6, H', ⟨by have := HJ2.out; first | omega | exact Nat.le_refl _⟩, ⟨t23_4⟩, ⟨t23_1⟩, ⟨t23_0⟩⟩
      ·rw [if_neg c44] at H
       have c44b0 : (a0_0 == 2) = false := beq_eq_false_iff_ne.mpr c44
       have c44b1 : (a0_0 != 2) = true := bne_iff_ne.mpr c44
       (first | rw [c44b0] | (simp only [i64_w, i32_w]; rw [c44b0]) | rw [c44b1] | skip)
       by_cases c45 : a0_0 = 3
       ·rw [if_pos c45] at H
        have c45b0 : (a0_0 == 3) = true := beq_iff_eq.mpr c45
        have c45b1 : (a0_0 != 3) = false := bne_eq_false_iff_eq.mpr c45
        clear c45
        have H' := Aside0.mk H
        clear H
        go_wp2
        go_meet
        case rel => exact ⟨_, ((a0_0 == 3)), t23_6, H', ⟨by have := HJ2.out; first | omega | exact Nat.le_refl _⟩, ⟨t23_4⟩, ⟨t23_1⟩, ⟨t23_0⟩⟩
       ·rw [if_neg c45] at H
        have c45b0 : (a0_0 == 3) = false := beq_eq_false_iff_ne.mpr c45
        have c45b1 : (a0_0 != 3) = true := bne_iff_ne.mpr c45
        have H' := Aside0.mk H
        clear H
        go_wp2
        go_meet
        case rel => exact ⟨_, ((a0_0 == 4)), t23_6, H', ⟨by have := HJ2.out; first | omega | exact Nat.le_refl _⟩, ⟨t23_4⟩, ⟨t23_1⟩, ⟨t23_0⟩⟩
     case rest => as_aux_lemma =>
      clear HC37
      (try clear c13); (try clear c13b0); (try clear c13b1); (try clear c25); (try clear c25b0); (try clear c25b1); (try clear hz43); (try clear hz5); (try clear hz7)
      obtain ⟨kq, x42_36, rfl, HA, HJ36, HO_6, BK185, HB⟩ := hcut
      cases kq with
      | zero => exact absurd HA.out (by simp [text_words.j1])
      | succ kj36 =>
       have H := HA.out
       clear HA
       simp only [text_words.j1] at H
       by_cases c46 : x42_36 = true
       ·subst c46
        rw [if_pos rfl] at H
        obtain ⟨y205, hy205⟩ : ∃ y_ : List ByteArray, y_ = (([(⟨#[115, 101, 116]⟩ : ByteArray), (⟨#[97, 100, 100]⟩ : ByteArray), (⟨#[114, 101, 112, 108, 97, 99, 101]⟩ : ByteArray)] : List ByteArray)) := ⟨_, rfl⟩
        replace H : (if 0 ≤ ((a0_0 - 2) % 256) then (if ((a0_0 - 2) % 256) < (y205.length : Int) then ((some (([rdOf ByteArray.empty y205 ((a0_0 - 2) % 256)] : List ByteArray) : List ByteArray)).bind fun y209 => (if y209.length + y190.length < 8796093022208 then (some ((y209 ++ y190), true)) else (none))) else (none)) else (none)) = some (r1, r2) := by first | (rw [hy205]; with_reducible exact H) | (have H2_ := (Option.bind_some _ _).symm.trans H; rw [hy205]; with_reducible exact H2_) | (have H2_ := (Option.bind_some _ _).symm.trans H; with_reducible exact H2_) | with_reducible exact H | (rw [hy205]; exact H) | exact H
        have Ny205 := Aside0.mk hy205
        clear hy205
        obtain ⟨ji47, hji47⟩ : ∃ j_ : Int, ((a0_0 - 2) % 256) = j_ := ⟨_, rfl⟩
        replace H : (if 0 ≤ (ji47) then (if (ji47) < (y205.length : Int) then ((some (([rdOf ByteArray.empty y205 (ji47)] : List ByteArray) : List ByteArray)).bind fun y209 => (if y209.length + y190.length < 8796093022208 then (some ((y209 ++ y190), true)) else (none))) else (none)) else (none)) = some (r1, r2) := by first | (rw [hji47] at H; exact H) | (simp only [hji47] at H ⊢; exact H)
        by_cases c48 : 0 ≤ (ji47)
        ·rw [if_pos c48] at H
         have c48b0 : decide (0 ≤ (ji47)) = true := decide_eq_true c48
         clear c48
         by_cases c49 : (ji47) < (y205.length : Int)
         ·rw [if_pos c49] at H
          have c49b0 : decide ((ji47) < (y205.length : Int)) = true := decide_eq_true c49
          clear c49
          obtain ⟨y209, hy209⟩ : ∃ y_ : List ByteArray, y_ = (([rdOf ByteArray.empty y205 (ji47)] : List ByteArray)) := ⟨_, rfl⟩
          replace H : (if y209.length + y190.length < 8796093022208 then (some ((y209 ++ y190), true)) else (none)) = some (r1, r2) := by first | (rw [hy209]; with_reducible exact H) | (have H2_ := (Option.bind_some _ _).symm.trans H; rw [hy209]; with_reducible exact H2_) | (have H2_ := (Option.bind_some _ _).symm.trans H; with_reducible exact H2_) | with_reducible exact H | (rw [hy209]; exact H) | exact H
          have Ny209 := Aside0.mk hy209
          clear hy209
          by_cases c50 : y209.length + y190.length < 8796093022208
          ·rw [if_pos c50] at H
           have LMc50 := Aside0.mk c50
           clear c50
           obtain ⟨y212, hy212⟩ : ∃ y_ : List ByteArray, y_ = (y209 ++ y190) := ⟨_, rfl⟩
           replace H : (some (y212, true)) = some (r1, r2) := by first | (rw [hy212]; with_reducible exact H) | (have H2_ := (Option.bind_some _ _).symm.trans H; rw [hy212]; with_reducible exact H2_) | (have H2_ := (Option.bind_some _ _).symm.trans H; with_reducible exact H2_) | with_reducible exact H | (rw [hy212]; exact H) | exact H
           have Ny212 := Aside0.mk hy212
           clear hy212
           simp only [Option.some.injEq, Prod.mk.injEq] at H
           obtain ⟨rfl, rfl⟩ := H
           go_wp2_with (first | ((with_reducible refine gate_dst (N := 46) rfl ?_); refine Kd.R_lit Kd.string _ 9 ?hg (N := 46) ?hd (xs := ([(⟨#[115, 101, 116]⟩ : ByteArray), (⟨#[97, 100, 100]⟩ : ByteArray), (⟨#[114, 101, 112, 108, 97, 99, 101]⟩ : ByteArray)] : List ByteArray)) (inner := [.string (⟨#[115, 101, 116]⟩ : ByteArray), .string (⟨#[97, 100, 100]⟩ : ByteArray), .string (⟨#[114, 101, 112, 108, 97, 99, 101]⟩ : ByteArray)]) (ok := fun _ => True) (okp := fun _ => True) ?hr ?hp (fun _ hk => hk) trivial (Below.refl _ _) (Nat.le_refl _) (by simp) ?_; (case hd => rfl); (case hg => rfl); (case hr => first | (go_simp; done) | (go_simp; rfl)); (case hp => exact (Reps.one (show Kd.M Kd.string _ _ _ (⟨#[115, 101, 116]⟩ : ByteArray) [.string (⟨#[115, 101, 116]⟩ : ByteArray)] from rfl) (Reps.one (show Kd.M Kd.string _ _ _ (⟨#[97, 100, 100]⟩ : ByteArray) [.string (⟨#[97, 100, 100]⟩ : ByteArray)] from rfl) (Reps.one (show Kd.M Kd.string _ _ _ (⟨#[114, 101, 112, 108, 97, 99, 101]⟩ : ByteArray) [.string (⟨#[114, 101, 112, 108, 97, 99, 101]⟩ : ByteArray)] from rfl) (Reps.none _ _))))); intro v206 w51 ho52 hb hg_ hnew_; clear hg_ hnew_; (first | rw [← Ny205.out] at ho52 | (simp only [Int.reduceToNat] at ho52; rw [← Ny205.out] at ho52)); have n0_ := Aside0.mk (Kd.R_elder' t23_2 (Kd.R_base ho52) hb); have n1_ := Aside0.mk (Kd.R_lower (Kd.R_new' ho52 (Kd.R_lt t23_2)) (below_size t23_0)); have n2_ := Aside0.mk (blk_below (g := gb185) (o := .cells #[.int .u8 a0_0, .int .i64 a0_1, .slice A0_2 l0_2.length c0_2, .string a0_3, .int .u32 a0_4, .int .i64 a0_5, .int .u64 a0_6, .int .u64 a0_7] 40 (0, 0)) t23_1 hb); have n3_ := Aside0.mk (below_step t23_0 hb); clear HO_6; clear BK185; clear HB; have HO_6 := n0_; have HO207 := n1_; have BK185 := n2_; have HB := n3_; clear n0_ n1_ n2_ n3_; clear hb ho52; have hz53 := blk8 BK185.out; obtain ⟨Ao54, co54, eo54⟩ := Kd.R_slice HO207.out; subst eo54; have p208 : 0 ≤ ((ji47) : Int) := of_decide_eq_true (by first | (with_reducible assumption) | assumption); have q208 : (ji47) < (y205.length : Int) := of_decide_eq_true (by first | (with_reducible assumption) | assumption); obtain ⟨ad208, e208, hx208_0⟩ := Kd.at_string (Kd.R_reads' HO207.out).2.2 (ji47) p208 q208; cases e208; replace p208 := eq_true p208; replace q208 := eq_true q208) | ((with_reducible refine gate_dst (N := 52) rfl ?_); refine Kd.R_lit Kd.string _ 9 ?hg (N := 52) ?hd (xs := ([rdOf ByteArray.empty y205 (ji47)] : List ByteArray)) (inner := [.string (rdOf ByteArray.empty y205 (ji47))]) (ok := fun _ => True) (okp := fun _ => True) ?hr ?hp (fun _ hk => hk) trivial (Below.refl _ _) (Nat.le_refl _) (by simp) ?_; (case hd => rfl); (case hg => rfl); (case hr => first | (go_simp; done) | (go_simp; rfl)); (case hp => exact (Reps.one (show Kd.M Kd.string _ _ _ (rdOf ByteArray.empty y205 (ji47)) [.string (rdOf ByteArray.empty y205 (ji47))] from rfl) (Reps.none _ _))); intro v210 w55 ho56 hb hg_ hnew_; clear hg_ hnew_; (first | rw [← Ny209.out] at ho56 | (simp only [Int.reduceToNat] at ho56; rw [← Ny209.out] at ho56)); have n0_ := Aside0.mk (Kd.R_elder' t23_2 (Kd.R_base ho56) hb); have n1_ := Aside0.mk (Kd.R_elder' t23_8 (Kd.R_base ho56) hb); have n2_ := Aside0.mk (Kd.R_lower (Kd.R_new' (Kd.R_new' ho56 (Kd.R_lt t23_2)) (Kd.R_lt t23_8)) (below_size t23_0)); have n3_ := Aside0.mk (blk_below (g := gb185) (o := .cells #[.int .u8 a0_0, .int .i64 a0_1, .slice A0_2 l0_2.length c0_2, .string a0_3, .int .u32 a0_4, .int .i64 a0_5, .int .u64 a0_6, .int .u64 a0_7] 40 (0, 0)) t23_1 hb); have n4_ := Aside0.mk (below_step t23_0 hb); clear HO_6; clear HO207; clear BK185; clear HB; have HO_6 := n0_; have HO207 := n1_; have HO211 := n2_; have BK185 := n3_; have HB := n4_; clear n0_ n1_ n2_ n3_ n4_; clear hb ho56; obtain ⟨Ao58, co58, eo58⟩ := Kd.R_slice HO_6.out; subst eo58) | ((with_reducible refine gate_builtin (b := .append) (xs := #[.tmp 52, .tmp 53]) rfl ?_); at_builtin; refine Kd.R_append_rows Kd.string (w0 := w) w.heap.size rfl (.tmp 52) (.tmp 53) 37 9 (.string ⟨#[]⟩) 16 rfl Tryd.underlying37 info9 rfl (by decide) (by omega) v210 y209 y190 _ _ _ (fun k_ => some k_ ≠ (.slice Ao58 y190.length co58 : Value).ownBlock ∧ some k_ ≠ (.slice (some ad208) y205.length co54 : Value).ownBlock) (fun _ => False) rfl rfl ?aO ?aR (fun _ _ h => h) (fun _ h => h.elim) ?aF ?aB ?aS ?aL ?_; (case aR => repeat (first | exact (Kd.R_reads' HO_6.out).2.2 | (with_reducible refine Kd.C_alloc ?_ _) | (with_reducible refine Kd.C_drewN ?_ _) | (with_reducible refine Kd.C_drew ?_))); (case aB => exact t23_0); (case aF => exact (fun k_ hk => ⟨Kd.fresh' (Kd.R_lt t23_2) k_ hk, Kd.fresh' (Kd.R_lt t23_8) k_ hk⟩)); (case aO => exact (by (with_reducible repeat (first | apply Kd.R_alloc | apply Kd.R_drewN | apply Kd.R_drew)); exact Kd.R_mono HO211.out (fun _ hk => ⟨hk.1.2, hk.2⟩))); (case aS => exact (below_size t23_0)); (case aL => have := LMc50.out; omega); intro v213 w57 ho hb hg hat; rw [← Ny212.out] at ho; have n0_ := Aside0.mk (Kd.R_after (ok := (fun k_ => some k_ ≠ (.slice (some ad208) y205.length co54 : Value).ownBlock)) (by (with_reducible repeat (first | apply Kd.R_alloc | apply Kd.R_drewN | apply Kd.R_drew)); exact Kd.R_mono HO_6.out (fun _ hk => ⟨hk.1.2, hk.2⟩)) hg hat); have n1_ := Aside0.mk (blk_grown (g := gb185) (o := .cells #[.int .u8 a0_0, .int .i64 a0_1, .slice A0_2 l0_2.length c0_2, .string a0_3, .int .u32 a0_4, .int .i64 a0_5, .int .u64 a0_6, .int .u64 a0_7] 40 (0, 0)) t23_1 hg (Kd.R_ne HO211.out BK185.out (by decide))); have n2_ := Aside0.mk (Kd.R_after (ok := (fun k_ => some k_ ≠ (.slice Ao58 y190.length co58 : Value).ownBlock)) (by (with_reducible repeat (first | apply Kd.R_alloc | apply Kd.R_drewN | apply Kd.R_drew)); exact Kd.R_mono HO207.out (fun _ hk => ⟨hk.1.2, hk.2⟩)) hg hat); have n3_ := Aside0.mk (hb); have n4_ := Aside0.mk (ho); clear HO_6; clear BK185; clear HO207; clear HB; clear HO211; have HO_6 := n0_; have BK185 := n1_; have HO207 := n2_; have HB := n3_; have HO214 := n4_; clear n0_ n1_ n2_ n3_ n4_; clear ho hb hg hat))
           go_ret2
           exact ⟨_, by first | rfl | (simp [errW_none, errW_some] <;> rfl) | (simp only [← hji47]; first | rfl | (simp [errW_none, errW_some] <;> rfl)) | (simp [*, errW_none, errW_some] <;> rfl), by (with_reducible repeat (first | apply Kd.R_alloc | apply Kd.R_drewN | apply Kd.R_drew)); exact Kd.R_mono HO214.out (fun _ hk => trivial), t23_0⟩
          ·rw [if_neg c50] at H
           exact absurd H (by simp)
         ·rw [if_neg c49] at H
          exact absurd H (by simp)
        ·rw [if_neg c48] at H
         exact absurd H (by simp)
       ·replace c46 := Bool.eq_false_iff.mpr c46
        subst c46
        rw [if_neg (show ¬ (false = true) by decide)] at H
        by_cases c59 : a0_0 = 5
        ·rw [if_pos c59] at H
         have c59b0 : (a0_0 == 5) = true := beq_iff_eq.mpr c59
         have c59b1 : (a0_0 != 5) = false := bne_eq_false_iff_eq.mpr c59
         clear c59
         obtain ⟨y215, hy215⟩ : ∃ y_ : List ByteArray, y_ = (([(⟨#[99, 97, 115]⟩ : ByteArray)] : List ByteArray)) := ⟨_, rfl⟩
         replace H : (if y215.length + y190.length < 8796093022208 then ((some (y215 ++ y190 : List ByteArray)).bind fun y218 => ((text_tens_uint64.f a0_6).bind fun t221 => (if y218.length < 8796093022208 then (some ((y218 ++ [t221]), true)) else (none)))) else (none)) = some (r1, r2) := by first | (rw [hy215]; with_reducible exact H) | (have H2_ := (Option.bind_some _ _).symm.trans H; rw [hy215]; with_reducible exact H2_) | (have H2_ := (Option.bind_some _ _).symm.trans H; with_reducible exact H2_) | with_reducible exact H | (rw [hy215]; exact H) | exact H
         have Ny215 := Aside0.mk hy215
         clear hy215
         by_cases c60 : y215.length + y190.length < 8796093022208
         ·rw [if_pos c60] at H
          have LMc60 := Aside0.mk c60
          clear c60
          obtain ⟨y218, hy218⟩ : ∃ y_ : List ByteArray, y_ = (y215 ++ y190) := ⟨_, rfl⟩
          replace H : ((text_tens_uint64.f a0_6).bind fun t221 => (if y218.length < 8796093022208 then (some ((y218 ++ [t221]), true)) else (none))) = some (r1, r2) := by first | (rw [hy218]; with_reducible exact H) | (have H2_ := (Option.bind_some _ _).symm.trans H; rw [hy218]; with_reducible exact H2_) | (have H2_ := (Option.bind_some _ _).symm.trans H; with_reducible exact H2_) | with_reducible exact H | (rw [hy218]; exact H) | exact H
          have Ny218 := Aside0.mk hy218
          clear hy218
          replace H := Option.bind_eq_some_iff.mp H
          obtain ⟨t221, A610, H⟩ := H
          replace H : (if y218.length < 8796093022208 then (some ((y218 ++ [t221]), true)) else (none)) = some (r1, r2) := H
          have A61 := Aside0.mk A610
          clear A610
          by_cases c62 : y218.length < 8796093022208
          ·rw [if_pos c62] at H
           have LMc62 := Aside0.mk c62
           clear c62
           obtain ⟨y222, hy222⟩ : ∃ y_ : List ByteArray, y_ = (y218 ++ [t221]) := ⟨_, rfl⟩
           replace H : (some (y222, true)) = some (r1, r2) := by first | (rw [hy222]; with_reducible exact H) | (have H2_ := (Option.bind_some _ _).symm.trans H; rw [hy222]; with_reducible exact H2_) | (have H2_ := (Option.bind_some _ _).symm.trans H; with_reducible exact H2_) | with_reducible exact H | (rw [hy222]; exact H) | exact H
           have Ny222 := Aside0.mk hy222
           clear hy222
           simp only [Option.some.injEq, Prod.mk.injEq] at H
           obtain ⟨rfl, rfl⟩ := H
           try go_wp2
           have n0_ := Aside0.mk (Kd.R_drew HO_6.out)
           have n1_ := Aside0.mk (blk_drew BK185.out)
           have n2_ := Aside0.mk (below_drew1 HB.out)
           clear HO_6
           clear BK185
           clear HB
           have HO_6 := n0_
           have BK185 := n1_
           have HB := n2_
           clear n0_ n1_ n2_
           refine start_ (n := 10) (S := fun w' => w'.cell? ⟨gb185, 0, none⟩ = some (.int .u8 a0_0) ∧ w'.cell? ⟨gb185, 1, none⟩ = some (.int .i64 a0_1) ∧ w'.cell? ⟨gb185, 2, none⟩ = some (.slice A0_2 l0_2.length c0_2) ∧ w'.cell? ⟨gb185, 3, none⟩ = some (.string a0_3) ∧ w'.cell? ⟨gb185, 4, none⟩ = some (.int .u32 a0_4) ∧ w'.cell? ⟨gb185, 5, none⟩ = some (.int .i64 a0_5) ∧ w'.cell? ⟨gb185, 6, none⟩ = some (.int .u64 a0_6) ∧ w'.cell? ⟨gb185, 7, none⟩ = some (.int .u64 a0_7)) (ds := []) #[false, false, false, false, false, false, false, false, false, false] (by kernel_rfl) rfl rfl ⟨(blk_cell BK185.out 0).trans rfl, (blk_cell BK185.out 1).trans rfl, (blk_cell BK185.out 2).trans rfl, (blk_cell BK185.out 3).trans rfl, (blk_cell BK185.out 4).trans rfl, (blk_cell BK185.out 5).trans rfl, (blk_cell BK185.out 6).trans rfl, (blk_cell BK185.out 7).trans rfl⟩ (fun hHeld => ?_); refine with_tabW text_words.tab15 text_words.bits15 (fun HT_ HW_ => ?_)
           generalize wc.drew = w63 at HO_6 BK185 HB hHeld ⊢
           refine pure_ (i := 1) (N := some 58) (v := ?_) (a' := ?_) #[false, true, false, false, false, false, false, false, false, false] rfl rfl (any_of HT_.out (by kernel_rfl)) (fun _ _ _ h => h) (Or.inl ⟨by rfl, ?_⟩) ?_ ?_
           rotate_left
           ·intro w'
            go_simp
            with_reducible rfl
           rotate_left
           ·simp only [Act.put, List.setIfInBounds_toArray, List.set_cons_zero, List.set_cons_succ, i64_w, i32_w]
            rfl
           refine pure_ (i := 3) (N := some 60) (v := ?_) (a' := ?_) #[false, true, false, true, false, false, false, false, false, false] rfl rfl (any_of HT_.out (by kernel_rfl)) (fun _ _ _ h => h) (Or.inl ⟨by rfl, ?_⟩) ?_ ?_
           rotate_left
           ·intro w'
            go_simp
            with_reducible rfl
           rotate_left
           ·simp only [Act.put, List.setIfInBounds_toArray, List.set_cons_zero, List.set_cons_succ, i64_w, i32_w]
            rfl
           refine take_ (i := 4) (N := some 61) (v := ?_) (a' := ?_) #[false, true, false, true, true, false, false, false, false, false] rfl rfl (take_ofW HT_.out HW_.out (by kernel_rfl)) (fun _ _ _ h => h) (Or.inl ⟨by rfl, ?_⟩) hHeld ?_ ?_
           rotate_left
           ·rintro w' ⟨s0, s1, s2, s3, s4, s5, s6, s7⟩
            go_simp
            with_reducible rfl
           rotate_left
           ·simp only [Act.put, List.setIfInBounds_toArray, List.set_cons_zero, List.set_cons_succ, i64_w, i32_w]
            rfl
           refine one_ (i := 0) (N := some 57) #[true, true, false, true, true, false, false, false, false, false] rfl rfl (one_of HT_.out (by kernel_rfl)) (by decide) (fun K hK => ?_)
           refine Kd.R_lit_step Kd.string _ 9 ?hg (N := 57) ?hd (xs := ([(⟨#[99, 97, 115]⟩ : ByteArray)] : List ByteArray)) (inner := [.string (⟨#[99, 97, 115]⟩ : ByteArray)]) (ok := fun _ => True) (okp := fun _ => True) ?hr ?hp (fun _ hk => hk) trivial (Below.refl _ _) (Nat.le_refl _) (by simp) ?_; (case hd => rfl); (case hg => rfl); (case hr => first | (go_simp; done) | (go_simp; rfl)); (case hp => exact (Reps.one (show Kd.M Kd.string _ _ _ (⟨#[99, 97, 115]⟩ : ByteArray) [.string (⟨#[99, 97, 115]⟩ : ByteArray)] from rfl) (Reps.none _ _)))
           intro v216 w64 ho65 hb hg_ hnew_
           clear hg_ hnew_
           (first | rw [← Ny215.out] at ho65 | (simp only [Int.reduceToNat] at ho65; rw [← Ny215.out] at ho65))
           have n0_ := Aside0.mk (Kd.R_elder' t23_2 (Kd.R_base ho65) hb)
           have n1_ := Aside0.mk (Kd.R_lower (Kd.R_new' ho65 (Kd.R_lt t23_2)) (below_size t23_0))
           have n2_ := Aside0.mk (blk_below (g := gb185) (o := .cells #[.int .u8 a0_0, .int .i64 a0_1, .slice A0_2 l0_2.length c0_2, .string a0_3, .int .u32 a0_4, .int .i64 a0_5, .int .u64 a0_6, .int .u64 a0_7] 40 (0, 0)) t23_1 hb)
           have n3_ := Aside0.mk (below_step t23_0 hb)
           clear HO_6
           clear BK185
           clear HB
           have HO_6 := n0_
           have HO217 := n1_
           have BK185 := n2_
           have HB := n3_
           clear n0_ n1_ n2_ n3_
           clear hb ho65
           obtain ⟨Ao67, co67, eo67⟩ := Kd.R_slice HO_6.out
           (first | subst eo67 | (injection eo67 with f1_ f2_ f3_; have f4_ := f1_.symm; have f5_ := f3_.symm; clear f1_ f2_ f3_; subst f4_; subst f5_))
           refine hK.out _ _ ⟨(blk_cell BK185.out 0).trans rfl, (blk_cell BK185.out 1).trans rfl, (blk_cell BK185.out 2).trans rfl, (blk_cell BK185.out 3).trans rfl, (blk_cell BK185.out 4).trans rfl, (blk_cell BK185.out 5).trans rfl, (blk_cell BK185.out 6).trans rfl, (blk_cell BK185.out 7).trans rfl⟩ (fun hHeld => ?_)
           clear hK K
           refine norm_ (a' := ?_) ?_ ?_
           rotate_left
           ·show Act.put _ (some 57) _ = _
            simp only [Act.put, List.setIfInBounds_toArray, List.set_cons_zero, List.set_cons_succ, i64_w, i32_w]
            rfl
           refine one_ (i := 2) (N := some 59) #[true, true, true, true, true, false, false, false, false, false] rfl rfl (one_of HT_.out (by kernel_rfl)) (by decide) (fun K hK => ?_)
           refine Kd.R_append_rows_step Kd.string (w0 := w) w.heap.size (by rfl) (.tmp 57) (.tmp 58) 37 9 (.string ⟨#[]⟩) 16 rfl Tryd.underlying37 info9 rfl (by decide) (by omega) v216 y215 y190 _ _ _ (fun k_ => some k_ ≠ (.slice Ao67 y190.length co67 : Value).ownBlock) (fun _ => False) rfl rfl ?aO ?aR (fun _ _ h => h) (fun _ h => h.elim) ?aF ?aB ?aS ?aL ?_
           (case aR => repeat (first | exact (Kd.R_reads' HO_6.out).2.2 | (with_reducible refine Kd.C_alloc ?_ _) | (with_reducible refine Kd.C_drewN ?_ _) | (with_reducible refine Kd.C_drew ?_)))
           (case aB => exact t23_0)
           (case aF => exact (fun k_ hk => Kd.fresh' (Kd.R_lt t23_2) k_ hk))
           (case aO => exact (by (with_reducible repeat (first | apply Kd.R_alloc | apply Kd.R_drewN | apply Kd.R_drew)); exact Kd.R_mono HO217.out (fun _ hk => hk.2)))
           (case aS => exact (below_size t23_0))
           (case aL => have := LMc60.out; omega)
           intro v219 w66 ho hb hg hat
           rw [← Ny218.out] at ho
           have n0_ := Aside0.mk (Kd.R_after (ok := (fun _ => True)) t23_2 hg hat)
           have n1_ := Aside0.mk (blk_grown (g := gb185) (o := .cells #[.int .u8 a0_0, .int .i64 a0_1, .slice A0_2 l0_2.length c0_2, .string a0_3, .int .u32 a0_4, .int .i64 a0_5, .int .u64 a0_6, .int .u64 a0_7] 40 (0, 0)) t23_1 hg (Kd.R_ne HO217.out BK185.out (by decide)))
           have n2_ := Aside0.mk (hb)
           have n3_ := Aside0.mk (ho)
           clear HO_6
           clear BK185
           clear HB
           clear HO217
           have HO_6 := n0_
           have BK185 := n1_
           have HB := n2_
           have HO220 := n3_
           clear n0_ n1_ n2_ n3_
           clear ho hb hg hat
           refine hK.out _ _ ⟨(blk_cell BK185.out 0).trans rfl, (blk_cell BK185.out 1).trans rfl, (blk_cell BK185.out 2).trans rfl, (blk_cell BK185.out 3).trans rfl, (blk_cell BK185.out 4).trans rfl, (blk_cell BK185.out 5).trans rfl, (blk_cell BK185.out 6).trans rfl, (blk_cell BK185.out 7).trans rfl⟩ (fun hHeld => ?_)
           clear hK K
           refine norm_ (a' := ?_) ?_ ?_
           rotate_left
           ·show Act.put _ (some 59) _ = _
            simp only [Act.put, List.setIfInBounds_toArray, List.set_cons_zero, List.set_cons_succ, i64_w, i32_w]
            rfl
           refine one_ (i := 5) (N := some 62) #[true, true, true, true, true, true, false, false, false, false] rfl rfl (one_of HT_.out (by kernel_rfl)) (by decide) (fun K hK => ?_)
           refine goes_ Tryd.func73 (by kernel_rfl) rfl #[.int .u64 a0_6] (by rfl) rfl rfl t23_3 ?_
           with_reducible refine (text_tens_uint64.calls a0_6 t221 _ ?side1 A61.out).mono ?_
           (case side1 => exact (Laid.below HLL.out t23_0))
           rintro e w68 ⟨rfl, hb⟩
           refine ⟨_, rfl, ?_⟩
           have n0_ := Aside0.mk (Kd.R_below t23_2 hb)
           have n1_ := Aside0.mk (Kd.R_below (by (with_reducible repeat (first | apply Kd.R_alloc | apply Kd.R_drewN | apply Kd.R_drew)); exact HO220.out) hb)
           have n2_ := Aside0.mk (blk_below (g := gb185) (o := .cells #[.int .u8 a0_0, .int .i64 a0_1, .slice A0_2 l0_2.length c0_2, .string a0_3, .int .u32 a0_4, .int .i64 a0_5, .int .u64 a0_6, .int .u64 a0_7] 40 (0, 0)) t23_1 hb)
           have n3_ := Aside0.mk (below_step t23_0 hb)
           clear HO_6
           clear HO220
           clear BK185
           clear HB
           have HO_6 := n0_
           have HO220 := n1_
           have BK185 := n2_
           have HB := n3_
           clear n0_ n1_ n2_ n3_
           (try clear hb)
           (try clear hk)
           refine hK.out _ _ ⟨(blk_cell BK185.out 0).trans rfl, (blk_cell BK185.out 1).trans rfl, (blk_cell BK185.out 2).trans rfl, (blk_cell BK185.out 3).trans rfl, (blk_cell BK185.out 4).trans rfl, (blk_cell BK185.out 5).trans rfl, (blk_cell BK185.out 6).trans rfl, (blk_cell BK185.out 7).trans rfl⟩ (fun hHeld => ?_)
           clear hK K
           refine norm_ (a' := ?_) ?_ ?_
           rotate_left
           ·show Act.put _ (some 62) _ = _
            simp only [Act.put, List.setIfInBounds_toArray, List.set_cons_zero, List.set_cons_succ, i64_w, i32_w]
            rfl
           refine one_ (i := 6) (N := some 63) #[true, true, true, true, true, true, true, false, false, false] rfl rfl (one_of HT_.out (by kernel_rfl)) (by decide) (fun K hK => ?_)
           refine value_ (w1 := ?_) (v := ?_) (by rfl) rfl ?_ ?_
           rotate_left 2
           ·go_simp
            constructor
            ·rfl
            ·rfl
           refine hK.out _ _ ⟨(blk_cell (blk_alloc BK185.out _) 0).trans rfl, (blk_cell (blk_alloc BK185.out _) 1).trans rfl, (blk_cell (blk_alloc BK185.out _) 2).trans rfl, (blk_cell (blk_alloc BK185.out _) 3).trans rfl, (blk_cell (blk_alloc BK185.out _) 4).trans rfl, (blk_cell (blk_alloc BK185.out _) 5).trans rfl, (blk_cell (blk_alloc BK185.out _) 6).trans rfl, (blk_cell (blk_alloc BK185.out _) 7).trans rfl⟩ (fun hHeld => ?_)
           clear hK K
           refine norm_ (a' := ?_) ?_ ?_
           rotate_left
           ·show Act.put _ (some 63) _ = _
            simp only [Act.put, List.setIfInBounds_toArray, List.set_cons_zero, List.set_cons_succ, i64_w, i32_w]
            rfl
           refine one_ (i := 7) (N := some 64) #[true, true, true, true, true, true, true, true, false, false] rfl rfl (one_of HT_.out (by kernel_rfl)) (by decide) (fun K hK => ?_)
           refine Kd.R_append_step Kd.string (w0 := w) w.heap.size (by rfl) (.tmp 59) (.tmp 63) 37 9 (.string ⟨#[]⟩) 16 rfl Tryd.underlying37 info9 rfl (by decide) (by omega) v219 y218 t221 [.string t221] (fun k_ => some k_ ≠ (.slice Ao67 y190.length co67 : Value).ownBlock) (fun _ => False) rfl rfl ?aP (fun _ hk => hk.elim) ?aF ?aO ?aB ?aS ?aL ?_
           (case aP => exact rfl)
           (case aB => exact t23_0)
           (case aF => exact (fun k_ hk => Kd.fresh' (Kd.R_lt t23_2) k_ hk))
           (case aO => exact (by (with_reducible repeat (first | apply Kd.R_alloc | apply Kd.R_drewN | apply Kd.R_drew)); exact HO220.out))
           (case aS => exact (below_size t23_0))
           (case aL => have := LMc62.out; omega)
           intro v223 w69 ho hb hg hat
           rw [← Ny222.out] at ho
           have n0_ := Aside0.mk (Kd.R_after (ok := (fun _ => True)) t23_2 hg hat)
           have n1_ := Aside0.mk (blk_grown (g := gb185) (o := .cells #[.int .u8 a0_0, .int .i64 a0_1, .slice A0_2 l0_2.length c0_2, .string a0_3, .int .u32 a0_4, .int .i64 a0_5, .int .u64 a0_6, .int .u64 a0_7] 40 (0, 0)) t23_1 hg (Kd.R_ne HO220.out BK185.out (by decide)))
           have n2_ := Aside0.mk (hb)
           have n3_ := Aside0.mk (ho)
           clear HO_6
           clear BK185
           clear HB
           clear HO220
           have HO_6 := n0_
           have BK185 := n1_
           have HB := n2_
           have HO224 := n3_
           clear n0_ n1_ n2_ n3_
           clear ho hb hg hat
           refine hK.out _ _ ⟨(blk_cell BK185.out 0).trans rfl, (blk_cell BK185.out 1).trans rfl, (blk_cell BK185.out 2).trans rfl, (blk_cell BK185.out 3).trans rfl, (blk_cell BK185.out 4).trans rfl, (blk_cell BK185.out 5).trans rfl, (blk_cell BK185.out 6).trans rfl, (blk_cell BK185.out 7).trans rfl⟩ (fun hHeld => ?_)
           clear hK K
           refine norm_ (a' := ?_) ?_ ?_
           rotate_left
           ·show Act.put _ (some 64) _ = _
            simp only [Act.put, List.setIfInBounds_toArray, List.set_cons_zero, List.set_cons_succ, i64_w, i32_w]
            rfl
           refine pure_ (i := 8) (N := some 2) (v := ?_) (a' := ?_) #[true, true, true, true, true, true, true, true, true, false] rfl rfl (any_of HT_.out (by kernel_rfl)) (fun _ _ _ h => h) (Or.inl ⟨by rfl, ?_⟩) ?_ ?_
           rotate_left
           ·intro w'
            go_simp
            with_reducible rfl
           rotate_left
           ·simp only [Act.put, List.setIfInBounds_toArray, List.set_cons_zero, List.set_cons_succ, i64_w, i32_w]
            rfl
           refine pure_ (i := 9) (N := some 3) (v := ?_) (a' := ?_) #[true, true, true, true, true, true, true, true, true, true] rfl rfl (any_of HT_.out (by kernel_rfl)) (fun _ _ _ h => h) (Or.inl ⟨by rfl, ?_⟩) ?_ ?_
           rotate_left
           ·intro w'
            go_simp
            with_reducible rfl
           rotate_left
           ·simp only [Act.put, List.setIfInBounds_toArray, List.set_cons_zero, List.set_cons_succ, i64_w, i32_w]
            rfl
           refine done_ (done_of HT_.out (by kernel_rfl)) ?_
           try go_wp2
           go_ret2
           exact ⟨_, t23_5, by (with_reducible repeat (first | apply Kd.R_alloc | apply Kd.R_drewN | apply Kd.R_drew)); exact Kd.R_mono HO224.out (fun _ hk => trivial), t23_0⟩
          ·rw [if_neg c62] at H
           exact absurd H (by simp)
         ·rw [if_neg c60] at H
          exact absurd H (by simp)
        ·rw [if_neg c59] at H
         have c59b0 : (a0_0 == 5) = false := beq_eq_false_iff_ne.mpr c59
         have c59b1 : (a0_0 != 5) = true := bne_iff_ne.mpr c59
         by_cases c70 : a0_0 = 8
         ·rw [if_pos c70] at H
          have c70b0 : (a0_0 == 8) = true := beq_iff_eq.mpr c70
          have c70b1 : (a0_0 != 8) = false := bne_eq_false_iff_eq.mpr c70
          clear c70
          obtain ⟨y225, hy225⟩ : ∃ y_ : List ByteArray, y_ = (([(⟨#[97, 112, 112, 101, 110, 100]⟩ : ByteArray), x4_2, t186] : List ByteArray)) := ⟨_, rfl⟩
          replace H : (some (y225, true)) = some (r1, r2) := by first | (rw [hy225]; with_reducible exact H) | (have H2_ := (Option.bind_some _ _).symm.trans H; rw [hy225]; with_reducible exact H2_) | (have H2_ := (Option.bind_some _ _).symm.trans H; with_reducible exact H2_) | with_reducible exact H | (rw [hy225]; exact H) | exact H
          have Ny225 := Aside0.mk hy225
          clear hy225
          simp only [Option.some.injEq, Prod.mk.injEq] at H
          obtain ⟨rfl, rfl⟩ := H
          go_wp2_with (first | ((with_reducible refine gate_dst (N := 69) rfl ?_); refine Kd.R_lit Kd.string _ 9 ?hg (N := 69) ?hd (xs := ([(⟨#[97, 112, 112, 101, 110, 100]⟩ : ByteArray), x4_2, t186] : List ByteArray)) (inner := [.string (⟨#[97, 112, 112, 101, 110, 100]⟩ : ByteArray), .string x4_2, .string t186]) (ok := fun _ => True) (okp := fun _ => True) ?hr ?hp (fun _ hk => hk) trivial (Below.refl _ _) (Nat.le_refl _) (by simp) ?_; (case hd => rfl); (case hg => rfl); (case hr => first | (go_simp; done) | (go_simp; rfl)); (case hp => exact (Reps.one (show Kd.M Kd.string _ _ _ (⟨#[97, 112, 112, 101, 110, 100]⟩ : ByteArray) [.string (⟨#[97, 112, 112, 101, 110, 100]⟩ : ByteArray)] from rfl) (Reps.one (show Kd.M Kd.string _ _ _ x4_2 [.string x4_2] from rfl) (Reps.one (show Kd.M Kd.string _ _ _ t186 [.string t186] from rfl) (Reps.none _ _))))); intro v226 w71 ho72 hb hg_ hnew_; clear hg_ hnew_; (first | rw [← Ny225.out] at ho72 | (simp only [Int.reduceToNat] at ho72; rw [← Ny225.out] at ho72)); have n0_ := Aside0.mk (Kd.R_elder' t23_2 (Kd.R_base ho72) hb); have n1_ := Aside0.mk (Kd.R_lower (Kd.R_new' ho72 (Kd.R_lt t23_2)) (below_size t23_0)); have n2_ := Aside0.mk (blk_below (g := gb185) (o := .cells #[.int .u8 a0_0, .int .i64 a0_1, .slice A0_2 l0_2.length c0_2, .string a0_3, .int .u32 a0_4, .int .i64 a0_5, .int .u64 a0_6, .int .u64 a0_7] 40 (0, 0)) t23_1 hb); have n3_ := Aside0.mk (below_step t23_0 hb); clear HO_6; clear BK185; clear HB; have HO_6 := n0_; have HO227 := n1_; have BK185 := n2_; have HB := n3_; clear n0_ n1_ n2_ n3_; clear hb ho72))
          go_ret2
          exact ⟨_, t23_5, by (with_reducible repeat (first | apply Kd.R_alloc | apply Kd.R_drewN | apply Kd.R_drew)); exact Kd.R_mono HO227.out (fun _ hk => trivial), t23_0⟩
         ·rw [if_neg c70] at H
          have c70b0 : (a0_0 == 8) = false := beq_eq_false_iff_ne.mpr c70
          have c70b1 : (a0_0 != 8) = true := bne_iff_ne.mpr c70
          by_cases c73 : a0_0 = 6
          ·rw [if_pos c73] at H
           have c73b0 : (a0_0 == 6) = true := beq_iff_eq.mpr c73
           have c73b1 : (a0_0 != 6) = false := bne_eq_false_iff_eq.mpr c73
           clear c73
           replace H := Option.bind_eq_some_iff.mp H
           obtain ⟨t228, A740, H⟩ := H
           replace H : (some ((([(⟨#[105, 110, 99, 114]⟩ : ByteArray), x4_2, t228] : List ByteArray)), false)) = some (r1, r2) := H
           have A74 := Aside0.mk A740
           clear A740
           obtain ⟨y229, hy229⟩ : ∃ y_ : List ByteArray, y_ = (([(⟨#[105, 110, 99, 114]⟩ : ByteArray), x4_2, t228] : List ByteArray)) := ⟨_, rfl⟩
           replace H : (some (y229, false)) = some (r1, r2) := by first | (rw [hy229]; with_reducible exact H) | (have H2_ := (Option.bind_some _ _).symm.trans H; rw [hy229]; with_reducible exact H2_) | (have H2_ := (Option.bind_some _ _).symm.trans H; with_reducible exact H2_) | with_reducible exact H | (rw [hy229]; exact H) | exact H
           have Ny229 := Aside0.mk hy229
           clear hy229
           simp only [Option.some.injEq, Prod.mk.injEq] at H
           obtain ⟨rfl, rfl⟩ := H
           have hz75 := blk8 BK185.out
           go_wp2_with (first | ((with_reducible refine gate_callee (f := 73) rfl ?_); refine goesL_ (some 75) rfl rfl Tryd.func73 (by kernel_rfl) rfl #[.int .u64 a0_7] rfl t23_3 ?_; (with_reducible refine (text_tens_uint64.calls a0_7 t228 _ ?side1 A74.out).mono ?_); (case side1 => exact (Laid.below HLL.out t23_0)); rintro e w76 ⟨rfl, hb⟩; refine ⟨_, rfl, ?_⟩; have n0_ := Aside0.mk (Kd.R_below t23_2 hb); have n1_ := Aside0.mk (blk_below (g := gb185) (o := .cells #[.int .u8 a0_0, .int .i64 a0_1, .slice A0_2 l0_2.length c0_2, .string a0_3, .int .u32 a0_4, .int .i64 a0_5, .int .u64 a0_6, .int .u64 a0_7] 40 (0, 0)) t23_1 hb); have n2_ := Aside0.mk (below_step t23_0 hb); clear HO_6; clear BK185; clear HB; have HO_6 := n0_; have BK185 := n1_; have HB := n2_; clear n0_ n1_ n2_; (try clear hb); (try clear hb2); (try clear hk); (try clear hi)) | ((with_reducible refine gate_dst (N := 76) rfl ?_); refine Kd.R_lit Kd.string _ 9 ?hg (N := 76) ?hd (xs := ([(⟨#[105, 110, 99, 114]⟩ : ByteArray), x4_2, t228] : List ByteArray)) (inner := [.string (⟨#[105, 110, 99, 114]⟩ : ByteArray), .string x4_2, .string t228]) (ok := fun _ => True) (okp := fun _ => True) ?hr ?hp (fun _ hk => hk) trivial (Below.refl _ _) (Nat.le_refl _) (by simp) ?_; (case hd => rfl); (case hg => rfl); (case hr => first | (go_simp; done) | (go_simp; rfl)); (case hp => exact (Reps.one (show Kd.M Kd.string _ _ _ (⟨#[105, 110, 99, 114]⟩ : ByteArray) [.string (⟨#[105, 110, 99, 114]⟩ : ByteArray)] from rfl) (Reps.one (show Kd.M Kd.string _ _ _ x4_2 [.string x4_2] from rfl) (Reps.one (show Kd.M Kd.string _ _ _ t228 [.string t228] from rfl) (Reps.none _ _))))); intro v230 w77 ho78 hb hg_ hnew_; clear hg_ hnew_; (first | rw [← Ny229.out] at ho78 | (simp only [Int.reduceToNat] at ho78; rw [← Ny229.out] at ho78)); have n0_ := Aside0.mk (Kd.R_elder' t23_2 (Kd.R_base ho78) hb); have n1_ := Aside0.mk (Kd.R_lower (Kd.R_new' ho78 (Kd.R_lt t23_2)) (below_size t23_0)); have n2_ := Aside0.mk (blk_below (g := gb185) (o := .cells #[.int .u8 a0_0, .int .i64 a0_1, .slice A0_2 l0_2.length c0_2, .string a0_3, .int .u32 a0_4, .int .i64 a0_5, .int .u64 a0_6, .int .u64 a0_7] 40 (0, 0)) t23_1 hb); have n3_ := Aside0.mk (below_step t23_0 hb); clear HO_6; clear BK185; clear HB; have HO_6 := n0_; have HO231 := n1_; have BK185 := n2_; have HB := n3_; clear n0_ n1_ n2_ n3_; clear hb ho78))
           go_ret2
           exact ⟨_, t23_5, by (with_reducible repeat (first | apply Kd.R_alloc | apply Kd.R_drewN | apply Kd.R_drew)); exact Kd.R_mono HO231.out (fun _ hk => trivial), t23_0⟩
          ·rw [if_neg c73] at H
           have c73b0 : (a0_0 == 6) = false := beq_eq_false_iff_ne.mpr c73
           have c73b1 : (a0_0 != 6) = true := bne_iff_ne.mpr c73
           by_cases c79 : a0_0 = 7
           ·rw [if_pos c79] at H
            have c79b0 : (a0_0 == 7) = true := beq_iff_eq.mpr c79
            have c79b1 : (a0_0 != 7) = false := bne_eq_false_iff_eq.mpr c79
            clear c79
            replace H := Option.bind_eq_some_iff.mp H
            obtain ⟨t232, A800, H⟩ := H
            replace H : (some ((([(⟨#[100, 101, 99, 114]⟩ : ByteArray), x4_2, t232] : List ByteArray)), false)) = some (r1, r2) := H
            have A80 := Aside0.mk A800
            clear A800
            obtain ⟨y233, hy233⟩ : ∃ y_ : List ByteArray, y_ = (([(⟨#[100, 101, 99, 114]⟩ : ByteArray), x4_2, t232] : List ByteArray)) := ⟨_, rfl⟩
            replace H : (some (y233, false)) = some (r1, r2) := by first | (rw [hy233]; with_reducible exact H) | (have H2_ := (Option.bind_some _ _).symm.trans H; rw [hy233]; with_reducible exact H2_) | (have H2_ := (Option.bind_some _ _).symm.trans H; with_reducible exact H2_) | with_reducible exact H | (rw [hy233]; exact H) | exact H
            have Ny233 := Aside0.mk hy233
            clear hy233
            simp only [Option.some.injEq, Prod.mk.injEq] at H
            obtain ⟨rfl, rfl⟩ := H
            have hz81 := blk8 BK185.out
            go_wp2_with (first | ((with_reducible refine gate_callee (f := 73) rfl ?_); refine goesL_ (some 82) rfl rfl Tryd.func73 (by kernel_rfl) rfl #[.int .u64 a0_7] rfl t23_3 ?_; (with_reducible refine (text_tens_uint64.calls a0_7 t232 _ ?side1 A80.out).mono ?_); (case side1 => exact (Laid.below HLL.out t23_0)); rintro e w82 ⟨rfl, hb⟩; refine ⟨_, rfl, ?_⟩; have n0_ := Aside0.mk (Kd.R_below t23_2 hb); have n1_ := Aside0.mk (blk_below (g := gb185) (o := .cells #[.int .u8 a0_0, .int .i64 a0_1, .slice A0_2 l0_2.length c0_2, .string a0_3, .int .u32 a0_4, .int .i64 a0_5, .int .u64 a0_6, .int .u64 a0_7] 40 (0, 0)) t23_1 hb); have n2_ := Aside0.mk (below_step t23_0 hb); clear HO_6; clear BK185; clear HB; have HO_6 := n0_; have BK185 := n1_; have HB := n2_; clear n0_ n1_ n2_; (try clear hb); (try clear hb2); (try clear hk); (try clear hi)) | ((with_reducible refine gate_dst (N := 83) rfl ?_); refine Kd.R_lit Kd.string _ 9 ?hg (N := 83) ?hd (xs := ([(⟨#[100, 101, 99, 114]⟩ : ByteArray), x4_2, t232] : List ByteArray)) (inner := [.string (⟨#[100, 101, 99, 114]⟩ : ByteArray), .string x4_2, .string t232]) (ok := fun _ => True) (okp := fun _ => True) ?hr ?hp (fun _ hk => hk) trivial (Below.refl _ _) (Nat.le_refl _) (by simp) ?_; (case hd => rfl); (case hg => rfl); (case hr => first | (go_simp; done) | (go_simp; rfl)); (case hp => exact (Reps.one (show Kd.M Kd.string _ _ _ (⟨#[100, 101, 99, 114]⟩ : ByteArray) [.string (⟨#[100, 101, 99, 114]⟩ : ByteArray)] from rfl) (Reps.one (show Kd.M Kd.string _ _ _ x4_2 [.string x4_2] from rfl) (Reps.one (show Kd.M Kd.string _ _ _ t232 [.string t232] from rfl) (Reps.none _ _))))); intro v234 w83 ho84 hb hg_ hnew_; clear hg_ hnew_; (first | rw [← Ny233.out] at ho84 | (simp only [Int.reduceToNat] at ho84; rw [← Ny233.out] at ho84)); have n0_ := Aside0.mk (Kd.R_elder' t23_2 (Kd.R_base ho84) hb); have n1_ := Aside0.mk (Kd.R_lower (Kd.R_new' ho84 (Kd.R_lt t23_2)) (below_size t23_0)); have n2_ := Aside0.mk (blk_below (g := gb185) (o := .cells #[.int .u8 a0_0, .int .i64 a0_1, .slice A0_2 l0_2.length c0_2, .string a0_3, .int .u32 a0_4, .int .i64 a0_5, .int .u64 a0_6, .int .u64 a0_7] 40 (0, 0)) t23_1 hb); have n3_ := Aside0.mk (below_step t23_0 hb); clear HO_6; clear BK185; clear HB; have HO_6 := n0_; have HO235 := n1_; have BK185 := n2_; have HB := n3_; clear n0_ n1_ n2_ n3_; clear hb ho84))
            go_ret2
            exact ⟨_, t23_5, by (with_reducible repeat (first | apply Kd.R_alloc | apply Kd.R_drewN | apply Kd.R_drew)); exact Kd.R_mono HO235.out (fun _ hk => trivial), t23_0⟩
           ·rw [if_neg c79] at H
            have c79b0 : (a0_0 == 7) = false := beq_eq_false_iff_ne.mpr c79
            have c79b1 : (a0_0 != 7) = true := bne_iff_ne.mpr c79
            by_cases c85 : a0_0 = 9
            ·rw [if_pos c85] at H
             have c85b0 : (a0_0 == 9) = true := beq_iff_eq.mpr c85
             have c85b1 : (a0_0 != 9) = false := bne_eq_false_iff_eq.mpr c85
             clear c85
             replace H := Option.bind_eq_some_iff.mp H
             obtain ⟨t236, A860, H⟩ := H
             replace H : (some ((([(⟨#[116, 111, 117, 99, 104]⟩ : ByteArray), x4_2, t236] : List ByteArray)), false)) = some (r1, r2) := H
             have A86 := Aside0.mk A860
             clear A860
             obtain ⟨y237, hy237⟩ : ∃ y_ : List ByteArray, y_ = (([(⟨#[116, 111, 117, 99, 104]⟩ : ByteArray), x4_2, t236] : List ByteArray)) := ⟨_, rfl⟩
             replace H : (some (y237, false)) = some (r1, r2) := by first | (rw [hy237]; with_reducible exact H) | (have H2_ := (Option.bind_some _ _).symm.trans H; rw [hy237]; with_reducible exact H2_) | (have H2_ := (Option.bind_some _ _).symm.trans H; with_reducible exact H2_) | with_reducible exact H | (rw [hy237]; exact H) | exact H
             have Ny237 := Aside0.mk hy237
             clear hy237
             simp only [Option.some.injEq, Prod.mk.injEq] at H
             obtain ⟨rfl, rfl⟩ := H
             have hz87 := blk8 BK185.out
             go_wp2_with (first | ((with_reducible refine gate_callee (f := 37) rfl ?_); refine goesL_ (some 89) rfl rfl Tryd.func37 (by kernel_rfl) rfl #[.int .i64 a0_5] rfl t23_3 ?_; (with_reducible refine (text_tens_int.calls a0_5 t236 _ ?side1 A86.out).mono ?_); (case side1 => exact (Laid.below HLL.out t23_0)); rintro e w88 ⟨rfl, hb⟩; refine ⟨_, rfl, ?_⟩; have n0_ := Aside0.mk (Kd.R_below t23_2 hb); have n1_ := Aside0.mk (blk_below (g := gb185) (o := .cells #[.int .u8 a0_0, .int .i64 a0_1, .slice A0_2 l0_2.length c0_2, .string a0_3, .int .u32 a0_4, .int .i64 a0_5, .int .u64 a0_6, .int .u64 a0_7] 40 (0, 0)) t23_1 hb); have n2_ := Aside0.mk (below_step t23_0 hb); clear HO_6; clear BK185; clear HB; have HO_6 := n0_; have BK185 := n1_; have HB := n2_; clear n0_ n1_ n2_; (try clear hb); (try clear hb2); (try clear hk); (try clear hi)) | ((with_reducible refine gate_dst (N := 90) rfl ?_); refine Kd.R_lit Kd.string _ 9 ?hg (N := 90) ?hd (xs := ([(⟨#[116, 111, 117, 99, 104]⟩ : ByteArray), x4_2, t236] : List ByteArray)) (inner := [.string (⟨#[116, 111, 117, 99, 104]⟩ : ByteArray), .string x4_2, .string t236]) (ok := fun _ => True) (okp := fun _ => True) ?hr ?hp (fun _ hk => hk) trivial (Below.refl _ _) (Nat.le_refl _) (by simp) ?_; (case hd => rfl); (case hg => rfl); (case hr => first | (go_simp; done) | (go_simp; rfl)); (case hp => exact (Reps.one (show Kd.M Kd.string _ _ _ (⟨#[116, 111, 117, 99, 104]⟩ : ByteArray) [.string (⟨#[116, 111, 117, 99, 104]⟩ : ByteArray)] from rfl) (Reps.one (show Kd.M Kd.string _ _ _ x4_2 [.string x4_2] from rfl) (Reps.one (show Kd.M Kd.string _ _ _ t236 [.string t236] from rfl) (Reps.none _ _))))); intro v238 w89 ho90 hb hg_ hnew_; clear hg_ hnew_; (first | rw [← Ny237.out] at ho90 | (simp only [Int.reduceToNat] at ho90; rw [← Ny237.out] at ho90)); have n0_ := Aside0.mk (Kd.R_elder' t23_2 (Kd.R_base ho90) hb); have n1_ := Aside0.mk (Kd.R_lower (Kd.R_new' ho90 (Kd.R_lt t23_2)) (below_size t23_0)); have n2_ := Aside0.mk (blk_below (g := gb185) (o := .cells #[.int .u8 a0_0, .int .i64 a0_1, .slice A0_2 l0_2.length c0_2, .string a0_3, .int .u32 a0_4, .int .i64 a0_5, .int .u64 a0_6, .int .u64 a0_7] 40 (0, 0)) t23_1 hb); have n3_ := Aside0.mk (below_step t23_0 hb); clear HO_6; clear BK185; clear HB; have HO_6 := n0_; have HO239 := n1_; have BK185 := n2_; have HB := n3_; clear n0_ n1_ n2_ n3_; clear hb ho90))
             go_ret2
             exact ⟨_, t23_5, by (with_reducible repeat (first | apply Kd.R_alloc | apply Kd.R_drewN | apply Kd.R_drew)); exact Kd.R_mono HO239.out (fun _ hk => trivial), t23_0⟩
            ·rw [if_neg c85] at H
             have c85b0 : (a0_0 == 9) = false := beq_eq_false_iff_ne.mpr c85
             have c85b1 : (a0_0 != 9) = true := bne_iff_ne.mpr c85
             obtain ⟨y240, hy240⟩ : ∃ y_ : List ByteArray, y_ = (([(⟨#[102, 108, 117, 115, 104]⟩ : ByteArray)] : List ByteArray)) := ⟨_, rfl⟩
             replace H : (some (y240, false)) = some (r1, r2) := by first | (rw [hy240]; with_reducible exact H) | (have H2_ := (Option.bind_some _ _).symm.trans H; rw [hy240]; with_reducible exact H2_) | (have H2_ := (Option.bind_some _ _).symm.trans H; with_reducible exact H2_) | with_reducible exact H | (rw [hy240]; exact H) | exact H
             have Ny240 := Aside0.mk hy240
             clear hy240
             simp only [Option.some.injEq, Prod.mk.injEq] at H
             obtain ⟨rfl, rfl⟩ := H
             go_wp2_with (first | ((with_reducible refine gate_dst (N := 91) rfl ?_); refine Kd.R_lit Kd.string _ 9 ?hg (N := 91) ?hd (xs := ([(⟨#[102, 108, 117, 115, 104]⟩ : ByteArray)] : List ByteArray)) (inner := [.string (⟨#[102, 108, 117, 115, 104]⟩ : ByteArray)]) (ok := fun _ => True) (okp := fun _ => True) ?hr ?hp (fun _ hk => hk) trivial (Below.refl _ _) (Nat.le_refl _) (by simp) ?_; (case hd => rfl); (case hg => rfl); (case hr => first | (go_simp; done) | (go_simp; rfl)); (case hp => exact (Reps.one (show Kd.M Kd.string _ _ _ (⟨#[102, 108, 117, 115, 104]⟩ : ByteArray) [.string (⟨#[102, 108, 117, 115, 104]⟩ : ByteArray)] from rfl) (Reps.none _ _))); intro v241 w91 ho92 hb hg_ hnew_; clear hg_ hnew_; (first | rw [← Ny240.out] at ho92 | (simp only [Int.reduceToNat] at ho92; rw [← Ny240.out] at ho92)); have n0_ := Aside0.mk (Kd.R_elder' t23_2 (Kd.R_base ho92) hb); have n1_ := Aside0.mk (Kd.R_lower (Kd.R_new' ho92 (Kd.R_lt t23_2)) (below_size t23_0)); have n2_ := Aside0.mk (blk_below (g := gb185) (o := .cells #[.int .u8 a0_0, .int .i64 a0_1, .slice A0_2 l0_2.length c0_2, .string a0_3, .int .u32 a0_4, .int .i64 a0_5, .int .u64 a0_6, .int .u64 a0_7] 40 (0, 0)) t23_1 hb); have n3_ := Aside0.mk (below_step t23_0 hb); clear HO_6; clear BK185; clear HB; have HO_6 := n0_; have HO242 := n1_; have BK185 := n2_; have HB := n3_; clear n0_ n1_ n2_ n3_; clear hb ho92))
             go_ret2
             exact ⟨_, t23_5, by (with_reducible repeat (first | apply Kd.R_alloc | apply Kd.R_drewN | apply Kd.R_drew)); exact Kd.R_mono HO242.out (fun _ hk => trivial), t23_0⟩
end Go.Proofs.YtfoengihiaegoaaDoor.P
