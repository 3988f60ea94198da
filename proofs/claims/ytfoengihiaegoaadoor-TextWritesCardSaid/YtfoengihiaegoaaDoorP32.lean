-- written by wip/tools/drive.py, a driver round the kit's printer, and made smaller by wip/tools/slim.py
import Derived.Test.YtfoengihiaegoaaDoorP0
import Derived.Test.YtfoengihiaegoaaDoorP15
import Derived.Test.YtfoengihiaegoaaDoorP24
import Derived.Test.YtfoengihiaegoaaDoorP31
namespace Go.Proofs.YtfoengihiaegoaaDoor.P
open Go.RowKit Go.Proofs.YtfoengihiaegoaaDoorW.PrintWords Go.Proofs.YtfoengihiaegoaaDoorW.PrintLast Go.Proofs.YtfoengihiaegoaaDoorW.PrintMore
set_option linter.unusedVariables false
set_option linter.unusedSimpArgs false
theorem t32_0 {p : Prop} (h : p := by repeat (first | (with_reducible first | exact HB.out | apply below_alloc | apply pw_below_drewN | apply below_drew1 | refine below_set ?_ GE349.out) | exact HB.out)) : p := h
theorem t32_1 {p : Prop} (h : p := by (with_reducible repeat (first | refine blk_drewN ?_ _ | refine blk_drew ?_ | refine blk_alloc ?_ _)); exact BK349.out) : p := h
theorem t32_2 {p : Prop} (h : p := by (try simp only [List.map_toArray, List.map_cons, List.map_nil]); first | done | rfl | (simp only [List.length_drop, List.length_take]; rfl)) : p := h
theorem t32_3 {p : Prop} (h : p := by repeat (first | (with_reducible first | exact HB.out | apply below_alloc | apply pw_below_drewN | apply below_drew1) | exact HB.out)) : p := h
theorem t32_4 {p : Prop} (h : p := by first | rfl | (simp [errW_none, errW_some] <;> rfl) | (simp [*, errW_none, errW_some] <;> rfl)) : p := h
def cloakroomlaw14_TextWrites.j0 : Nat → Bool → Int → Int → Int → List ByteArray → ByteArray → Int → Int → Int → Int → Int → ByteArray → Bool → Bool → Option (Bool)
 | 0, _, _, _, _, _, _, _, _, _, _, _, _, _, _ => none
 | k + 1, x15, x350000, x350001, x350002, x350003, x350004, x350005, x350006, x350007, x350008, x350009, x350010, x350011, x350012 => if x15 = true then (some true) else ((text_Write.f k x350000 x350001 x350002 x350003 x350004 x350005 x350006 x350007 x350008 x350009 x350010 x350011 x350012).bind fun bt351 => ((cloakroomref14_Write.f k x350000 x350001 x350002 x350003 x350004 x350005 x350006 x350007 x350008 x350009 x350010 x350011 x350012).bind fun bt355 => (if (strOfNums bt351.1).toList = (strOfNums bt355.1).toList then (some (bt351.2 == bt355.2)) else (some false))))
def cloakroomlaw14_TextWrites.f (k : Nat) (a0_0 : Int) (a0_1 : Int) (a0_2 : Int) (l0_3 : List ByteArray) (a0_4 : ByteArray) (a0_5 : Int) (a0_6 : Int) (a0_7 : Int) (a0_8 : Int) (a0_9 : Int) (a0_10 : ByteArray) (a0_11 : Bool) (a0_12 : Bool) : Option (Bool) := (cloakroomref10_Long.f k a0_1 a0_2 l0_3 a0_4 a0_5 a0_6 a0_7 a0_8).bind fun t350 => (if t350 = true then (cloakroomlaw14_TextWrites.j0 k true a0_0 a0_1 a0_2 l0_3 a0_4 a0_5 a0_6 a0_7 a0_8 a0_9 a0_10 a0_11 a0_12) else (cloakroomlaw14_TextWrites.j0 k (decide ((a0_10.size : Int) > 1000)) a0_0 a0_1 a0_2 l0_3 a0_4 a0_5 a0_6 a0_7 a0_8 a0_9 a0_10 a0_11 a0_12))
theorem cloakroomlaw14_TextWrites.mono_l : ∀ k, (∀ y0 y1 y2 y3 y4 y5 y6 y7 y8 y9 y10 y11 y12 y13, LeO (cloakroomlaw14_TextWrites.j0 k y0 y1 y2 y3 y4 y5 y6 y7 y8 y9 y10 y11 y12 y13) (cloakroomlaw14_TextWrites.j0 (k + 1) y0 y1 y2 y3 y4 y5 y6 y7 y8 y9 y10 y11 y12 y13))
 | 0 => fun _ _ _ _ _ _ _ _ _ _ _ _ _ _ r h => by simp [cloakroomlaw14_TextWrites.j0] at h
 | k + 1 => by
  have ih0 := cloakroomlaw14_TextWrites.mono_l k
  ·intro y0 y1 y2 y3 y4 y5 y6 y7 y8 y9 y10 y11 y12 y13
   unfold cloakroomlaw14_TextWrites.j0
   repeat' first | (with_reducible first | apply ih0 | apply cloakroomref10_Long.mono | apply cloakroomref14_Write.mono | apply text_Write.mono | exact LeO.refl _ | exact LeO.none _ | refine LeO.ite ?_ ?_ | refine LeO.bind ?_ (fun _ => ?_)) | exact LeO.none _ | refine LeO.ite ?_ ?_ | refine LeO.bind ?_ (fun _ => ?_)
theorem cloakroomlaw14_TextWrites.mono : ∀ a0 a1 a2 a3 a4 a5 a6 a7 a8 a9 a10 a11 a12 k, LeO (cloakroomlaw14_TextWrites.f k a0 a1 a2 a3 a4 a5 a6 a7 a8 a9 a10 a11 a12) (cloakroomlaw14_TextWrites.f (k + 1) a0 a1 a2 a3 a4 a5 a6 a7 a8 a9 a10 a11 a12) := by
 intro a0 a1 a2 a3 a4 a5 a6 a7 a8 a9 a10 a11 a12 k
 have ih0 := cloakroomlaw14_TextWrites.mono_l k
 unfold cloakroomlaw14_TextWrites.f
 repeat' first | (with_reducible first | apply ih0 | apply cloakroomref10_Long.mono | apply cloakroomref14_Write.mono | apply text_Write.mono | exact LeO.refl _ | exact LeO.none _ | refine LeO.ite ?_ ?_ | refine LeO.bind ?_ (fun _ => ?_)) | exact LeO.none _ | refine LeO.ite ?_ ?_ | refine LeO.bind ?_ (fun _ => ?_)
set_option maxHeartbeats 8000000 in
set_option maxRecDepth 100000 in
theorem cloakroomlaw14_TextWrites.calls (k : Nat) (a0_0 : Int) (a0_1 : Int) (a0_2 : Int) (A0_3 : Option Addr) (c0_3 : Nat) (l0_3 : List ByteArray) (a0_4 : ByteArray) (a0_5 : Int) (a0_6 : Int) (a0_7 : Int) (a0_8 : Int) (a0_9 : Int) (a0_10 : ByteArray) (a0_11 : Bool) (a0_12 : Bool) (r : Bool) (w : World) (hr0_3 : Kd.C Kd.string w A0_3 l0_3.length l0_3) (hc0_3 : l0_3.length ≤ c0_3) (hL : Laid w) (h : cloakroomlaw14_TextWrites.f k a0_0 a0_1 a0_2 l0_3 a0_4 a0_5 a0_6 a0_7 a0_8 a0_9 a0_10 a0_11 a0_12 = some r) :
  Calls Tryd.prog 4 #[.agg #[.int .u8 a0_0, .int .u8 a0_1, .int .i64 a0_2, .slice A0_3 l0_3.length c0_3, .string a0_4, .int .u32 a0_5, .int .i64 a0_6, .int .u64 a0_7, .int .u64 a0_8, .int .i64 a0_9, .string a0_10, .bool a0_11, .bool a0_12]] w fun e w' => e = .returned (.bool r) ∧ Below w.heap.size w w' := by
 have hu42 := Tryd.underlying42
 have hu40 := Tryd.underlying40
 have HR0_3 := Aside0.mk hr0_3
 have HC0_3 := Aside0.mk hc0_3
 clear hr0_3 hc0_3
 have HB := Aside0.mk (Below.refl w.heap.size w)
 have HLL := Aside0.mk hL
 clear hL
 have H : ((cloakroomref10_Long.f k a0_1 a0_2 l0_3 a0_4 a0_5 a0_6 a0_7 a0_8).bind fun t350 => (if t350 = true then (cloakroomlaw14_TextWrites.j0 k true a0_0 a0_1 a0_2 l0_3 a0_4 a0_5 a0_6 a0_7 a0_8 a0_9 a0_10 a0_11 a0_12) else (cloakroomlaw14_TextWrites.j0 k (decide ((a0_10.size : Int) > 1000)) a0_0 a0_1 a0_2 l0_3 a0_4 a0_5 a0_6 a0_7 a0_8 a0_9 a0_10 a0_11 a0_12))) = some r := h
 clear h
 have HC2 := Aside0.mk H
 clear H
 go_enter Tryd.func4, Tryd.ntmps4
 go_upto_region 1 with (first | ((with_reducible refine gate_dst (N := 1) rfl ?_); (try (refine gate_guard (by rfl) ?_; dsimp only)); refine box_event ?hg (N := 1) ?hd (cs := #[.int .u8 a0_0, .int .u8 a0_1, .int .i64 a0_2, .slice A0_3 l0_3.length c0_3, .string a0_4, .int .u32 a0_5, .int .i64 a0_6, .int .u64 a0_7, .int .u64 a0_8, .int .i64 a0_9, .string a0_10, .bool a0_11, .bool a0_12]) (t := 42) ?hr ?_; (case hd => rfl); (case hg => rfl); (case hr => first | (go_simp; done) | (go_simp; rfl)); intro gb349 hg w3 hbox hb; have n0_ := Aside0.mk (below_step t32_3 hb); have n1_ := Aside0.mk (hbox); have n2_ := Aside0.mk ((by rw [hg]; exact (below_size t32_3) : w.heap.size ≤ gb349)); have n3_ := Aside0.mk ((by rw [hg]; exact (below_size t32_3) : w.heap.size ≤ gb349)); clear HB; have HB := n0_; have BK349 := n1_; have GW349 := n2_; have GE349 := n3_; clear n0_ n1_ n2_ n3_; clear hb hbox hg))
 (try simp only [Act.put, List.setIfInBounds_toArray, List.set_cons_zero, List.set_cons_succ])
 go_cut [15] (fun v15 wc => ∃ (kq : Nat) (x15_1 : Bool), v15 = .bool x15_1 ∧ Aside0 (cloakroomlaw14_TextWrites.j0 kq x15_1 a0_0 a0_1 a0_2 l0_3 a0_4 a0_5 a0_6 a0_7 a0_8 a0_9 a0_10 a0_11 a0_12 = some r) ∧ Aside0 (kq ≤ k) ∧ Aside0 (wc.heap[gb349]? = some (.cells #[.int .u8 a0_0, .int .u8 a0_1, .int .i64 a0_2, (.slice A0_3 l0_3.length c0_3), .string a0_4, .int .u32 a0_5, .int .i64 a0_6, .int .u64 a0_7, .int .u64 a0_8, .int .i64 a0_9, .string a0_10, .bool a0_11, .bool a0_12] 42 (0, 0))) ∧ Aside0 (Below w.heap.size w wc))
 case first =>
  have H := HC2.out
  clear HC2
  replace H := Option.bind_eq_some_iff.mp H
  obtain ⟨t350, A40, H⟩ := H
  replace H : (if t350 = true then (cloakroomlaw14_TextWrites.j0 k true a0_0 a0_1 a0_2 l0_3 a0_4 a0_5 a0_6 a0_7 a0_8 a0_9 a0_10 a0_11 a0_12) else (cloakroomlaw14_TextWrites.j0 k (decide ((a0_10.size : Int) > 1000)) a0_0 a0_1 a0_2 l0_3 a0_4 a0_5 a0_6 a0_7 a0_8 a0_9 a0_10 a0_11 a0_12)) = some r := H
  have A4 := Aside0.mk A40
  clear A40
  by_cases c5 : t350 = true
  ·subst c5
   rw [if_pos rfl] at H
   have H' := Aside0.mk H
   clear H
   have hz6 := blk13 BK349.out
   go_wp2_with (first | ((with_reducible refine gate_callee (f := 13) rfl ?_); refine goesL_ (some 9) rfl rfl Tryd.func13 (by kernel_rfl) rfl #[.agg #[.int .u8 a0_1, .int .i64 a0_2, .slice A0_3 l0_3.length c0_3, .string a0_4, .int .u32 a0_5, .int .i64 a0_6, .int .u64 a0_7, .int .u64 a0_8]] rfl t32_2 ?_; (with_reducible refine (cloakroomref10_Long.calls k a0_1 a0_2 _ _ l0_3 a0_4 a0_5 a0_6 a0_7 a0_8 true _ ?side1 ?side2 A4.out).mono ?_); (case side1 => repeat (first | exact (Kd.C_below HR0_3.out HB.out) | (with_reducible refine Kd.C_alloc ?_ _) | (with_reducible refine Kd.C_drewN ?_ _) | (with_reducible refine Kd.C_drew ?_))); (case side2 => exact HC0_3.out); rintro e w7 ⟨rfl, hb⟩; refine ⟨_, rfl, ?_⟩; have n0_ := Aside0.mk (blk_below (g := gb349) (o := .cells #[.int .u8 a0_0, .int .u8 a0_1, .int .i64 a0_2, .slice A0_3 l0_3.length c0_3, .string a0_4, .int .u32 a0_5, .int .i64 a0_6, .int .u64 a0_7, .int .u64 a0_8, .int .i64 a0_9, .string a0_10, .bool a0_11, .bool a0_12] 42 (0, 0)) t32_1 hb); have n1_ := Aside0.mk (below_step t32_0 hb); clear BK349; clear HB; have BK349 := n0_; have HB := n1_; clear n0_ n1_; (try clear hb); (try clear hb2); (try clear hk); (try clear hi)))
   go_meet
   case rel => exact ⟨_, (true), (by first | rfl | (simp; done) | (simp [*]; done) | exact x_nonempty _ | (simp [x_nonempty]; done)), H', ⟨by first | omega | exact Nat.le_refl _⟩, ⟨t32_1⟩, ⟨t32_0⟩⟩
  ·replace c5 := Bool.eq_false_iff.mpr c5
   subst c5
   rw [if_neg (show ¬ (false = true) by decide)] at H
   have H' := Aside0.mk H
   clear H
   have hz8 := blk13 BK349.out
   go_wp2_with (first | ((with_reducible refine gate_callee (f := 13) rfl ?_); refine goesL_ (some 9) rfl rfl Tryd.func13 (by kernel_rfl) rfl #[.agg #[.int .u8 a0_1, .int .i64 a0_2, .slice A0_3 l0_3.length c0_3, .string a0_4, .int .u32 a0_5, .int .i64 a0_6, .int .u64 a0_7, .int .u64 a0_8]] rfl t32_2 ?_; (with_reducible refine (cloakroomref10_Long.calls k a0_1 a0_2 _ _ l0_3 a0_4 a0_5 a0_6 a0_7 a0_8 false _ ?side1 ?side2 A4.out).mono ?_); (case side1 => repeat (first | exact (Kd.C_below HR0_3.out HB.out) | (with_reducible refine Kd.C_alloc ?_ _) | (with_reducible refine Kd.C_drewN ?_ _) | (with_reducible refine Kd.C_drew ?_))); (case side2 => exact HC0_3.out); rintro e w9 ⟨rfl, hb⟩; refine ⟨_, rfl, ?_⟩; have n0_ := Aside0.mk (blk_below (g := gb349) (o := .cells #[.int .u8 a0_0, .int .u8 a0_1, .int .i64 a0_2, .slice A0_3 l0_3.length c0_3, .string a0_4, .int .u32 a0_5, .int .i64 a0_6, .int .u64 a0_7, .int .u64 a0_8, .int .i64 a0_9, .string a0_10, .bool a0_11, .bool a0_12] 42 (0, 0)) t32_1 hb); have n1_ := Aside0.mk (below_step t32_0 hb); clear BK349; clear HB; have BK349 := n0_; have HB := n1_; clear n0_ n1_; (try clear hb); (try clear hb2); (try clear hk); (try clear hi); have hz10 := blk13 BK349.out))
   go_meet
   case rel => exact ⟨_, (decide ((a0_10.size : Int) > 1000)), (by first | rfl | (simp; done) | (simp [*]; done) | exact x_nonempty _ | (simp [x_nonempty]; done)), H', ⟨by first | omega | exact Nat.le_refl _⟩, ⟨t32_1⟩, ⟨t32_0⟩⟩
 case rest => as_aux_lemma =>
  clear HC2
  obtain ⟨kq, x15_1, rfl, HA, HJ1, BK349, HB⟩ := hcut
  cases kq with
  | zero => exact absurd HA.out (by simp [cloakroomlaw14_TextWrites.j0])
  | succ kj1 =>
   have H := HA.out
   clear HA
   simp only [cloakroomlaw14_TextWrites.j0] at H
   by_cases c11 : x15_1 = true
   ·subst c11
    rw [if_pos rfl] at H
    obtain rfl := Option.some.inj H
    go_wp2
    go_ret
    exact ⟨t32_4, t32_0⟩
   ·replace c11 := Bool.eq_false_iff.mpr c11
    subst c11
    rw [if_neg (show ¬ (false = true) by decide)] at H
    replace H := Option.bind_eq_some_iff.mp H
    obtain ⟨⟨t351, t354⟩, A120, H⟩ := H
    replace H : ((cloakroomref14_Write.f kj1 a0_0 a0_1 a0_2 l0_3 a0_4 a0_5 a0_6 a0_7 a0_8 a0_9 a0_10 a0_11 a0_12).bind fun bt355 => (if (strOfNums t351).toList = (strOfNums bt355.1).toList then (some (t354 == bt355.2)) else (some false))) = some r := H
    have A12 := Aside0.mk A120
    clear A120
    replace H := Option.bind_eq_some_iff.mp H
    obtain ⟨⟨t355, t358⟩, A130, H⟩ := H
    replace H : (if (strOfNums t351).toList = (strOfNums t355).toList then (some (t354 == t358)) else (some false)) = some r := H
    have A13 := Aside0.mk A130
    clear A130
    by_cases c14 : (strOfNums t351).toList = (strOfNums t355).toList
    ·rw [if_pos c14] at H
     have c14b0 : ((strOfNums t351).toList == (strOfNums t355).toList) = true := beq_iff_eq.mpr c14
     have c14b1 : ((strOfNums t351).toList != (strOfNums t355).toList) = false := bne_eq_false_iff_eq.mpr c14
     clear c14
     obtain rfl := Option.some.inj H
     have hz15 := blk13 BK349.out
     go_wp2_with (first | ((with_reducible refine gate_callee (f := 14) rfl ?_); refine goesL_ (some 18) rfl rfl Tryd.func14 (by kernel_rfl) rfl #[.agg #[.int .u8 a0_0, .int .u8 a0_1, .int .i64 a0_2, .slice A0_3 l0_3.length c0_3, .string a0_4, .int .u32 a0_5, .int .i64 a0_6, .int .u64 a0_7, .int .u64 a0_8, .int .i64 a0_9, .string a0_10, .bool a0_11, .bool a0_12]] rfl t32_2 ?_; (with_reducible refine (text_Write.calls kj1 a0_0 a0_1 a0_2 _ _ l0_3 a0_4 a0_5 a0_6 a0_7 a0_8 a0_9 a0_10 a0_11 a0_12 t351 t354 _ ?side1 ?side2 ?side3 A12.out).mono ?_); (case side1 => repeat (first | exact (Kd.C_below HR0_3.out HB.out) | (with_reducible refine Kd.C_alloc ?_ _) | (with_reducible refine Kd.C_drewN ?_ _) | (with_reducible refine Kd.C_drew ?_))); (case side2 => exact HC0_3.out); (case side3 => exact (Laid.below HLL.out t32_0)); rintro e w16 ⟨v352, rfl, ho0, hb⟩; refine ⟨_, rfl, ?_⟩; have n0_ := Aside0.mk (Kd.V_lower (Kd.V_mono (ok' := fun k_ => k_ ≠ gb349) ho0 (fun k_ hk_ => (Kd.freshB (g := gb349) (o := .cells #[.int .u8 a0_0, .int .u8 a0_1, .int .i64 a0_2, .slice A0_3 l0_3.length c0_3, .string a0_4, .int .u32 a0_5, .int .i64 a0_6, .int .u64 a0_7, .int .u64 a0_8, .int .i64 a0_9, .string a0_10, .bool a0_11, .bool a0_12] 42 (0, 0)) t32_1 k_ hk_))) (below_size t32_0)); have n1_ := Aside0.mk (blk_below (g := gb349) (o := .cells #[.int .u8 a0_0, .int .u8 a0_1, .int .i64 a0_2, .slice A0_3 l0_3.length c0_3, .string a0_4, .int .u32 a0_5, .int .i64 a0_6, .int .u64 a0_7, .int .u64 a0_8, .int .i64 a0_9, .string a0_10, .bool a0_11, .bool a0_12] 42 (0, 0)) t32_1 hb); have n2_ := Aside0.mk (below_step t32_0 hb); clear BK349; clear HB; have HO353 := n0_; have BK349 := n1_; have HB := n2_; clear n0_ n1_ n2_; (try clear hb); (try clear hb2); (try clear hk); (try clear hi); (try clear ho0); have hz17 := blk13 BK349.out) | ((with_reducible refine gate_callee (f := 15) rfl ?_); refine goesL_ (some 23) rfl rfl Tryd.func15 (by kernel_rfl) rfl #[.agg #[.int .u8 a0_0, .int .u8 a0_1, .int .i64 a0_2, .slice A0_3 l0_3.length c0_3, .string a0_4, .int .u32 a0_5, .int .i64 a0_6, .int .u64 a0_7, .int .u64 a0_8, .int .i64 a0_9, .string a0_10, .bool a0_11, .bool a0_12]] rfl t32_2 ?_; (with_reducible refine (cloakroomref14_Write.calls kj1 a0_0 a0_1 a0_2 _ _ l0_3 a0_4 a0_5 a0_6 a0_7 a0_8 a0_9 a0_10 a0_11 a0_12 t355 t358 _ ?side1 ?side2 A13.out).mono ?_); (case side1 => repeat (first | exact (Kd.C_below HR0_3.out HB.out) | (with_reducible refine Kd.C_alloc ?_ _) | (with_reducible refine Kd.C_drewN ?_ _) | (with_reducible refine Kd.C_drew ?_))); (case side2 => exact HC0_3.out); rintro e w18 ⟨v356, rfl, ho0, hb⟩; refine ⟨_, rfl, ?_⟩; have n0_ := Aside0.mk (Kd.V_below (by (with_reducible repeat (first | apply Kd.V_alloc | apply Kd.V_drewN | apply Kd.V_drew)); exact HO353.out) hb); have n1_ := Aside0.mk (Kd.V_lower (Kd.V_mono (ok' := fun k_ => k_ ≠ gb349) ho0 (fun k_ hk_ => (Kd.freshB (g := gb349) (o := .cells #[.int .u8 a0_0, .int .u8 a0_1, .int .i64 a0_2, .slice A0_3 l0_3.length c0_3, .string a0_4, .int .u32 a0_5, .int .i64 a0_6, .int .u64 a0_7, .int .u64 a0_8, .int .i64 a0_9, .string a0_10, .bool a0_11, .bool a0_12] 42 (0, 0)) t32_1 k_ hk_))) (below_size t32_0)); have n2_ := Aside0.mk (blk_below (g := gb349) (o := .cells #[.int .u8 a0_0, .int .u8 a0_1, .int .i64 a0_2, .slice A0_3 l0_3.length c0_3, .string a0_4, .int .u32 a0_5, .int .i64 a0_6, .int .u64 a0_7, .int .u64 a0_8, .int .i64 a0_9, .string a0_10, .bool a0_11, .bool a0_12] 42 (0, 0)) t32_1 hb); have n3_ := Aside0.mk (below_step t32_0 hb); clear HO353; clear BK349; clear HB; have HO353 := n0_; have HO357 := n1_; have BK349 := n2_; have HB := n3_; clear n0_ n1_ n2_ n3_; (try clear hb); (try clear hb2); (try clear hk); (try clear hi); (try clear ho0); have hcv19 := Kd.V_string (P := Tryd.prog) Tryd.underlying29 Tryd.underlying5 Tryd.underlying9 HO353.out; have hcv20 := Kd.V_string (P := Tryd.prog) Tryd.underlying29 Tryd.underlying5 Tryd.underlying9 HO357.out))
     go_ret
     exact ⟨t32_4, t32_0⟩
    ·rw [if_neg c14] at H
     have c14b0 : ((strOfNums t351).toList == (strOfNums t355).toList) = false := beq_eq_false_iff_ne.mpr c14
     have c14b1 : ((strOfNums t351).toList != (strOfNums t355).toList) = true := bne_iff_ne.mpr c14
     obtain rfl := Option.some.inj H
     have hz21 := blk13 BK349.out
     go_wp2_with (first | ((with_reducible refine gate_callee (f := 14) rfl ?_); refine goesL_ (some 18) rfl rfl Tryd.func14 (by kernel_rfl) rfl #[.agg #[.int .u8 a0_0, .int .u8 a0_1, .int .i64 a0_2, .slice A0_3 l0_3.length c0_3, .string a0_4, .int .u32 a0_5, .int .i64 a0_6, .int .u64 a0_7, .int .u64 a0_8, .int .i64 a0_9, .string a0_10, .bool a0_11, .bool a0_12]] rfl t32_2 ?_; (with_reducible refine (text_Write.calls kj1 a0_0 a0_1 a0_2 _ _ l0_3 a0_4 a0_5 a0_6 a0_7 a0_8 a0_9 a0_10 a0_11 a0_12 t351 t354 _ ?side1 ?side2 ?side3 A12.out).mono ?_); (case side1 => repeat (first | exact (Kd.C_below HR0_3.out HB.out) | (with_reducible refine Kd.C_alloc ?_ _) | (with_reducible refine Kd.C_drewN ?_ _) | (with_reducible refine Kd.C_drew ?_))); (case side2 => exact HC0_3.out); (case side3 => exact (Laid.below HLL.out t32_0)); rintro e w22 ⟨v352, rfl, ho0, hb⟩; refine ⟨_, rfl, ?_⟩; have n0_ := Aside0.mk (Kd.V_lower (Kd.V_mono (ok' := fun k_ => k_ ≠ gb349) ho0 (fun k_ hk_ => (Kd.freshB (g := gb349) (o := .cells #[.int .u8 a0_0, .int .u8 a0_1, .int .i64 a0_2, .slice A0_3 l0_3.length c0_3, .string a0_4, .int .u32 a0_5, .int .i64 a0_6, .int .u64 a0_7, .int .u64 a0_8, .int .i64 a0_9, .string a0_10, .bool a0_11, .bool a0_12] 42 (0, 0)) t32_1 k_ hk_))) (below_size t32_0)); have n1_ := Aside0.mk (blk_below (g := gb349) (o := .cells #[.int .u8 a0_0, .int .u8 a0_1, .int .i64 a0_2, .slice A0_3 l0_3.length c0_3, .string a0_4, .int .u32 a0_5, .int .i64 a0_6, .int .u64 a0_7, .int .u64 a0_8, .int .i64 a0_9, .string a0_10, .bool a0_11, .bool a0_12] 42 (0, 0)) t32_1 hb); have n2_ := Aside0.mk (below_step t32_0 hb); clear BK349; clear HB; have HO353 := n0_; have BK349 := n1_; have HB := n2_; clear n0_ n1_ n2_; (try clear hb); (try clear hb2); (try clear hk); (try clear hi); (try clear ho0); have hz23 := blk13 BK349.out) | ((with_reducible refine gate_callee (f := 15) rfl ?_); refine goesL_ (some 23) rfl rfl Tryd.func15 (by kernel_rfl) rfl #[.agg #[.int .u8 a0_0, .int .u8 a0_1, .int .i64 a0_2, .slice A0_3 l0_3.length c0_3, .string a0_4, .int .u32 a0_5, .int .i64 a0_6, .int .u64 a0_7, .int .u64 a0_8, .int .i64 a0_9, .string a0_10, .bool a0_11, .bool a0_12]] rfl t32_2 ?_; (with_reducible refine (cloakroomref14_Write.calls kj1 a0_0 a0_1 a0_2 _ _ l0_3 a0_4 a0_5 a0_6 a0_7 a0_8 a0_9 a0_10 a0_11 a0_12 t355 t358 _ ?side1 ?side2 A13.out).mono ?_); (case side1 => repeat (first | exact (Kd.C_below HR0_3.out HB.out) | (with_reducible refine Kd.C_alloc ?_ _) | (with_reducible refine Kd.C_drewN ?_ _) | (with_reducible refine Kd.C_drew ?_))); (case side2 => exact HC0_3.out); rintro e w24 ⟨v356, rfl, ho0, hb⟩; refine ⟨_, rfl, ?_⟩; have n0_ := Aside0.mk (Kd.V_below (by (with_reducible repeat (first | apply Kd.V_alloc | apply Kd.V_drewN | apply Kd.V_drew)); exact HO353.out) hb); have n1_ := Aside0.mk (Kd.V_lower (Kd.V_mono (ok' := fun k_ => k_ ≠ gb349) ho0 (fun k_ hk_ => (Kd.freshB (g := gb349) (o := .cells #[.int .u8 a0_0, .int .u8 a0_1, .int .i64 a0_2, .slice A0_3 l0_3.length c0_3, .string a0_4, .int .u32 a0_5, .int .i64 a0_6, .int .u64 a0_7, .int .u64 a0_8, .int .i64 a0_9, .string a0_10, .bool a0_11, .bool a0_12] 42 (0, 0)) t32_1 k_ hk_))) (below_size t32_0)); have n2_ := Aside0.mk (blk_below (g := gb349) (o := .cells #[.int .u8 a0_0, .int .u8 a0_1, .int .i64 a0_2, .slice A0_3 l0_3.length c0_3, .string a0_4, .int .u32 a0_5, .int .i64 a0_6, .int .u64 a0_7, .int .u64 a0_8, .int .i64 a0_9, .string a0_10, .bool a0_11, .bool a0_12] 42 (0, 0)) t32_1 hb); have n3_ := Aside0.mk (below_step t32_0 hb); clear HO353; clear BK349; clear HB; have HO353 := n0_; have HO357 := n1_; have BK349 := n2_; have HB := n3_; clear n0_ n1_ n2_ n3_; (try clear hb); (try clear hb2); (try clear hk); (try clear hi); (try clear ho0); have hcv25 := Kd.V_string (P := Tryd.prog) Tryd.underlying29 Tryd.underlying5 Tryd.underlying9 HO353.out; have hcv26 := Kd.V_string (P := Tryd.prog) Tryd.underlying29 Tryd.underlying5 Tryd.underlying9 HO357.out))
     go_ret
     exact ⟨t32_4, t32_0⟩
end Go.Proofs.YtfoengihiaegoaaDoor.P
