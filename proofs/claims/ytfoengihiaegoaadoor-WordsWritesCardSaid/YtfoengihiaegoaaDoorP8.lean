-- written by wip/tools/drive.py, a driver round the kit's printer
import Derived.Test.YtfoengihiaegoaaDoorP0
import Derived.Test.YtfoengihiaegoaaDoorP7
namespace Go.Proofs.YtfoengihiaegoaaDoor.P
open Go.RowKit Go.Proofs.YtfoengihiaegoaaDoorW.PrintWords Go.Proofs.YtfoengihiaegoaaDoorW.PrintLast Go.Proofs.YtfoengihiaegoaaDoorW.PrintMore
attribute [local go_sem] max2_int min2_int max_two min_two max_three min_three max_four min_four   -- for this text's walks alone
set_option linter.unusedVariables false
set_option linter.unusedSimpArgs false

/-! ### cloakroomref15_May: function 26 -/
mutual
def cloakroomref15_May.j0 : Nat → Bool → Int → Int → Int → List (S56) → Int → Bool → ByteArray → Option (Bool)
  | 0, _, _, _, _, _, _, _, _ => none
  | k + 1, x26, x114000, x114001, x114002, x114003, x114004, x114005, x114006 => if x26 = true then (some false) else (if x114000 = 7 then (if (x114006.size : Int) < 1 then (cloakroomref15_May.j1 k true x114000 x114001 x114002 x114003 x114004 x114005 x114006) else (if (x114006.size : Int) > 32 then (cloakroomref15_May.j1 k true x114000 x114001 x114002 x114003 x114004 x114005 x114006) else (cloakroomref15_May.j1 k false x114000 x114001 x114002 x114003 x114004 x114005 x114006))) else (cloakroomref15_May.j1 k (x114006.toList != ([] : List UInt8)) x114000 x114001 x114002 x114003 x114004 x114005 x114006))
def cloakroomref15_May.j1 : Nat → Bool → Int → Int → Int → List (S56) → Int → Bool → ByteArray → Option (Bool)
  | 0, _, _, _, _, _, _, _, _ => none
  | k + 1, x51, x114000, x114001, x114002, x114003, x114004, x114005, x114006 => if x51 = true then (some false) else (if x114000 = 1 then (if x114001 < 1 then (cloakroomref15_May.j2 k true x114000 x114001 x114002 x114003 x114004 x114005 x114006 x114002 x114003 x114004) else (if x114001 > 11 then (cloakroomref15_May.j2 k true x114000 x114001 x114002 x114003 x114004 x114005 x114006 x114002 x114003 x114004) else (if x114002 < 1 then (cloakroomref15_May.j2 k true x114000 x114001 x114002 x114003 x114004 x114005 x114006 x114002 x114003 x114004) else (if x114002 > 7 then (cloakroomref15_May.j2 k true x114000 x114001 x114002 x114003 x114004 x114005 x114006 x114002 x114003 x114004) else (cloakroomref15_May.j2 k (decide ((x114003.length : Int) > 8)) x114000 x114001 x114002 x114003 x114004 x114005 x114006 x114002 x114003 x114004))))) else (if x114001 = 0 then (if x114002 = 0 then (if x114004 = 0 then (some ((x114003.length : Int) == 0)) else (some false)) else (some false)) else (some false)))
def cloakroomref15_May.j2 : Nat → Bool → Int → Int → Int → List (S56) → Int → Bool → ByteArray → Int → List (S56) → Int → Option (Bool)
  | 0, _, _, _, _, _, _, _, _, _, _, _ => none
  | k + 1, x99, x114000, x114001, x114002, x114003, x114004, x114005, x114006, x115000, x115001, x115002 => if x99 = true then (some false) else (if (x115001.length : Int) > 0 then (if x114001 = 1 then (if x115000 = 1 then (if x115002 = 0 then (if x114001 = 10 then (cloakroomref15_May.j3 k (decide (x115002 > 8)) x115000 x115001 x115002) else (cloakroomref15_May.j3 k false x115000 x115001 x115002)) else ((cloakroomref15_counts.f x114001).bind fun t115 => (if t115 = true then (if x114001 = 10 then (cloakroomref15_May.j3 k (decide (x115002 > 8)) x115000 x115001 x115002) else (cloakroomref15_May.j3 k false x115000 x115001 x115002)) else (cloakroomref15_May.j3 k true x115000 x115001 x115002)))) else (cloakroomref15_May.j3 k true x115000 x115001 x115002)) else (cloakroomref15_May.j3 k true x115000 x115001 x115002)) else (if x115002 = 0 then (if x114001 = 10 then (cloakroomref15_May.j3 k (decide (x115002 > 8)) x115000 x115001 x115002) else (cloakroomref15_May.j3 k false x115000 x115001 x115002)) else ((cloakroomref15_counts.f x114001).bind fun t116 => (if t116 = true then (if x115000 = 1 then (if x114001 = 10 then (cloakroomref15_May.j3 k (decide (x115002 > 8)) x115000 x115001 x115002) else (cloakroomref15_May.j3 k false x115000 x115001 x115002)) else (cloakroomref15_May.j3 k true x115000 x115001 x115002)) else (cloakroomref15_May.j3 k true x115000 x115001 x115002)))))
def cloakroomref15_May.j3 : Nat → Bool → Int → List (S56) → Int → Option (Bool)
  | 0, _, _, _, _ => none
  | k + 1, x139, x115000, x115001, x115002 => if x139 = true then (some false) else (cloakroomref15_May.l0 k 0 x115000 x115001 x115002)
def cloakroomref15_May.l0 : Nat → Int → Int → List (S56) → Int → Option (Bool)
  | 0, _, _, _, _ => none
  | k + 1, x4, x115000, x115001, x115002 => if x4 < (x115001.length : Int) then (if 0 ≤ x4 then ((cloakroomref09_Check.f k ((rd_T56 x115001 x4).f0) ((rd_T56 x115001 x4).f1) ((rd_T56 x115001 x4).f2) ((rd_T56 x115001 x4).f3) ((rd_T56 x115001 x4).f4)).bind fun t118 => (if t118 = 0 then (cloakroomref15_May.l0 k (wrap64 (x4 + 1)) x115000 x115001 x115002) else (some false))) else (none)) else (some true)
end
def cloakroomref15_May.f (k : Nat) (a0_0 : Int) (a0_1 : Int) (a0_2 : Int) (l0_3 : List (S56)) (a0_4 : Int) (a0_5 : Bool) (a0_6 : ByteArray) : Option (Bool) := if a0_0 < 1 then (cloakroomref15_May.j0 k true a0_0 a0_1 a0_2 l0_3 a0_4 a0_5 a0_6) else (if a0_0 > 7 then (cloakroomref15_May.j0 k true a0_0 a0_1 a0_2 l0_3 a0_4 a0_5 a0_6) else (if a0_5 = true then (if a0_0 = 2 then (cloakroomref15_May.j0 k false a0_0 a0_1 a0_2 l0_3 a0_4 a0_5 a0_6) else (cloakroomref15_May.j0 k (a0_0 != 3) a0_0 a0_1 a0_2 l0_3 a0_4 a0_5 a0_6)) else (cloakroomref15_May.j0 k false a0_0 a0_1 a0_2 l0_3 a0_4 a0_5 a0_6)))
theorem cloakroomref15_May.mono_l : ∀ k, (∀ y0 y1 y2 y3 y4 y5 y6 y7, LeO (cloakroomref15_May.j0 k y0 y1 y2 y3 y4 y5 y6 y7) (cloakroomref15_May.j0 (k + 1) y0 y1 y2 y3 y4 y5 y6 y7)) ∧ (∀ y0 y1 y2 y3 y4 y5 y6 y7, LeO (cloakroomref15_May.j1 k y0 y1 y2 y3 y4 y5 y6 y7) (cloakroomref15_May.j1 (k + 1) y0 y1 y2 y3 y4 y5 y6 y7)) ∧ (∀ y0 y1 y2 y3 y4 y5 y6 y7 y8 y9 y10, LeO (cloakroomref15_May.j2 k y0 y1 y2 y3 y4 y5 y6 y7 y8 y9 y10) (cloakroomref15_May.j2 (k + 1) y0 y1 y2 y3 y4 y5 y6 y7 y8 y9 y10)) ∧ (∀ y0 y1 y2 y3, LeO (cloakroomref15_May.j3 k y0 y1 y2 y3) (cloakroomref15_May.j3 (k + 1) y0 y1 y2 y3)) ∧ (∀ y0 y1 y2 y3, LeO (cloakroomref15_May.l0 k y0 y1 y2 y3) (cloakroomref15_May.l0 (k + 1) y0 y1 y2 y3))
  | 0 => ⟨fun _ _ _ _ _ _ _ _ r h => by simp [cloakroomref15_May.j0] at h, fun _ _ _ _ _ _ _ _ r h => by simp [cloakroomref15_May.j1] at h, fun _ _ _ _ _ _ _ _ _ _ _ r h => by simp [cloakroomref15_May.j2] at h, fun _ _ _ _ r h => by simp [cloakroomref15_May.j3] at h, fun _ _ _ _ r h => by simp [cloakroomref15_May.l0] at h⟩
  | k + 1 => by
    obtain ⟨ih0, ih1, ih2, ih3, ih4⟩ := cloakroomref15_May.mono_l k
    refine ⟨?_, ?_, ?_, ?_, ?_⟩
    · intro y0 y1 y2 y3 y4 y5 y6 y7
      unfold cloakroomref15_May.j0
      repeat' first
      | (with_reducible exact ih0 _ _ _ _ _ _ _ _)
      | (with_reducible exact ih1 _ _ _ _ _ _ _ _)
      | (with_reducible exact ih2 _ _ _ _ _ _ _ _ _ _ _)
      | (with_reducible exact ih3 _ _ _ _)
      | (with_reducible exact ih4 _ _ _ _)
      | (with_reducible exact cloakroomref09_Check.mono _ _ _ _ _ _)
      | (with_reducible exact LeO.refl _)
      | (with_reducible exact LeO.none _)
      | (with_reducible refine LeO.ite ?_ ?_)
      | (with_reducible refine LeO.bind ?_ (fun _ => ?_))
      | exact ih0 _ _ _ _ _ _ _ _
      | exact ih1 _ _ _ _ _ _ _ _
      | exact ih2 _ _ _ _ _ _ _ _ _ _ _
      | exact ih3 _ _ _ _
      | exact ih4 _ _ _ _
      | exact cloakroomref09_Check.mono _ _ _ _ _ _
      | exact LeO.none _
      | refine LeO.ite ?_ ?_
      | refine LeO.bind ?_ (fun _ => ?_)
    · intro y0 y1 y2 y3 y4 y5 y6 y7
      unfold cloakroomref15_May.j1
      repeat' first
      | (with_reducible exact ih0 _ _ _ _ _ _ _ _)
      | (with_reducible exact ih1 _ _ _ _ _ _ _ _)
      | (with_reducible exact ih2 _ _ _ _ _ _ _ _ _ _ _)
      | (with_reducible exact ih3 _ _ _ _)
      | (with_reducible exact ih4 _ _ _ _)
      | (with_reducible exact cloakroomref09_Check.mono _ _ _ _ _ _)
      | (with_reducible exact LeO.refl _)
      | (with_reducible exact LeO.none _)
      | (with_reducible refine LeO.ite ?_ ?_)
      | (with_reducible refine LeO.bind ?_ (fun _ => ?_))
      | exact ih0 _ _ _ _ _ _ _ _
      | exact ih1 _ _ _ _ _ _ _ _
      | exact ih2 _ _ _ _ _ _ _ _ _ _ _
      | exact ih3 _ _ _ _
      | exact ih4 _ _ _ _
      | exact cloakroomref09_Check.mono _ _ _ _ _ _
      | exact LeO.none _
      | refine LeO.ite ?_ ?_
      | refine LeO.bind ?_ (fun _ => ?_)
    · intro y0 y1 y2 y3 y4 y5 y6 y7 y8 y9 y10
      unfold cloakroomref15_May.j2
      repeat' first
      | (with_reducible exact ih0 _ _ _ _ _ _ _ _)
      | (with_reducible exact ih1 _ _ _ _ _ _ _ _)
      | (with_reducible exact ih2 _ _ _ _ _ _ _ _ _ _ _)
      | (with_reducible exact ih3 _ _ _ _)
      | (with_reducible exact ih4 _ _ _ _)
      | (with_reducible exact cloakroomref09_Check.mono _ _ _ _ _ _)
      | (with_reducible exact LeO.refl _)
      | (with_reducible exact LeO.none _)
      | (with_reducible refine LeO.ite ?_ ?_)
      | (with_reducible refine LeO.bind ?_ (fun _ => ?_))
      | exact ih0 _ _ _ _ _ _ _ _
      | exact ih1 _ _ _ _ _ _ _ _
      | exact ih2 _ _ _ _ _ _ _ _ _ _ _
      | exact ih3 _ _ _ _
      | exact ih4 _ _ _ _
      | exact cloakroomref09_Check.mono _ _ _ _ _ _
      | exact LeO.none _
      | refine LeO.ite ?_ ?_
      | refine LeO.bind ?_ (fun _ => ?_)
    · intro y0 y1 y2 y3
      unfold cloakroomref15_May.j3
      repeat' first
      | (with_reducible exact ih0 _ _ _ _ _ _ _ _)
      | (with_reducible exact ih1 _ _ _ _ _ _ _ _)
      | (with_reducible exact ih2 _ _ _ _ _ _ _ _ _ _ _)
      | (with_reducible exact ih3 _ _ _ _)
      | (with_reducible exact ih4 _ _ _ _)
      | (with_reducible exact cloakroomref09_Check.mono _ _ _ _ _ _)
      | (with_reducible exact LeO.refl _)
      | (with_reducible exact LeO.none _)
      | (with_reducible refine LeO.ite ?_ ?_)
      | (with_reducible refine LeO.bind ?_ (fun _ => ?_))
      | exact ih0 _ _ _ _ _ _ _ _
      | exact ih1 _ _ _ _ _ _ _ _
      | exact ih2 _ _ _ _ _ _ _ _ _ _ _
      | exact ih3 _ _ _ _
      | exact ih4 _ _ _ _
      | exact cloakroomref09_Check.mono _ _ _ _ _ _
      | exact LeO.none _
      | refine LeO.ite ?_ ?_
      | refine LeO.bind ?_ (fun _ => ?_)
    · intro y0 y1 y2 y3
      unfold cloakroomref15_May.l0
      repeat' first
      | (with_reducible exact ih0 _ _ _ _ _ _ _ _)
      | (with_reducible exact ih1 _ _ _ _ _ _ _ _)
      | (with_reducible exact ih2 _ _ _ _ _ _ _ _ _ _ _)
      | (with_reducible exact ih3 _ _ _ _)
      | (with_reducible exact ih4 _ _ _ _)
      | (with_reducible exact cloakroomref09_Check.mono _ _ _ _ _ _)
      | (with_reducible exact LeO.refl _)
      | (with_reducible exact LeO.none _)
      | (with_reducible refine LeO.ite ?_ ?_)
      | (with_reducible refine LeO.bind ?_ (fun _ => ?_))
      | exact ih0 _ _ _ _ _ _ _ _
      | exact ih1 _ _ _ _ _ _ _ _
      | exact ih2 _ _ _ _ _ _ _ _ _ _ _
      | exact ih3 _ _ _ _
      | exact ih4 _ _ _ _
      | exact cloakroomref09_Check.mono _ _ _ _ _ _
      | exact LeO.none _
      | refine LeO.ite ?_ ?_
      | refine LeO.bind ?_ (fun _ => ?_)
theorem cloakroomref15_May.mono : ∀ a0 a1 a2 a3 a4 a5 a6 k, LeO (cloakroomref15_May.f k a0 a1 a2 a3 a4 a5 a6) (cloakroomref15_May.f (k + 1) a0 a1 a2 a3 a4 a5 a6) := by
  intro a0 a1 a2 a3 a4 a5 a6 k
  obtain ⟨ih0, ih1, ih2, ih3, ih4⟩ := cloakroomref15_May.mono_l k
  unfold cloakroomref15_May.f
  repeat' first
      | (with_reducible exact ih0 _ _ _ _ _ _ _ _)
      | (with_reducible exact ih1 _ _ _ _ _ _ _ _)
      | (with_reducible exact ih2 _ _ _ _ _ _ _ _ _ _ _)
      | (with_reducible exact ih3 _ _ _ _)
      | (with_reducible exact ih4 _ _ _ _)
      | (with_reducible exact cloakroomref09_Check.mono _ _ _ _ _ _)
      | (with_reducible exact LeO.refl _)
      | (with_reducible exact LeO.none _)
      | (with_reducible refine LeO.ite ?_ ?_)
      | (with_reducible refine LeO.bind ?_ (fun _ => ?_))
      | exact ih0 _ _ _ _ _ _ _ _
      | exact ih1 _ _ _ _ _ _ _ _
      | exact ih2 _ _ _ _ _ _ _ _ _ _ _
      | exact ih3 _ _ _ _
      | exact ih4 _ _ _ _
      | exact cloakroomref09_Check.mono _ _ _ _ _ _
      | exact LeO.none _
      | refine LeO.ite ?_ ?_
      | refine LeO.bind ?_ (fun _ => ?_)
set_option maxHeartbeats 8000000 in
set_option maxRecDepth 100000 in
theorem cloakroomref15_May.calls (k : Nat) (a0_0 : Int) (a0_1 : Int) (a0_2 : Int) (A0_3 : Option Addr) (c0_3 : Nat) (l0_3 : List (S56)) (a0_4 : Int) (a0_5 : Bool) (a0_6 : ByteArray) (r : Bool) (w : World) (hr0_3 : Kd.C k56 w A0_3 l0_3.length l0_3) (hc0_3 : l0_3.length ≤ c0_3) (h : cloakroomref15_May.f k a0_0 a0_1 a0_2 l0_3 a0_4 a0_5 a0_6 = some r) :
    Calls Tryd.prog 26 #[.agg #[.int .u8 a0_0, .int .u8 a0_1, .int .u8 a0_2, .slice A0_3 l0_3.length c0_3, .int .u64 a0_4, .bool a0_5, .string a0_6]] w fun e w' => e = .returned (.bool r) ∧ Below w.heap.size w w' := by
  have hu27 := Tryd.underlying27
  have hu25 := Tryd.underlying25
  have hu56 := Tryd.underlying56
  have HR0_3 := Aside0.mk hr0_3
  have HC0_3 := Aside0.mk hc0_3
  clear hr0_3 hc0_3
  have HB := Aside0.mk (Below.refl w.heap.size w)
  have H : (if a0_0 < 1 then (cloakroomref15_May.j0 k true a0_0 a0_1 a0_2 l0_3 a0_4 a0_5 a0_6) else (if a0_0 > 7 then (cloakroomref15_May.j0 k true a0_0 a0_1 a0_2 l0_3 a0_4 a0_5 a0_6) else (if a0_5 = true then (if a0_0 = 2 then (cloakroomref15_May.j0 k false a0_0 a0_1 a0_2 l0_3 a0_4 a0_5 a0_6) else (cloakroomref15_May.j0 k (a0_0 != 3) a0_0 a0_1 a0_2 l0_3 a0_4 a0_5 a0_6)) else (cloakroomref15_May.j0 k false a0_0 a0_1 a0_2 l0_3 a0_4 a0_5 a0_6)))) = some r := h
  clear h
  have HC2 := Aside0.mk H
  clear H
  go_enter Tryd.func26, Tryd.ntmps26
  go_upto_region 1 with (first | ((with_reducible refine gate_dst (N := 1) rfl ?_); (try (refine gate_guard (by rfl) ?_; dsimp only)); refine box_event ?hg (N := 1) ?hd (cs := #[.int .u8 a0_0, .int .u8 a0_1, .int .u8 a0_2, .slice A0_3 l0_3.length c0_3, .int .u64 a0_4, .bool a0_5, .string a0_6]) (t := 27) ?hr ?_; (case hd => rfl); (case hg => rfl); (case hr => first | (go_simp; done) | (go_simp; rfl)); intro gb113 hg w3 hbox hb; have n0_ := Aside0.mk (below_step (by repeat (first | (with_reducible first | exact HB.out | apply below_alloc | apply pw_below_drewN | apply below_drew1) | exact HB.out)) hb); have n1_ := Aside0.mk (hbox); have n2_ := Aside0.mk ((by rw [hg]; exact (below_size (by repeat (first | (with_reducible first | exact HB.out | apply below_alloc | apply pw_below_drewN | apply below_drew1) | exact HB.out))) : w.heap.size ≤ gb113)); have n3_ := Aside0.mk ((by rw [hg]; exact (below_size (by repeat (first | (with_reducible first | exact HB.out | apply below_alloc | apply pw_below_drewN | apply below_drew1) | exact HB.out))) : w.heap.size ≤ gb113)); clear HB; have HB := n0_; have BK113 := n1_; have GW113 := n2_; have GE113 := n3_; clear n0_ n1_ n2_ n3_; clear hb hbox hg))
  (try simp only [Act.put, List.setIfInBounds_toArray, List.set_cons_zero, List.set_cons_succ])
  go_cut [26] (fun v26 wc => ∃ (kq : Nat) (x26_1 : Bool), v26 = .bool x26_1 ∧ Aside0 (cloakroomref15_May.j0 kq x26_1 a0_0 a0_1 a0_2 l0_3 a0_4 a0_5 a0_6 = some r) ∧ Aside0 (kq ≤ k) ∧ Aside0 (wc.heap[gb113]? = some (.cells #[.int .u8 a0_0, .int .u8 a0_1, .int .u8 a0_2, (.slice A0_3 l0_3.length c0_3), .int .u64 a0_4, .bool a0_5, .string a0_6] 27 (0, 0))) ∧ Aside0 (Below w.heap.size w wc))
  case first =>
    have H := HC2.out
    clear HC2
    by_cases c4 : a0_0 < 1
    · rw [if_pos c4] at H
      have c4b0 : decide (a0_0 < 1) = true := decide_eq_true c4
      clear c4
      (first | rw [c4b0] | (simp only [i64_w, i32_w]; rw [c4b0]) | skip)
      have H' := Aside0.mk H
      clear H
      have hcz5_0 : w3.cell? ⟨gb113, 0, none⟩ = some (.int .u8 a0_0) := (blk_cell BK113.out 0).trans rfl
      have hcz5_1 : w3.cell? ⟨gb113, 1, none⟩ = some (.int .u8 a0_1) := (blk_cell BK113.out 1).trans rfl
      have hcz5_2 : w3.cell? ⟨gb113, 2, none⟩ = some (.int .u8 a0_2) := (blk_cell BK113.out 2).trans rfl
      have hcz5_3 : w3.cell? ⟨gb113, 3, none⟩ = some (.slice A0_3 l0_3.length c0_3) := (blk_cell BK113.out 3).trans rfl
      have hcz5_4 : w3.cell? ⟨gb113, 4, none⟩ = some (.int .u64 a0_4) := (blk_cell BK113.out 4).trans rfl
      have hcz5_5 : w3.cell? ⟨gb113, 5, none⟩ = some (.bool a0_5) := (blk_cell BK113.out 5).trans rfl
      have hcz5_6 : w3.cell? ⟨gb113, 6, none⟩ = some (.string a0_6) := (blk_cell BK113.out 6).trans rfl
      have hfz5_0 := blk_frozen BK113.out 0
      have hfz5_1 := blk_frozen BK113.out 1
      have hfz5_2 := blk_frozen BK113.out 2
      have hfz5_3 := blk_frozen BK113.out 3
      have hfz5_4 := blk_frozen BK113.out 4
      have hfz5_5 := blk_frozen BK113.out 5
      have hfz5_6 := blk_frozen BK113.out 6
      go_wp2
      go_meet
      case rel => exact ⟨_, (true), (by first | rfl | (simp; done) | (simp [*]; done) | exact x_nonempty _ | (simp [x_nonempty]; done)), H', ⟨by first | omega | exact Nat.le_refl _⟩, ⟨by (with_reducible repeat (first | refine blk_drewN ?_ _ | refine blk_drew ?_ | refine blk_alloc ?_ _)); exact BK113.out⟩, ⟨by repeat (first | (with_reducible first | exact HB.out | apply below_alloc | apply pw_below_drewN | apply below_drew1 | refine below_set ?_ GE113.out) | exact HB.out)⟩⟩
    · rw [if_neg c4] at H
      have c4b0 : decide (a0_0 < 1) = false := decide_eq_false c4
      clear c4
      (first | rw [c4b0] | (simp only [i64_w, i32_w]; rw [c4b0]) | skip)
      by_cases c6 : a0_0 > 7
      · rw [if_pos c6] at H
        have c6b0 : decide (7 < a0_0) = true := decide_eq_true c6
        clear c6
        have H' := Aside0.mk H
        clear H
        have hcz7_0 : w3.cell? ⟨gb113, 0, none⟩ = some (.int .u8 a0_0) := (blk_cell BK113.out 0).trans rfl
        have hcz7_1 : w3.cell? ⟨gb113, 1, none⟩ = some (.int .u8 a0_1) := (blk_cell BK113.out 1).trans rfl
        have hcz7_2 : w3.cell? ⟨gb113, 2, none⟩ = some (.int .u8 a0_2) := (blk_cell BK113.out 2).trans rfl
        have hcz7_3 : w3.cell? ⟨gb113, 3, none⟩ = some (.slice A0_3 l0_3.length c0_3) := (blk_cell BK113.out 3).trans rfl
        have hcz7_4 : w3.cell? ⟨gb113, 4, none⟩ = some (.int .u64 a0_4) := (blk_cell BK113.out 4).trans rfl
        have hcz7_5 : w3.cell? ⟨gb113, 5, none⟩ = some (.bool a0_5) := (blk_cell BK113.out 5).trans rfl
        have hcz7_6 : w3.cell? ⟨gb113, 6, none⟩ = some (.string a0_6) := (blk_cell BK113.out 6).trans rfl
        have hfz7_0 := blk_frozen BK113.out 0
        have hfz7_1 := blk_frozen BK113.out 1
        have hfz7_2 := blk_frozen BK113.out 2
        have hfz7_3 := blk_frozen BK113.out 3
        have hfz7_4 := blk_frozen BK113.out 4
        have hfz7_5 := blk_frozen BK113.out 5
        have hfz7_6 := blk_frozen BK113.out 6
        go_wp2
        go_meet
        case rel => exact ⟨_, (true), (by first | rfl | (simp; done) | (simp [*]; done) | exact x_nonempty _ | (simp [x_nonempty]; done)), H', ⟨by first | omega | exact Nat.le_refl _⟩, ⟨by (with_reducible repeat (first | refine blk_drewN ?_ _ | refine blk_drew ?_ | refine blk_alloc ?_ _)); exact BK113.out⟩, ⟨by repeat (first | (with_reducible first | exact HB.out | apply below_alloc | apply pw_below_drewN | apply below_drew1 | refine below_set ?_ GE113.out) | exact HB.out)⟩⟩
      · rw [if_neg c6] at H
        have c6b0 : decide (7 < a0_0) = false := decide_eq_false c6
        clear c6
        by_cases c8 : a0_5 = true
        · subst c8
          have H1 : (if a0_0 = 2 then (cloakroomref15_May.j0 k false a0_0 a0_1 a0_2 l0_3 a0_4 true a0_6) else (cloakroomref15_May.j0 k (a0_0 != 3) a0_0 a0_1 a0_2 l0_3 a0_4 true a0_6)) = some r := by rw [if_pos rfl] at H; exact H
          clear H
          have H := H1
          clear H1
          by_cases c9 : a0_0 = 2
          · rw [if_pos c9] at H
            have c9b0 : (a0_0 == 2) = true := beq_iff_eq.mpr c9
            have c9b1 : (a0_0 != 2) = false := bne_eq_false_iff_eq.mpr c9
            clear c9
            have H' := Aside0.mk H
            clear H
            have hcz10_0 : w3.cell? ⟨gb113, 0, none⟩ = some (.int .u8 a0_0) := (blk_cell BK113.out 0).trans rfl
            have hcz10_1 : w3.cell? ⟨gb113, 1, none⟩ = some (.int .u8 a0_1) := (blk_cell BK113.out 1).trans rfl
            have hcz10_2 : w3.cell? ⟨gb113, 2, none⟩ = some (.int .u8 a0_2) := (blk_cell BK113.out 2).trans rfl
            have hcz10_3 : w3.cell? ⟨gb113, 3, none⟩ = some (.slice A0_3 l0_3.length c0_3) := (blk_cell BK113.out 3).trans rfl
            have hcz10_4 : w3.cell? ⟨gb113, 4, none⟩ = some (.int .u64 a0_4) := (blk_cell BK113.out 4).trans rfl
            have hcz10_5 : w3.cell? ⟨gb113, 5, none⟩ = some (.bool true) := (blk_cell BK113.out 5).trans rfl
            have hcz10_6 : w3.cell? ⟨gb113, 6, none⟩ = some (.string a0_6) := (blk_cell BK113.out 6).trans rfl
            have hfz10_0 := blk_frozen BK113.out 0
            have hfz10_1 := blk_frozen BK113.out 1
            have hfz10_2 := blk_frozen BK113.out 2
            have hfz10_3 := blk_frozen BK113.out 3
            have hfz10_4 := blk_frozen BK113.out 4
            have hfz10_5 := blk_frozen BK113.out 5
            have hfz10_6 := blk_frozen BK113.out 6
            go_wp2
            go_meet
            case rel => exact ⟨_, (false), (by first | rfl | (simp; done) | (simp [*]; done) | exact x_nonempty _ | (simp [x_nonempty]; done)), H', ⟨by first | omega | exact Nat.le_refl _⟩, ⟨by (with_reducible repeat (first | refine blk_drewN ?_ _ | refine blk_drew ?_ | refine blk_alloc ?_ _)); exact BK113.out⟩, ⟨by repeat (first | (with_reducible first | exact HB.out | apply below_alloc | apply pw_below_drewN | apply below_drew1 | refine below_set ?_ GE113.out) | exact HB.out)⟩⟩
          · rw [if_neg c9] at H
            have c9b0 : (a0_0 == 2) = false := beq_eq_false_iff_ne.mpr c9
            have c9b1 : (a0_0 != 2) = true := bne_iff_ne.mpr c9
            have H' := Aside0.mk H
            clear H
            have hcz11_0 : w3.cell? ⟨gb113, 0, none⟩ = some (.int .u8 a0_0) := (blk_cell BK113.out 0).trans rfl
            have hcz11_1 : w3.cell? ⟨gb113, 1, none⟩ = some (.int .u8 a0_1) := (blk_cell BK113.out 1).trans rfl
            have hcz11_2 : w3.cell? ⟨gb113, 2, none⟩ = some (.int .u8 a0_2) := (blk_cell BK113.out 2).trans rfl
            have hcz11_3 : w3.cell? ⟨gb113, 3, none⟩ = some (.slice A0_3 l0_3.length c0_3) := (blk_cell BK113.out 3).trans rfl
            have hcz11_4 : w3.cell? ⟨gb113, 4, none⟩ = some (.int .u64 a0_4) := (blk_cell BK113.out 4).trans rfl
            have hcz11_5 : w3.cell? ⟨gb113, 5, none⟩ = some (.bool true) := (blk_cell BK113.out 5).trans rfl
            have hcz11_6 : w3.cell? ⟨gb113, 6, none⟩ = some (.string a0_6) := (blk_cell BK113.out 6).trans rfl
            have hfz11_0 := blk_frozen BK113.out 0
            have hfz11_1 := blk_frozen BK113.out 1
            have hfz11_2 := blk_frozen BK113.out 2
            have hfz11_3 := blk_frozen BK113.out 3
            have hfz11_4 := blk_frozen BK113.out 4
            have hfz11_5 := blk_frozen BK113.out 5
            have hfz11_6 := blk_frozen BK113.out 6
            go_wp2
            go_meet
            case rel => exact ⟨_, ((a0_0 != 3)), (by first | rfl | (simp; done) | (simp [*]; done) | exact x_nonempty _ | (simp [x_nonempty]; done)), H', ⟨by first | omega | exact Nat.le_refl _⟩, ⟨by (with_reducible repeat (first | refine blk_drewN ?_ _ | refine blk_drew ?_ | refine blk_alloc ?_ _)); exact BK113.out⟩, ⟨by repeat (first | (with_reducible first | exact HB.out | apply below_alloc | apply pw_below_drewN | apply below_drew1 | refine below_set ?_ GE113.out) | exact HB.out)⟩⟩
        · replace c8 := Bool.eq_false_iff.mpr c8
          subst c8
          have H1 : (cloakroomref15_May.j0 k false a0_0 a0_1 a0_2 l0_3 a0_4 false a0_6) = some r := by rw [if_neg (show ¬ (false = true) by decide)] at H; exact H
          clear H
          have H := H1
          clear H1
          have H' := Aside0.mk H
          clear H
          have hcz12_0 : w3.cell? ⟨gb113, 0, none⟩ = some (.int .u8 a0_0) := (blk_cell BK113.out 0).trans rfl
          have hcz12_1 : w3.cell? ⟨gb113, 1, none⟩ = some (.int .u8 a0_1) := (blk_cell BK113.out 1).trans rfl
          have hcz12_2 : w3.cell? ⟨gb113, 2, none⟩ = some (.int .u8 a0_2) := (blk_cell BK113.out 2).trans rfl
          have hcz12_3 : w3.cell? ⟨gb113, 3, none⟩ = some (.slice A0_3 l0_3.length c0_3) := (blk_cell BK113.out 3).trans rfl
          have hcz12_4 : w3.cell? ⟨gb113, 4, none⟩ = some (.int .u64 a0_4) := (blk_cell BK113.out 4).trans rfl
          have hcz12_5 : w3.cell? ⟨gb113, 5, none⟩ = some (.bool false) := (blk_cell BK113.out 5).trans rfl
          have hcz12_6 : w3.cell? ⟨gb113, 6, none⟩ = some (.string a0_6) := (blk_cell BK113.out 6).trans rfl
          have hfz12_0 := blk_frozen BK113.out 0
          have hfz12_1 := blk_frozen BK113.out 1
          have hfz12_2 := blk_frozen BK113.out 2
          have hfz12_3 := blk_frozen BK113.out 3
          have hfz12_4 := blk_frozen BK113.out 4
          have hfz12_5 := blk_frozen BK113.out 5
          have hfz12_6 := blk_frozen BK113.out 6
          go_wp2
          go_meet
          case rel => exact ⟨_, (false), (by first | rfl | (simp; done) | (simp [*]; done) | exact x_nonempty _ | (simp [x_nonempty]; done)), H', ⟨by first | omega | exact Nat.le_refl _⟩, ⟨by (with_reducible repeat (first | refine blk_drewN ?_ _ | refine blk_drew ?_ | refine blk_alloc ?_ _)); exact BK113.out⟩, ⟨by repeat (first | (with_reducible first | exact HB.out | apply below_alloc | apply pw_below_drewN | apply below_drew1 | refine below_set ?_ GE113.out) | exact HB.out)⟩⟩
  case rest => as_aux_lemma =>
    clear HC2
    (try clear c2); (try clear p2); (try clear c4); (try clear c4b0); (try clear c6); (try clear c6b0); (try clear c8); (try clear c9); (try clear c9b0); (try clear c9b1); (try clear hcz10_0); (try clear hcz10_1); (try clear hcz10_2); (try clear hcz10_3); (try clear hcz10_4); (try clear hcz10_5); (try clear hcz10_6); (try clear hcz11_0); (try clear hcz11_1); (try clear hcz11_2); (try clear hcz11_3); (try clear hcz11_4); (try clear hcz11_5); (try clear hcz11_6); (try clear hcz12_0); (try clear hcz12_1); (try clear hcz12_2); (try clear hcz12_3); (try clear hcz12_4); (try clear hcz12_5); (try clear hcz12_6); (try clear hcz5_0); (try clear hcz5_1); (try clear hcz5_2); (try clear hcz5_3); (try clear hcz5_4); (try clear hcz5_5); (try clear hcz5_6); (try clear hcz7_0); (try clear hcz7_1); (try clear hcz7_2); (try clear hcz7_3); (try clear hcz7_4); (try clear hcz7_5); (try clear hcz7_6); (try clear hfz10_0); (try clear hfz10_1); (try clear hfz10_2); (try clear hfz10_3); (try clear hfz10_4); (try clear hfz10_5); (try clear hfz10_6); (try clear hfz11_0); (try clear hfz11_1); (try clear hfz11_2); (try clear hfz11_3); (try clear hfz11_4); (try clear hfz11_5); (try clear hfz11_6); (try clear hfz12_0); (try clear hfz12_1); (try clear hfz12_2); (try clear hfz12_3); (try clear hfz12_4); (try clear hfz12_5); (try clear hfz12_6); (try clear hfz5_0); (try clear hfz5_1); (try clear hfz5_2); (try clear hfz5_3); (try clear hfz5_4); (try clear hfz5_5); (try clear hfz5_6); (try clear hfz7_0); (try clear hfz7_1); (try clear hfz7_2); (try clear hfz7_3); (try clear hfz7_4); (try clear hfz7_5); (try clear hfz7_6)
    obtain ⟨kq, x26_1, rfl, HA, HJ1, BK113, HB⟩ := hcut
    cases kq with
    | zero => exact absurd HA.out (by simp [cloakroomref15_May.j0])
    | succ kj1 =>
      have H := HA.out
      clear HA
      simp only [cloakroomref15_May.j0] at H
      by_cases c13 : x26_1 = true
      · subst c13
        have H1 : (some false) = some r := by rw [if_pos rfl] at H; exact H
        clear H
        have H := H1
        clear H1
        obtain rfl := Option.some.inj H
        go_wp2
        go_ret
        exact ⟨by first | rfl | (simp [errW_none, errW_some] <;> rfl) | (simp [*, errW_none, errW_some] <;> rfl), by repeat (first | (with_reducible first | exact HB.out | apply below_alloc | apply pw_below_drewN | apply below_drew1 | refine below_set ?_ GE113.out) | exact HB.out)⟩
      · replace c13 := Bool.eq_false_iff.mpr c13
        subst c13
        have H1 : (if a0_0 = 7 then (if (a0_6.size : Int) < 1 then (cloakroomref15_May.j1 kj1 true a0_0 a0_1 a0_2 l0_3 a0_4 a0_5 a0_6) else (if (a0_6.size : Int) > 32 then (cloakroomref15_May.j1 kj1 true a0_0 a0_1 a0_2 l0_3 a0_4 a0_5 a0_6) else (cloakroomref15_May.j1 kj1 false a0_0 a0_1 a0_2 l0_3 a0_4 a0_5 a0_6))) else (cloakroomref15_May.j1 kj1 (a0_6.toList != ([] : List UInt8)) a0_0 a0_1 a0_2 l0_3 a0_4 a0_5 a0_6)) = some r := by rw [if_neg (show ¬ (false = true) by decide)] at H; exact H
        clear H
        have H := H1
        clear H1
        have HC14 := Aside0.mk H
        clear H
        go_upto_region 3 with (fail)
        go_cut [51] (fun v51 wc => ∃ (kq : Nat) (x51_13 : Bool), v51 = .bool x51_13 ∧ Aside0 (cloakroomref15_May.j1 kq x51_13 a0_0 a0_1 a0_2 l0_3 a0_4 a0_5 a0_6 = some r) ∧ Aside0 (kq ≤ kj1) ∧ Aside0 (wc.heap[gb113]? = some (.cells #[.int .u8 a0_0, .int .u8 a0_1, .int .u8 a0_2, (.slice A0_3 l0_3.length c0_3), .int .u64 a0_4, .bool a0_5, .string a0_6] 27 (0, 0))) ∧ Aside0 (Below w.heap.size w wc))
        case first =>
          have H := HC14.out
          clear HC14
          by_cases c15 : a0_0 = 7
          · rw [if_pos c15] at H
            have c15b0 : (a0_0 == 7) = true := beq_iff_eq.mpr c15
            have c15b1 : (a0_0 != 7) = false := bne_eq_false_iff_eq.mpr c15
            clear c15
            (first | rw [c15b0] | (simp only [i64_w, i32_w]; rw [c15b0]) | skip)
            by_cases c16 : (a0_6.size : Int) < 1
            · rw [if_pos c16] at H
              have c16b0 : decide ((a0_6.size : Int) < 1) = true := decide_eq_true c16
              have c16b1 : decide (a0_6.size < 1) = true := decide_eq_true (by omega)
              clear c16
              have H' := Aside0.mk H
              clear H
              have hcz17_0 : wc.cell? ⟨gb113, 0, none⟩ = some (.int .u8 a0_0) := (blk_cell BK113.out 0).trans rfl
              have hcz17_1 : wc.cell? ⟨gb113, 1, none⟩ = some (.int .u8 a0_1) := (blk_cell BK113.out 1).trans rfl
              have hcz17_2 : wc.cell? ⟨gb113, 2, none⟩ = some (.int .u8 a0_2) := (blk_cell BK113.out 2).trans rfl
              have hcz17_3 : wc.cell? ⟨gb113, 3, none⟩ = some (.slice A0_3 l0_3.length c0_3) := (blk_cell BK113.out 3).trans rfl
              have hcz17_4 : wc.cell? ⟨gb113, 4, none⟩ = some (.int .u64 a0_4) := (blk_cell BK113.out 4).trans rfl
              have hcz17_5 : wc.cell? ⟨gb113, 5, none⟩ = some (.bool a0_5) := (blk_cell BK113.out 5).trans rfl
              have hcz17_6 : wc.cell? ⟨gb113, 6, none⟩ = some (.string a0_6) := (blk_cell BK113.out 6).trans rfl
              have hfz17_0 := blk_frozen BK113.out 0
              have hfz17_1 := blk_frozen BK113.out 1
              have hfz17_2 := blk_frozen BK113.out 2
              have hfz17_3 := blk_frozen BK113.out 3
              have hfz17_4 := blk_frozen BK113.out 4
              have hfz17_5 := blk_frozen BK113.out 5
              have hfz17_6 := blk_frozen BK113.out 6
              go_wp2
              go_meet
              case rel => exact ⟨_, (true), (by first | rfl | (simp; done) | (simp [*]; done) | exact x_nonempty _ | (simp [x_nonempty]; done)), H', ⟨by have := HJ1.out; first | omega | exact Nat.le_refl _⟩, ⟨by (with_reducible repeat (first | refine blk_drewN ?_ _ | refine blk_drew ?_ | refine blk_alloc ?_ _)); exact BK113.out⟩, ⟨by repeat (first | (with_reducible first | exact HB.out | apply below_alloc | apply pw_below_drewN | apply below_drew1 | refine below_set ?_ GE113.out) | exact HB.out)⟩⟩
            · rw [if_neg c16] at H
              have c16b0 : decide ((a0_6.size : Int) < 1) = false := decide_eq_false c16
              have c16b1 : decide (a0_6.size < 1) = false := decide_eq_false (by omega)
              clear c16
              by_cases c18 : (a0_6.size : Int) > 32
              · rw [if_pos c18] at H
                have c18b0 : decide (32 < (a0_6.size : Int)) = true := decide_eq_true c18
                have c18b1 : decide (32 < a0_6.size) = true := decide_eq_true (by omega)
                clear c18
                have H' := Aside0.mk H
                clear H
                have hcz19_0 : wc.cell? ⟨gb113, 0, none⟩ = some (.int .u8 a0_0) := (blk_cell BK113.out 0).trans rfl
                have hcz19_1 : wc.cell? ⟨gb113, 1, none⟩ = some (.int .u8 a0_1) := (blk_cell BK113.out 1).trans rfl
                have hcz19_2 : wc.cell? ⟨gb113, 2, none⟩ = some (.int .u8 a0_2) := (blk_cell BK113.out 2).trans rfl
                have hcz19_3 : wc.cell? ⟨gb113, 3, none⟩ = some (.slice A0_3 l0_3.length c0_3) := (blk_cell BK113.out 3).trans rfl
                have hcz19_4 : wc.cell? ⟨gb113, 4, none⟩ = some (.int .u64 a0_4) := (blk_cell BK113.out 4).trans rfl
                have hcz19_5 : wc.cell? ⟨gb113, 5, none⟩ = some (.bool a0_5) := (blk_cell BK113.out 5).trans rfl
                have hcz19_6 : wc.cell? ⟨gb113, 6, none⟩ = some (.string a0_6) := (blk_cell BK113.out 6).trans rfl
                have hfz19_0 := blk_frozen BK113.out 0
                have hfz19_1 := blk_frozen BK113.out 1
                have hfz19_2 := blk_frozen BK113.out 2
                have hfz19_3 := blk_frozen BK113.out 3
                have hfz19_4 := blk_frozen BK113.out 4
                have hfz19_5 := blk_frozen BK113.out 5
                have hfz19_6 := blk_frozen BK113.out 6
                go_wp2
                go_meet
                case rel => exact ⟨_, (true), (by first | rfl | (simp; done) | (simp [*]; done) | exact x_nonempty _ | (simp [x_nonempty]; done)), H', ⟨by have := HJ1.out; first | omega | exact Nat.le_refl _⟩, ⟨by (with_reducible repeat (first | refine blk_drewN ?_ _ | refine blk_drew ?_ | refine blk_alloc ?_ _)); exact BK113.out⟩, ⟨by repeat (first | (with_reducible first | exact HB.out | apply below_alloc | apply pw_below_drewN | apply below_drew1 | refine below_set ?_ GE113.out) | exact HB.out)⟩⟩
              · rw [if_neg c18] at H
                have c18b0 : decide (32 < (a0_6.size : Int)) = false := decide_eq_false c18
                have c18b1 : decide (32 < a0_6.size) = false := decide_eq_false (by omega)
                clear c18
                have H' := Aside0.mk H
                clear H
                have hcz20_0 : wc.cell? ⟨gb113, 0, none⟩ = some (.int .u8 a0_0) := (blk_cell BK113.out 0).trans rfl
                have hcz20_1 : wc.cell? ⟨gb113, 1, none⟩ = some (.int .u8 a0_1) := (blk_cell BK113.out 1).trans rfl
                have hcz20_2 : wc.cell? ⟨gb113, 2, none⟩ = some (.int .u8 a0_2) := (blk_cell BK113.out 2).trans rfl
                have hcz20_3 : wc.cell? ⟨gb113, 3, none⟩ = some (.slice A0_3 l0_3.length c0_3) := (blk_cell BK113.out 3).trans rfl
                have hcz20_4 : wc.cell? ⟨gb113, 4, none⟩ = some (.int .u64 a0_4) := (blk_cell BK113.out 4).trans rfl
                have hcz20_5 : wc.cell? ⟨gb113, 5, none⟩ = some (.bool a0_5) := (blk_cell BK113.out 5).trans rfl
                have hcz20_6 : wc.cell? ⟨gb113, 6, none⟩ = some (.string a0_6) := (blk_cell BK113.out 6).trans rfl
                have hfz20_0 := blk_frozen BK113.out 0
                have hfz20_1 := blk_frozen BK113.out 1
                have hfz20_2 := blk_frozen BK113.out 2
                have hfz20_3 := blk_frozen BK113.out 3
                have hfz20_4 := blk_frozen BK113.out 4
                have hfz20_5 := blk_frozen BK113.out 5
                have hfz20_6 := blk_frozen BK113.out 6
                go_wp2
                go_meet
                case rel => exact ⟨_, (false), (by first | rfl | (simp; done) | (simp [*]; done) | exact x_nonempty _ | (simp [x_nonempty]; done)), H', ⟨by have := HJ1.out; first | omega | exact Nat.le_refl _⟩, ⟨by (with_reducible repeat (first | refine blk_drewN ?_ _ | refine blk_drew ?_ | refine blk_alloc ?_ _)); exact BK113.out⟩, ⟨by repeat (first | (with_reducible first | exact HB.out | apply below_alloc | apply pw_below_drewN | apply below_drew1 | refine below_set ?_ GE113.out) | exact HB.out)⟩⟩
          · rw [if_neg c15] at H
            have c15b0 : (a0_0 == 7) = false := beq_eq_false_iff_ne.mpr c15
            have c15b1 : (a0_0 != 7) = true := bne_iff_ne.mpr c15
            (first | rw [c15b0] | (simp only [i64_w, i32_w]; rw [c15b0]) | skip)
            have H' := Aside0.mk H
            clear H
            have hcz21_0 : wc.cell? ⟨gb113, 0, none⟩ = some (.int .u8 a0_0) := (blk_cell BK113.out 0).trans rfl
            have hcz21_1 : wc.cell? ⟨gb113, 1, none⟩ = some (.int .u8 a0_1) := (blk_cell BK113.out 1).trans rfl
            have hcz21_2 : wc.cell? ⟨gb113, 2, none⟩ = some (.int .u8 a0_2) := (blk_cell BK113.out 2).trans rfl
            have hcz21_3 : wc.cell? ⟨gb113, 3, none⟩ = some (.slice A0_3 l0_3.length c0_3) := (blk_cell BK113.out 3).trans rfl
            have hcz21_4 : wc.cell? ⟨gb113, 4, none⟩ = some (.int .u64 a0_4) := (blk_cell BK113.out 4).trans rfl
            have hcz21_5 : wc.cell? ⟨gb113, 5, none⟩ = some (.bool a0_5) := (blk_cell BK113.out 5).trans rfl
            have hcz21_6 : wc.cell? ⟨gb113, 6, none⟩ = some (.string a0_6) := (blk_cell BK113.out 6).trans rfl
            have hfz21_0 := blk_frozen BK113.out 0
            have hfz21_1 := blk_frozen BK113.out 1
            have hfz21_2 := blk_frozen BK113.out 2
            have hfz21_3 := blk_frozen BK113.out 3
            have hfz21_4 := blk_frozen BK113.out 4
            have hfz21_5 := blk_frozen BK113.out 5
            have hfz21_6 := blk_frozen BK113.out 6
            go_wp2
            go_meet
            case rel => exact ⟨_, ((a0_6.toList != ([] : List UInt8))), (by first | rfl | (simp; done) | (simp [*]; done) | exact x_nonempty _ | (simp [x_nonempty]; done)), H', ⟨by have := HJ1.out; first | omega | exact Nat.le_refl _⟩, ⟨by (with_reducible repeat (first | refine blk_drewN ?_ _ | refine blk_drew ?_ | refine blk_alloc ?_ _)); exact BK113.out⟩, ⟨by repeat (first | (with_reducible first | exact HB.out | apply below_alloc | apply pw_below_drewN | apply below_drew1 | refine below_set ?_ GE113.out) | exact HB.out)⟩⟩
        case rest => as_aux_lemma =>
          clear HC14
          (try clear c1); (try clear c2); (try clear p2); (try clear c4); (try clear c4b0); (try clear c6); (try clear c6b0); (try clear c8); (try clear c9); (try clear c9b0); (try clear c9b1); (try clear c13); (try clear c15); (try clear c15b0); (try clear c15b1); (try clear c16); (try clear c16b0); (try clear c16b1); (try clear c18); (try clear c18b0); (try clear c18b1); (try clear hcz10_0); (try clear hcz10_1); (try clear hcz10_2); (try clear hcz10_3); (try clear hcz10_4); (try clear hcz10_5); (try clear hcz10_6); (try clear hcz11_0); (try clear hcz11_1); (try clear hcz11_2); (try clear hcz11_3); (try clear hcz11_4); (try clear hcz11_5); (try clear hcz11_6); (try clear hcz12_0); (try clear hcz12_1); (try clear hcz12_2); (try clear hcz12_3); (try clear hcz12_4); (try clear hcz12_5); (try clear hcz12_6); (try clear hcz17_0); (try clear hcz17_1); (try clear hcz17_2); (try clear hcz17_3); (try clear hcz17_4); (try clear hcz17_5); (try clear hcz17_6); (try clear hcz19_0); (try clear hcz19_1); (try clear hcz19_2); (try clear hcz19_3); (try clear hcz19_4); (try clear hcz19_5); (try clear hcz19_6); (try clear hcz20_0); (try clear hcz20_1); (try clear hcz20_2); (try clear hcz20_3); (try clear hcz20_4); (try clear hcz20_5); (try clear hcz20_6); (try clear hcz21_0); (try clear hcz21_1); (try clear hcz21_2); (try clear hcz21_3); (try clear hcz21_4); (try clear hcz21_5); (try clear hcz21_6); (try clear hcz5_0); (try clear hcz5_1); (try clear hcz5_2); (try clear hcz5_3); (try clear hcz5_4); (try clear hcz5_5); (try clear hcz5_6); (try clear hcz7_0); (try clear hcz7_1); (try clear hcz7_2); (try clear hcz7_3); (try clear hcz7_4); (try clear hcz7_5); (try clear hcz7_6); (try clear hfz10_0); (try clear hfz10_1); (try clear hfz10_2); (try clear hfz10_3); (try clear hfz10_4); (try clear hfz10_5); (try clear hfz10_6); (try clear hfz11_0); (try clear hfz11_1); (try clear hfz11_2); (try clear hfz11_3); (try clear hfz11_4); (try clear hfz11_5); (try clear hfz11_6); (try clear hfz12_0); (try clear hfz12_1); (try clear hfz12_2); (try clear hfz12_3); (try clear hfz12_4); (try clear hfz12_5); (try clear hfz12_6); (try clear hfz17_0); (try clear hfz17_1); (try clear hfz17_2); (try clear hfz17_3); (try clear hfz17_4); (try clear hfz17_5); (try clear hfz17_6); (try clear hfz19_0); (try clear hfz19_1); (try clear hfz19_2); (try clear hfz19_3); (try clear hfz19_4); (try clear hfz19_5); (try clear hfz19_6); (try clear hfz20_0); (try clear hfz20_1); (try clear hfz20_2); (try clear hfz20_3); (try clear hfz20_4); (try clear hfz20_5); (try clear hfz20_6); (try clear hfz21_0); (try clear hfz21_1); (try clear hfz21_2); (try clear hfz21_3); (try clear hfz21_4); (try clear hfz21_5); (try clear hfz21_6); (try clear hfz5_0); (try clear hfz5_1); (try clear hfz5_2); (try clear hfz5_3); (try clear hfz5_4); (try clear hfz5_5); (try clear hfz5_6); (try clear hfz7_0); (try clear hfz7_1); (try clear hfz7_2); (try clear hfz7_3); (try clear hfz7_4); (try clear hfz7_5); (try clear hfz7_6); (try clear p2)
          obtain ⟨kq, x51_13, rfl, HA, HJ13, BK113, HB⟩ := hcut
          cases kq with
          | zero => exact absurd HA.out (by simp [cloakroomref15_May.j1])
          | succ kj13 =>
            have H := HA.out
            clear HA
            simp only [cloakroomref15_May.j1] at H
            by_cases c22 : x51_13 = true
            · subst c22
              have H1 : (some false) = some r := by rw [if_pos rfl] at H; exact H
              clear H
              have H := H1
              clear H1
              obtain rfl := Option.some.inj H
              go_wp2
              go_ret
              exact ⟨by first | rfl | (simp [errW_none, errW_some] <;> rfl) | (simp [*, errW_none, errW_some] <;> rfl), by repeat (first | (with_reducible first | exact HB.out | apply below_alloc | apply pw_below_drewN | apply below_drew1 | refine below_set ?_ GE113.out) | exact HB.out)⟩
            · replace c22 := Bool.eq_false_iff.mpr c22
              subst c22
              have H1 : (if a0_0 = 1 then (if a0_1 < 1 then (cloakroomref15_May.j2 kj13 true a0_0 a0_1 a0_2 l0_3 a0_4 a0_5 a0_6 a0_2 l0_3 a0_4) else (if a0_1 > 11 then (cloakroomref15_May.j2 kj13 true a0_0 a0_1 a0_2 l0_3 a0_4 a0_5 a0_6 a0_2 l0_3 a0_4) else (if a0_2 < 1 then (cloakroomref15_May.j2 kj13 true a0_0 a0_1 a0_2 l0_3 a0_4 a0_5 a0_6 a0_2 l0_3 a0_4) else (if a0_2 > 7 then (cloakroomref15_May.j2 kj13 true a0_0 a0_1 a0_2 l0_3 a0_4 a0_5 a0_6 a0_2 l0_3 a0_4) else (cloakroomref15_May.j2 kj13 (decide ((l0_3.length : Int) > 8)) a0_0 a0_1 a0_2 l0_3 a0_4 a0_5 a0_6 a0_2 l0_3 a0_4))))) else (if a0_1 = 0 then (if a0_2 = 0 then (if a0_4 = 0 then (some ((l0_3.length : Int) == 0)) else (some false)) else (some false)) else (some false))) = some r := by rw [if_neg (show ¬ (false = true) by decide)] at H; exact H
              clear H
              have H := H1
              clear H1
              by_cases c23 : a0_0 = 1
              · rw [if_pos c23] at H
                have c23b0 : (a0_0 == 1) = true := beq_iff_eq.mpr c23
                have c23b1 : (a0_0 != 1) = false := bne_eq_false_iff_eq.mpr c23
                clear c23
                have HC24 := Aside0.mk H
                clear H
                have hcz25_0 : wc.cell? ⟨gb113, 0, none⟩ = some (.int .u8 a0_0) := (blk_cell BK113.out 0).trans rfl
                have hcz25_1 : wc.cell? ⟨gb113, 1, none⟩ = some (.int .u8 a0_1) := (blk_cell BK113.out 1).trans rfl
                have hcz25_2 : wc.cell? ⟨gb113, 2, none⟩ = some (.int .u8 a0_2) := (blk_cell BK113.out 2).trans rfl
                have hcz25_3 : wc.cell? ⟨gb113, 3, none⟩ = some (.slice A0_3 l0_3.length c0_3) := (blk_cell BK113.out 3).trans rfl
                have hcz25_4 : wc.cell? ⟨gb113, 4, none⟩ = some (.int .u64 a0_4) := (blk_cell BK113.out 4).trans rfl
                have hcz25_5 : wc.cell? ⟨gb113, 5, none⟩ = some (.bool a0_5) := (blk_cell BK113.out 5).trans rfl
                have hcz25_6 : wc.cell? ⟨gb113, 6, none⟩ = some (.string a0_6) := (blk_cell BK113.out 6).trans rfl
                have hfz25_0 := blk_frozen BK113.out 0
                have hfz25_1 := blk_frozen BK113.out 1
                have hfz25_2 := blk_frozen BK113.out 2
                have hfz25_3 := blk_frozen BK113.out 3
                have hfz25_4 := blk_frozen BK113.out 4
                have hfz25_5 := blk_frozen BK113.out 5
                have hfz25_6 := blk_frozen BK113.out 6
                go_upto_region 8 with (first | ((with_reducible refine gate_dst (N := 3) rfl ?_); (try (refine gate_guard (by rfl) ?_; dsimp only)); refine box_event ?hg (N := 3) ?hd (cs := #[.int .u8 0, .slice none 0 0, .int .u64 0]) (t := 25) ?hr ?_; (case hd => rfl); (case hg => rfl); (case hr => first | (go_simp; done) | (go_simp; rfl)); intro gb114 hg w26 hbox hb; have n0_ := Aside0.mk (blk_below (g := gb113) (o := .cells #[.int .u8 a0_0, .int .u8 a0_1, .int .u8 a0_2, .slice A0_3 l0_3.length c0_3, .int .u64 a0_4, .bool a0_5, .string a0_6] 27 (0, 0)) (by (with_reducible repeat (first | refine blk_drewN ?_ _ | refine blk_drew ?_ | refine blk_alloc ?_ _)); exact BK113.out) hb); have n1_ := Aside0.mk (below_step (by repeat (first | (with_reducible first | exact HB.out | apply below_alloc | apply pw_below_drewN | apply below_drew1 | refine below_set ?_ GE113.out) | exact HB.out)) hb); have n2_ := Aside0.mk (hbox); have n3_ := Aside0.mk ((by rw [hg]; exact (below_size (by repeat (first | (with_reducible first | exact HB.out | apply below_alloc | apply pw_below_drewN | apply below_drew1 | refine below_set ?_ GE113.out) | exact HB.out))) : w.heap.size ≤ gb114)); have n4_ := Aside0.mk ((by rw [hg]; exact (below_size (by repeat (first | (with_reducible first | exact HB.out | apply below_alloc | apply pw_below_drewN | apply below_drew1 | refine below_set ?_ GE113.out) | exact HB.out))) : w.heap.size ≤ gb114)); have n5_ := Aside0.mk ((by rw [hg]; exact Nat.ne_of_lt (blk_lt (g := gb113) (o := .cells #[.int .u8 a0_0, .int .u8 a0_1, .int .u8 a0_2, .slice A0_3 l0_3.length c0_3, .int .u64 a0_4, .bool a0_5, .string a0_6] 27 (0, 0)) (by (with_reducible repeat (first | refine blk_drewN ?_ _ | refine blk_drew ?_ | refine blk_alloc ?_ _)); exact BK113.out)) : gb113 ≠ gb114)); have n6_ := Aside0.mk ((by rw [hg]; exact Nat.ne_of_gt (blk_lt (g := gb113) (o := .cells #[.int .u8 a0_0, .int .u8 a0_1, .int .u8 a0_2, .slice A0_3 l0_3.length c0_3, .int .u64 a0_4, .bool a0_5, .string a0_6] 27 (0, 0)) (by (with_reducible repeat (first | refine blk_drewN ?_ _ | refine blk_drew ?_ | refine blk_alloc ?_ _)); exact BK113.out)) : gb114 ≠ gb113)); clear BK113; clear HB; have BK113 := n0_; have HB := n1_; have BK114 := n2_; have GW114 := n3_; have GE114 := n4_; have NB113_114 := n5_; have NB114_113 := n6_; clear n0_ n1_ n2_ n3_ n4_ n5_ n6_; clear hb hbox hg; have hnb27 := NB114_113.out; have hnc27 := NB113_114.out; have hcz28_0 : w26.cell? ⟨gb114, 0, none⟩ = some (.int .u8 0) := (blk_cell BK114.out 0).trans rfl; have hcz28_1 : w26.cell? ⟨gb114, 1, none⟩ = some (.slice none 0 0) := (blk_cell BK114.out 1).trans rfl; have hcz28_2 : w26.cell? ⟨gb114, 2, none⟩ = some (.int .u64 0) := (blk_cell BK114.out 2).trans rfl; have hfz28_0 := blk_frozen BK114.out 0; have hfz28_1 := blk_frozen BK114.out 1; have hfz28_2 := blk_frozen BK114.out 2; have hcz29_0 : w26.cell? ⟨gb113, 0, none⟩ = some (.int .u8 a0_0) := (blk_cell BK113.out 0).trans rfl; have hcz29_1 : w26.cell? ⟨gb113, 1, none⟩ = some (.int .u8 a0_1) := (blk_cell BK113.out 1).trans rfl; have hcz29_2 : w26.cell? ⟨gb113, 2, none⟩ = some (.int .u8 a0_2) := (blk_cell BK113.out 2).trans rfl; have hcz29_3 : w26.cell? ⟨gb113, 3, none⟩ = some (.slice A0_3 l0_3.length c0_3) := (blk_cell BK113.out 3).trans rfl; have hcz29_4 : w26.cell? ⟨gb113, 4, none⟩ = some (.int .u64 a0_4) := (blk_cell BK113.out 4).trans rfl; have hcz29_5 : w26.cell? ⟨gb113, 5, none⟩ = some (.bool a0_5) := (blk_cell BK113.out 5).trans rfl; have hcz29_6 : w26.cell? ⟨gb113, 6, none⟩ = some (.string a0_6) := (blk_cell BK113.out 6).trans rfl; have hfz29_0 := blk_frozen BK113.out 0; have hfz29_1 := blk_frozen BK113.out 1; have hfz29_2 := blk_frozen BK113.out 2; have hfz29_3 := blk_frozen BK113.out 3; have hfz29_4 := blk_frozen BK113.out 4; have hfz29_5 := blk_frozen BK113.out 5; have hfz29_6 := blk_frozen BK113.out 6))
                (try simp only [Act.put, List.setIfInBounds_toArray, List.set_cons_zero, List.set_cons_succ])
                go_cut [99] (fun v99 wc => ∃ (kq : Nat) (x99_23 : Bool), v99 = .bool x99_23 ∧ Aside0 (cloakroomref15_May.j2 kq x99_23 a0_0 a0_1 a0_2 l0_3 a0_4 a0_5 a0_6 a0_2 l0_3 a0_4 = some r) ∧ Aside0 (kq ≤ kj13) ∧ Aside0 (wc.heap[gb113]? = some (.cells #[.int .u8 a0_0, .int .u8 a0_1, .int .u8 a0_2, (.slice A0_3 l0_3.length c0_3), .int .u64 a0_4, .bool a0_5, .string a0_6] 27 (0, 0))) ∧ Aside0 (wc.heap[gb114]? = some (.cells #[.int .u8 a0_2, (.slice A0_3 l0_3.length c0_3), .int .u64 a0_4] 25 (0, 0))) ∧ Aside0 (Below w.heap.size w wc))
                case first =>
                  have H := HC24.out
                  clear HC24
                  by_cases c30 : a0_1 < 1
                  · rw [if_pos c30] at H
                    have c30b0 : decide (a0_1 < 1) = true := decide_eq_true c30
                    clear c30
                    (first | rw [c30b0] | (simp only [i64_w, i32_w]; rw [c30b0]) | skip)
                    have H' := Aside0.mk H
                    clear H
                    have hnb31 := NB113_114.out
                    have hnc31 := NB114_113.out
                    have hcz32_0 : w26.cell? ⟨gb113, 0, none⟩ = some (.int .u8 a0_0) := (blk_cell BK113.out 0).trans rfl
                    have hcz32_1 : w26.cell? ⟨gb113, 1, none⟩ = some (.int .u8 a0_1) := (blk_cell BK113.out 1).trans rfl
                    have hcz32_2 : w26.cell? ⟨gb113, 2, none⟩ = some (.int .u8 a0_2) := (blk_cell BK113.out 2).trans rfl
                    have hcz32_3 : w26.cell? ⟨gb113, 3, none⟩ = some (.slice A0_3 l0_3.length c0_3) := (blk_cell BK113.out 3).trans rfl
                    have hcz32_4 : w26.cell? ⟨gb113, 4, none⟩ = some (.int .u64 a0_4) := (blk_cell BK113.out 4).trans rfl
                    have hcz32_5 : w26.cell? ⟨gb113, 5, none⟩ = some (.bool a0_5) := (blk_cell BK113.out 5).trans rfl
                    have hcz32_6 : w26.cell? ⟨gb113, 6, none⟩ = some (.string a0_6) := (blk_cell BK113.out 6).trans rfl
                    have hfz32_0 := blk_frozen BK113.out 0
                    have hfz32_1 := blk_frozen BK113.out 1
                    have hfz32_2 := blk_frozen BK113.out 2
                    have hfz32_3 := blk_frozen BK113.out 3
                    have hfz32_4 := blk_frozen BK113.out 4
                    have hfz32_5 := blk_frozen BK113.out 5
                    have hfz32_6 := blk_frozen BK113.out 6
                    go_wp2
                    go_meet
                    case rel => exact ⟨_, (true), (by first | rfl | (simp; done) | (simp [*]; done) | exact x_nonempty _ | (simp [x_nonempty]; done)), H', ⟨by have := HJ1.out; have := HJ13.out; first | omega | exact Nat.le_refl _⟩, ⟨by (with_reducible repeat (first | refine blk_drewN ?_ _ | refine blk_drew ?_ | refine blk_alloc ?_ _)); refine blk_far ?_ NB113_114.out _; (with_reducible repeat (first | refine blk_drewN ?_ _ | refine blk_drew ?_ | refine blk_alloc ?_ _)); refine blk_far ?_ NB113_114.out _; (with_reducible repeat (first | refine blk_drewN ?_ _ | refine blk_drew ?_ | refine blk_alloc ?_ _)); refine blk_far ?_ NB113_114.out _; (with_reducible repeat (first | refine blk_drewN ?_ _ | refine blk_drew ?_ | refine blk_alloc ?_ _)); exact BK113.out⟩, ⟨by (with_reducible repeat (first | refine blk_drewN ?_ _ | refine blk_drew ?_ | refine blk_alloc ?_ _)); refine blk_put (cs := #[.int .u8 a0_2, .slice A0_3 l0_3.length c0_3, .int .u64 0]) ?_ 2 _ rfl; (with_reducible repeat (first | refine blk_drewN ?_ _ | refine blk_drew ?_ | refine blk_alloc ?_ _)); refine blk_put (cs := #[.int .u8 a0_2, .slice none 0 0, .int .u64 0]) ?_ 1 _ rfl; (with_reducible repeat (first | refine blk_drewN ?_ _ | refine blk_drew ?_ | refine blk_alloc ?_ _)); refine blk_put (cs := #[.int .u8 0, .slice none 0 0, .int .u64 0]) ?_ 0 _ rfl; (with_reducible repeat (first | refine blk_drewN ?_ _ | refine blk_drew ?_ | refine blk_alloc ?_ _)); exact BK114.out⟩, ⟨by repeat (first | (with_reducible first | exact HB.out | apply below_alloc | apply pw_below_drewN | apply below_drew1 | refine below_set ?_ GE113.out | refine below_set ?_ GE114.out) | exact HB.out)⟩⟩
                  · rw [if_neg c30] at H
                    have c30b0 : decide (a0_1 < 1) = false := decide_eq_false c30
                    clear c30
                    (first | rw [c30b0] | (simp only [i64_w, i32_w]; rw [c30b0]) | skip)
                    by_cases c33 : a0_1 > 11
                    · rw [if_pos c33] at H
                      have c33b0 : decide (11 < a0_1) = true := decide_eq_true c33
                      clear c33
                      have H' := Aside0.mk H
                      clear H
                      have hnb34 := NB113_114.out
                      have hnc34 := NB114_113.out
                      have hcz35_0 : w26.cell? ⟨gb113, 0, none⟩ = some (.int .u8 a0_0) := (blk_cell BK113.out 0).trans rfl
                      have hcz35_1 : w26.cell? ⟨gb113, 1, none⟩ = some (.int .u8 a0_1) := (blk_cell BK113.out 1).trans rfl
                      have hcz35_2 : w26.cell? ⟨gb113, 2, none⟩ = some (.int .u8 a0_2) := (blk_cell BK113.out 2).trans rfl
                      have hcz35_3 : w26.cell? ⟨gb113, 3, none⟩ = some (.slice A0_3 l0_3.length c0_3) := (blk_cell BK113.out 3).trans rfl
                      have hcz35_4 : w26.cell? ⟨gb113, 4, none⟩ = some (.int .u64 a0_4) := (blk_cell BK113.out 4).trans rfl
                      have hcz35_5 : w26.cell? ⟨gb113, 5, none⟩ = some (.bool a0_5) := (blk_cell BK113.out 5).trans rfl
                      have hcz35_6 : w26.cell? ⟨gb113, 6, none⟩ = some (.string a0_6) := (blk_cell BK113.out 6).trans rfl
                      have hfz35_0 := blk_frozen BK113.out 0
                      have hfz35_1 := blk_frozen BK113.out 1
                      have hfz35_2 := blk_frozen BK113.out 2
                      have hfz35_3 := blk_frozen BK113.out 3
                      have hfz35_4 := blk_frozen BK113.out 4
                      have hfz35_5 := blk_frozen BK113.out 5
                      have hfz35_6 := blk_frozen BK113.out 6
                      go_wp2
                      go_meet
                      case rel => exact ⟨_, (true), (by first | rfl | (simp; done) | (simp [*]; done) | exact x_nonempty _ | (simp [x_nonempty]; done)), H', ⟨by have := HJ1.out; have := HJ13.out; first | omega | exact Nat.le_refl _⟩, ⟨by (with_reducible repeat (first | refine blk_drewN ?_ _ | refine blk_drew ?_ | refine blk_alloc ?_ _)); refine blk_far ?_ NB113_114.out _; (with_reducible repeat (first | refine blk_drewN ?_ _ | refine blk_drew ?_ | refine blk_alloc ?_ _)); refine blk_far ?_ NB113_114.out _; (with_reducible repeat (first | refine blk_drewN ?_ _ | refine blk_drew ?_ | refine blk_alloc ?_ _)); refine blk_far ?_ NB113_114.out _; (with_reducible repeat (first | refine blk_drewN ?_ _ | refine blk_drew ?_ | refine blk_alloc ?_ _)); exact BK113.out⟩, ⟨by (with_reducible repeat (first | refine blk_drewN ?_ _ | refine blk_drew ?_ | refine blk_alloc ?_ _)); refine blk_put (cs := #[.int .u8 a0_2, .slice A0_3 l0_3.length c0_3, .int .u64 0]) ?_ 2 _ rfl; (with_reducible repeat (first | refine blk_drewN ?_ _ | refine blk_drew ?_ | refine blk_alloc ?_ _)); refine blk_put (cs := #[.int .u8 a0_2, .slice none 0 0, .int .u64 0]) ?_ 1 _ rfl; (with_reducible repeat (first | refine blk_drewN ?_ _ | refine blk_drew ?_ | refine blk_alloc ?_ _)); refine blk_put (cs := #[.int .u8 0, .slice none 0 0, .int .u64 0]) ?_ 0 _ rfl; (with_reducible repeat (first | refine blk_drewN ?_ _ | refine blk_drew ?_ | refine blk_alloc ?_ _)); exact BK114.out⟩, ⟨by repeat (first | (with_reducible first | exact HB.out | apply below_alloc | apply pw_below_drewN | apply below_drew1 | refine below_set ?_ GE113.out | refine below_set ?_ GE114.out) | exact HB.out)⟩⟩
                    · rw [if_neg c33] at H
                      have c33b0 : decide (11 < a0_1) = false := decide_eq_false c33
                      clear c33
                      by_cases c36 : a0_2 < 1
                      · rw [if_pos c36] at H
                        have c36b0 : decide (a0_2 < 1) = true := decide_eq_true c36
                        clear c36
                        have H' := Aside0.mk H
                        clear H
                        have hnb37 := NB113_114.out
                        have hnc37 := NB114_113.out
                        have hcz38_0 : w26.cell? ⟨gb113, 0, none⟩ = some (.int .u8 a0_0) := (blk_cell BK113.out 0).trans rfl
                        have hcz38_1 : w26.cell? ⟨gb113, 1, none⟩ = some (.int .u8 a0_1) := (blk_cell BK113.out 1).trans rfl
                        have hcz38_2 : w26.cell? ⟨gb113, 2, none⟩ = some (.int .u8 a0_2) := (blk_cell BK113.out 2).trans rfl
                        have hcz38_3 : w26.cell? ⟨gb113, 3, none⟩ = some (.slice A0_3 l0_3.length c0_3) := (blk_cell BK113.out 3).trans rfl
                        have hcz38_4 : w26.cell? ⟨gb113, 4, none⟩ = some (.int .u64 a0_4) := (blk_cell BK113.out 4).trans rfl
                        have hcz38_5 : w26.cell? ⟨gb113, 5, none⟩ = some (.bool a0_5) := (blk_cell BK113.out 5).trans rfl
                        have hcz38_6 : w26.cell? ⟨gb113, 6, none⟩ = some (.string a0_6) := (blk_cell BK113.out 6).trans rfl
                        have hfz38_0 := blk_frozen BK113.out 0
                        have hfz38_1 := blk_frozen BK113.out 1
                        have hfz38_2 := blk_frozen BK113.out 2
                        have hfz38_3 := blk_frozen BK113.out 3
                        have hfz38_4 := blk_frozen BK113.out 4
                        have hfz38_5 := blk_frozen BK113.out 5
                        have hfz38_6 := blk_frozen BK113.out 6
                        have hcz39_0 : w26.cell? ⟨gb114, 0, none⟩ = some (.int .u8 0) := (blk_cell BK114.out 0).trans rfl
                        have hcz39_1 : w26.cell? ⟨gb114, 1, none⟩ = some (.slice none 0 0) := (blk_cell BK114.out 1).trans rfl
                        have hcz39_2 : w26.cell? ⟨gb114, 2, none⟩ = some (.int .u64 0) := (blk_cell BK114.out 2).trans rfl
                        have hfz39_0 := blk_frozen BK114.out 0
                        have hfz39_1 := blk_frozen BK114.out 1
                        have hfz39_2 := blk_frozen BK114.out 2
                        go_wp2
                        go_meet
                        case rel => exact ⟨_, (true), (by first | rfl | (simp; done) | (simp [*]; done) | exact x_nonempty _ | (simp [x_nonempty]; done)), H', ⟨by have := HJ1.out; have := HJ13.out; first | omega | exact Nat.le_refl _⟩, ⟨by (with_reducible repeat (first | refine blk_drewN ?_ _ | refine blk_drew ?_ | refine blk_alloc ?_ _)); refine blk_far ?_ NB113_114.out _; (with_reducible repeat (first | refine blk_drewN ?_ _ | refine blk_drew ?_ | refine blk_alloc ?_ _)); refine blk_far ?_ NB113_114.out _; (with_reducible repeat (first | refine blk_drewN ?_ _ | refine blk_drew ?_ | refine blk_alloc ?_ _)); refine blk_far ?_ NB113_114.out _; (with_reducible repeat (first | refine blk_drewN ?_ _ | refine blk_drew ?_ | refine blk_alloc ?_ _)); exact BK113.out⟩, ⟨by (with_reducible repeat (first | refine blk_drewN ?_ _ | refine blk_drew ?_ | refine blk_alloc ?_ _)); refine blk_put (cs := #[.int .u8 a0_2, .slice A0_3 l0_3.length c0_3, .int .u64 0]) ?_ 2 _ rfl; (with_reducible repeat (first | refine blk_drewN ?_ _ | refine blk_drew ?_ | refine blk_alloc ?_ _)); refine blk_put (cs := #[.int .u8 a0_2, .slice none 0 0, .int .u64 0]) ?_ 1 _ rfl; (with_reducible repeat (first | refine blk_drewN ?_ _ | refine blk_drew ?_ | refine blk_alloc ?_ _)); refine blk_put (cs := #[.int .u8 0, .slice none 0 0, .int .u64 0]) ?_ 0 _ rfl; (with_reducible repeat (first | refine blk_drewN ?_ _ | refine blk_drew ?_ | refine blk_alloc ?_ _)); exact BK114.out⟩, ⟨by repeat (first | (with_reducible first | exact HB.out | apply below_alloc | apply pw_below_drewN | apply below_drew1 | refine below_set ?_ GE113.out | refine below_set ?_ GE114.out) | exact HB.out)⟩⟩
                      · rw [if_neg c36] at H
                        have c36b0 : decide (a0_2 < 1) = false := decide_eq_false c36
                        clear c36
                        by_cases c40 : a0_2 > 7
                        · rw [if_pos c40] at H
                          have c40b0 : decide (7 < a0_2) = true := decide_eq_true c40
                          clear c40
                          have H' := Aside0.mk H
                          clear H
                          have hnb41 := NB113_114.out
                          have hnc41 := NB114_113.out
                          have hcz42_0 : w26.cell? ⟨gb113, 0, none⟩ = some (.int .u8 a0_0) := (blk_cell BK113.out 0).trans rfl
                          have hcz42_1 : w26.cell? ⟨gb113, 1, none⟩ = some (.int .u8 a0_1) := (blk_cell BK113.out 1).trans rfl
                          have hcz42_2 : w26.cell? ⟨gb113, 2, none⟩ = some (.int .u8 a0_2) := (blk_cell BK113.out 2).trans rfl
                          have hcz42_3 : w26.cell? ⟨gb113, 3, none⟩ = some (.slice A0_3 l0_3.length c0_3) := (blk_cell BK113.out 3).trans rfl
                          have hcz42_4 : w26.cell? ⟨gb113, 4, none⟩ = some (.int .u64 a0_4) := (blk_cell BK113.out 4).trans rfl
                          have hcz42_5 : w26.cell? ⟨gb113, 5, none⟩ = some (.bool a0_5) := (blk_cell BK113.out 5).trans rfl
                          have hcz42_6 : w26.cell? ⟨gb113, 6, none⟩ = some (.string a0_6) := (blk_cell BK113.out 6).trans rfl
                          have hfz42_0 := blk_frozen BK113.out 0
                          have hfz42_1 := blk_frozen BK113.out 1
                          have hfz42_2 := blk_frozen BK113.out 2
                          have hfz42_3 := blk_frozen BK113.out 3
                          have hfz42_4 := blk_frozen BK113.out 4
                          have hfz42_5 := blk_frozen BK113.out 5
                          have hfz42_6 := blk_frozen BK113.out 6
                          have hcz43_0 : w26.cell? ⟨gb114, 0, none⟩ = some (.int .u8 0) := (blk_cell BK114.out 0).trans rfl
                          have hcz43_1 : w26.cell? ⟨gb114, 1, none⟩ = some (.slice none 0 0) := (blk_cell BK114.out 1).trans rfl
                          have hcz43_2 : w26.cell? ⟨gb114, 2, none⟩ = some (.int .u64 0) := (blk_cell BK114.out 2).trans rfl
                          have hfz43_0 := blk_frozen BK114.out 0
                          have hfz43_1 := blk_frozen BK114.out 1
                          have hfz43_2 := blk_frozen BK114.out 2
                          go_wp2
                          go_meet
                          case rel => exact ⟨_, (true), (by first | rfl | (simp; done) | (simp [*]; done) | exact x_nonempty _ | (simp [x_nonempty]; done)), H', ⟨by have := HJ1.out; have := HJ13.out; first | omega | exact Nat.le_refl _⟩, ⟨by (with_reducible repeat (first | refine blk_drewN ?_ _ | refine blk_drew ?_ | refine blk_alloc ?_ _)); refine blk_far ?_ NB113_114.out _; (with_reducible repeat (first | refine blk_drewN ?_ _ | refine blk_drew ?_ | refine blk_alloc ?_ _)); refine blk_far ?_ NB113_114.out _; (with_reducible repeat (first | refine blk_drewN ?_ _ | refine blk_drew ?_ | refine blk_alloc ?_ _)); refine blk_far ?_ NB113_114.out _; (with_reducible repeat (first | refine blk_drewN ?_ _ | refine blk_drew ?_ | refine blk_alloc ?_ _)); exact BK113.out⟩, ⟨by (with_reducible repeat (first | refine blk_drewN ?_ _ | refine blk_drew ?_ | refine blk_alloc ?_ _)); refine blk_put (cs := #[.int .u8 a0_2, .slice A0_3 l0_3.length c0_3, .int .u64 0]) ?_ 2 _ rfl; (with_reducible repeat (first | refine blk_drewN ?_ _ | refine blk_drew ?_ | refine blk_alloc ?_ _)); refine blk_put (cs := #[.int .u8 a0_2, .slice none 0 0, .int .u64 0]) ?_ 1 _ rfl; (with_reducible repeat (first | refine blk_drewN ?_ _ | refine blk_drew ?_ | refine blk_alloc ?_ _)); refine blk_put (cs := #[.int .u8 0, .slice none 0 0, .int .u64 0]) ?_ 0 _ rfl; (with_reducible repeat (first | refine blk_drewN ?_ _ | refine blk_drew ?_ | refine blk_alloc ?_ _)); exact BK114.out⟩, ⟨by repeat (first | (with_reducible first | exact HB.out | apply below_alloc | apply pw_below_drewN | apply below_drew1 | refine below_set ?_ GE113.out | refine below_set ?_ GE114.out) | exact HB.out)⟩⟩
                        · rw [if_neg c40] at H
                          have c40b0 : decide (7 < a0_2) = false := decide_eq_false c40
                          clear c40
                          have H' := Aside0.mk H
                          clear H
                          have hnb44 := NB113_114.out
                          have hnc44 := NB114_113.out
                          have hcz45_0 : w26.cell? ⟨gb113, 0, none⟩ = some (.int .u8 a0_0) := (blk_cell BK113.out 0).trans rfl
                          have hcz45_1 : w26.cell? ⟨gb113, 1, none⟩ = some (.int .u8 a0_1) := (blk_cell BK113.out 1).trans rfl
                          have hcz45_2 : w26.cell? ⟨gb113, 2, none⟩ = some (.int .u8 a0_2) := (blk_cell BK113.out 2).trans rfl
                          have hcz45_3 : w26.cell? ⟨gb113, 3, none⟩ = some (.slice A0_3 l0_3.length c0_3) := (blk_cell BK113.out 3).trans rfl
                          have hcz45_4 : w26.cell? ⟨gb113, 4, none⟩ = some (.int .u64 a0_4) := (blk_cell BK113.out 4).trans rfl
                          have hcz45_5 : w26.cell? ⟨gb113, 5, none⟩ = some (.bool a0_5) := (blk_cell BK113.out 5).trans rfl
                          have hcz45_6 : w26.cell? ⟨gb113, 6, none⟩ = some (.string a0_6) := (blk_cell BK113.out 6).trans rfl
                          have hfz45_0 := blk_frozen BK113.out 0
                          have hfz45_1 := blk_frozen BK113.out 1
                          have hfz45_2 := blk_frozen BK113.out 2
                          have hfz45_3 := blk_frozen BK113.out 3
                          have hfz45_4 := blk_frozen BK113.out 4
                          have hfz45_5 := blk_frozen BK113.out 5
                          have hfz45_6 := blk_frozen BK113.out 6
                          have hcz46_0 : w26.cell? ⟨gb114, 0, none⟩ = some (.int .u8 0) := (blk_cell BK114.out 0).trans rfl
                          have hcz46_1 : w26.cell? ⟨gb114, 1, none⟩ = some (.slice none 0 0) := (blk_cell BK114.out 1).trans rfl
                          have hcz46_2 : w26.cell? ⟨gb114, 2, none⟩ = some (.int .u64 0) := (blk_cell BK114.out 2).trans rfl
                          have hfz46_0 := blk_frozen BK114.out 0
                          have hfz46_1 := blk_frozen BK114.out 1
                          have hfz46_2 := blk_frozen BK114.out 2
                          go_wp2
                          go_meet
                          case rel => exact ⟨_, (decide ((l0_3.length : Int) > 8)), (by first | rfl | (simp; done) | (simp [*]; done) | exact x_nonempty _ | (simp [x_nonempty]; done)), H', ⟨by have := HJ1.out; have := HJ13.out; first | omega | exact Nat.le_refl _⟩, ⟨by (with_reducible repeat (first | refine blk_drewN ?_ _ | refine blk_drew ?_ | refine blk_alloc ?_ _)); refine blk_far ?_ NB113_114.out _; (with_reducible repeat (first | refine blk_drewN ?_ _ | refine blk_drew ?_ | refine blk_alloc ?_ _)); refine blk_far ?_ NB113_114.out _; (with_reducible repeat (first | refine blk_drewN ?_ _ | refine blk_drew ?_ | refine blk_alloc ?_ _)); refine blk_far ?_ NB113_114.out _; (with_reducible repeat (first | refine blk_drewN ?_ _ | refine blk_drew ?_ | refine blk_alloc ?_ _)); exact BK113.out⟩, ⟨by (with_reducible repeat (first | refine blk_drewN ?_ _ | refine blk_drew ?_ | refine blk_alloc ?_ _)); refine blk_put (cs := #[.int .u8 a0_2, .slice A0_3 l0_3.length c0_3, .int .u64 0]) ?_ 2 _ rfl; (with_reducible repeat (first | refine blk_drewN ?_ _ | refine blk_drew ?_ | refine blk_alloc ?_ _)); refine blk_put (cs := #[.int .u8 a0_2, .slice none 0 0, .int .u64 0]) ?_ 1 _ rfl; (with_reducible repeat (first | refine blk_drewN ?_ _ | refine blk_drew ?_ | refine blk_alloc ?_ _)); refine blk_put (cs := #[.int .u8 0, .slice none 0 0, .int .u64 0]) ?_ 0 _ rfl; (with_reducible repeat (first | refine blk_drewN ?_ _ | refine blk_drew ?_ | refine blk_alloc ?_ _)); exact BK114.out⟩, ⟨by repeat (first | (with_reducible first | exact HB.out | apply below_alloc | apply pw_below_drewN | apply below_drew1 | refine below_set ?_ GE113.out | refine below_set ?_ GE114.out) | exact HB.out)⟩⟩
                case rest => as_aux_lemma =>
                  clear HC24
                  (try clear c1); (try clear c2); (try clear p2); (try clear c3); (try clear c4); (try clear c4b0); (try clear c6); (try clear c6b0); (try clear c8); (try clear c9); (try clear c9b0); (try clear c9b1); (try clear c13); (try clear c15); (try clear c15b0); (try clear c15b1); (try clear c16); (try clear c16b0); (try clear c16b1); (try clear c18); (try clear c18b0); (try clear c18b1); (try clear c22); (try clear c23); (try clear c23b0); (try clear c23b1); (try clear c27); (try clear c30); (try clear c30b0); (try clear c31); (try clear c33); (try clear c33b0); (try clear c34); (try clear c36); (try clear c36b0); (try clear c37); (try clear c40); (try clear c40b0); (try clear c41); (try clear c44); (try clear hcz10_0); (try clear hcz10_1); (try clear hcz10_2); (try clear hcz10_3); (try clear hcz10_4); (try clear hcz10_5); (try clear hcz10_6); (try clear hcz11_0); (try clear hcz11_1); (try clear hcz11_2); (try clear hcz11_3); (try clear hcz11_4); (try clear hcz11_5); (try clear hcz11_6); (try clear hcz12_0); (try clear hcz12_1); (try clear hcz12_2); (try clear hcz12_3); (try clear hcz12_4); (try clear hcz12_5); (try clear hcz12_6); (try clear hcz17_0); (try clear hcz17_1); (try clear hcz17_2); (try clear hcz17_3); (try clear hcz17_4); (try clear hcz17_5); (try clear hcz17_6); (try clear hcz19_0); (try clear hcz19_1); (try clear hcz19_2); (try clear hcz19_3); (try clear hcz19_4); (try clear hcz19_5); (try clear hcz19_6); (try clear hcz20_0); (try clear hcz20_1); (try clear hcz20_2); (try clear hcz20_3); (try clear hcz20_4); (try clear hcz20_5); (try clear hcz20_6); (try clear hcz21_0); (try clear hcz21_1); (try clear hcz21_2); (try clear hcz21_3); (try clear hcz21_4); (try clear hcz21_5); (try clear hcz21_6); (try clear hcz25_0); (try clear hcz25_1); (try clear hcz25_2); (try clear hcz25_3); (try clear hcz25_4); (try clear hcz25_5); (try clear hcz25_6); (try clear hcz28_0); (try clear hcz28_1); (try clear hcz28_2); (try clear hcz29_0); (try clear hcz29_1); (try clear hcz29_2); (try clear hcz29_3); (try clear hcz29_4); (try clear hcz29_5); (try clear hcz29_6); (try clear hcz32_0); (try clear hcz32_1); (try clear hcz32_2); (try clear hcz32_3); (try clear hcz32_4); (try clear hcz32_5); (try clear hcz32_6); (try clear hcz35_0); (try clear hcz35_1); (try clear hcz35_2); (try clear hcz35_3); (try clear hcz35_4); (try clear hcz35_5); (try clear hcz35_6); (try clear hcz38_0); (try clear hcz38_1); (try clear hcz38_2); (try clear hcz38_3); (try clear hcz38_4); (try clear hcz38_5); (try clear hcz38_6); (try clear hcz39_0); (try clear hcz39_1); (try clear hcz39_2); (try clear hcz42_0); (try clear hcz42_1); (try clear hcz42_2); (try clear hcz42_3); (try clear hcz42_4); (try clear hcz42_5); (try clear hcz42_6); (try clear hcz43_0); (try clear hcz43_1); (try clear hcz43_2); (try clear hcz45_0); (try clear hcz45_1); (try clear hcz45_2); (try clear hcz45_3); (try clear hcz45_4); (try clear hcz45_5); (try clear hcz45_6); (try clear hcz46_0); (try clear hcz46_1); (try clear hcz46_2); (try clear hcz5_0); (try clear hcz5_1); (try clear hcz5_2); (try clear hcz5_3); (try clear hcz5_4); (try clear hcz5_5); (try clear hcz5_6); (try clear hcz7_0); (try clear hcz7_1); (try clear hcz7_2); (try clear hcz7_3); (try clear hcz7_4); (try clear hcz7_5); (try clear hcz7_6); (try clear hfz10_0); (try clear hfz10_1); (try clear hfz10_2); (try clear hfz10_3); (try clear hfz10_4); (try clear hfz10_5); (try clear hfz10_6); (try clear hfz11_0); (try clear hfz11_1); (try clear hfz11_2); (try clear hfz11_3); (try clear hfz11_4); (try clear hfz11_5); (try clear hfz11_6); (try clear hfz12_0); (try clear hfz12_1); (try clear hfz12_2); (try clear hfz12_3); (try clear hfz12_4); (try clear hfz12_5); (try clear hfz12_6); (try clear hfz17_0); (try clear hfz17_1); (try clear hfz17_2); (try clear hfz17_3); (try clear hfz17_4); (try clear hfz17_5); (try clear hfz17_6); (try clear hfz19_0); (try clear hfz19_1); (try clear hfz19_2); (try clear hfz19_3); (try clear hfz19_4); (try clear hfz19_5); (try clear hfz19_6); (try clear hfz20_0); (try clear hfz20_1); (try clear hfz20_2); (try clear hfz20_3); (try clear hfz20_4); (try clear hfz20_5); (try clear hfz20_6); (try clear hfz21_0); (try clear hfz21_1); (try clear hfz21_2); (try clear hfz21_3); (try clear hfz21_4); (try clear hfz21_5); (try clear hfz21_6); (try clear hfz25_0); (try clear hfz25_1); (try clear hfz25_2); (try clear hfz25_3); (try clear hfz25_4); (try clear hfz25_5); (try clear hfz25_6); (try clear hfz28_0); (try clear hfz28_1); (try clear hfz28_2); (try clear hfz29_0); (try clear hfz29_1); (try clear hfz29_2); (try clear hfz29_3); (try clear hfz29_4); (try clear hfz29_5); (try clear hfz29_6); (try clear hfz32_0); (try clear hfz32_1); (try clear hfz32_2); (try clear hfz32_3); (try clear hfz32_4); (try clear hfz32_5); (try clear hfz32_6); (try clear hfz35_0); (try clear hfz35_1); (try clear hfz35_2); (try clear hfz35_3); (try clear hfz35_4); (try clear hfz35_5); (try clear hfz35_6); (try clear hfz38_0); (try clear hfz38_1); (try clear hfz38_2); (try clear hfz38_3); (try clear hfz38_4); (try clear hfz38_5); (try clear hfz38_6); (try clear hfz39_0); (try clear hfz39_1); (try clear hfz39_2); (try clear hfz42_0); (try clear hfz42_1); (try clear hfz42_2); (try clear hfz42_3); (try clear hfz42_4); (try clear hfz42_5); (try clear hfz42_6); (try clear hfz43_0); (try clear hfz43_1); (try clear hfz43_2); (try clear hfz45_0); (try clear hfz45_1); (try clear hfz45_2); (try clear hfz45_3); (try clear hfz45_4); (try clear hfz45_5); (try clear hfz45_6); (try clear hfz46_0); (try clear hfz46_1); (try clear hfz46_2); (try clear hfz5_0); (try clear hfz5_1); (try clear hfz5_2); (try clear hfz5_3); (try clear hfz5_4); (try clear hfz5_5); (try clear hfz5_6); (try clear hfz7_0); (try clear hfz7_1); (try clear hfz7_2); (try clear hfz7_3); (try clear hfz7_4); (try clear hfz7_5); (try clear hfz7_6); (try clear p2)
                  obtain ⟨kq, x99_23, rfl, HA, HJ23, BK113, BK114, HB⟩ := hcut
                  cases kq with
                  | zero => exact absurd HA.out (by simp [cloakroomref15_May.j2])
                  | succ kj23 =>
                    have H := HA.out
                    clear HA
                    simp only [cloakroomref15_May.j2] at H
                    by_cases c47 : x99_23 = true
                    · subst c47
                      have H1 : (some false) = some r := by rw [if_pos rfl] at H; exact H
                      clear H
                      have H := H1
                      clear H1
                      obtain rfl := Option.some.inj H
                      go_wp2
                      go_ret
                      exact ⟨by first | rfl | (simp [errW_none, errW_some] <;> rfl) | (simp [*, errW_none, errW_some] <;> rfl), by repeat (first | (with_reducible first | exact HB.out | apply below_alloc | apply pw_below_drewN | apply below_drew1 | refine below_set ?_ GE113.out | refine below_set ?_ GE114.out) | exact HB.out)⟩
                    · replace c47 := Bool.eq_false_iff.mpr c47
                      subst c47
                      have H1 : (if (l0_3.length : Int) > 0 then (if a0_1 = 1 then (if a0_2 = 1 then (if a0_4 = 0 then (if a0_1 = 10 then (cloakroomref15_May.j3 kj23 (decide (a0_4 > 8)) a0_2 l0_3 a0_4) else (cloakroomref15_May.j3 kj23 false a0_2 l0_3 a0_4)) else ((cloakroomref15_counts.f a0_1).bind fun t115 => (if t115 = true then (if a0_1 = 10 then (cloakroomref15_May.j3 kj23 (decide (a0_4 > 8)) a0_2 l0_3 a0_4) else (cloakroomref15_May.j3 kj23 false a0_2 l0_3 a0_4)) else (cloakroomref15_May.j3 kj23 true a0_2 l0_3 a0_4)))) else (cloakroomref15_May.j3 kj23 true a0_2 l0_3 a0_4)) else (cloakroomref15_May.j3 kj23 true a0_2 l0_3 a0_4)) else (if a0_4 = 0 then (if a0_1 = 10 then (cloakroomref15_May.j3 kj23 (decide (a0_4 > 8)) a0_2 l0_3 a0_4) else (cloakroomref15_May.j3 kj23 false a0_2 l0_3 a0_4)) else ((cloakroomref15_counts.f a0_1).bind fun t116 => (if t116 = true then (if a0_2 = 1 then (if a0_1 = 10 then (cloakroomref15_May.j3 kj23 (decide (a0_4 > 8)) a0_2 l0_3 a0_4) else (cloakroomref15_May.j3 kj23 false a0_2 l0_3 a0_4)) else (cloakroomref15_May.j3 kj23 true a0_2 l0_3 a0_4)) else (cloakroomref15_May.j3 kj23 true a0_2 l0_3 a0_4))))) = some r := by rw [if_neg (show ¬ (false = true) by decide)] at H; exact H
                      clear H
                      have H := H1
                      clear H1
                      have HC48 := Aside0.mk H
                      clear H
                      go_upto_region 10 with (fail)
                      go_cut [139] (fun v139 wc => ∃ (kq : Nat) (x139_47 : Bool), v139 = .bool x139_47 ∧ Aside0 (cloakroomref15_May.j3 kq x139_47 a0_2 l0_3 a0_4 = some r) ∧ Aside0 (kq ≤ kj23) ∧ Aside0 (wc.heap[gb113]? = some (.cells #[.int .u8 a0_0, .int .u8 a0_1, .int .u8 a0_2, (.slice A0_3 l0_3.length c0_3), .int .u64 a0_4, .bool a0_5, .string a0_6] 27 (0, 0))) ∧ Aside0 (wc.heap[gb114]? = some (.cells #[.int .u8 a0_2, (.slice A0_3 l0_3.length c0_3), .int .u64 a0_4] 25 (0, 0))) ∧ Aside0 (Below w.heap.size w wc))
                      case first =>
                        have H := HC48.out
                        clear HC48
                        by_cases c49 : (l0_3.length : Int) > 0
                        · rw [if_pos c49] at H
                          have c49b0 : decide (0 < (l0_3.length : Int)) = true := decide_eq_true c49
                          have c49b1 : decide (0 < l0_3.length) = true := decide_eq_true (by omega)
                          clear c49
                          (first | rw [c49b0] | (simp only [i64_w, i32_w]; rw [c49b0]) | skip)
                          by_cases c50 : a0_1 = 1
                          · rw [if_pos c50] at H
                            have c50b0 : (a0_1 == 1) = true := beq_iff_eq.mpr c50
                            have c50b1 : (a0_1 != 1) = false := bne_eq_false_iff_eq.mpr c50
                            clear c50
                            by_cases c51 : a0_2 = 1
                            · rw [if_pos c51] at H
                              have c51b0 : (a0_2 == 1) = true := beq_iff_eq.mpr c51
                              have c51b1 : (a0_2 != 1) = false := bne_eq_false_iff_eq.mpr c51
                              clear c51
                              by_cases c52 : a0_4 = 0
                              · rw [if_pos c52] at H
                                have c52b0 : (a0_4 == 0) = true := beq_iff_eq.mpr c52
                                have c52b1 : (a0_4 != 0) = false := bne_eq_false_iff_eq.mpr c52
                                clear c52
                                by_cases c53 : a0_1 = 10
                                · rw [if_pos c53] at H
                                  have c53b0 : (a0_1 == 10) = true := beq_iff_eq.mpr c53
                                  have c53b1 : (a0_1 != 10) = false := bne_eq_false_iff_eq.mpr c53
                                  clear c53
                                  have H' := Aside0.mk H
                                  clear H
                                  have hnb54 := NB114_113.out
                                  have hnc54 := NB113_114.out
                                  have hcz55_0 : wc.cell? ⟨gb114, 0, none⟩ = some (.int .u8 a0_2) := (blk_cell BK114.out 0).trans rfl
                                  have hcz55_1 : wc.cell? ⟨gb114, 1, none⟩ = some (.slice A0_3 l0_3.length c0_3) := (blk_cell BK114.out 1).trans rfl
                                  have hcz55_2 : wc.cell? ⟨gb114, 2, none⟩ = some (.int .u64 a0_4) := (blk_cell BK114.out 2).trans rfl
                                  have hfz55_0 := blk_frozen BK114.out 0
                                  have hfz55_1 := blk_frozen BK114.out 1
                                  have hfz55_2 := blk_frozen BK114.out 2
                                  have hcz56_0 : wc.cell? ⟨gb113, 0, none⟩ = some (.int .u8 a0_0) := (blk_cell BK113.out 0).trans rfl
                                  have hcz56_1 : wc.cell? ⟨gb113, 1, none⟩ = some (.int .u8 a0_1) := (blk_cell BK113.out 1).trans rfl
                                  have hcz56_2 : wc.cell? ⟨gb113, 2, none⟩ = some (.int .u8 a0_2) := (blk_cell BK113.out 2).trans rfl
                                  have hcz56_3 : wc.cell? ⟨gb113, 3, none⟩ = some (.slice A0_3 l0_3.length c0_3) := (blk_cell BK113.out 3).trans rfl
                                  have hcz56_4 : wc.cell? ⟨gb113, 4, none⟩ = some (.int .u64 a0_4) := (blk_cell BK113.out 4).trans rfl
                                  have hcz56_5 : wc.cell? ⟨gb113, 5, none⟩ = some (.bool a0_5) := (blk_cell BK113.out 5).trans rfl
                                  have hcz56_6 : wc.cell? ⟨gb113, 6, none⟩ = some (.string a0_6) := (blk_cell BK113.out 6).trans rfl
                                  have hfz56_0 := blk_frozen BK113.out 0
                                  have hfz56_1 := blk_frozen BK113.out 1
                                  have hfz56_2 := blk_frozen BK113.out 2
                                  have hfz56_3 := blk_frozen BK113.out 3
                                  have hfz56_4 := blk_frozen BK113.out 4
                                  have hfz56_5 := blk_frozen BK113.out 5
                                  have hfz56_6 := blk_frozen BK113.out 6
                                  go_wp2
                                  go_meet
                                  case rel => exact ⟨_, (decide (a0_4 > 8)), (by first | rfl | (simp; done) | (simp [*]; done) | exact x_nonempty _ | (simp [x_nonempty]; done)), H', ⟨by have := HJ1.out; have := HJ13.out; have := HJ23.out; first | omega | exact Nat.le_refl _⟩, ⟨by (with_reducible repeat (first | refine blk_drewN ?_ _ | refine blk_drew ?_ | refine blk_alloc ?_ _)); exact BK113.out⟩, ⟨by (with_reducible repeat (first | refine blk_drewN ?_ _ | refine blk_drew ?_ | refine blk_alloc ?_ _)); exact BK114.out⟩, ⟨by repeat (first | (with_reducible first | exact HB.out | apply below_alloc | apply pw_below_drewN | apply below_drew1 | refine below_set ?_ GE113.out | refine below_set ?_ GE114.out) | exact HB.out)⟩⟩
                                · rw [if_neg c53] at H
                                  have c53b0 : (a0_1 == 10) = false := beq_eq_false_iff_ne.mpr c53
                                  have c53b1 : (a0_1 != 10) = true := bne_iff_ne.mpr c53
                                  have H' := Aside0.mk H
                                  clear H
                                  have hnb57 := NB114_113.out
                                  have hnc57 := NB113_114.out
                                  have hcz58_0 : wc.cell? ⟨gb114, 0, none⟩ = some (.int .u8 a0_2) := (blk_cell BK114.out 0).trans rfl
                                  have hcz58_1 : wc.cell? ⟨gb114, 1, none⟩ = some (.slice A0_3 l0_3.length c0_3) := (blk_cell BK114.out 1).trans rfl
                                  have hcz58_2 : wc.cell? ⟨gb114, 2, none⟩ = some (.int .u64 a0_4) := (blk_cell BK114.out 2).trans rfl
                                  have hfz58_0 := blk_frozen BK114.out 0
                                  have hfz58_1 := blk_frozen BK114.out 1
                                  have hfz58_2 := blk_frozen BK114.out 2
                                  have hcz59_0 : wc.cell? ⟨gb113, 0, none⟩ = some (.int .u8 a0_0) := (blk_cell BK113.out 0).trans rfl
                                  have hcz59_1 : wc.cell? ⟨gb113, 1, none⟩ = some (.int .u8 a0_1) := (blk_cell BK113.out 1).trans rfl
                                  have hcz59_2 : wc.cell? ⟨gb113, 2, none⟩ = some (.int .u8 a0_2) := (blk_cell BK113.out 2).trans rfl
                                  have hcz59_3 : wc.cell? ⟨gb113, 3, none⟩ = some (.slice A0_3 l0_3.length c0_3) := (blk_cell BK113.out 3).trans rfl
                                  have hcz59_4 : wc.cell? ⟨gb113, 4, none⟩ = some (.int .u64 a0_4) := (blk_cell BK113.out 4).trans rfl
                                  have hcz59_5 : wc.cell? ⟨gb113, 5, none⟩ = some (.bool a0_5) := (blk_cell BK113.out 5).trans rfl
                                  have hcz59_6 : wc.cell? ⟨gb113, 6, none⟩ = some (.string a0_6) := (blk_cell BK113.out 6).trans rfl
                                  have hfz59_0 := blk_frozen BK113.out 0
                                  have hfz59_1 := blk_frozen BK113.out 1
                                  have hfz59_2 := blk_frozen BK113.out 2
                                  have hfz59_3 := blk_frozen BK113.out 3
                                  have hfz59_4 := blk_frozen BK113.out 4
                                  have hfz59_5 := blk_frozen BK113.out 5
                                  have hfz59_6 := blk_frozen BK113.out 6
                                  go_wp2
                                  go_meet
                                  case rel => exact ⟨_, (false), (by first | rfl | (simp; done) | (simp [*]; done) | exact x_nonempty _ | (simp [x_nonempty]; done)), H', ⟨by have := HJ1.out; have := HJ13.out; have := HJ23.out; first | omega | exact Nat.le_refl _⟩, ⟨by (with_reducible repeat (first | refine blk_drewN ?_ _ | refine blk_drew ?_ | refine blk_alloc ?_ _)); exact BK113.out⟩, ⟨by (with_reducible repeat (first | refine blk_drewN ?_ _ | refine blk_drew ?_ | refine blk_alloc ?_ _)); exact BK114.out⟩, ⟨by repeat (first | (with_reducible first | exact HB.out | apply below_alloc | apply pw_below_drewN | apply below_drew1 | refine below_set ?_ GE113.out | refine below_set ?_ GE114.out) | exact HB.out)⟩⟩
                              · rw [if_neg c52] at H
                                have c52b0 : (a0_4 == 0) = false := beq_eq_false_iff_ne.mpr c52
                                have c52b1 : (a0_4 != 0) = true := bne_iff_ne.mpr c52
                                replace H := Option.bind_eq_some_iff.mp H
                                obtain ⟨t115, A600, H⟩ := H
                                replace H : (if t115 = true then (if a0_1 = 10 then (cloakroomref15_May.j3 kj23 (decide (a0_4 > 8)) a0_2 l0_3 a0_4) else (cloakroomref15_May.j3 kj23 false a0_2 l0_3 a0_4)) else (cloakroomref15_May.j3 kj23 true a0_2 l0_3 a0_4)) = some r := H
                                have A60 := Aside0.mk A600
                                clear A600
                                by_cases c61 : t115 = true
                                · subst c61
                                  have H1 : (if a0_1 = 10 then (cloakroomref15_May.j3 kj23 (decide (a0_4 > 8)) a0_2 l0_3 a0_4) else (cloakroomref15_May.j3 kj23 false a0_2 l0_3 a0_4)) = some r := by rw [if_pos rfl] at H; exact H
                                  clear H
                                  have H := H1
                                  clear H1
                                  by_cases c62 : a0_1 = 10
                                  · rw [if_pos c62] at H
                                    have c62b0 : (a0_1 == 10) = true := beq_iff_eq.mpr c62
                                    have c62b1 : (a0_1 != 10) = false := bne_eq_false_iff_eq.mpr c62
                                    clear c62
                                    have H' := Aside0.mk H
                                    clear H
                                    have hnb63 := NB114_113.out
                                    have hnc63 := NB113_114.out
                                    have hcz64_0 : wc.cell? ⟨gb114, 0, none⟩ = some (.int .u8 a0_2) := (blk_cell BK114.out 0).trans rfl
                                    have hcz64_1 : wc.cell? ⟨gb114, 1, none⟩ = some (.slice A0_3 l0_3.length c0_3) := (blk_cell BK114.out 1).trans rfl
                                    have hcz64_2 : wc.cell? ⟨gb114, 2, none⟩ = some (.int .u64 a0_4) := (blk_cell BK114.out 2).trans rfl
                                    have hfz64_0 := blk_frozen BK114.out 0
                                    have hfz64_1 := blk_frozen BK114.out 1
                                    have hfz64_2 := blk_frozen BK114.out 2
                                    have hcz65_0 : wc.cell? ⟨gb113, 0, none⟩ = some (.int .u8 a0_0) := (blk_cell BK113.out 0).trans rfl
                                    have hcz65_1 : wc.cell? ⟨gb113, 1, none⟩ = some (.int .u8 a0_1) := (blk_cell BK113.out 1).trans rfl
                                    have hcz65_2 : wc.cell? ⟨gb113, 2, none⟩ = some (.int .u8 a0_2) := (blk_cell BK113.out 2).trans rfl
                                    have hcz65_3 : wc.cell? ⟨gb113, 3, none⟩ = some (.slice A0_3 l0_3.length c0_3) := (blk_cell BK113.out 3).trans rfl
                                    have hcz65_4 : wc.cell? ⟨gb113, 4, none⟩ = some (.int .u64 a0_4) := (blk_cell BK113.out 4).trans rfl
                                    have hcz65_5 : wc.cell? ⟨gb113, 5, none⟩ = some (.bool a0_5) := (blk_cell BK113.out 5).trans rfl
                                    have hcz65_6 : wc.cell? ⟨gb113, 6, none⟩ = some (.string a0_6) := (blk_cell BK113.out 6).trans rfl
                                    have hfz65_0 := blk_frozen BK113.out 0
                                    have hfz65_1 := blk_frozen BK113.out 1
                                    have hfz65_2 := blk_frozen BK113.out 2
                                    have hfz65_3 := blk_frozen BK113.out 3
                                    have hfz65_4 := blk_frozen BK113.out 4
                                    have hfz65_5 := blk_frozen BK113.out 5
                                    have hfz65_6 := blk_frozen BK113.out 6
                                    go_wp2_with (first | (go_at_call 62; (with_reducible refine (cloakroomref15_counts.calls a0_1 true _ A60.out).mono ?_); rintro e w' ⟨rfl, ⟨nd, rfl⟩⟩))
                                    go_meet
                                    case rel => exact ⟨_, (decide (a0_4 > 8)), (by first | rfl | (simp; done) | (simp [*]; done) | exact x_nonempty _ | (simp [x_nonempty]; done)), H', ⟨by have := HJ1.out; have := HJ13.out; have := HJ23.out; first | omega | exact Nat.le_refl _⟩, ⟨by (with_reducible repeat (first | refine blk_drewN ?_ _ | refine blk_drew ?_ | refine blk_alloc ?_ _)); exact BK113.out⟩, ⟨by (with_reducible repeat (first | refine blk_drewN ?_ _ | refine blk_drew ?_ | refine blk_alloc ?_ _)); exact BK114.out⟩, ⟨by repeat (first | (with_reducible first | exact HB.out | apply below_alloc | apply pw_below_drewN | apply below_drew1 | refine below_set ?_ GE113.out | refine below_set ?_ GE114.out) | exact HB.out)⟩⟩
                                  · rw [if_neg c62] at H
                                    have c62b0 : (a0_1 == 10) = false := beq_eq_false_iff_ne.mpr c62
                                    have c62b1 : (a0_1 != 10) = true := bne_iff_ne.mpr c62
                                    have H' := Aside0.mk H
                                    clear H
                                    have hnb66 := NB114_113.out
                                    have hnc66 := NB113_114.out
                                    have hcz67_0 : wc.cell? ⟨gb114, 0, none⟩ = some (.int .u8 a0_2) := (blk_cell BK114.out 0).trans rfl
                                    have hcz67_1 : wc.cell? ⟨gb114, 1, none⟩ = some (.slice A0_3 l0_3.length c0_3) := (blk_cell BK114.out 1).trans rfl
                                    have hcz67_2 : wc.cell? ⟨gb114, 2, none⟩ = some (.int .u64 a0_4) := (blk_cell BK114.out 2).trans rfl
                                    have hfz67_0 := blk_frozen BK114.out 0
                                    have hfz67_1 := blk_frozen BK114.out 1
                                    have hfz67_2 := blk_frozen BK114.out 2
                                    have hcz68_0 : wc.cell? ⟨gb113, 0, none⟩ = some (.int .u8 a0_0) := (blk_cell BK113.out 0).trans rfl
                                    have hcz68_1 : wc.cell? ⟨gb113, 1, none⟩ = some (.int .u8 a0_1) := (blk_cell BK113.out 1).trans rfl
                                    have hcz68_2 : wc.cell? ⟨gb113, 2, none⟩ = some (.int .u8 a0_2) := (blk_cell BK113.out 2).trans rfl
                                    have hcz68_3 : wc.cell? ⟨gb113, 3, none⟩ = some (.slice A0_3 l0_3.length c0_3) := (blk_cell BK113.out 3).trans rfl
                                    have hcz68_4 : wc.cell? ⟨gb113, 4, none⟩ = some (.int .u64 a0_4) := (blk_cell BK113.out 4).trans rfl
                                    have hcz68_5 : wc.cell? ⟨gb113, 5, none⟩ = some (.bool a0_5) := (blk_cell BK113.out 5).trans rfl
                                    have hcz68_6 : wc.cell? ⟨gb113, 6, none⟩ = some (.string a0_6) := (blk_cell BK113.out 6).trans rfl
                                    have hfz68_0 := blk_frozen BK113.out 0
                                    have hfz68_1 := blk_frozen BK113.out 1
                                    have hfz68_2 := blk_frozen BK113.out 2
                                    have hfz68_3 := blk_frozen BK113.out 3
                                    have hfz68_4 := blk_frozen BK113.out 4
                                    have hfz68_5 := blk_frozen BK113.out 5
                                    have hfz68_6 := blk_frozen BK113.out 6
                                    go_wp2_with (first | (go_at_call 62; (with_reducible refine (cloakroomref15_counts.calls a0_1 true _ A60.out).mono ?_); rintro e w' ⟨rfl, ⟨nd, rfl⟩⟩))
                                    go_meet
                                    case rel => exact ⟨_, (false), (by first | rfl | (simp; done) | (simp [*]; done) | exact x_nonempty _ | (simp [x_nonempty]; done)), H', ⟨by have := HJ1.out; have := HJ13.out; have := HJ23.out; first | omega | exact Nat.le_refl _⟩, ⟨by (with_reducible repeat (first | refine blk_drewN ?_ _ | refine blk_drew ?_ | refine blk_alloc ?_ _)); exact BK113.out⟩, ⟨by (with_reducible repeat (first | refine blk_drewN ?_ _ | refine blk_drew ?_ | refine blk_alloc ?_ _)); exact BK114.out⟩, ⟨by repeat (first | (with_reducible first | exact HB.out | apply below_alloc | apply pw_below_drewN | apply below_drew1 | refine below_set ?_ GE113.out | refine below_set ?_ GE114.out) | exact HB.out)⟩⟩
                                · replace c61 := Bool.eq_false_iff.mpr c61
                                  subst c61
                                  have H1 : (cloakroomref15_May.j3 kj23 true a0_2 l0_3 a0_4) = some r := by rw [if_neg (show ¬ (false = true) by decide)] at H; exact H
                                  clear H
                                  have H := H1
                                  clear H1
                                  have H' := Aside0.mk H
                                  clear H
                                  have hnb69 := NB114_113.out
                                  have hnc69 := NB113_114.out
                                  have hcz70_0 : wc.cell? ⟨gb114, 0, none⟩ = some (.int .u8 a0_2) := (blk_cell BK114.out 0).trans rfl
                                  have hcz70_1 : wc.cell? ⟨gb114, 1, none⟩ = some (.slice A0_3 l0_3.length c0_3) := (blk_cell BK114.out 1).trans rfl
                                  have hcz70_2 : wc.cell? ⟨gb114, 2, none⟩ = some (.int .u64 a0_4) := (blk_cell BK114.out 2).trans rfl
                                  have hfz70_0 := blk_frozen BK114.out 0
                                  have hfz70_1 := blk_frozen BK114.out 1
                                  have hfz70_2 := blk_frozen BK114.out 2
                                  have hcz71_0 : wc.cell? ⟨gb113, 0, none⟩ = some (.int .u8 a0_0) := (blk_cell BK113.out 0).trans rfl
                                  have hcz71_1 : wc.cell? ⟨gb113, 1, none⟩ = some (.int .u8 a0_1) := (blk_cell BK113.out 1).trans rfl
                                  have hcz71_2 : wc.cell? ⟨gb113, 2, none⟩ = some (.int .u8 a0_2) := (blk_cell BK113.out 2).trans rfl
                                  have hcz71_3 : wc.cell? ⟨gb113, 3, none⟩ = some (.slice A0_3 l0_3.length c0_3) := (blk_cell BK113.out 3).trans rfl
                                  have hcz71_4 : wc.cell? ⟨gb113, 4, none⟩ = some (.int .u64 a0_4) := (blk_cell BK113.out 4).trans rfl
                                  have hcz71_5 : wc.cell? ⟨gb113, 5, none⟩ = some (.bool a0_5) := (blk_cell BK113.out 5).trans rfl
                                  have hcz71_6 : wc.cell? ⟨gb113, 6, none⟩ = some (.string a0_6) := (blk_cell BK113.out 6).trans rfl
                                  have hfz71_0 := blk_frozen BK113.out 0
                                  have hfz71_1 := blk_frozen BK113.out 1
                                  have hfz71_2 := blk_frozen BK113.out 2
                                  have hfz71_3 := blk_frozen BK113.out 3
                                  have hfz71_4 := blk_frozen BK113.out 4
                                  have hfz71_5 := blk_frozen BK113.out 5
                                  have hfz71_6 := blk_frozen BK113.out 6
                                  go_wp2_with (first | (go_at_call 62; (with_reducible refine (cloakroomref15_counts.calls a0_1 false _ A60.out).mono ?_); rintro e w' ⟨rfl, ⟨nd, rfl⟩⟩))
                                  go_meet
                                  case rel => exact ⟨_, (true), (by first | rfl | (simp; done) | (simp [*]; done) | exact x_nonempty _ | (simp [x_nonempty]; done)), H', ⟨by have := HJ1.out; have := HJ13.out; have := HJ23.out; first | omega | exact Nat.le_refl _⟩, ⟨by (with_reducible repeat (first | refine blk_drewN ?_ _ | refine blk_drew ?_ | refine blk_alloc ?_ _)); exact BK113.out⟩, ⟨by (with_reducible repeat (first | refine blk_drewN ?_ _ | refine blk_drew ?_ | refine blk_alloc ?_ _)); exact BK114.out⟩, ⟨by repeat (first | (with_reducible first | exact HB.out | apply below_alloc | apply pw_below_drewN | apply below_drew1 | refine below_set ?_ GE113.out | refine below_set ?_ GE114.out) | exact HB.out)⟩⟩
                            · rw [if_neg c51] at H
                              have c51b0 : (a0_2 == 1) = false := beq_eq_false_iff_ne.mpr c51
                              have c51b1 : (a0_2 != 1) = true := bne_iff_ne.mpr c51
                              have H' := Aside0.mk H
                              clear H
                              have hnb72 := NB114_113.out
                              have hnc72 := NB113_114.out
                              have hcz73_0 : wc.cell? ⟨gb114, 0, none⟩ = some (.int .u8 a0_2) := (blk_cell BK114.out 0).trans rfl
                              have hcz73_1 : wc.cell? ⟨gb114, 1, none⟩ = some (.slice A0_3 l0_3.length c0_3) := (blk_cell BK114.out 1).trans rfl
                              have hcz73_2 : wc.cell? ⟨gb114, 2, none⟩ = some (.int .u64 a0_4) := (blk_cell BK114.out 2).trans rfl
                              have hfz73_0 := blk_frozen BK114.out 0
                              have hfz73_1 := blk_frozen BK114.out 1
                              have hfz73_2 := blk_frozen BK114.out 2
                              have hcz74_0 : wc.cell? ⟨gb113, 0, none⟩ = some (.int .u8 a0_0) := (blk_cell BK113.out 0).trans rfl
                              have hcz74_1 : wc.cell? ⟨gb113, 1, none⟩ = some (.int .u8 a0_1) := (blk_cell BK113.out 1).trans rfl
                              have hcz74_2 : wc.cell? ⟨gb113, 2, none⟩ = some (.int .u8 a0_2) := (blk_cell BK113.out 2).trans rfl
                              have hcz74_3 : wc.cell? ⟨gb113, 3, none⟩ = some (.slice A0_3 l0_3.length c0_3) := (blk_cell BK113.out 3).trans rfl
                              have hcz74_4 : wc.cell? ⟨gb113, 4, none⟩ = some (.int .u64 a0_4) := (blk_cell BK113.out 4).trans rfl
                              have hcz74_5 : wc.cell? ⟨gb113, 5, none⟩ = some (.bool a0_5) := (blk_cell BK113.out 5).trans rfl
                              have hcz74_6 : wc.cell? ⟨gb113, 6, none⟩ = some (.string a0_6) := (blk_cell BK113.out 6).trans rfl
                              have hfz74_0 := blk_frozen BK113.out 0
                              have hfz74_1 := blk_frozen BK113.out 1
                              have hfz74_2 := blk_frozen BK113.out 2
                              have hfz74_3 := blk_frozen BK113.out 3
                              have hfz74_4 := blk_frozen BK113.out 4
                              have hfz74_5 := blk_frozen BK113.out 5
                              have hfz74_6 := blk_frozen BK113.out 6
                              go_wp2
                              go_meet
                              case rel => exact ⟨_, (true), (by first | rfl | (simp; done) | (simp [*]; done) | exact x_nonempty _ | (simp [x_nonempty]; done)), H', ⟨by have := HJ1.out; have := HJ13.out; have := HJ23.out; first | omega | exact Nat.le_refl _⟩, ⟨by (with_reducible repeat (first | refine blk_drewN ?_ _ | refine blk_drew ?_ | refine blk_alloc ?_ _)); exact BK113.out⟩, ⟨by (with_reducible repeat (first | refine blk_drewN ?_ _ | refine blk_drew ?_ | refine blk_alloc ?_ _)); exact BK114.out⟩, ⟨by repeat (first | (with_reducible first | exact HB.out | apply below_alloc | apply pw_below_drewN | apply below_drew1 | refine below_set ?_ GE113.out | refine below_set ?_ GE114.out) | exact HB.out)⟩⟩
                          · rw [if_neg c50] at H
                            have c50b0 : (a0_1 == 1) = false := beq_eq_false_iff_ne.mpr c50
                            have c50b1 : (a0_1 != 1) = true := bne_iff_ne.mpr c50
                            have H' := Aside0.mk H
                            clear H
                            have hnb75 := NB114_113.out
                            have hnc75 := NB113_114.out
                            have hcz76_0 : wc.cell? ⟨gb114, 0, none⟩ = some (.int .u8 a0_2) := (blk_cell BK114.out 0).trans rfl
                            have hcz76_1 : wc.cell? ⟨gb114, 1, none⟩ = some (.slice A0_3 l0_3.length c0_3) := (blk_cell BK114.out 1).trans rfl
                            have hcz76_2 : wc.cell? ⟨gb114, 2, none⟩ = some (.int .u64 a0_4) := (blk_cell BK114.out 2).trans rfl
                            have hfz76_0 := blk_frozen BK114.out 0
                            have hfz76_1 := blk_frozen BK114.out 1
                            have hfz76_2 := blk_frozen BK114.out 2
                            have hcz77_0 : wc.cell? ⟨gb113, 0, none⟩ = some (.int .u8 a0_0) := (blk_cell BK113.out 0).trans rfl
                            have hcz77_1 : wc.cell? ⟨gb113, 1, none⟩ = some (.int .u8 a0_1) := (blk_cell BK113.out 1).trans rfl
                            have hcz77_2 : wc.cell? ⟨gb113, 2, none⟩ = some (.int .u8 a0_2) := (blk_cell BK113.out 2).trans rfl
                            have hcz77_3 : wc.cell? ⟨gb113, 3, none⟩ = some (.slice A0_3 l0_3.length c0_3) := (blk_cell BK113.out 3).trans rfl
                            have hcz77_4 : wc.cell? ⟨gb113, 4, none⟩ = some (.int .u64 a0_4) := (blk_cell BK113.out 4).trans rfl
                            have hcz77_5 : wc.cell? ⟨gb113, 5, none⟩ = some (.bool a0_5) := (blk_cell BK113.out 5).trans rfl
                            have hcz77_6 : wc.cell? ⟨gb113, 6, none⟩ = some (.string a0_6) := (blk_cell BK113.out 6).trans rfl
                            have hfz77_0 := blk_frozen BK113.out 0
                            have hfz77_1 := blk_frozen BK113.out 1
                            have hfz77_2 := blk_frozen BK113.out 2
                            have hfz77_3 := blk_frozen BK113.out 3
                            have hfz77_4 := blk_frozen BK113.out 4
                            have hfz77_5 := blk_frozen BK113.out 5
                            have hfz77_6 := blk_frozen BK113.out 6
                            go_wp2
                            go_meet
                            case rel => exact ⟨_, (true), (by first | rfl | (simp; done) | (simp [*]; done) | exact x_nonempty _ | (simp [x_nonempty]; done)), H', ⟨by have := HJ1.out; have := HJ13.out; have := HJ23.out; first | omega | exact Nat.le_refl _⟩, ⟨by (with_reducible repeat (first | refine blk_drewN ?_ _ | refine blk_drew ?_ | refine blk_alloc ?_ _)); exact BK113.out⟩, ⟨by (with_reducible repeat (first | refine blk_drewN ?_ _ | refine blk_drew ?_ | refine blk_alloc ?_ _)); exact BK114.out⟩, ⟨by repeat (first | (with_reducible first | exact HB.out | apply below_alloc | apply pw_below_drewN | apply below_drew1 | refine below_set ?_ GE113.out | refine below_set ?_ GE114.out) | exact HB.out)⟩⟩
                        · rw [if_neg c49] at H
                          have c49b0 : decide (0 < (l0_3.length : Int)) = false := decide_eq_false c49
                          have c49b1 : decide (0 < l0_3.length) = false := decide_eq_false (by omega)
                          clear c49
                          (first | rw [c49b0] | (simp only [i64_w, i32_w]; rw [c49b0]) | skip)
                          by_cases c78 : a0_4 = 0
                          · rw [if_pos c78] at H
                            have c78b0 : (a0_4 == 0) = true := beq_iff_eq.mpr c78
                            have c78b1 : (a0_4 != 0) = false := bne_eq_false_iff_eq.mpr c78
                            clear c78
                            by_cases c79 : a0_1 = 10
                            · rw [if_pos c79] at H
                              have c79b0 : (a0_1 == 10) = true := beq_iff_eq.mpr c79
                              have c79b1 : (a0_1 != 10) = false := bne_eq_false_iff_eq.mpr c79
                              clear c79
                              have H' := Aside0.mk H
                              clear H
                              have hnb80 := NB114_113.out
                              have hnc80 := NB113_114.out
                              have hcz81_0 : wc.cell? ⟨gb114, 0, none⟩ = some (.int .u8 a0_2) := (blk_cell BK114.out 0).trans rfl
                              have hcz81_1 : wc.cell? ⟨gb114, 1, none⟩ = some (.slice A0_3 l0_3.length c0_3) := (blk_cell BK114.out 1).trans rfl
                              have hcz81_2 : wc.cell? ⟨gb114, 2, none⟩ = some (.int .u64 a0_4) := (blk_cell BK114.out 2).trans rfl
                              have hfz81_0 := blk_frozen BK114.out 0
                              have hfz81_1 := blk_frozen BK114.out 1
                              have hfz81_2 := blk_frozen BK114.out 2
                              have hcz82_0 : wc.cell? ⟨gb113, 0, none⟩ = some (.int .u8 a0_0) := (blk_cell BK113.out 0).trans rfl
                              have hcz82_1 : wc.cell? ⟨gb113, 1, none⟩ = some (.int .u8 a0_1) := (blk_cell BK113.out 1).trans rfl
                              have hcz82_2 : wc.cell? ⟨gb113, 2, none⟩ = some (.int .u8 a0_2) := (blk_cell BK113.out 2).trans rfl
                              have hcz82_3 : wc.cell? ⟨gb113, 3, none⟩ = some (.slice A0_3 l0_3.length c0_3) := (blk_cell BK113.out 3).trans rfl
                              have hcz82_4 : wc.cell? ⟨gb113, 4, none⟩ = some (.int .u64 a0_4) := (blk_cell BK113.out 4).trans rfl
                              have hcz82_5 : wc.cell? ⟨gb113, 5, none⟩ = some (.bool a0_5) := (blk_cell BK113.out 5).trans rfl
                              have hcz82_6 : wc.cell? ⟨gb113, 6, none⟩ = some (.string a0_6) := (blk_cell BK113.out 6).trans rfl
                              have hfz82_0 := blk_frozen BK113.out 0
                              have hfz82_1 := blk_frozen BK113.out 1
                              have hfz82_2 := blk_frozen BK113.out 2
                              have hfz82_3 := blk_frozen BK113.out 3
                              have hfz82_4 := blk_frozen BK113.out 4
                              have hfz82_5 := blk_frozen BK113.out 5
                              have hfz82_6 := blk_frozen BK113.out 6
                              go_wp2
                              go_meet
                              case rel => exact ⟨_, (decide (a0_4 > 8)), (by first | rfl | (simp; done) | (simp [*]; done) | exact x_nonempty _ | (simp [x_nonempty]; done)), H', ⟨by have := HJ1.out; have := HJ13.out; have := HJ23.out; first | omega | exact Nat.le_refl _⟩, ⟨by (with_reducible repeat (first | refine blk_drewN ?_ _ | refine blk_drew ?_ | refine blk_alloc ?_ _)); exact BK113.out⟩, ⟨by (with_reducible repeat (first | refine blk_drewN ?_ _ | refine blk_drew ?_ | refine blk_alloc ?_ _)); exact BK114.out⟩, ⟨by repeat (first | (with_reducible first | exact HB.out | apply below_alloc | apply pw_below_drewN | apply below_drew1 | refine below_set ?_ GE113.out | refine below_set ?_ GE114.out) | exact HB.out)⟩⟩
                            · rw [if_neg c79] at H
                              have c79b0 : (a0_1 == 10) = false := beq_eq_false_iff_ne.mpr c79
                              have c79b1 : (a0_1 != 10) = true := bne_iff_ne.mpr c79
                              have H' := Aside0.mk H
                              clear H
                              have hnb83 := NB114_113.out
                              have hnc83 := NB113_114.out
                              have hcz84_0 : wc.cell? ⟨gb114, 0, none⟩ = some (.int .u8 a0_2) := (blk_cell BK114.out 0).trans rfl
                              have hcz84_1 : wc.cell? ⟨gb114, 1, none⟩ = some (.slice A0_3 l0_3.length c0_3) := (blk_cell BK114.out 1).trans rfl
                              have hcz84_2 : wc.cell? ⟨gb114, 2, none⟩ = some (.int .u64 a0_4) := (blk_cell BK114.out 2).trans rfl
                              have hfz84_0 := blk_frozen BK114.out 0
                              have hfz84_1 := blk_frozen BK114.out 1
                              have hfz84_2 := blk_frozen BK114.out 2
                              have hcz85_0 : wc.cell? ⟨gb113, 0, none⟩ = some (.int .u8 a0_0) := (blk_cell BK113.out 0).trans rfl
                              have hcz85_1 : wc.cell? ⟨gb113, 1, none⟩ = some (.int .u8 a0_1) := (blk_cell BK113.out 1).trans rfl
                              have hcz85_2 : wc.cell? ⟨gb113, 2, none⟩ = some (.int .u8 a0_2) := (blk_cell BK113.out 2).trans rfl
                              have hcz85_3 : wc.cell? ⟨gb113, 3, none⟩ = some (.slice A0_3 l0_3.length c0_3) := (blk_cell BK113.out 3).trans rfl
                              have hcz85_4 : wc.cell? ⟨gb113, 4, none⟩ = some (.int .u64 a0_4) := (blk_cell BK113.out 4).trans rfl
                              have hcz85_5 : wc.cell? ⟨gb113, 5, none⟩ = some (.bool a0_5) := (blk_cell BK113.out 5).trans rfl
                              have hcz85_6 : wc.cell? ⟨gb113, 6, none⟩ = some (.string a0_6) := (blk_cell BK113.out 6).trans rfl
                              have hfz85_0 := blk_frozen BK113.out 0
                              have hfz85_1 := blk_frozen BK113.out 1
                              have hfz85_2 := blk_frozen BK113.out 2
                              have hfz85_3 := blk_frozen BK113.out 3
                              have hfz85_4 := blk_frozen BK113.out 4
                              have hfz85_5 := blk_frozen BK113.out 5
                              have hfz85_6 := blk_frozen BK113.out 6
                              go_wp2
                              go_meet
                              case rel => exact ⟨_, (false), (by first | rfl | (simp; done) | (simp [*]; done) | exact x_nonempty _ | (simp [x_nonempty]; done)), H', ⟨by have := HJ1.out; have := HJ13.out; have := HJ23.out; first | omega | exact Nat.le_refl _⟩, ⟨by (with_reducible repeat (first | refine blk_drewN ?_ _ | refine blk_drew ?_ | refine blk_alloc ?_ _)); exact BK113.out⟩, ⟨by (with_reducible repeat (first | refine blk_drewN ?_ _ | refine blk_drew ?_ | refine blk_alloc ?_ _)); exact BK114.out⟩, ⟨by repeat (first | (with_reducible first | exact HB.out | apply below_alloc | apply pw_below_drewN | apply below_drew1 | refine below_set ?_ GE113.out | refine below_set ?_ GE114.out) | exact HB.out)⟩⟩
                          · rw [if_neg c78] at H
                            have c78b0 : (a0_4 == 0) = false := beq_eq_false_iff_ne.mpr c78
                            have c78b1 : (a0_4 != 0) = true := bne_iff_ne.mpr c78
                            replace H := Option.bind_eq_some_iff.mp H
                            obtain ⟨t116, A860, H⟩ := H
                            replace H : (if t116 = true then (if a0_2 = 1 then (if a0_1 = 10 then (cloakroomref15_May.j3 kj23 (decide (a0_4 > 8)) a0_2 l0_3 a0_4) else (cloakroomref15_May.j3 kj23 false a0_2 l0_3 a0_4)) else (cloakroomref15_May.j3 kj23 true a0_2 l0_3 a0_4)) else (cloakroomref15_May.j3 kj23 true a0_2 l0_3 a0_4)) = some r := H
                            have A86 := Aside0.mk A860
                            clear A860
                            by_cases c87 : t116 = true
                            · subst c87
                              have H1 : (if a0_2 = 1 then (if a0_1 = 10 then (cloakroomref15_May.j3 kj23 (decide (a0_4 > 8)) a0_2 l0_3 a0_4) else (cloakroomref15_May.j3 kj23 false a0_2 l0_3 a0_4)) else (cloakroomref15_May.j3 kj23 true a0_2 l0_3 a0_4)) = some r := by rw [if_pos rfl] at H; exact H
                              clear H
                              have H := H1
                              clear H1
                              by_cases c88 : a0_2 = 1
                              · rw [if_pos c88] at H
                                have c88b0 : (a0_2 == 1) = true := beq_iff_eq.mpr c88
                                have c88b1 : (a0_2 != 1) = false := bne_eq_false_iff_eq.mpr c88
                                clear c88
                                by_cases c89 : a0_1 = 10
                                · rw [if_pos c89] at H
                                  have c89b0 : (a0_1 == 10) = true := beq_iff_eq.mpr c89
                                  have c89b1 : (a0_1 != 10) = false := bne_eq_false_iff_eq.mpr c89
                                  clear c89
                                  have H' := Aside0.mk H
                                  clear H
                                  have hnb90 := NB114_113.out
                                  have hnc90 := NB113_114.out
                                  have hcz91_0 : wc.cell? ⟨gb114, 0, none⟩ = some (.int .u8 a0_2) := (blk_cell BK114.out 0).trans rfl
                                  have hcz91_1 : wc.cell? ⟨gb114, 1, none⟩ = some (.slice A0_3 l0_3.length c0_3) := (blk_cell BK114.out 1).trans rfl
                                  have hcz91_2 : wc.cell? ⟨gb114, 2, none⟩ = some (.int .u64 a0_4) := (blk_cell BK114.out 2).trans rfl
                                  have hfz91_0 := blk_frozen BK114.out 0
                                  have hfz91_1 := blk_frozen BK114.out 1
                                  have hfz91_2 := blk_frozen BK114.out 2
                                  have hcz92_0 : wc.cell? ⟨gb113, 0, none⟩ = some (.int .u8 a0_0) := (blk_cell BK113.out 0).trans rfl
                                  have hcz92_1 : wc.cell? ⟨gb113, 1, none⟩ = some (.int .u8 a0_1) := (blk_cell BK113.out 1).trans rfl
                                  have hcz92_2 : wc.cell? ⟨gb113, 2, none⟩ = some (.int .u8 a0_2) := (blk_cell BK113.out 2).trans rfl
                                  have hcz92_3 : wc.cell? ⟨gb113, 3, none⟩ = some (.slice A0_3 l0_3.length c0_3) := (blk_cell BK113.out 3).trans rfl
                                  have hcz92_4 : wc.cell? ⟨gb113, 4, none⟩ = some (.int .u64 a0_4) := (blk_cell BK113.out 4).trans rfl
                                  have hcz92_5 : wc.cell? ⟨gb113, 5, none⟩ = some (.bool a0_5) := (blk_cell BK113.out 5).trans rfl
                                  have hcz92_6 : wc.cell? ⟨gb113, 6, none⟩ = some (.string a0_6) := (blk_cell BK113.out 6).trans rfl
                                  have hfz92_0 := blk_frozen BK113.out 0
                                  have hfz92_1 := blk_frozen BK113.out 1
                                  have hfz92_2 := blk_frozen BK113.out 2
                                  have hfz92_3 := blk_frozen BK113.out 3
                                  have hfz92_4 := blk_frozen BK113.out 4
                                  have hfz92_5 := blk_frozen BK113.out 5
                                  have hfz92_6 := blk_frozen BK113.out 6
                                  go_wp2_with (first | (go_at_call 62; (with_reducible refine (cloakroomref15_counts.calls a0_1 true _ A86.out).mono ?_); rintro e w' ⟨rfl, ⟨nd, rfl⟩⟩))
                                  go_meet
                                  case rel => exact ⟨_, (decide (a0_4 > 8)), (by first | rfl | (simp; done) | (simp [*]; done) | exact x_nonempty _ | (simp [x_nonempty]; done)), H', ⟨by have := HJ1.out; have := HJ13.out; have := HJ23.out; first | omega | exact Nat.le_refl _⟩, ⟨by (with_reducible repeat (first | refine blk_drewN ?_ _ | refine blk_drew ?_ | refine blk_alloc ?_ _)); exact BK113.out⟩, ⟨by (with_reducible repeat (first | refine blk_drewN ?_ _ | refine blk_drew ?_ | refine blk_alloc ?_ _)); exact BK114.out⟩, ⟨by repeat (first | (with_reducible first | exact HB.out | apply below_alloc | apply pw_below_drewN | apply below_drew1 | refine below_set ?_ GE113.out | refine below_set ?_ GE114.out) | exact HB.out)⟩⟩
                                · rw [if_neg c89] at H
                                  have c89b0 : (a0_1 == 10) = false := beq_eq_false_iff_ne.mpr c89
                                  have c89b1 : (a0_1 != 10) = true := bne_iff_ne.mpr c89
                                  have H' := Aside0.mk H
                                  clear H
                                  have hnb93 := NB114_113.out
                                  have hnc93 := NB113_114.out
                                  have hcz94_0 : wc.cell? ⟨gb114, 0, none⟩ = some (.int .u8 a0_2) := (blk_cell BK114.out 0).trans rfl
                                  have hcz94_1 : wc.cell? ⟨gb114, 1, none⟩ = some (.slice A0_3 l0_3.length c0_3) := (blk_cell BK114.out 1).trans rfl
                                  have hcz94_2 : wc.cell? ⟨gb114, 2, none⟩ = some (.int .u64 a0_4) := (blk_cell BK114.out 2).trans rfl
                                  have hfz94_0 := blk_frozen BK114.out 0
                                  have hfz94_1 := blk_frozen BK114.out 1
                                  have hfz94_2 := blk_frozen BK114.out 2
                                  have hcz95_0 : wc.cell? ⟨gb113, 0, none⟩ = some (.int .u8 a0_0) := (blk_cell BK113.out 0).trans rfl
                                  have hcz95_1 : wc.cell? ⟨gb113, 1, none⟩ = some (.int .u8 a0_1) := (blk_cell BK113.out 1).trans rfl
                                  have hcz95_2 : wc.cell? ⟨gb113, 2, none⟩ = some (.int .u8 a0_2) := (blk_cell BK113.out 2).trans rfl
                                  have hcz95_3 : wc.cell? ⟨gb113, 3, none⟩ = some (.slice A0_3 l0_3.length c0_3) := (blk_cell BK113.out 3).trans rfl
                                  have hcz95_4 : wc.cell? ⟨gb113, 4, none⟩ = some (.int .u64 a0_4) := (blk_cell BK113.out 4).trans rfl
                                  have hcz95_5 : wc.cell? ⟨gb113, 5, none⟩ = some (.bool a0_5) := (blk_cell BK113.out 5).trans rfl
                                  have hcz95_6 : wc.cell? ⟨gb113, 6, none⟩ = some (.string a0_6) := (blk_cell BK113.out 6).trans rfl
                                  have hfz95_0 := blk_frozen BK113.out 0
                                  have hfz95_1 := blk_frozen BK113.out 1
                                  have hfz95_2 := blk_frozen BK113.out 2
                                  have hfz95_3 := blk_frozen BK113.out 3
                                  have hfz95_4 := blk_frozen BK113.out 4
                                  have hfz95_5 := blk_frozen BK113.out 5
                                  have hfz95_6 := blk_frozen BK113.out 6
                                  go_wp2_with (first | (go_at_call 62; (with_reducible refine (cloakroomref15_counts.calls a0_1 true _ A86.out).mono ?_); rintro e w' ⟨rfl, ⟨nd, rfl⟩⟩))
                                  go_meet
                                  case rel => exact ⟨_, (false), (by first | rfl | (simp; done) | (simp [*]; done) | exact x_nonempty _ | (simp [x_nonempty]; done)), H', ⟨by have := HJ1.out; have := HJ13.out; have := HJ23.out; first | omega | exact Nat.le_refl _⟩, ⟨by (with_reducible repeat (first | refine blk_drewN ?_ _ | refine blk_drew ?_ | refine blk_alloc ?_ _)); exact BK113.out⟩, ⟨by (with_reducible repeat (first | refine blk_drewN ?_ _ | refine blk_drew ?_ | refine blk_alloc ?_ _)); exact BK114.out⟩, ⟨by repeat (first | (with_reducible first | exact HB.out | apply below_alloc | apply pw_below_drewN | apply below_drew1 | refine below_set ?_ GE113.out | refine below_set ?_ GE114.out) | exact HB.out)⟩⟩
                              · rw [if_neg c88] at H
                                have c88b0 : (a0_2 == 1) = false := beq_eq_false_iff_ne.mpr c88
                                have c88b1 : (a0_2 != 1) = true := bne_iff_ne.mpr c88
                                have H' := Aside0.mk H
                                clear H
                                have hnb96 := NB114_113.out
                                have hnc96 := NB113_114.out
                                have hcz97_0 : wc.cell? ⟨gb114, 0, none⟩ = some (.int .u8 a0_2) := (blk_cell BK114.out 0).trans rfl
                                have hcz97_1 : wc.cell? ⟨gb114, 1, none⟩ = some (.slice A0_3 l0_3.length c0_3) := (blk_cell BK114.out 1).trans rfl
                                have hcz97_2 : wc.cell? ⟨gb114, 2, none⟩ = some (.int .u64 a0_4) := (blk_cell BK114.out 2).trans rfl
                                have hfz97_0 := blk_frozen BK114.out 0
                                have hfz97_1 := blk_frozen BK114.out 1
                                have hfz97_2 := blk_frozen BK114.out 2
                                have hcz98_0 : wc.cell? ⟨gb113, 0, none⟩ = some (.int .u8 a0_0) := (blk_cell BK113.out 0).trans rfl
                                have hcz98_1 : wc.cell? ⟨gb113, 1, none⟩ = some (.int .u8 a0_1) := (blk_cell BK113.out 1).trans rfl
                                have hcz98_2 : wc.cell? ⟨gb113, 2, none⟩ = some (.int .u8 a0_2) := (blk_cell BK113.out 2).trans rfl
                                have hcz98_3 : wc.cell? ⟨gb113, 3, none⟩ = some (.slice A0_3 l0_3.length c0_3) := (blk_cell BK113.out 3).trans rfl
                                have hcz98_4 : wc.cell? ⟨gb113, 4, none⟩ = some (.int .u64 a0_4) := (blk_cell BK113.out 4).trans rfl
                                have hcz98_5 : wc.cell? ⟨gb113, 5, none⟩ = some (.bool a0_5) := (blk_cell BK113.out 5).trans rfl
                                have hcz98_6 : wc.cell? ⟨gb113, 6, none⟩ = some (.string a0_6) := (blk_cell BK113.out 6).trans rfl
                                have hfz98_0 := blk_frozen BK113.out 0
                                have hfz98_1 := blk_frozen BK113.out 1
                                have hfz98_2 := blk_frozen BK113.out 2
                                have hfz98_3 := blk_frozen BK113.out 3
                                have hfz98_4 := blk_frozen BK113.out 4
                                have hfz98_5 := blk_frozen BK113.out 5
                                have hfz98_6 := blk_frozen BK113.out 6
                                go_wp2_with (first | (go_at_call 62; (with_reducible refine (cloakroomref15_counts.calls a0_1 true _ A86.out).mono ?_); rintro e w' ⟨rfl, ⟨nd, rfl⟩⟩))
                                go_meet
                                case rel => exact ⟨_, (true), (by first | rfl | (simp; done) | (simp [*]; done) | exact x_nonempty _ | (simp [x_nonempty]; done)), H', ⟨by have := HJ1.out; have := HJ13.out; have := HJ23.out; first | omega | exact Nat.le_refl _⟩, ⟨by (with_reducible repeat (first | refine blk_drewN ?_ _ | refine blk_drew ?_ | refine blk_alloc ?_ _)); exact BK113.out⟩, ⟨by (with_reducible repeat (first | refine blk_drewN ?_ _ | refine blk_drew ?_ | refine blk_alloc ?_ _)); exact BK114.out⟩, ⟨by repeat (first | (with_reducible first | exact HB.out | apply below_alloc | apply pw_below_drewN | apply below_drew1 | refine below_set ?_ GE113.out | refine below_set ?_ GE114.out) | exact HB.out)⟩⟩
                            · replace c87 := Bool.eq_false_iff.mpr c87
                              subst c87
                              have H1 : (cloakroomref15_May.j3 kj23 true a0_2 l0_3 a0_4) = some r := by rw [if_neg (show ¬ (false = true) by decide)] at H; exact H
                              clear H
                              have H := H1
                              clear H1
                              have H' := Aside0.mk H
                              clear H
                              have hnb99 := NB114_113.out
                              have hnc99 := NB113_114.out
                              have hcz100_0 : wc.cell? ⟨gb114, 0, none⟩ = some (.int .u8 a0_2) := (blk_cell BK114.out 0).trans rfl
                              have hcz100_1 : wc.cell? ⟨gb114, 1, none⟩ = some (.slice A0_3 l0_3.length c0_3) := (blk_cell BK114.out 1).trans rfl
                              have hcz100_2 : wc.cell? ⟨gb114, 2, none⟩ = some (.int .u64 a0_4) := (blk_cell BK114.out 2).trans rfl
                              have hfz100_0 := blk_frozen BK114.out 0
                              have hfz100_1 := blk_frozen BK114.out 1
                              have hfz100_2 := blk_frozen BK114.out 2
                              have hcz101_0 : wc.cell? ⟨gb113, 0, none⟩ = some (.int .u8 a0_0) := (blk_cell BK113.out 0).trans rfl
                              have hcz101_1 : wc.cell? ⟨gb113, 1, none⟩ = some (.int .u8 a0_1) := (blk_cell BK113.out 1).trans rfl
                              have hcz101_2 : wc.cell? ⟨gb113, 2, none⟩ = some (.int .u8 a0_2) := (blk_cell BK113.out 2).trans rfl
                              have hcz101_3 : wc.cell? ⟨gb113, 3, none⟩ = some (.slice A0_3 l0_3.length c0_3) := (blk_cell BK113.out 3).trans rfl
                              have hcz101_4 : wc.cell? ⟨gb113, 4, none⟩ = some (.int .u64 a0_4) := (blk_cell BK113.out 4).trans rfl
                              have hcz101_5 : wc.cell? ⟨gb113, 5, none⟩ = some (.bool a0_5) := (blk_cell BK113.out 5).trans rfl
                              have hcz101_6 : wc.cell? ⟨gb113, 6, none⟩ = some (.string a0_6) := (blk_cell BK113.out 6).trans rfl
                              have hfz101_0 := blk_frozen BK113.out 0
                              have hfz101_1 := blk_frozen BK113.out 1
                              have hfz101_2 := blk_frozen BK113.out 2
                              have hfz101_3 := blk_frozen BK113.out 3
                              have hfz101_4 := blk_frozen BK113.out 4
                              have hfz101_5 := blk_frozen BK113.out 5
                              have hfz101_6 := blk_frozen BK113.out 6
                              go_wp2_with (first | (go_at_call 62; (with_reducible refine (cloakroomref15_counts.calls a0_1 false _ A86.out).mono ?_); rintro e w' ⟨rfl, ⟨nd, rfl⟩⟩))
                              go_meet
                              case rel => exact ⟨_, (true), (by first | rfl | (simp; done) | (simp [*]; done) | exact x_nonempty _ | (simp [x_nonempty]; done)), H', ⟨by have := HJ1.out; have := HJ13.out; have := HJ23.out; first | omega | exact Nat.le_refl _⟩, ⟨by (with_reducible repeat (first | refine blk_drewN ?_ _ | refine blk_drew ?_ | refine blk_alloc ?_ _)); exact BK113.out⟩, ⟨by (with_reducible repeat (first | refine blk_drewN ?_ _ | refine blk_drew ?_ | refine blk_alloc ?_ _)); exact BK114.out⟩, ⟨by repeat (first | (with_reducible first | exact HB.out | apply below_alloc | apply pw_below_drewN | apply below_drew1 | refine below_set ?_ GE113.out | refine below_set ?_ GE114.out) | exact HB.out)⟩⟩
                      case rest => as_aux_lemma =>
                        clear HC48
                        (try clear p2); (try clear c4); (try clear c5); (try clear c6); (try clear c7); (try clear c8); (try clear c9); (try clear c47); (try clear c49); (try clear c49b0); (try clear c49b1); (try clear c50); (try clear c50b0); (try clear c50b1); (try clear c51); (try clear c51b0); (try clear c51b1); (try clear c52); (try clear c52b0); (try clear c52b1); (try clear c53); (try clear c53b0); (try clear c53b1); (try clear c54); (try clear c57); (try clear c61); (try clear c62); (try clear c62b0); (try clear c62b1); (try clear c63); (try clear c66); (try clear c69); (try clear c72); (try clear c75); (try clear c78); (try clear c78b0); (try clear c78b1); (try clear c79); (try clear c79b0); (try clear c79b1); (try clear c80); (try clear c83); (try clear c87); (try clear c88); (try clear c88b0); (try clear c88b1); (try clear c89); (try clear c89b0); (try clear c89b1); (try clear c90); (try clear c93); (try clear c96); (try clear c99); (try clear hcz100_0); (try clear hcz100_1); (try clear hcz100_2); (try clear hcz101_0); (try clear hcz101_1); (try clear hcz101_2); (try clear hcz101_3); (try clear hcz101_4); (try clear hcz101_5); (try clear hcz101_6); (try clear hcz55_0); (try clear hcz55_1); (try clear hcz55_2); (try clear hcz56_0); (try clear hcz56_1); (try clear hcz56_2); (try clear hcz56_3); (try clear hcz56_4); (try clear hcz56_5); (try clear hcz56_6); (try clear hcz58_0); (try clear hcz58_1); (try clear hcz58_2); (try clear hcz59_0); (try clear hcz59_1); (try clear hcz59_2); (try clear hcz59_3); (try clear hcz59_4); (try clear hcz59_5); (try clear hcz59_6); (try clear hcz64_0); (try clear hcz64_1); (try clear hcz64_2); (try clear hcz65_0); (try clear hcz65_1); (try clear hcz65_2); (try clear hcz65_3); (try clear hcz65_4); (try clear hcz65_5); (try clear hcz65_6); (try clear hcz67_0); (try clear hcz67_1); (try clear hcz67_2); (try clear hcz68_0); (try clear hcz68_1); (try clear hcz68_2); (try clear hcz68_3); (try clear hcz68_4); (try clear hcz68_5); (try clear hcz68_6); (try clear hcz70_0); (try clear hcz70_1); (try clear hcz70_2); (try clear hcz71_0); (try clear hcz71_1); (try clear hcz71_2); (try clear hcz71_3); (try clear hcz71_4); (try clear hcz71_5); (try clear hcz71_6); (try clear hcz73_0); (try clear hcz73_1); (try clear hcz73_2); (try clear hcz74_0); (try clear hcz74_1); (try clear hcz74_2); (try clear hcz74_3); (try clear hcz74_4); (try clear hcz74_5); (try clear hcz74_6); (try clear hcz76_0); (try clear hcz76_1); (try clear hcz76_2); (try clear hcz77_0); (try clear hcz77_1); (try clear hcz77_2); (try clear hcz77_3); (try clear hcz77_4); (try clear hcz77_5); (try clear hcz77_6); (try clear hcz81_0); (try clear hcz81_1); (try clear hcz81_2); (try clear hcz82_0); (try clear hcz82_1); (try clear hcz82_2); (try clear hcz82_3); (try clear hcz82_4); (try clear hcz82_5); (try clear hcz82_6); (try clear hcz84_0); (try clear hcz84_1); (try clear hcz84_2); (try clear hcz85_0); (try clear hcz85_1); (try clear hcz85_2); (try clear hcz85_3); (try clear hcz85_4); (try clear hcz85_5); (try clear hcz85_6); (try clear hcz91_0); (try clear hcz91_1); (try clear hcz91_2); (try clear hcz92_0); (try clear hcz92_1); (try clear hcz92_2); (try clear hcz92_3); (try clear hcz92_4); (try clear hcz92_5); (try clear hcz92_6); (try clear hcz94_0); (try clear hcz94_1); (try clear hcz94_2); (try clear hcz95_0); (try clear hcz95_1); (try clear hcz95_2); (try clear hcz95_3); (try clear hcz95_4); (try clear hcz95_5); (try clear hcz95_6); (try clear hcz97_0); (try clear hcz97_1); (try clear hcz97_2); (try clear hcz98_0); (try clear hcz98_1); (try clear hcz98_2); (try clear hcz98_3); (try clear hcz98_4); (try clear hcz98_5); (try clear hcz98_6); (try clear hfz100_0); (try clear hfz100_1); (try clear hfz100_2); (try clear hfz101_0); (try clear hfz101_1); (try clear hfz101_2); (try clear hfz101_3); (try clear hfz101_4); (try clear hfz101_5); (try clear hfz101_6); (try clear hfz17_4); (try clear hfz17_5); (try clear hfz17_6); (try clear hfz19_0); (try clear hfz19_1); (try clear hfz19_2); (try clear hfz19_3); (try clear hfz19_4); (try clear hfz19_5); (try clear hfz19_6); (try clear hfz20_0); (try clear hfz20_1); (try clear hfz20_2); (try clear hfz20_3); (try clear hfz20_4); (try clear hfz20_5); (try clear hfz20_6); (try clear hfz21_0); (try clear hfz21_1); (try clear hfz21_2); (try clear hfz21_3); (try clear hfz21_4); (try clear hfz21_5); (try clear hfz21_6); (try clear hfz25_0); (try clear hfz25_1); (try clear hfz25_2); (try clear hfz25_3); (try clear hfz25_4); (try clear hfz25_5); (try clear hfz25_6); (try clear hfz28_0); (try clear hfz28_1); (try clear hfz28_2); (try clear hfz29_0); (try clear hfz29_1); (try clear hfz29_2); (try clear hfz29_3); (try clear hfz29_4); (try clear hfz29_5); (try clear hfz29_6); (try clear hfz32_0); (try clear hfz32_1); (try clear hfz32_2); (try clear hfz32_3); (try clear hfz32_4); (try clear hfz32_5); (try clear hfz32_6); (try clear hfz35_0); (try clear hfz35_1); (try clear hfz35_2); (try clear hfz35_3); (try clear hfz35_4); (try clear hfz35_5); (try clear hfz35_6); (try clear hfz38_0); (try clear hfz38_1); (try clear hfz38_2); (try clear hfz38_3); (try clear hfz38_4); (try clear hfz38_5); (try clear hfz38_6); (try clear hfz39_0); (try clear hfz39_1); (try clear hfz39_2); (try clear hfz42_0); (try clear hfz42_1); (try clear hfz42_2); (try clear hfz42_3); (try clear hfz42_4); (try clear hfz42_5); (try clear hfz42_6); (try clear hfz43_0); (try clear hfz43_1); (try clear hfz43_2); (try clear hfz45_0); (try clear hfz45_1); (try clear hfz45_2); (try clear hfz45_3); (try clear hfz45_4); (try clear hfz45_5); (try clear hfz45_6); (try clear hfz46_0); (try clear hfz46_1); (try clear hfz46_2); (try clear hfz55_0); (try clear hfz55_1); (try clear hfz55_2); (try clear hfz56_0); (try clear hfz56_1); (try clear hfz56_2); (try clear hfz56_3); (try clear hfz56_4); (try clear hfz56_5); (try clear hfz56_6); (try clear hfz58_0); (try clear hfz58_1); (try clear hfz58_2); (try clear hfz59_0); (try clear hfz59_1); (try clear hfz59_2); (try clear hfz59_3); (try clear hfz59_4); (try clear hfz59_5); (try clear hfz59_6); (try clear hfz5_0); (try clear hfz5_1); (try clear hfz5_2); (try clear hfz5_3); (try clear hfz5_4); (try clear hfz5_5); (try clear hfz5_6); (try clear hfz64_0); (try clear hfz64_1); (try clear hfz64_2); (try clear hfz65_0); (try clear hfz65_1); (try clear hfz65_2); (try clear hfz65_3); (try clear hfz65_4); (try clear hfz65_5); (try clear hfz65_6); (try clear hfz67_0); (try clear hfz67_1); (try clear hfz67_2); (try clear hfz68_0); (try clear hfz68_1); (try clear hfz68_2); (try clear hfz68_3); (try clear hfz68_4); (try clear hfz68_5); (try clear hfz68_6); (try clear hfz70_0); (try clear hfz70_1); (try clear hfz70_2); (try clear hfz71_0); (try clear hfz71_1); (try clear hfz71_2); (try clear hfz71_3); (try clear hfz71_4); (try clear hfz71_5); (try clear hfz71_6); (try clear hfz73_0); (try clear hfz73_1); (try clear hfz73_2); (try clear hfz74_0); (try clear hfz74_1); (try clear hfz74_2); (try clear hfz74_3); (try clear hfz74_4); (try clear hfz74_5); (try clear hfz74_6); (try clear hfz76_0); (try clear hfz76_1); (try clear hfz76_2); (try clear hfz77_0); (try clear hfz77_1); (try clear hfz77_2); (try clear hfz77_3); (try clear hfz77_4); (try clear hfz77_5); (try clear hfz77_6); (try clear hfz7_0); (try clear hfz7_1); (try clear hfz7_2); (try clear hfz7_3); (try clear hfz7_4); (try clear hfz7_5); (try clear hfz7_6); (try clear hfz81_0); (try clear hfz81_1); (try clear hfz81_2); (try clear hfz82_0); (try clear hfz82_1); (try clear hfz82_2); (try clear hfz82_3); (try clear hfz82_4); (try clear hfz82_5); (try clear hfz82_6); (try clear hfz84_0); (try clear hfz84_1); (try clear hfz84_2); (try clear hfz85_0); (try clear hfz85_1); (try clear hfz85_2); (try clear hfz85_3); (try clear hfz85_4); (try clear hfz85_5); (try clear hfz85_6); (try clear hfz91_0); (try clear hfz91_1); (try clear hfz91_2); (try clear hfz92_0); (try clear hfz92_1); (try clear hfz92_2); (try clear hfz92_3); (try clear hfz92_4); (try clear hfz92_5); (try clear hfz92_6); (try clear hfz94_0); (try clear hfz94_1); (try clear hfz94_2); (try clear hfz95_0); (try clear hfz95_1); (try clear hfz95_2); (try clear hfz95_3); (try clear hfz95_4); (try clear hfz95_5); (try clear hfz95_6); (try clear hfz97_0); (try clear hfz97_1); (try clear hfz97_2); (try clear hfz98_0); (try clear hfz98_1); (try clear hfz98_2); (try clear hfz98_3); (try clear hfz98_4); (try clear hfz98_5); (try clear hfz98_6); (try clear p2)
                        obtain ⟨kq, x139_47, rfl, HA, HJ47, BK113, BK114, HB⟩ := hcut
                        cases kq with
                        | zero => exact absurd HA.out (by simp [cloakroomref15_May.j3])
                        | succ kj47 =>
                          have H := HA.out
                          clear HA
                          simp only [cloakroomref15_May.j3] at H
                          by_cases c102 : x139_47 = true
                          · subst c102
                            have H1 : (some false) = some r := by rw [if_pos rfl] at H; exact H
                            clear H
                            have H := H1
                            clear H1
                            obtain rfl := Option.some.inj H
                            go_wp2
                            go_ret
                            exact ⟨by first | rfl | (simp [errW_none, errW_some] <;> rfl) | (simp [*, errW_none, errW_some] <;> rfl), by repeat (first | (with_reducible first | exact HB.out | apply below_alloc | apply pw_below_drewN | apply below_drew1 | refine below_set ?_ GE113.out | refine below_set ?_ GE114.out) | exact HB.out)⟩
                          · replace c102 := Bool.eq_false_iff.mpr c102
                            subst c102
                            have H1 : (cloakroomref15_May.l0 kj47 0 a0_2 l0_3 a0_4) = some r := by rw [if_neg (show ¬ (false = true) by decide)] at H; exact H
                            clear H
                            have H := H1
                            clear H1
                            have H' := Aside0.mk H
                            clear H
                            go_wp2
                            go_loopg [4] kj47 (fun kq v4 w' => ∃ (x4_5 : Int), v4 = .int .i64 x4_5 ∧ Aside0 (cloakroomref15_May.l0 kq x4_5 a0_2 l0_3 a0_4 = some r) ∧ Aside0 (kq ≤ kj47) ∧ Aside0 (w'.heap[gb113]? = some (.cells #[.int .u8 a0_0, .int .u8 a0_1, .int .u8 a0_2, (.slice A0_3 l0_3.length c0_3), .int .u64 a0_4, .bool a0_5, .string a0_6] 27 (0, 0))) ∧ Aside0 (w'.heap[gb114]? = some (.cells #[.int .u8 a0_2, (.slice A0_3 l0_3.length c0_3), .int .u64 a0_4] 25 (0, 0))) ∧ Aside0 (Below w.heap.size w w'))
                            case atStart => exact ⟨(0), (by first | rfl | (simp; done) | (simp [*]; done) | exact x_nonempty _ | (simp [x_nonempty]; done)), H', ⟨Nat.le_refl _⟩, ⟨by (with_reducible repeat (first | refine blk_drewN ?_ _ | refine blk_drew ?_ | refine blk_alloc ?_ _)); exact BK113.out⟩, ⟨by (with_reducible repeat (first | refine blk_drewN ?_ _ | refine blk_drew ?_ | refine blk_alloc ?_ _)); exact BK114.out⟩, ⟨by repeat (first | (with_reducible first | exact HB.out | apply below_alloc | apply pw_below_drewN | apply below_drew1 | refine below_set ?_ GE113.out | refine below_set ?_ GE114.out) | exact HB.out)⟩⟩
                            case round =>
                              clear H'
                              (try clear c1); (try clear p2); (try clear c4); (try clear c5); (try clear c6); (try clear c7); (try clear c8); (try clear c9); (try clear c10); (try clear c47); (try clear c49); (try clear c49b0); (try clear c49b1); (try clear c50); (try clear c50b0); (try clear c50b1); (try clear c51); (try clear c51b0); (try clear c51b1); (try clear c52); (try clear c52b0); (try clear c52b1); (try clear c53); (try clear c53b0); (try clear c53b1); (try clear c54); (try clear c57); (try clear c61); (try clear c62); (try clear c62b0); (try clear c62b1); (try clear c63); (try clear c66); (try clear c69); (try clear c72); (try clear c75); (try clear c78); (try clear c78b0); (try clear c78b1); (try clear c79); (try clear c79b0); (try clear c79b1); (try clear c80); (try clear c83); (try clear c87); (try clear c88); (try clear c88b0); (try clear c88b1); (try clear c89); (try clear c89b0); (try clear c89b1); (try clear c90); (try clear c93); (try clear c96); (try clear c99); (try clear c102); (try clear hcz100_0); (try clear hcz100_1); (try clear hcz100_2); (try clear hcz101_0); (try clear hcz101_1); (try clear hcz101_2); (try clear hcz101_3); (try clear hcz101_4); (try clear hcz101_5); (try clear hcz101_6); (try clear hcz55_0); (try clear hcz55_1); (try clear hcz55_2); (try clear hcz56_0); (try clear hcz56_1); (try clear hcz56_2); (try clear hcz56_3); (try clear hcz56_4); (try clear hcz56_5); (try clear hcz56_6); (try clear hcz58_0); (try clear hcz58_1); (try clear hcz58_2); (try clear hcz59_0); (try clear hcz59_1); (try clear hcz59_2); (try clear hcz59_3); (try clear hcz59_4); (try clear hcz59_5); (try clear hcz59_6); (try clear hcz64_0); (try clear hcz64_1); (try clear hcz64_2); (try clear hcz65_0); (try clear hcz65_1); (try clear hcz65_2); (try clear hcz65_3); (try clear hcz65_4); (try clear hcz65_5); (try clear hcz65_6); (try clear hcz67_0); (try clear hcz67_1); (try clear hcz67_2); (try clear hcz68_0); (try clear hcz68_1); (try clear hcz68_2); (try clear hcz68_3); (try clear hcz68_4); (try clear hcz68_5); (try clear hcz68_6); (try clear hcz70_0); (try clear hcz70_1); (try clear hcz70_2); (try clear hcz71_0); (try clear hcz71_1); (try clear hcz71_2); (try clear hcz71_3); (try clear hcz71_4); (try clear hcz71_5); (try clear hcz71_6); (try clear hcz73_0); (try clear hcz73_1); (try clear hcz73_2); (try clear hcz74_0); (try clear hcz74_1); (try clear hcz74_2); (try clear hcz74_3); (try clear hcz74_4); (try clear hcz74_5); (try clear hcz74_6); (try clear hcz76_0); (try clear hcz76_1); (try clear hcz76_2); (try clear hcz77_0); (try clear hcz77_1); (try clear hcz77_2); (try clear hcz77_3); (try clear hcz77_4); (try clear hcz77_5); (try clear hcz77_6); (try clear hcz81_0); (try clear hcz81_1); (try clear hcz81_2); (try clear hcz82_0); (try clear hcz82_1); (try clear hcz82_2); (try clear hcz82_3); (try clear hcz82_4); (try clear hcz82_5); (try clear hcz82_6); (try clear hcz84_0); (try clear hcz84_1); (try clear hcz84_2); (try clear hcz85_0); (try clear hcz85_1); (try clear hcz85_2); (try clear hcz85_3); (try clear hcz85_4); (try clear hcz85_5); (try clear hcz85_6); (try clear hcz91_0); (try clear hcz91_1); (try clear hcz91_2); (try clear hcz92_0); (try clear hcz92_1); (try clear hcz92_2); (try clear hcz92_3); (try clear hcz92_4); (try clear hcz92_5); (try clear hcz92_6); (try clear hcz94_0); (try clear hcz94_1); (try clear hcz94_2); (try clear hcz95_0); (try clear hcz95_1); (try clear hcz95_2); (try clear hcz95_3); (try clear hcz95_4); (try clear hcz95_5); (try clear hcz95_6); (try clear hcz97_0); (try clear hcz97_1); (try clear hcz97_2); (try clear hcz98_0); (try clear hcz98_1); (try clear hcz98_2); (try clear hcz98_3); (try clear hcz98_4); (try clear hcz98_5); (try clear hcz98_6); (try clear hfz100_0); (try clear hfz100_1); (try clear hfz100_2); (try clear hfz101_0); (try clear hfz101_1); (try clear hfz101_2); (try clear hfz101_3); (try clear hfz101_4); (try clear hfz101_5); (try clear hfz101_6); (try clear hfz17_4); (try clear hfz17_5); (try clear hfz17_6); (try clear hfz19_0); (try clear hfz19_1); (try clear hfz19_2); (try clear hfz19_3); (try clear hfz19_4); (try clear hfz19_5); (try clear hfz19_6); (try clear hfz20_0); (try clear hfz20_1); (try clear hfz20_2); (try clear hfz20_3); (try clear hfz20_4); (try clear hfz20_5); (try clear hfz20_6); (try clear hfz21_0); (try clear hfz21_1); (try clear hfz21_2); (try clear hfz21_3); (try clear hfz21_4); (try clear hfz21_5); (try clear hfz21_6); (try clear hfz25_0); (try clear hfz25_1); (try clear hfz25_2); (try clear hfz25_3); (try clear hfz25_4); (try clear hfz25_5); (try clear hfz25_6); (try clear hfz28_0); (try clear hfz28_1); (try clear hfz28_2); (try clear hfz29_0); (try clear hfz29_1); (try clear hfz29_2); (try clear hfz29_3); (try clear hfz29_4); (try clear hfz29_5); (try clear hfz29_6); (try clear hfz32_0); (try clear hfz32_1); (try clear hfz32_2); (try clear hfz32_3); (try clear hfz32_4); (try clear hfz32_5); (try clear hfz32_6); (try clear hfz35_0); (try clear hfz35_1); (try clear hfz35_2); (try clear hfz35_3); (try clear hfz35_4); (try clear hfz35_5); (try clear hfz35_6); (try clear hfz38_0); (try clear hfz38_1); (try clear hfz38_2); (try clear hfz38_3); (try clear hfz38_4); (try clear hfz38_5); (try clear hfz38_6); (try clear hfz39_0); (try clear hfz39_1); (try clear hfz39_2); (try clear hfz42_0); (try clear hfz42_1); (try clear hfz42_2); (try clear hfz42_3); (try clear hfz42_4); (try clear hfz42_5); (try clear hfz42_6); (try clear hfz43_0); (try clear hfz43_1); (try clear hfz43_2); (try clear hfz45_0); (try clear hfz45_1); (try clear hfz45_2); (try clear hfz45_3); (try clear hfz45_4); (try clear hfz45_5); (try clear hfz45_6); (try clear hfz46_0); (try clear hfz46_1); (try clear hfz46_2); (try clear hfz55_0); (try clear hfz55_1); (try clear hfz55_2); (try clear hfz56_0); (try clear hfz56_1); (try clear hfz56_2); (try clear hfz56_3); (try clear hfz56_4); (try clear hfz56_5); (try clear hfz56_6); (try clear hfz58_0); (try clear hfz58_1); (try clear hfz58_2); (try clear hfz59_0); (try clear hfz59_1); (try clear hfz59_2); (try clear hfz59_3); (try clear hfz59_4); (try clear hfz59_5); (try clear hfz59_6); (try clear hfz5_0); (try clear hfz5_1); (try clear hfz5_2); (try clear hfz5_3); (try clear hfz5_4); (try clear hfz5_5); (try clear hfz5_6); (try clear hfz64_0); (try clear hfz64_1); (try clear hfz64_2); (try clear hfz65_0); (try clear hfz65_1); (try clear hfz65_2); (try clear hfz65_3); (try clear hfz65_4); (try clear hfz65_5); (try clear hfz65_6); (try clear hfz67_0); (try clear hfz67_1); (try clear hfz67_2); (try clear hfz68_0); (try clear hfz68_1); (try clear hfz68_2); (try clear hfz68_3); (try clear hfz68_4); (try clear hfz68_5); (try clear hfz68_6); (try clear hfz70_0); (try clear hfz70_1); (try clear hfz70_2); (try clear hfz71_0); (try clear hfz71_1); (try clear hfz71_2); (try clear hfz71_3); (try clear hfz71_4); (try clear hfz71_5); (try clear hfz71_6); (try clear hfz73_0); (try clear hfz73_1); (try clear hfz73_2); (try clear hfz74_0); (try clear hfz74_1); (try clear hfz74_2); (try clear hfz74_3); (try clear hfz74_4); (try clear hfz74_5); (try clear hfz74_6); (try clear hfz76_0); (try clear hfz76_1); (try clear hfz76_2); (try clear hfz77_0); (try clear hfz77_1); (try clear hfz77_2); (try clear hfz77_3); (try clear hfz77_4); (try clear hfz77_5); (try clear hfz77_6); (try clear hfz7_0); (try clear hfz7_1); (try clear hfz7_2); (try clear hfz7_3); (try clear hfz7_4); (try clear hfz7_5); (try clear hfz7_6); (try clear hfz81_0); (try clear hfz81_1); (try clear hfz81_2); (try clear hfz82_0); (try clear hfz82_1); (try clear hfz82_2); (try clear hfz82_3); (try clear hfz82_4); (try clear hfz82_5); (try clear hfz82_6); (try clear hfz84_0); (try clear hfz84_1); (try clear hfz84_2); (try clear hfz85_0); (try clear hfz85_1); (try clear hfz85_2); (try clear hfz85_3); (try clear hfz85_4); (try clear hfz85_5); (try clear hfz85_6); (try clear hfz91_0); (try clear hfz91_1); (try clear hfz91_2); (try clear hfz92_0); (try clear hfz92_1); (try clear hfz92_2); (try clear hfz92_3); (try clear hfz92_4); (try clear hfz92_5); (try clear hfz92_6); (try clear hfz94_0); (try clear hfz94_1); (try clear hfz94_2); (try clear hfz95_0); (try clear hfz95_1); (try clear hfz95_2); (try clear hfz95_3); (try clear hfz95_4); (try clear hfz95_5); (try clear hfz95_6); (try clear hfz97_0); (try clear hfz97_1); (try clear hfz97_2); (try clear hfz98_0); (try clear hfz98_1); (try clear hfz98_2); (try clear hfz98_3); (try clear hfz98_4); (try clear hfz98_5); (try clear hfz98_6); (try clear p2)
                              obtain ⟨x4_5, rfl, HA, HK5, BK113, BK114, HB⟩ := hrel
                              cases gk with
                              | zero => exact absurd HA.out (by simp [cloakroomref15_May.l0])
                              | succ k5 =>
                                have H := HA.out
                                clear HA
                                simp only [cloakroomref15_May.l0] at H
                                by_cases c103 : x4_5 < (l0_3.length : Int)
                                · rw [if_pos c103] at H
                                  have c103b0 : decide (x4_5 < (l0_3.length : Int)) = true := decide_eq_true c103
                                  clear c103
                                  by_cases c104 : 0 ≤ x4_5
                                  · rw [if_pos c104] at H
                                    have c104b0 : decide (0 ≤ x4_5) = true := decide_eq_true c104
                                    clear c104
                                    replace H := Option.bind_eq_some_iff.mp H
                                    obtain ⟨t118, A1050, H⟩ := H
                                    replace H : (if t118 = 0 then (cloakroomref15_May.l0 k5 (wrap64 (x4_5 + 1)) a0_2 l0_3 a0_4) else (some false)) = some r := H
                                    have A105 := Aside0.mk A1050
                                    clear A1050
                                    by_cases c106 : t118 = 0
                                    · rw [if_pos c106] at H
                                      have c106b0 : (t118 == 0) = true := beq_iff_eq.mpr c106
                                      have c106b1 : (t118 != 0) = false := bne_eq_false_iff_eq.mpr c106
                                      clear c106
                                      have H' := Aside0.mk H
                                      clear H
                                      have hnb107 := NB114_113.out
                                      have hnc107 := NB113_114.out
                                      have hcz108_0 : wr.cell? ⟨gb114, 0, none⟩ = some (.int .u8 a0_2) := (blk_cell BK114.out 0).trans rfl
                                      have hcz108_1 : wr.cell? ⟨gb114, 1, none⟩ = some (.slice A0_3 l0_3.length c0_3) := (blk_cell BK114.out 1).trans rfl
                                      have hcz108_2 : wr.cell? ⟨gb114, 2, none⟩ = some (.int .u64 a0_4) := (blk_cell BK114.out 2).trans rfl
                                      have hfz108_0 := blk_frozen BK114.out 0
                                      have hfz108_1 := blk_frozen BK114.out 1
                                      have hfz108_2 := blk_frozen BK114.out 2
                                      have p117 : 0 ≤ (x4_5 : Int) := of_decide_eq_true (by first | (with_reducible assumption) | assumption)
                                      have q117 : x4_5 < (l0_3.length : Int) := of_decide_eq_true (by first | (with_reducible assumption) | assumption)
                                      obtain ⟨ad117, e117, hx117_0, hx117_1, hx117_2, hx117_3, hx117_4⟩ := at_T56 HR0_3.out x4_5 p117 q117
                                      cases e117
                                      replace hx117_0 := (HB.out.cell (World.block_lt_of_cell? w _ hx117_0)).trans hx117_0
                                      replace hx117_1 := (HB.out.cell (World.block_lt_of_cell? w _ hx117_1)).trans hx117_1
                                      replace hx117_2 := (HB.out.cell (World.block_lt_of_cell? w _ hx117_2)).trans hx117_2
                                      replace hx117_3 := (HB.out.cell (World.block_lt_of_cell? w _ hx117_3)).trans hx117_3
                                      replace hx117_4 := (HB.out.cell (World.block_lt_of_cell? w _ hx117_4)).trans hx117_4
                                      replace p117 := eq_true p117
                                      replace q117 := eq_true q117
                                      go_wp2_with (first | ((with_reducible refine gate_callee (f := 63) rfl ?_); refine goesL_ (some 152) rfl rfl Tryd.func63 (by kernel_rfl) rfl #[.agg #[.string ((rd_T56 l0_3 x4_5).f0), .string ((rd_T56 l0_3 x4_5).f1), .int .u32 ((rd_T56 l0_3 x4_5).f2), .int .i64 ((rd_T56 l0_3 x4_5).f3), .int .u64 ((rd_T56 l0_3 x4_5).f4)]] rfl (by (try simp only [List.map_toArray, List.map_cons, List.map_nil]); first | done | rfl | (simp only [List.length_drop, List.length_take]; rfl)) ?_; (with_reducible refine (cloakroomref09_Check.calls k5 ((rd_T56 l0_3 x4_5).f0) ((rd_T56 l0_3 x4_5).f1) ((rd_T56 l0_3 x4_5).f2) ((rd_T56 l0_3 x4_5).f3) ((rd_T56 l0_3 x4_5).f4) t118 _ A105.out).mono ?_); rintro e w109 ⟨rfl, hb⟩; refine ⟨_, rfl, ?_⟩; have n0_ := Aside0.mk (blk_below (g := gb113) (o := .cells #[.int .u8 a0_0, .int .u8 a0_1, .int .u8 a0_2, .slice (some ad117) l0_3.length c0_3, .int .u64 a0_4, .bool a0_5, .string a0_6] 27 (0, 0)) (by (with_reducible repeat (first | refine blk_drewN ?_ _ | refine blk_drew ?_ | refine blk_alloc ?_ _)); exact BK113.out) hb); have n1_ := Aside0.mk (blk_below (g := gb114) (o := .cells #[.int .u8 a0_2, .slice (some ad117) l0_3.length c0_3, .int .u64 a0_4] 25 (0, 0)) (by (with_reducible repeat (first | refine blk_drewN ?_ _ | refine blk_drew ?_ | refine blk_alloc ?_ _)); exact BK114.out) hb); have n2_ := Aside0.mk (below_step (by repeat (first | (with_reducible first | exact HB.out | apply below_alloc | apply pw_below_drewN | apply below_drew1 | refine below_set ?_ GE113.out | refine below_set ?_ GE114.out) | exact HB.out)) hb); clear BK113; clear BK114; clear HB; have BK113 := n0_; have BK114 := n1_; have HB := n2_; clear n0_ n1_ n2_; (try clear hb); (try clear hb2); (try clear hk); (try clear hi)))
                                      go_roundg k5
                                      case measure => have := HJ1.out; have := HJ13.out; have := HJ23.out; have := HJ47.out; have := HK5.out; omega
                                      case rel => exact ⟨(wrap64 (x4_5 + 1)), (by first | rfl | (simp; done) | (simp [*]; done) | exact x_nonempty _ | (simp [x_nonempty]; done)), H', ⟨by have := HJ1.out; have := HJ13.out; have := HJ23.out; have := HJ47.out; have := HK5.out; omega⟩, ⟨by (with_reducible repeat (first | refine blk_drewN ?_ _ | refine blk_drew ?_ | refine blk_alloc ?_ _)); exact BK113.out⟩, ⟨by (with_reducible repeat (first | refine blk_drewN ?_ _ | refine blk_drew ?_ | refine blk_alloc ?_ _)); exact BK114.out⟩, ⟨by repeat (first | (with_reducible first | exact HB.out | apply below_alloc | apply pw_below_drewN | apply below_drew1 | refine below_set ?_ GE113.out | refine below_set ?_ GE114.out) | exact HB.out)⟩⟩
                                    · rw [if_neg c106] at H
                                      have c106b0 : (t118 == 0) = false := beq_eq_false_iff_ne.mpr c106
                                      have c106b1 : (t118 != 0) = true := bne_iff_ne.mpr c106
                                      obtain rfl := Option.some.inj H
                                      have hnb110 := NB114_113.out
                                      have hnc110 := NB113_114.out
                                      have hcz111_0 : wr.cell? ⟨gb114, 0, none⟩ = some (.int .u8 a0_2) := (blk_cell BK114.out 0).trans rfl
                                      have hcz111_1 : wr.cell? ⟨gb114, 1, none⟩ = some (.slice A0_3 l0_3.length c0_3) := (blk_cell BK114.out 1).trans rfl
                                      have hcz111_2 : wr.cell? ⟨gb114, 2, none⟩ = some (.int .u64 a0_4) := (blk_cell BK114.out 2).trans rfl
                                      have hfz111_0 := blk_frozen BK114.out 0
                                      have hfz111_1 := blk_frozen BK114.out 1
                                      have hfz111_2 := blk_frozen BK114.out 2
                                      have p117 : 0 ≤ (x4_5 : Int) := of_decide_eq_true (by first | (with_reducible assumption) | assumption)
                                      have q117 : x4_5 < (l0_3.length : Int) := of_decide_eq_true (by first | (with_reducible assumption) | assumption)
                                      obtain ⟨ad117, e117, hx117_0, hx117_1, hx117_2, hx117_3, hx117_4⟩ := at_T56 HR0_3.out x4_5 p117 q117
                                      cases e117
                                      replace hx117_0 := (HB.out.cell (World.block_lt_of_cell? w _ hx117_0)).trans hx117_0
                                      replace hx117_1 := (HB.out.cell (World.block_lt_of_cell? w _ hx117_1)).trans hx117_1
                                      replace hx117_2 := (HB.out.cell (World.block_lt_of_cell? w _ hx117_2)).trans hx117_2
                                      replace hx117_3 := (HB.out.cell (World.block_lt_of_cell? w _ hx117_3)).trans hx117_3
                                      replace hx117_4 := (HB.out.cell (World.block_lt_of_cell? w _ hx117_4)).trans hx117_4
                                      replace p117 := eq_true p117
                                      replace q117 := eq_true q117
                                      go_wp2_with (first | ((with_reducible refine gate_callee (f := 63) rfl ?_); refine goesL_ (some 152) rfl rfl Tryd.func63 (by kernel_rfl) rfl #[.agg #[.string ((rd_T56 l0_3 x4_5).f0), .string ((rd_T56 l0_3 x4_5).f1), .int .u32 ((rd_T56 l0_3 x4_5).f2), .int .i64 ((rd_T56 l0_3 x4_5).f3), .int .u64 ((rd_T56 l0_3 x4_5).f4)]] rfl (by (try simp only [List.map_toArray, List.map_cons, List.map_nil]); first | done | rfl | (simp only [List.length_drop, List.length_take]; rfl)) ?_; (with_reducible refine (cloakroomref09_Check.calls k5 ((rd_T56 l0_3 x4_5).f0) ((rd_T56 l0_3 x4_5).f1) ((rd_T56 l0_3 x4_5).f2) ((rd_T56 l0_3 x4_5).f3) ((rd_T56 l0_3 x4_5).f4) t118 _ A105.out).mono ?_); rintro e w112 ⟨rfl, hb⟩; refine ⟨_, rfl, ?_⟩; have n0_ := Aside0.mk (blk_below (g := gb113) (o := .cells #[.int .u8 a0_0, .int .u8 a0_1, .int .u8 a0_2, .slice (some ad117) l0_3.length c0_3, .int .u64 a0_4, .bool a0_5, .string a0_6] 27 (0, 0)) (by (with_reducible repeat (first | refine blk_drewN ?_ _ | refine blk_drew ?_ | refine blk_alloc ?_ _)); exact BK113.out) hb); have n1_ := Aside0.mk (blk_below (g := gb114) (o := .cells #[.int .u8 a0_2, .slice (some ad117) l0_3.length c0_3, .int .u64 a0_4] 25 (0, 0)) (by (with_reducible repeat (first | refine blk_drewN ?_ _ | refine blk_drew ?_ | refine blk_alloc ?_ _)); exact BK114.out) hb); have n2_ := Aside0.mk (below_step (by repeat (first | (with_reducible first | exact HB.out | apply below_alloc | apply pw_below_drewN | apply below_drew1 | refine below_set ?_ GE113.out | refine below_set ?_ GE114.out) | exact HB.out)) hb); clear BK113; clear BK114; clear HB; have BK113 := n0_; have BK114 := n1_; have HB := n2_; clear n0_ n1_ n2_; (try clear hb); (try clear hb2); (try clear hk); (try clear hi)))
                                      go_ret
                                      exact ⟨by first | rfl | (simp [errW_none, errW_some] <;> rfl) | (simp [*, errW_none, errW_some] <;> rfl), by repeat (first | (with_reducible first | exact HB.out | apply below_alloc | apply pw_below_drewN | apply below_drew1 | refine below_set ?_ GE113.out | refine below_set ?_ GE114.out) | exact HB.out)⟩
                                  · rw [if_neg c104] at H
                                    exact absurd H (by simp)
                                · rw [if_neg c103] at H
                                  have c103b0 : decide (x4_5 < (l0_3.length : Int)) = false := decide_eq_false c103
                                  clear c103
                                  obtain rfl := Option.some.inj H
                                  have hnb113 := NB114_113.out
                                  have hnc113 := NB113_114.out
                                  have hcz114_0 : wr.cell? ⟨gb114, 0, none⟩ = some (.int .u8 a0_2) := (blk_cell BK114.out 0).trans rfl
                                  have hcz114_1 : wr.cell? ⟨gb114, 1, none⟩ = some (.slice A0_3 l0_3.length c0_3) := (blk_cell BK114.out 1).trans rfl
                                  have hcz114_2 : wr.cell? ⟨gb114, 2, none⟩ = some (.int .u64 a0_4) := (blk_cell BK114.out 2).trans rfl
                                  have hfz114_0 := blk_frozen BK114.out 0
                                  have hfz114_1 := blk_frozen BK114.out 1
                                  have hfz114_2 := blk_frozen BK114.out 2
                                  go_wp2
                                  go_ret
                                  exact ⟨by first | rfl | (simp [errW_none, errW_some] <;> rfl) | (simp [*, errW_none, errW_some] <;> rfl), by repeat (first | (with_reducible first | exact HB.out | apply below_alloc | apply pw_below_drewN | apply below_drew1 | refine below_set ?_ GE113.out | refine below_set ?_ GE114.out) | exact HB.out)⟩
              · rw [if_neg c23] at H
                have c23b0 : (a0_0 == 1) = false := beq_eq_false_iff_ne.mpr c23
                have c23b1 : (a0_0 != 1) = true := bne_iff_ne.mpr c23
                by_cases c115 : a0_1 = 0
                · rw [if_pos c115] at H
                  have c115b0 : (a0_1 == 0) = true := beq_iff_eq.mpr c115
                  have c115b1 : (a0_1 != 0) = false := bne_eq_false_iff_eq.mpr c115
                  clear c115
                  by_cases c116 : a0_2 = 0
                  · rw [if_pos c116] at H
                    have c116b0 : (a0_2 == 0) = true := beq_iff_eq.mpr c116
                    have c116b1 : (a0_2 != 0) = false := bne_eq_false_iff_eq.mpr c116
                    clear c116
                    by_cases c117 : a0_4 = 0
                    · rw [if_pos c117] at H
                      have c117b0 : (a0_4 == 0) = true := beq_iff_eq.mpr c117
                      have c117b1 : (a0_4 != 0) = false := bne_eq_false_iff_eq.mpr c117
                      clear c117
                      obtain rfl := Option.some.inj H
                      have hcz118_0 : wc.cell? ⟨gb113, 0, none⟩ = some (.int .u8 a0_0) := (blk_cell BK113.out 0).trans rfl
                      have hcz118_1 : wc.cell? ⟨gb113, 1, none⟩ = some (.int .u8 a0_1) := (blk_cell BK113.out 1).trans rfl
                      have hcz118_2 : wc.cell? ⟨gb113, 2, none⟩ = some (.int .u8 a0_2) := (blk_cell BK113.out 2).trans rfl
                      have hcz118_3 : wc.cell? ⟨gb113, 3, none⟩ = some (.slice A0_3 l0_3.length c0_3) := (blk_cell BK113.out 3).trans rfl
                      have hcz118_4 : wc.cell? ⟨gb113, 4, none⟩ = some (.int .u64 a0_4) := (blk_cell BK113.out 4).trans rfl
                      have hcz118_5 : wc.cell? ⟨gb113, 5, none⟩ = some (.bool a0_5) := (blk_cell BK113.out 5).trans rfl
                      have hcz118_6 : wc.cell? ⟨gb113, 6, none⟩ = some (.string a0_6) := (blk_cell BK113.out 6).trans rfl
                      have hfz118_0 := blk_frozen BK113.out 0
                      have hfz118_1 := blk_frozen BK113.out 1
                      have hfz118_2 := blk_frozen BK113.out 2
                      have hfz118_3 := blk_frozen BK113.out 3
                      have hfz118_4 := blk_frozen BK113.out 4
                      have hfz118_5 := blk_frozen BK113.out 5
                      have hfz118_6 := blk_frozen BK113.out 6
                      go_wp2_with (first | ((with_reducible refine gate_dst (N := 3) rfl ?_); (try (refine gate_guard (by rfl) ?_; dsimp only)); refine box_event ?hg (N := 3) ?hd (cs := #[.int .u8 0, .slice none 0 0, .int .u64 0]) (t := 25) ?hr ?_; (case hd => rfl); (case hg => rfl); (case hr => first | (go_simp; done) | (go_simp; rfl)); intro gb114 hg w119 hbox hb; have n0_ := Aside0.mk (blk_below (g := gb113) (o := .cells #[.int .u8 a0_0, .int .u8 a0_1, .int .u8 a0_2, .slice A0_3 l0_3.length c0_3, .int .u64 a0_4, .bool a0_5, .string a0_6] 27 (0, 0)) (by (with_reducible repeat (first | refine blk_drewN ?_ _ | refine blk_drew ?_ | refine blk_alloc ?_ _)); exact BK113.out) hb); have n1_ := Aside0.mk (below_step (by repeat (first | (with_reducible first | exact HB.out | apply below_alloc | apply pw_below_drewN | apply below_drew1 | refine below_set ?_ GE113.out) | exact HB.out)) hb); have n2_ := Aside0.mk (hbox); have n3_ := Aside0.mk ((by rw [hg]; exact (below_size (by repeat (first | (with_reducible first | exact HB.out | apply below_alloc | apply pw_below_drewN | apply below_drew1 | refine below_set ?_ GE113.out) | exact HB.out))) : w.heap.size ≤ gb114)); have n4_ := Aside0.mk ((by rw [hg]; exact (below_size (by repeat (first | (with_reducible first | exact HB.out | apply below_alloc | apply pw_below_drewN | apply below_drew1 | refine below_set ?_ GE113.out) | exact HB.out))) : w.heap.size ≤ gb114)); have n5_ := Aside0.mk ((by rw [hg]; exact Nat.ne_of_lt (blk_lt (g := gb113) (o := .cells #[.int .u8 a0_0, .int .u8 a0_1, .int .u8 a0_2, .slice A0_3 l0_3.length c0_3, .int .u64 a0_4, .bool a0_5, .string a0_6] 27 (0, 0)) (by (with_reducible repeat (first | refine blk_drewN ?_ _ | refine blk_drew ?_ | refine blk_alloc ?_ _)); exact BK113.out)) : gb113 ≠ gb114)); have n6_ := Aside0.mk ((by rw [hg]; exact Nat.ne_of_gt (blk_lt (g := gb113) (o := .cells #[.int .u8 a0_0, .int .u8 a0_1, .int .u8 a0_2, .slice A0_3 l0_3.length c0_3, .int .u64 a0_4, .bool a0_5, .string a0_6] 27 (0, 0)) (by (with_reducible repeat (first | refine blk_drewN ?_ _ | refine blk_drew ?_ | refine blk_alloc ?_ _)); exact BK113.out)) : gb114 ≠ gb113)); clear BK113; clear HB; have BK113 := n0_; have HB := n1_; have BK114 := n2_; have GW114 := n3_; have GE114 := n4_; have NB113_114 := n5_; have NB114_113 := n6_; clear n0_ n1_ n2_ n3_ n4_ n5_ n6_; clear hb hbox hg; have hnb120 := NB114_113.out; have hnc120 := NB113_114.out; have hcz121_0 : w119.cell? ⟨gb114, 0, none⟩ = some (.int .u8 0) := (blk_cell BK114.out 0).trans rfl; have hcz121_1 : w119.cell? ⟨gb114, 1, none⟩ = some (.slice none 0 0) := (blk_cell BK114.out 1).trans rfl; have hcz121_2 : w119.cell? ⟨gb114, 2, none⟩ = some (.int .u64 0) := (blk_cell BK114.out 2).trans rfl; have hfz121_0 := blk_frozen BK114.out 0; have hfz121_1 := blk_frozen BK114.out 1; have hfz121_2 := blk_frozen BK114.out 2; have hcz122_0 : w119.cell? ⟨gb113, 0, none⟩ = some (.int .u8 a0_0) := (blk_cell BK113.out 0).trans rfl; have hcz122_1 : w119.cell? ⟨gb113, 1, none⟩ = some (.int .u8 a0_1) := (blk_cell BK113.out 1).trans rfl; have hcz122_2 : w119.cell? ⟨gb113, 2, none⟩ = some (.int .u8 a0_2) := (blk_cell BK113.out 2).trans rfl; have hcz122_3 : w119.cell? ⟨gb113, 3, none⟩ = some (.slice A0_3 l0_3.length c0_3) := (blk_cell BK113.out 3).trans rfl; have hcz122_4 : w119.cell? ⟨gb113, 4, none⟩ = some (.int .u64 a0_4) := (blk_cell BK113.out 4).trans rfl; have hcz122_5 : w119.cell? ⟨gb113, 5, none⟩ = some (.bool a0_5) := (blk_cell BK113.out 5).trans rfl; have hcz122_6 : w119.cell? ⟨gb113, 6, none⟩ = some (.string a0_6) := (blk_cell BK113.out 6).trans rfl; have hfz122_0 := blk_frozen BK113.out 0; have hfz122_1 := blk_frozen BK113.out 1; have hfz122_2 := blk_frozen BK113.out 2; have hfz122_3 := blk_frozen BK113.out 3; have hfz122_4 := blk_frozen BK113.out 4; have hfz122_5 := blk_frozen BK113.out 5; have hfz122_6 := blk_frozen BK113.out 6))
                      go_ret
                      exact ⟨by first | rfl | (simp [errW_none, errW_some] <;> rfl) | (simp [*, errW_none, errW_some] <;> rfl), by repeat (first | (with_reducible first | exact HB.out | apply below_alloc | apply pw_below_drewN | apply below_drew1 | refine below_set ?_ GE113.out | refine below_set ?_ GE114.out) | exact HB.out)⟩
                    · rw [if_neg c117] at H
                      have c117b0 : (a0_4 == 0) = false := beq_eq_false_iff_ne.mpr c117
                      have c117b1 : (a0_4 != 0) = true := bne_iff_ne.mpr c117
                      obtain rfl := Option.some.inj H
                      have hcz123_0 : wc.cell? ⟨gb113, 0, none⟩ = some (.int .u8 a0_0) := (blk_cell BK113.out 0).trans rfl
                      have hcz123_1 : wc.cell? ⟨gb113, 1, none⟩ = some (.int .u8 a0_1) := (blk_cell BK113.out 1).trans rfl
                      have hcz123_2 : wc.cell? ⟨gb113, 2, none⟩ = some (.int .u8 a0_2) := (blk_cell BK113.out 2).trans rfl
                      have hcz123_3 : wc.cell? ⟨gb113, 3, none⟩ = some (.slice A0_3 l0_3.length c0_3) := (blk_cell BK113.out 3).trans rfl
                      have hcz123_4 : wc.cell? ⟨gb113, 4, none⟩ = some (.int .u64 a0_4) := (blk_cell BK113.out 4).trans rfl
                      have hcz123_5 : wc.cell? ⟨gb113, 5, none⟩ = some (.bool a0_5) := (blk_cell BK113.out 5).trans rfl
                      have hcz123_6 : wc.cell? ⟨gb113, 6, none⟩ = some (.string a0_6) := (blk_cell BK113.out 6).trans rfl
                      have hfz123_0 := blk_frozen BK113.out 0
                      have hfz123_1 := blk_frozen BK113.out 1
                      have hfz123_2 := blk_frozen BK113.out 2
                      have hfz123_3 := blk_frozen BK113.out 3
                      have hfz123_4 := blk_frozen BK113.out 4
                      have hfz123_5 := blk_frozen BK113.out 5
                      have hfz123_6 := blk_frozen BK113.out 6
                      go_wp2_with (first | ((with_reducible refine gate_dst (N := 3) rfl ?_); (try (refine gate_guard (by rfl) ?_; dsimp only)); refine box_event ?hg (N := 3) ?hd (cs := #[.int .u8 0, .slice none 0 0, .int .u64 0]) (t := 25) ?hr ?_; (case hd => rfl); (case hg => rfl); (case hr => first | (go_simp; done) | (go_simp; rfl)); intro gb114 hg w124 hbox hb; have n0_ := Aside0.mk (blk_below (g := gb113) (o := .cells #[.int .u8 a0_0, .int .u8 a0_1, .int .u8 a0_2, .slice A0_3 l0_3.length c0_3, .int .u64 a0_4, .bool a0_5, .string a0_6] 27 (0, 0)) (by (with_reducible repeat (first | refine blk_drewN ?_ _ | refine blk_drew ?_ | refine blk_alloc ?_ _)); exact BK113.out) hb); have n1_ := Aside0.mk (below_step (by repeat (first | (with_reducible first | exact HB.out | apply below_alloc | apply pw_below_drewN | apply below_drew1 | refine below_set ?_ GE113.out) | exact HB.out)) hb); have n2_ := Aside0.mk (hbox); have n3_ := Aside0.mk ((by rw [hg]; exact (below_size (by repeat (first | (with_reducible first | exact HB.out | apply below_alloc | apply pw_below_drewN | apply below_drew1 | refine below_set ?_ GE113.out) | exact HB.out))) : w.heap.size ≤ gb114)); have n4_ := Aside0.mk ((by rw [hg]; exact (below_size (by repeat (first | (with_reducible first | exact HB.out | apply below_alloc | apply pw_below_drewN | apply below_drew1 | refine below_set ?_ GE113.out) | exact HB.out))) : w.heap.size ≤ gb114)); have n5_ := Aside0.mk ((by rw [hg]; exact Nat.ne_of_lt (blk_lt (g := gb113) (o := .cells #[.int .u8 a0_0, .int .u8 a0_1, .int .u8 a0_2, .slice A0_3 l0_3.length c0_3, .int .u64 a0_4, .bool a0_5, .string a0_6] 27 (0, 0)) (by (with_reducible repeat (first | refine blk_drewN ?_ _ | refine blk_drew ?_ | refine blk_alloc ?_ _)); exact BK113.out)) : gb113 ≠ gb114)); have n6_ := Aside0.mk ((by rw [hg]; exact Nat.ne_of_gt (blk_lt (g := gb113) (o := .cells #[.int .u8 a0_0, .int .u8 a0_1, .int .u8 a0_2, .slice A0_3 l0_3.length c0_3, .int .u64 a0_4, .bool a0_5, .string a0_6] 27 (0, 0)) (by (with_reducible repeat (first | refine blk_drewN ?_ _ | refine blk_drew ?_ | refine blk_alloc ?_ _)); exact BK113.out)) : gb114 ≠ gb113)); clear BK113; clear HB; have BK113 := n0_; have HB := n1_; have BK114 := n2_; have GW114 := n3_; have GE114 := n4_; have NB113_114 := n5_; have NB114_113 := n6_; clear n0_ n1_ n2_ n3_ n4_ n5_ n6_; clear hb hbox hg; have hnb125 := NB114_113.out; have hnc125 := NB113_114.out; have hcz126_0 : w124.cell? ⟨gb114, 0, none⟩ = some (.int .u8 0) := (blk_cell BK114.out 0).trans rfl; have hcz126_1 : w124.cell? ⟨gb114, 1, none⟩ = some (.slice none 0 0) := (blk_cell BK114.out 1).trans rfl; have hcz126_2 : w124.cell? ⟨gb114, 2, none⟩ = some (.int .u64 0) := (blk_cell BK114.out 2).trans rfl; have hfz126_0 := blk_frozen BK114.out 0; have hfz126_1 := blk_frozen BK114.out 1; have hfz126_2 := blk_frozen BK114.out 2; have hcz127_0 : w124.cell? ⟨gb113, 0, none⟩ = some (.int .u8 a0_0) := (blk_cell BK113.out 0).trans rfl; have hcz127_1 : w124.cell? ⟨gb113, 1, none⟩ = some (.int .u8 a0_1) := (blk_cell BK113.out 1).trans rfl; have hcz127_2 : w124.cell? ⟨gb113, 2, none⟩ = some (.int .u8 a0_2) := (blk_cell BK113.out 2).trans rfl; have hcz127_3 : w124.cell? ⟨gb113, 3, none⟩ = some (.slice A0_3 l0_3.length c0_3) := (blk_cell BK113.out 3).trans rfl; have hcz127_4 : w124.cell? ⟨gb113, 4, none⟩ = some (.int .u64 a0_4) := (blk_cell BK113.out 4).trans rfl; have hcz127_5 : w124.cell? ⟨gb113, 5, none⟩ = some (.bool a0_5) := (blk_cell BK113.out 5).trans rfl; have hcz127_6 : w124.cell? ⟨gb113, 6, none⟩ = some (.string a0_6) := (blk_cell BK113.out 6).trans rfl; have hfz127_0 := blk_frozen BK113.out 0; have hfz127_1 := blk_frozen BK113.out 1; have hfz127_2 := blk_frozen BK113.out 2; have hfz127_3 := blk_frozen BK113.out 3; have hfz127_4 := blk_frozen BK113.out 4; have hfz127_5 := blk_frozen BK113.out 5; have hfz127_6 := blk_frozen BK113.out 6))
                      go_ret
                      exact ⟨by first | rfl | (simp [errW_none, errW_some] <;> rfl) | (simp [*, errW_none, errW_some] <;> rfl), by repeat (first | (with_reducible first | exact HB.out | apply below_alloc | apply pw_below_drewN | apply below_drew1 | refine below_set ?_ GE113.out | refine below_set ?_ GE114.out) | exact HB.out)⟩
                  · rw [if_neg c116] at H
                    have c116b0 : (a0_2 == 0) = false := beq_eq_false_iff_ne.mpr c116
                    have c116b1 : (a0_2 != 0) = true := bne_iff_ne.mpr c116
                    obtain rfl := Option.some.inj H
                    have hcz128_0 : wc.cell? ⟨gb113, 0, none⟩ = some (.int .u8 a0_0) := (blk_cell BK113.out 0).trans rfl
                    have hcz128_1 : wc.cell? ⟨gb113, 1, none⟩ = some (.int .u8 a0_1) := (blk_cell BK113.out 1).trans rfl
                    have hcz128_2 : wc.cell? ⟨gb113, 2, none⟩ = some (.int .u8 a0_2) := (blk_cell BK113.out 2).trans rfl
                    have hcz128_3 : wc.cell? ⟨gb113, 3, none⟩ = some (.slice A0_3 l0_3.length c0_3) := (blk_cell BK113.out 3).trans rfl
                    have hcz128_4 : wc.cell? ⟨gb113, 4, none⟩ = some (.int .u64 a0_4) := (blk_cell BK113.out 4).trans rfl
                    have hcz128_5 : wc.cell? ⟨gb113, 5, none⟩ = some (.bool a0_5) := (blk_cell BK113.out 5).trans rfl
                    have hcz128_6 : wc.cell? ⟨gb113, 6, none⟩ = some (.string a0_6) := (blk_cell BK113.out 6).trans rfl
                    have hfz128_0 := blk_frozen BK113.out 0
                    have hfz128_1 := blk_frozen BK113.out 1
                    have hfz128_2 := blk_frozen BK113.out 2
                    have hfz128_3 := blk_frozen BK113.out 3
                    have hfz128_4 := blk_frozen BK113.out 4
                    have hfz128_5 := blk_frozen BK113.out 5
                    have hfz128_6 := blk_frozen BK113.out 6
                    go_wp2_with (first | ((with_reducible refine gate_dst (N := 3) rfl ?_); (try (refine gate_guard (by rfl) ?_; dsimp only)); refine box_event ?hg (N := 3) ?hd (cs := #[.int .u8 0, .slice none 0 0, .int .u64 0]) (t := 25) ?hr ?_; (case hd => rfl); (case hg => rfl); (case hr => first | (go_simp; done) | (go_simp; rfl)); intro gb114 hg w129 hbox hb; have n0_ := Aside0.mk (blk_below (g := gb113) (o := .cells #[.int .u8 a0_0, .int .u8 a0_1, .int .u8 a0_2, .slice A0_3 l0_3.length c0_3, .int .u64 a0_4, .bool a0_5, .string a0_6] 27 (0, 0)) (by (with_reducible repeat (first | refine blk_drewN ?_ _ | refine blk_drew ?_ | refine blk_alloc ?_ _)); exact BK113.out) hb); have n1_ := Aside0.mk (below_step (by repeat (first | (with_reducible first | exact HB.out | apply below_alloc | apply pw_below_drewN | apply below_drew1 | refine below_set ?_ GE113.out) | exact HB.out)) hb); have n2_ := Aside0.mk (hbox); have n3_ := Aside0.mk ((by rw [hg]; exact (below_size (by repeat (first | (with_reducible first | exact HB.out | apply below_alloc | apply pw_below_drewN | apply below_drew1 | refine below_set ?_ GE113.out) | exact HB.out))) : w.heap.size ≤ gb114)); have n4_ := Aside0.mk ((by rw [hg]; exact (below_size (by repeat (first | (with_reducible first | exact HB.out | apply below_alloc | apply pw_below_drewN | apply below_drew1 | refine below_set ?_ GE113.out) | exact HB.out))) : w.heap.size ≤ gb114)); have n5_ := Aside0.mk ((by rw [hg]; exact Nat.ne_of_lt (blk_lt (g := gb113) (o := .cells #[.int .u8 a0_0, .int .u8 a0_1, .int .u8 a0_2, .slice A0_3 l0_3.length c0_3, .int .u64 a0_4, .bool a0_5, .string a0_6] 27 (0, 0)) (by (with_reducible repeat (first | refine blk_drewN ?_ _ | refine blk_drew ?_ | refine blk_alloc ?_ _)); exact BK113.out)) : gb113 ≠ gb114)); have n6_ := Aside0.mk ((by rw [hg]; exact Nat.ne_of_gt (blk_lt (g := gb113) (o := .cells #[.int .u8 a0_0, .int .u8 a0_1, .int .u8 a0_2, .slice A0_3 l0_3.length c0_3, .int .u64 a0_4, .bool a0_5, .string a0_6] 27 (0, 0)) (by (with_reducible repeat (first | refine blk_drewN ?_ _ | refine blk_drew ?_ | refine blk_alloc ?_ _)); exact BK113.out)) : gb114 ≠ gb113)); clear BK113; clear HB; have BK113 := n0_; have HB := n1_; have BK114 := n2_; have GW114 := n3_; have GE114 := n4_; have NB113_114 := n5_; have NB114_113 := n6_; clear n0_ n1_ n2_ n3_ n4_ n5_ n6_; clear hb hbox hg; have hnb130 := NB114_113.out; have hnc130 := NB113_114.out; have hcz131_0 : w129.cell? ⟨gb114, 0, none⟩ = some (.int .u8 0) := (blk_cell BK114.out 0).trans rfl; have hcz131_1 : w129.cell? ⟨gb114, 1, none⟩ = some (.slice none 0 0) := (blk_cell BK114.out 1).trans rfl; have hcz131_2 : w129.cell? ⟨gb114, 2, none⟩ = some (.int .u64 0) := (blk_cell BK114.out 2).trans rfl; have hfz131_0 := blk_frozen BK114.out 0; have hfz131_1 := blk_frozen BK114.out 1; have hfz131_2 := blk_frozen BK114.out 2; have hcz132_0 : w129.cell? ⟨gb113, 0, none⟩ = some (.int .u8 a0_0) := (blk_cell BK113.out 0).trans rfl; have hcz132_1 : w129.cell? ⟨gb113, 1, none⟩ = some (.int .u8 a0_1) := (blk_cell BK113.out 1).trans rfl; have hcz132_2 : w129.cell? ⟨gb113, 2, none⟩ = some (.int .u8 a0_2) := (blk_cell BK113.out 2).trans rfl; have hcz132_3 : w129.cell? ⟨gb113, 3, none⟩ = some (.slice A0_3 l0_3.length c0_3) := (blk_cell BK113.out 3).trans rfl; have hcz132_4 : w129.cell? ⟨gb113, 4, none⟩ = some (.int .u64 a0_4) := (blk_cell BK113.out 4).trans rfl; have hcz132_5 : w129.cell? ⟨gb113, 5, none⟩ = some (.bool a0_5) := (blk_cell BK113.out 5).trans rfl; have hcz132_6 : w129.cell? ⟨gb113, 6, none⟩ = some (.string a0_6) := (blk_cell BK113.out 6).trans rfl; have hfz132_0 := blk_frozen BK113.out 0; have hfz132_1 := blk_frozen BK113.out 1; have hfz132_2 := blk_frozen BK113.out 2; have hfz132_3 := blk_frozen BK113.out 3; have hfz132_4 := blk_frozen BK113.out 4; have hfz132_5 := blk_frozen BK113.out 5; have hfz132_6 := blk_frozen BK113.out 6))
                    go_ret
                    exact ⟨by first | rfl | (simp [errW_none, errW_some] <;> rfl) | (simp [*, errW_none, errW_some] <;> rfl), by repeat (first | (with_reducible first | exact HB.out | apply below_alloc | apply pw_below_drewN | apply below_drew1 | refine below_set ?_ GE113.out | refine below_set ?_ GE114.out) | exact HB.out)⟩
                · rw [if_neg c115] at H
                  have c115b0 : (a0_1 == 0) = false := beq_eq_false_iff_ne.mpr c115
                  have c115b1 : (a0_1 != 0) = true := bne_iff_ne.mpr c115
                  obtain rfl := Option.some.inj H
                  have hcz133_0 : wc.cell? ⟨gb113, 0, none⟩ = some (.int .u8 a0_0) := (blk_cell BK113.out 0).trans rfl
                  have hcz133_1 : wc.cell? ⟨gb113, 1, none⟩ = some (.int .u8 a0_1) := (blk_cell BK113.out 1).trans rfl
                  have hcz133_2 : wc.cell? ⟨gb113, 2, none⟩ = some (.int .u8 a0_2) := (blk_cell BK113.out 2).trans rfl
                  have hcz133_3 : wc.cell? ⟨gb113, 3, none⟩ = some (.slice A0_3 l0_3.length c0_3) := (blk_cell BK113.out 3).trans rfl
                  have hcz133_4 : wc.cell? ⟨gb113, 4, none⟩ = some (.int .u64 a0_4) := (blk_cell BK113.out 4).trans rfl
                  have hcz133_5 : wc.cell? ⟨gb113, 5, none⟩ = some (.bool a0_5) := (blk_cell BK113.out 5).trans rfl
                  have hcz133_6 : wc.cell? ⟨gb113, 6, none⟩ = some (.string a0_6) := (blk_cell BK113.out 6).trans rfl
                  have hfz133_0 := blk_frozen BK113.out 0
                  have hfz133_1 := blk_frozen BK113.out 1
                  have hfz133_2 := blk_frozen BK113.out 2
                  have hfz133_3 := blk_frozen BK113.out 3
                  have hfz133_4 := blk_frozen BK113.out 4
                  have hfz133_5 := blk_frozen BK113.out 5
                  have hfz133_6 := blk_frozen BK113.out 6
                  go_wp2_with (first | ((with_reducible refine gate_dst (N := 3) rfl ?_); (try (refine gate_guard (by rfl) ?_; dsimp only)); refine box_event ?hg (N := 3) ?hd (cs := #[.int .u8 0, .slice none 0 0, .int .u64 0]) (t := 25) ?hr ?_; (case hd => rfl); (case hg => rfl); (case hr => first | (go_simp; done) | (go_simp; rfl)); intro gb114 hg w134 hbox hb; have n0_ := Aside0.mk (blk_below (g := gb113) (o := .cells #[.int .u8 a0_0, .int .u8 a0_1, .int .u8 a0_2, .slice A0_3 l0_3.length c0_3, .int .u64 a0_4, .bool a0_5, .string a0_6] 27 (0, 0)) (by (with_reducible repeat (first | refine blk_drewN ?_ _ | refine blk_drew ?_ | refine blk_alloc ?_ _)); exact BK113.out) hb); have n1_ := Aside0.mk (below_step (by repeat (first | (with_reducible first | exact HB.out | apply below_alloc | apply pw_below_drewN | apply below_drew1 | refine below_set ?_ GE113.out) | exact HB.out)) hb); have n2_ := Aside0.mk (hbox); have n3_ := Aside0.mk ((by rw [hg]; exact (below_size (by repeat (first | (with_reducible first | exact HB.out | apply below_alloc | apply pw_below_drewN | apply below_drew1 | refine below_set ?_ GE113.out) | exact HB.out))) : w.heap.size ≤ gb114)); have n4_ := Aside0.mk ((by rw [hg]; exact (below_size (by repeat (first | (with_reducible first | exact HB.out | apply below_alloc | apply pw_below_drewN | apply below_drew1 | refine below_set ?_ GE113.out) | exact HB.out))) : w.heap.size ≤ gb114)); have n5_ := Aside0.mk ((by rw [hg]; exact Nat.ne_of_lt (blk_lt (g := gb113) (o := .cells #[.int .u8 a0_0, .int .u8 a0_1, .int .u8 a0_2, .slice A0_3 l0_3.length c0_3, .int .u64 a0_4, .bool a0_5, .string a0_6] 27 (0, 0)) (by (with_reducible repeat (first | refine blk_drewN ?_ _ | refine blk_drew ?_ | refine blk_alloc ?_ _)); exact BK113.out)) : gb113 ≠ gb114)); have n6_ := Aside0.mk ((by rw [hg]; exact Nat.ne_of_gt (blk_lt (g := gb113) (o := .cells #[.int .u8 a0_0, .int .u8 a0_1, .int .u8 a0_2, .slice A0_3 l0_3.length c0_3, .int .u64 a0_4, .bool a0_5, .string a0_6] 27 (0, 0)) (by (with_reducible repeat (first | refine blk_drewN ?_ _ | refine blk_drew ?_ | refine blk_alloc ?_ _)); exact BK113.out)) : gb114 ≠ gb113)); clear BK113; clear HB; have BK113 := n0_; have HB := n1_; have BK114 := n2_; have GW114 := n3_; have GE114 := n4_; have NB113_114 := n5_; have NB114_113 := n6_; clear n0_ n1_ n2_ n3_ n4_ n5_ n6_; clear hb hbox hg; have hnb135 := NB114_113.out; have hnc135 := NB113_114.out; have hcz136_0 : w134.cell? ⟨gb114, 0, none⟩ = some (.int .u8 0) := (blk_cell BK114.out 0).trans rfl; have hcz136_1 : w134.cell? ⟨gb114, 1, none⟩ = some (.slice none 0 0) := (blk_cell BK114.out 1).trans rfl; have hcz136_2 : w134.cell? ⟨gb114, 2, none⟩ = some (.int .u64 0) := (blk_cell BK114.out 2).trans rfl; have hfz136_0 := blk_frozen BK114.out 0; have hfz136_1 := blk_frozen BK114.out 1; have hfz136_2 := blk_frozen BK114.out 2; have hcz137_0 : w134.cell? ⟨gb113, 0, none⟩ = some (.int .u8 a0_0) := (blk_cell BK113.out 0).trans rfl; have hcz137_1 : w134.cell? ⟨gb113, 1, none⟩ = some (.int .u8 a0_1) := (blk_cell BK113.out 1).trans rfl; have hcz137_2 : w134.cell? ⟨gb113, 2, none⟩ = some (.int .u8 a0_2) := (blk_cell BK113.out 2).trans rfl; have hcz137_3 : w134.cell? ⟨gb113, 3, none⟩ = some (.slice A0_3 l0_3.length c0_3) := (blk_cell BK113.out 3).trans rfl; have hcz137_4 : w134.cell? ⟨gb113, 4, none⟩ = some (.int .u64 a0_4) := (blk_cell BK113.out 4).trans rfl; have hcz137_5 : w134.cell? ⟨gb113, 5, none⟩ = some (.bool a0_5) := (blk_cell BK113.out 5).trans rfl; have hcz137_6 : w134.cell? ⟨gb113, 6, none⟩ = some (.string a0_6) := (blk_cell BK113.out 6).trans rfl; have hfz137_0 := blk_frozen BK113.out 0; have hfz137_1 := blk_frozen BK113.out 1; have hfz137_2 := blk_frozen BK113.out 2; have hfz137_3 := blk_frozen BK113.out 3; have hfz137_4 := blk_frozen BK113.out 4; have hfz137_5 := blk_frozen BK113.out 5; have hfz137_6 := blk_frozen BK113.out 6))
                  go_ret
                  exact ⟨by first | rfl | (simp [errW_none, errW_some] <;> rfl) | (simp [*, errW_none, errW_some] <;> rfl), by repeat (first | (with_reducible first | exact HB.out | apply below_alloc | apply pw_below_drewN | apply below_drew1 | refine below_set ?_ GE113.out | refine below_set ?_ GE114.out) | exact HB.out)⟩

end Go.Proofs.YtfoengihiaegoaaDoor.P
