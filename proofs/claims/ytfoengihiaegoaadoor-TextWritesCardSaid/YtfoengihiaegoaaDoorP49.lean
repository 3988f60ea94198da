-- written by wip/tools/drive.py, a driver round the kit's printer, and made smaller by wip/tools/slim.py
import Derived.Test.YtfoengihiaegoaaDoorP0
import Derived.Test.YtfoengihiaegoaaDoorXDefs
import Derived.Test.YtfoengihiaegoaaDoorShelf
import Derived.Test.YtfoengihiaegoaaDoorXTplain
namespace Go.Proofs.YtfoengihiaegoaaDoor.P
open Go.RowKit Go.Proofs.YtfoengihiaegoaaDoorW.PrintWords Go.Proofs.YtfoengihiaegoaaDoorW.PrintLast Go.Proofs.YtfoengihiaegoaaDoorW.PrintMore
set_option linter.unusedVariables false
set_option linter.unusedSimpArgs false
theorem t49_0 {p : Prop} (h : p := by repeat (first | (with_reducible first | exact HB.out | apply below_alloc | apply pw_below_drewN | apply below_drew1) | exact HB.out)) : p := h
theorem t49_2 {p : Prop} (h : p := by (try simp only [List.map_toArray, List.map_cons, List.map_nil]); first | done | rfl | (simp only [List.length_drop, List.length_take]; rfl)) : p := h
theorem t49_3 {p : Prop} (h : p := by first | rfl | (simp [errW_none, errW_some] <;> rfl) | (simp [*, errW_none, errW_some] <;> rfl)) : p := h
def item_moment.f (a0 : Int) : Option (Bool) := if a0 ≥ 0 then (some (decide (a0 ≤ 1099511627776))) else (some false)
def item_Check.j0 : Nat → Bool → ByteArray → ByteArray → Int → Int → Int → Option (Int)
 | 0, _, _, _, _, _, _ => none
 | k + 1, x3, x596000, x596001, x596002, x596003, x596004 => if x3 = true then (some 3) else ((item_moment.f x596003).bind fun t596 => (if t596 = true then (some 0) else (some 2)))
def item_Check.f (k : Nat) (a0_0 : ByteArray) (a0_1 : ByteArray) (a0_2 : Int) (a0_3 : Int) (a0_4 : Int) : Option (Int) := if (a0_0.size : Int) < 1 then (item_Check.j0 k (decide ((a0_0.size : Int) < 1)) a0_0 a0_1 a0_2 a0_3 a0_4) else (if (a0_0.size : Int) > 32 then (item_Check.j0 k (decide ((a0_0.size : Int) > 32)) a0_0 a0_1 a0_2 a0_3 a0_4) else (item_Check.j0 k (decide ((a0_1.size : Int) > 512)) a0_0 a0_1 a0_2 a0_3 a0_4))
theorem item_Check.mono_l : ∀ k, (∀ y0 y1 y2 y3 y4 y5, LeO (item_Check.j0 k y0 y1 y2 y3 y4 y5) (item_Check.j0 (k + 1) y0 y1 y2 y3 y4 y5))
 | 0 => fun _ _ _ _ _ _ r h => by simp [item_Check.j0] at h
 | k + 1 => by
  have ih0 := item_Check.mono_l k
  ·intro y0 y1 y2 y3 y4 y5
   unfold item_Check.j0
   repeat' first | (with_reducible first | apply ih0 | exact LeO.refl _ | exact LeO.none _ | refine LeO.ite ?_ ?_ | refine LeO.bind ?_ (fun _ => ?_)) | exact LeO.none _ | refine LeO.ite ?_ ?_ | refine LeO.bind ?_ (fun _ => ?_)
theorem item_Check.mono : ∀ a0 a1 a2 a3 a4 k, LeO (item_Check.f k a0 a1 a2 a3 a4) (item_Check.f (k + 1) a0 a1 a2 a3 a4) := by
 intro a0 a1 a2 a3 a4 k
 have ih0 := item_Check.mono_l k
 unfold item_Check.f
 repeat' first | (with_reducible first | apply ih0 | exact LeO.refl _ | exact LeO.none _ | refine LeO.ite ?_ ?_ | refine LeO.bind ?_ (fun _ => ?_)) | exact LeO.none _ | refine LeO.ite ?_ ?_ | refine LeO.bind ?_ (fun _ => ?_)
def words_result_1.f (k : Nat) (a0_0 : ByteArray) (a0_1 : ByteArray) (a0_2 : Int) (a0_3 : Int) (a0_4 : Int) : Option (Bool) := (item_Check.f k a0_0 a0_1 a0_2 a0_3 a0_4).bind fun t598 => (some (t598 != 0))
theorem words_result_1.mono : ∀ a0 a1 a2 a3 a4 k, LeO (words_result_1.f k a0 a1 a2 a3 a4) (words_result_1.f (k + 1) a0 a1 a2 a3 a4) := by
 intro a0 a1 a2 a3 a4 k
 unfold words_result_1.f
 repeat' first | (with_reducible first | apply item_Check.mono | exact LeO.refl _ | exact LeO.none _ | refine LeO.ite ?_ ?_ | refine LeO.bind ?_ (fun _ => ?_)) | exact LeO.none _ | refine LeO.ite ?_ ?_ | refine LeO.bind ?_ (fun _ => ?_)
def text_Write_1.f (a0 : ByteArray) : Option (Bool) := (text_plain.f a0 32).bind fun t601 => (some (!t601))
set_option maxHeartbeats 8000000 in
set_option maxRecDepth 100000 in
theorem text_Write_1.calls (a0 : ByteArray) (r : Bool) (w : World) (h : text_Write_1.f a0 = some r) :
  Calls Tryd.prog 33 #[.string a0] w fun e w' => e = .returned (.bool r) ∧ Below w.heap.size w w' := by
 have HB := Aside0.mk (Below.refl w.heap.size w)
 have H : ((text_plain.f a0 32).bind fun t601 => (some (!t601))) = some r := h
 clear h
 replace H := Option.bind_eq_some_iff.mp H
 obtain ⟨t601, A20, H⟩ := H
 replace H : (some (!t601)) = some r := H
 have A2 := Aside0.mk A20
 clear A20
 obtain rfl := Option.some.inj H
 go_enter Tryd.func33, Tryd.ntmps33
 go_wp2_with (first | ((with_reducible refine gate_callee (f := 34) rfl ?_); refine goesL_ (some 4) rfl rfl Tryd.func34 (by kernel_rfl) rfl #[.string a0, .int .i64 32] rfl t49_2 ?_; (with_reducible refine (text_plain.calls a0 32 t601 _ A2.out).mono ?_); rintro e w3 ⟨rfl, hb⟩; refine ⟨_, rfl, ?_⟩; have n0_ := Aside0.mk (below_step t49_0 hb); clear HB; have HB := n0_; clear n0_; (try clear hb); (try clear hb2); (try clear hk); (try clear hi)))
 go_ret
 exact ⟨t49_3, t49_0⟩
end Go.Proofs.YtfoengihiaegoaaDoor.P
