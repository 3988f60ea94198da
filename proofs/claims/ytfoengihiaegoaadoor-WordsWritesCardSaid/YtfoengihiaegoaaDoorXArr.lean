/- The document's words of results and of commands: two tables. -/
import Derived.Test.YtfoengihiaegoaaDoorXDefs
import Derived.Lib.QuietBelow
namespace Go.Proofs.YtfoengihiaegoaaDoor.P
set_option linter.unusedVariables false
open Go.RowKit Go.Lib Go.Proofs.YtfoengihiaegoaaDoorW.PrintWords Go.Proofs.YtfoengihiaegoaaDoorW.PrintLast Go.Proofs.YtfoengihiaegoaaDoorW.PrintMore

set_option maxHeartbeats 4000000 in
theorem cloakroomref15_word.calls (a0 : Int) (r : ByteArray) (w : World) (h : cloakroomref15_word.f a0 = some r) :
    Calls Tryd.prog 64 #[.int .u8 a0] w fun e w' => e = .returned (.string r) ∧ Below w.heap.size w w' := by
  unfold cloakroomref15_word.f at h
  split at h
  · rename_i hc
    obtain rfl := Option.some.inj h
    clear h
    have hr : a0 = 0 ∨ a0 = 1 ∨ a0 = 2 ∨ a0 = 3 ∨ a0 = 4 ∨ a0 = 5 ∨ a0 = 6 ∨ a0 = 7 := by omega
    clear hc
    rcases hr with rfl | rfl | rfl | rfl | rfl | rfl | rfl | rfl
    all_goals
      go_enter Tryd.func64, Tryd.ntmps64
      go_wp2
      go_ret
      exact ⟨rfl, by repeat (first | exact Below.refl _ _ | apply below_alloc | apply pw_below_drewN | apply below_drew1)⟩
  · cases h
set_option maxHeartbeats 4000000 in
theorem cloakroomref15_row.calls (a0 : Int) (r : ByteArray) (w : World) (h : cloakroomref15_row.f a0 = some r) :
    Calls Tryd.prog 65 #[.int .u8 a0] w fun e w' => e = .returned (.string r) ∧ Below w.heap.size w w' := by
  unfold cloakroomref15_row.f at h
  split at h
  · rename_i hc
    obtain rfl := Option.some.inj h
    clear h
    have hr : a0 = 0 ∨ a0 = 1 ∨ a0 = 2 ∨ a0 = 3 ∨ a0 = 4 ∨ a0 = 5 ∨ a0 = 6 ∨ a0 = 7 ∨ a0 = 8 ∨ a0 = 9 ∨ a0 = 10 ∨ a0 = 11 := by omega
    clear hc
    rcases hr with rfl | rfl | rfl | rfl | rfl | rfl | rfl | rfl | rfl | rfl | rfl | rfl
    all_goals
      go_enter Tryd.func65, Tryd.ntmps65
      go_wp2
      go_ret
      exact ⟨by first | rfl | simp [rowWord, txt], by repeat (first | exact Below.refl _ _ | apply below_alloc | apply pw_below_drewN | apply below_drew1)⟩
  · cases h
end Go.Proofs.YtfoengihiaegoaaDoor.P
