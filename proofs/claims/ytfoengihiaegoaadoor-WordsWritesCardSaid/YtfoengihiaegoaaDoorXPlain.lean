/- The walk of words.plain: it tells whether a text has bytes from 33 to 126 alone (as strings.IndexFunc goes over its runes); for every string. -/
import Derived.Test.YtfoengihiaegoaaDoorXDefs
import Derived.Test.YtfoengihiaegoaaDoorShelf
namespace Go.Proofs.YtfoengihiaegoaaDoor.P
set_option linter.unusedVariables false
open Go.Shelf Go.RowKit Go.Lib Go.Proofs.YtfoengihiaegoaaDoorW.PrintWords

theorem words_plain_odd (w : World) : PredAt Tryd.prog 54 #[] encR odd w := fun W r _ => by
  unfold FnGives
  by_cases h1 : r < 33 <;> by_cases h2 : 126 < r
  all_goals
    have z1 : (r : Int) < 33 ↔ r < 33 := by omega
    have z2 : (126 : Int) < (r : Int) ↔ 126 < r := by omega
    go_enter Tryd.func54, Tryd.ntmps54
    go_wp2
    all_goals first | (exfalso; omega) | (go_ret; exact ⟨by simp [odd, h1, h2], 0, rfl⟩)
theorem words_plain.calls (a0 : ByteArray) (r : Bool) (w : World) (h : words_plain.f a0 = some r) :
    Calls Tryd.prog 20 #[.string a0] w fun e w' => e = .returned (.bool r) ∧ Below w.heap.size w w' := by
  obtain rfl := Option.some.inj h
  have hC := Tryd.strings_IndexFunc 54 #[] (enters_of Tryd.func54 (by kernel_rfl) rfl) _ a0 w (words_plain_odd w)
  go_enter Tryd.func20, Tryd.ntmps20
  go_wp2_with (go_at_call 53; refine hC.mono ?_; rintro e w' ⟨rfl, hb⟩)
  go_ret
  exact ⟨rfl, hb⟩
end Go.Proofs.YtfoengihiaegoaaDoor.P
