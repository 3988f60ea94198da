/- The walk of text.plain: it tells whether a word is one of bytes from 33 to 126, of so many at most (as strings.IndexFunc goes over its runes); for every string and number. -/
import Derived.Test.YtfoengihiaegoaaDoorXDefs
import Derived.Test.YtfoengihiaegoaaDoorShelf
namespace Go.Proofs.YtfoengihiaegoaaDoor.P
set_option linter.unusedVariables false
open Go.Shelf Go.RowKit Go.Lib Go.Proofs.YtfoengihiaegoaaDoorW.PrintWords
theorem text_plain_odd (w : World) : PredAt Tryd.prog 71 #[] encR odd w := fun W r _ => by
  unfold FnGives
  by_cases h1 : r < 33 <;> by_cases h2 : 126 < r
  all_goals
    have z1 : (r : Int) < 33 ↔ r < 33 := by omega
    have z2 : (126 : Int) < (r : Int) ↔ 126 < r := by omega
    go_enter Tryd.func71, Tryd.ntmps71
    go_wp2
    all_goals first | (exfalso; omega) | (go_ret; exact ⟨by simp [odd, h1, h2], 0, rfl⟩)
theorem text_plain.calls (a0 : ByteArray) (a1 : Int) (r : Bool) (w : World) (h : text_plain.f a0 a1 = some r) :
    Calls Tryd.prog 34 #[.string a0, .int .i64 a1] w fun e w' => e = .returned (.bool r) ∧ Below w.heap.size w w' := by
  unfold text_plain.f at h
  obtain rfl := Option.some.inj h
  have hC := Tryd.strings_IndexFunc 71 #[] (enters_of Tryd.func71 (by kernel_rfl) rfl) _ a0 w (text_plain_odd w)
  by_cases h1 : 1 ≤ a0.size
  · have d1 : decide (1 ≤ (a0.size : Int)) = true := decide_eq_true (by omega)
    have d2 : decide (1 ≤ a0.size) = true := decide_eq_true (by omega)
    rw [if_pos h1]
    clear h1
    by_cases h2 : (a0.size : Int) ≤ a1
    · have d3 : decide ((a0.size : Int) ≤ a1) = true := decide_eq_true h2
      rw [if_pos h2]
      clear h2
      go_enter Tryd.func34, Tryd.ntmps34
      go_wp2_with (go_at_call 53; refine hC.mono ?_; rintro e w' ⟨rfl, hb⟩)
      go_ret
      exact ⟨rfl, hb⟩
    · have d3 : decide ((a0.size : Int) ≤ a1) = false := decide_eq_false h2
      rw [if_neg h2]
      clear h2 hC
      go_enter Tryd.func34, Tryd.ntmps34
      go_wp2
      go_ret
      exact ⟨rfl, Below.refl _ _⟩
  · have d1 : decide (1 ≤ (a0.size : Int)) = false := decide_eq_false (by omega)
    have d2 : decide (1 ≤ a0.size) = false := decide_eq_false (by omega)
    rw [if_neg h1]
    clear h1 hC
    go_enter Tryd.func34, Tryd.ntmps34
    go_wp2
    go_ret
    exact ⟨rfl, Below.refl _ _⟩
end Go.Proofs.YtfoengihiaegoaaDoor.P
