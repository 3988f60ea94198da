import Derived.Test.YtfoengihiaegoaaDoorP9
import Derived.Test.YtfoengihiaegoaaDoorP2
import Derived.Test.YtfoengihiaegoaaDoorP10
import Derived.Test.YtfoengihiaegoaaDoorP8
import Derived.Test.YtfoengihiaegoaaDoorP5
import Derived.Test.YtfoengihiaegoaaDoorP4
import Derived.Test.YtfoengihiaegoaaDoorXDefs
import Derived.Lib.ItoaNum
import Derived.Laws.RangeAny
import Derived.Laws.RangeString
/- The plain law of keys and numbers in the document's own answer: plain keys, a number's text. -/
namespace Go.Proofs.YtfoengihiaegoaaDoor.P
open Go.RowKit Go.Proofs.YtfoengihiaegoaaDoorW.PrintWords
set_option linter.unusedVariables false
set_option linter.unusedSimpArgs false
def plainFrom (s : ByteArray) (i : Nat) : Bool := (s.data.toList.drop i).all fun b => decide (33 ≤ b.toNat) && decide (b.toNat ≤ 126)
theorem plainFrom_step (s : ByteArray) (i : Nat) (h : i < s.size) : plainFrom s i = ((decide (33 ≤ (s[i]'h).toNat) && decide ((s[i]'h).toNat ≤ 126)) && plainFrom s (i + 1)) := by
  unfold plainFrom
  have hl : i < s.data.toList.length := h
  rw [List.drop_eq_getElem_cons hl, List.all_cons]
  rfl
theorem plainFrom_end (s : ByteArray) (i : Nat) (h : s.size ≤ i) : plainFrom s i = true := by
  unfold plainFrom
  rw [List.drop_eq_nil_of_le (by show s.data.toList.length ≤ i; rw [Array.length_toList]; exact h)]
  rfl
theorem idx_plain (s : ByteArray) : ∀ (f i : Nat), s.size - i ≤ f → i ≤ s.size → (decide (Lib.idxFuncFrom odd true s f i < 0)) = plainFrom s i := by
  intro f
  induction f with
  | zero =>
    intro i h1 h2
    rw [plainFrom_end s i (by omega)]
    rfl
  | succ f ih =>
    intro i h1 h2
    unfold Lib.idxFuncFrom
    by_cases hi : i < s.size
    · rw [if_pos hi, plainFrom_step s i hi]
      by_cases ha : (s[i]'hi).toNat < 128
      · rw [decode_ascii s i hi ha]
        by_cases ho : odd (s[i]'hi).toNat = true
        · rw [if_pos ho]
          have hb : (decide (33 ≤ (s[i]'hi).toNat) && decide ((s[i]'hi).toNat ≤ 126)) = false := by
            simp only [odd, Bool.or_eq_true, decide_eq_true_eq] at ho
            rw [Bool.and_eq_false_iff, decide_eq_false_iff_not, decide_eq_false_iff_not]
            omega
          rw [hb, Bool.false_and, decide_eq_false (by omega)]
        · rw [if_neg ho, ih (i + 1) (by omega) (by omega)]
          have hb : (decide (33 ≤ (s[i]'hi).toNat) && decide ((s[i]'hi).toNat ≤ 126)) = true := by
            simp only [odd, Bool.or_eq_true, decide_eq_true_eq] at ho
            simp only [Bool.and_eq_true, decide_eq_true_eq]
            omega
          rw [hb, Bool.true_and]
      · have hd := (decode_high s i hi (by omega)).1
        have ho : odd (Utf8.decode s i).1 = true := by
          simp only [odd, Bool.or_eq_true, decide_eq_true_eq]
          omega
        rw [if_pos ho]
        have hb : decide ((s[i]'hi).toNat ≤ 126) = false := decide_eq_false (by omega)
        rw [hb, Bool.and_false, Bool.false_and, decide_eq_false (by omega)]
    · rw [if_neg hi, plainFrom_end s i (by omega)]
      rfl
theorem isPlain_eq (s : ByteArray) : isPlain s = plainFrom s 0 := by
  unfold isPlain Lib.idxFunc
  exact idx_plain s s.size 0 (by omega) (by omega)
end Go.Proofs.YtfoengihiaegoaaDoor.P
