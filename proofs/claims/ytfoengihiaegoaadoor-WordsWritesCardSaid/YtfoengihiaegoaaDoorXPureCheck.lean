/- The plain law of words.Check: it tells what 'ansOk' says. -/
import Derived.Test.YtfoengihiaegoaaDoorP5
import Derived.Test.YtfoengihiaegoaaDoorP4
import Derived.Test.YtfoengihiaegoaaDoorXDefs
namespace Go.Proofs.YtfoengihiaegoaaDoor.P
set_option linter.unusedVariables false
set_option linter.unusedSimpArgs false

theorem any_bad (l : List S56) : (!l.any fun x => !itemOk x) = l.all itemOk := by
  induction l with
  | nil => rfl
  | cons a l ih => simp only [List.any_cons, List.all_cons, Bool.not_or, Bool.not_not, ih]
theorem isEmpty_len (l : List S56) : l.isEmpty = !decide ((l.length : Int) > 0) := by cases l <;> simp <;> omega
theorem isEmpty_len2 (l : List S56) : l.isEmpty = ((l.length : Int) == 0) := by cases l <;> simp <;> omega
theorem words_result_eq (of rk : Int) (items : List S56) (n : Int) : words_result.f 4 of rk items n = some (resOk of rk items n) := by
  simp only [words_result.f, words_result.j0, words_result.j1, words_result.j2, words_result.j3, words_counts.f, anyBadItem.f, Option.bind_some, any_bad, resOk, cnt, isEmpty_len]
  generalize items.all itemOk = B
  have e8 : decide (items.length ≤ 8) = !decide ((items.length : Int) > 8) := by rw [← decide_not]; exact decide_eq_decide.2 (by omega)
  rw [e8]
  generalize (items.length : Int) = L
  by_cases h1 : of < 1
  · have : decide (1 ≤ of) = false := decide_eq_false (by omega)
    simp [h1, this]
  by_cases h2 : of > 11
  · have : decide (of ≤ 11) = false := decide_eq_false (by omega)
    simp [h1, h2, this]
  by_cases h3 : rk < 1
  · have : decide (1 ≤ rk) = false := decide_eq_false (by omega)
    simp [h1, h2, h3, this]
  by_cases h4 : rk > 7
  · have : decide (rk ≤ 7) = false := decide_eq_false (by omega)
    simp [h1, h2, h3, h4, this]
  have g1 : decide (1 ≤ of) = true := decide_eq_true (by omega)
  have g2 : decide (of ≤ 11) = true := decide_eq_true (by omega)
  have g3 : decide (1 ≤ rk) = true := decide_eq_true (by omega)
  have g4 : decide (rk ≤ 7) = true := decide_eq_true (by omega)
  rw [g1, g2, g3, g4, if_neg h1, if_neg h2, if_neg h3]
  simp only [decide_eq_false h4]
  by_cases h5 : L > 0 <;> by_cases h6 : rk = 1 <;> by_cases h8 : L > 8 <;> by_cases h9 : n = 0 <;> by_cases h7 : of = 10 <;> by_cases h10 : n > 8 <;>
    (by_cases h11 : of = 6 <;> by_cases h12 : of = 7 <;> by_cases h13 : of = 1 <;> first | (exfalso; omega) | (simp [h5, h6, h8, h9, h7, h10, h11, h12, h13]; done) | (simp [h5, h6, h8, h9, h7, h10, h11, h12, h13]; omega) | (exfalso; simp_all; done))
theorem words_Check_eq (kind of rk : Int) (items : List S56) (n : Int) (yes : Bool) (key : ByteArray) : words_Check.f 4 kind of rk items n yes key = some (if ansOk kind of rk items n yes key = true then 0 else 8) := by
  have ek : (key.toList = ([] : List UInt8)) ↔ key.size = 0 := by
    rw [ByteArray.toList_eq]
    constructor
    · intro h; have e : key.data.toList.length = key.size := Array.length_toList; rw [h] at e; exact e.symm
    · intro h; exact List.eq_nil_of_length_eq_zero ((Array.length_toList : key.data.toList.length = key.size).trans h)
  simp only [words_Check.f, words_Check.j0, words_result_eq, Option.bind_some, ansOk, ek, isEmpty_len2]
  have es1 : decide (1 ≤ key.size) = decide ((key.size : Int) ≥ 1) := decide_eq_decide.2 (by omega)
  have es2 : decide (key.size ≤ 32) = decide ((key.size : Int) ≤ 32) := decide_eq_decide.2 (by omega)
  rw [es1, es2]
  generalize (key.size : Int) = K
  by_cases h1 : kind = 1
  · subst h1
    cases resOk of rk items n <;> cases yes <;> by_cases hk : key.size = 0 <;> simp [hk]
  · have g1 : (kind == 1) = false := beq_eq_false_iff_ne.mpr h1
    rw [if_neg h1, g1]
    by_cases h2 : kind > 1 <;> by_cases h3 : kind ≤ 7 <;> by_cases h4 : of = 0 <;> by_cases h5 : rk = 0 <;> by_cases h6 : n = 0 <;> by_cases h7 : kind = 7 <;>
      first | (exfalso; omega) | (simp [h2, h3, h4, h5, h6, h7]; done) | skip
    all_goals
      by_cases l0 : (items.length : Int) = 0 <;> by_cases k1 : K ≥ 1 <;> by_cases k2 : K ≤ 32 <;> by_cases k0 : key.size = 0 <;> by_cases m2 : kind = 2 <;> by_cases m3 : kind = 3 <;> cases yes <;>
        first | (exfalso; omega) | (simp [h2, h3, h4, h5, h6, h7, l0, k1, k2, k0, m2, m3]; done) | (subst h7; simp [h4, h5, h6, l0, k1, k2, k0]; done) | (simp_all; done)
end Go.Proofs.YtfoengihiaegoaaDoor.P
