/- The plain law of the document's own answer (cloakroomref15): it says what the program's words say. -/
import Derived.Test.YtfoengihiaegoaaDoorP8
import Derived.Test.YtfoengihiaegoaaDoorP2
import Derived.Test.YtfoengihiaegoaaDoorP9
import Derived.Test.YtfoengihiaegoaaDoorP9
import Derived.Test.YtfoengihiaegoaaDoorP7
import Derived.Test.YtfoengihiaegoaaDoorXPureCheck
import Derived.Lib.ItoaNum
namespace Go.Proofs.YtfoengihiaegoaaDoor.P
open Go.RowKit Go.Proofs.YtfoengihiaegoaaDoorW.PrintWords
set_option linter.unusedVariables false
set_option linter.unusedSimpArgs false

theorem rd_at (xs : List S56) (i : Nat) (h : i < xs.length) : rd_T56 xs (i : Int) = xs[i] := by
  unfold rd_T56
  rw [Int.toNat_natCast, List.getD_eq_getElem?_getD, List.getElem?_eq_getElem h, Option.getD_some]
theorem wrap_succ (i : Nat) (h : i < 9223372036854775807) : wrap64 ((i : Int) + 1) = ((i + 1 : Nat) : Int) := by
  unfold wrap64
  omega
theorem ref09_Check_eq (k : Nat) (x : S56) : ∃ r, cloakroomref09_Check.f (k + 1) x.f0 x.f1 x.f2 x.f3 x.f4 = some r ∧ (r = 0 ↔ itemOk x = true) := by
  unfold cloakroomref09_Check.f itemOk
  simp only [cloakroomref09_Check.j0, cloakroomref09_Moment.f]
  have e1 : decide (1 ≤ x.f0.size) = !decide ((x.f0.size : Int) < 1) := by rw [← decide_not]; exact decide_eq_decide.2 (by omega)
  have e2 : decide (x.f0.size ≤ 32) = !decide ((x.f0.size : Int) > 32) := by rw [← decide_not]; exact decide_eq_decide.2 (by omega)
  have e3 : decide (x.f1.size ≤ 512) = !decide ((x.f1.size : Int) > 512) := by rw [← decide_not]; exact decide_eq_decide.2 (by omega)
  rw [e1, e2, e3]
  by_cases h1 : (x.f0.size : Int) < 1 <;> by_cases h2 : (x.f0.size : Int) > 32 <;> by_cases h3 : (x.f1.size : Int) > 512 <;> by_cases h4 : x.f3 ≥ 0 <;> by_cases h5 : x.f3 ≤ 1099511627776 <;>
    simp [h1, h2, h3, h4, h5]
theorem May_l0_eq (rk : Int) (items : List S56) (n : Int) : ∀ (m i k : Nat), items.length - i = m → m + 2 ≤ k → items.length < 9223372036854775807 → cloakroomref15_May.l0 k (i : Int) rk items n = some ((items.drop i).all itemOk) := by
  intro m
  induction m with
  | zero =>
    intro i k hm hk hl
    obtain ⟨k, rfl⟩ : ∃ j, k = j + 1 := ⟨k - 1, by omega⟩
    simp only [cloakroomref15_May.l0]
    rw [if_neg (by omega), List.drop_eq_nil_of_le (by omega)]
    rfl
  | succ m ih =>
    intro i k hm hk hl
    obtain ⟨k, rfl⟩ : ∃ j, k = j + 1 := ⟨k - 1, by omega⟩
    simp only [cloakroomref15_May.l0]
    have hi : i < items.length := by omega
    rw [if_pos (by omega), if_pos (by omega), rd_at items i hi, wrap_succ i (by omega)]
    obtain ⟨k', rfl⟩ : ∃ j, k = j + 1 := ⟨k - 1, by omega⟩
    obtain ⟨r, hr, hiff⟩ := ref09_Check_eq k' items[i]
    rw [hr, Option.bind_some, ih (i + 1) (k' + 1) (by omega) (by omega) hl, List.drop_eq_getElem_cons hi, List.all_cons]
    by_cases h0 : r = 0
    · rw [if_pos h0, hiff.1 h0, Bool.true_and]
    · rw [if_neg h0]
      have : itemOk items[i] = false := by
        cases hb : itemOk items[i] with
        | true => exact absurd (hiff.2 hb) h0
        | false => rfl
      rw [this, Bool.false_and]
theorem Long_l0 (a b c : Int) (items : List S56) (d : Int) (e : Bool) (f : ByteArray) : ∀ (m i k : Nat), items.length - i = m → m + 1 ≤ k → items.length < 9223372036854775807 → ∃ r, cloakroomref15_Long.l0 k (i : Int) a b c items d e f = some r ∧ (r = false → ∀ x ∈ items.drop i, x.f0.size ≤ 1000 ∧ x.f1.size ≤ 1000) := by
  intro m
  induction m with
  | zero =>
    intro i k hm hk hl
    obtain ⟨k, rfl⟩ : ∃ j, k = j + 1 := ⟨k - 1, by omega⟩
    simp only [cloakroomref15_Long.l0]
    rw [if_neg (by omega), List.drop_eq_nil_of_le (by omega)]
    exact ⟨_, rfl, fun _ x hx => by cases hx⟩
  | succ m ih =>
    intro i k hm hk hl
    obtain ⟨k, rfl⟩ : ∃ j, k = j + 1 := ⟨k - 1, by omega⟩
    simp only [cloakroomref15_Long.l0]
    have hi : i < items.length := by omega
    rw [if_pos (by omega), if_pos (by omega), rd_at items i hi, wrap_succ i (by omega), List.drop_eq_getElem_cons hi]
    by_cases h0 : ((items[i]).f0.size : Int) > 1000
    · rw [if_pos h0]
      exact ⟨_, rfl, fun h => by cases h⟩
    · rw [if_neg h0]
      by_cases h1 : ((items[i]).f1.size : Int) > 1000
      · rw [if_pos h1]
        exact ⟨_, rfl, fun h => by cases h⟩
      · rw [if_neg h1]
        obtain ⟨r, hr, hb⟩ := ih (i + 1) k (by omega) (by omega) hl
        refine ⟨r, hr, fun h x hx => ?_⟩
        rcases List.mem_cons.1 hx with rfl | hx
        · exact ⟨by omega, by omega⟩
        · exact hb h x hx
/-- Where an answer is not long. -/
def shortAns (items : List S56) (key : ByteArray) : Prop := key.size ≤ 1000 ∧ items.length ≤ 40 ∧ ∀ x ∈ items, x.f0.size ≤ 1000 ∧ x.f1.size ≤ 1000
theorem Long_eq (a b c : Int) (items : List S56) (d : Int) (e : Bool) (f : ByteArray) (k : Nat) (hk : 43 ≤ k) : ∃ r, cloakroomref15_Long.f k a b c items d e f = some r ∧ (r = false → shortAns items f) := by
  obtain ⟨k, rfl⟩ : ∃ j, k = j + 1 := ⟨k - 1, by omega⟩
  unfold cloakroomref15_Long.f
  simp only [cloakroomref15_Long.j0]
  by_cases h0 : (f.size : Int) > 1000
  · rw [if_pos h0, if_pos trivial]
    exact ⟨_, rfl, fun h => by cases h⟩
  · rw [if_neg h0]
    by_cases h1 : (items.length : Int) > 40
    · rw [if_pos (decide_eq_true h1)]
      exact ⟨_, rfl, fun h => by cases h⟩
    · rw [if_neg (by simpa using h1)]
      obtain ⟨r, hr, hb⟩ := Long_l0 a b c items d e f items.length 0 k rfl (by omega) (by omega)
      exact ⟨r, hr, fun h => ⟨by omega, by omega, fun x hx => hb h x (by simpa using hx)⟩⟩
theorem key_nil (key : ByteArray) : (key.toList = ([] : List UInt8)) ↔ key.size = 0 := by
  rw [ByteArray.toList_eq]
  constructor
  · intro h; have e : key.data.toList.length = key.size := Array.length_toList; rw [h] at e; exact e.symm
  · intro h; exact List.eq_nil_of_length_eq_zero ((Array.length_toList : key.data.toList.length = key.size).trans h)
theorem key_ne (key : ByteArray) : (key.toList != ([] : List UInt8)) = !decide (key.size = 0) := by
  by_cases h : key.size = 0
  · rw [(key_nil key).2 h, decide_eq_true h]; rfl
  · rw [decide_eq_false h]
    exact bne_iff_ne.2 (fun e => h ((key_nil key).1 e))
set_option maxHeartbeats 4000000 in
theorem May_eq (kind of rk : Int) (items : List S56) (n : Int) (yes : Bool) (key : ByteArray) (k : Nat) (hk : 20 ≤ k) : cloakroomref15_May.f k kind of rk items n yes key = some (ansOk kind of rk items n yes key) := by
  obtain ⟨k, rfl⟩ : ∃ j, k = j + 4 := ⟨k - 4, by omega⟩
  have hl0 : items.length ≤ 8 → ∀ r, cloakroomref15_May.l0 k 0 r items n = some (items.all itemOk) := fun h r => by
    have := May_l0_eq r items n items.length 0 k rfl (by omega) (by omega)
    simpa using this
  have es1 : decide (1 ≤ key.size) = !decide ((key.size : Int) < 1) := by rw [← decide_not]; exact decide_eq_decide.2 (by omega)
  have es2 : decide (key.size ≤ 32) = !decide ((key.size : Int) > 32) := by rw [← decide_not]; exact decide_eq_decide.2 (by omega)
  have e8 : decide (items.length ≤ 8) = !decide ((items.length : Int) > 8) := by rw [← decide_not]; exact decide_eq_decide.2 (by omega)
  by_cases a1 : kind < 1
  · have : ansOk kind of rk items n yes key = false := by
      unfold ansOk
      have h1 : (kind == 1) = false := beq_eq_false_iff_ne.mpr (by omega)
      have h2 : decide (1 < kind) = false := decide_eq_false (by omega)
      simp [h1, h2]
    rw [this]
    unfold cloakroomref15_May.f
    rw [if_pos a1]
    simp [cloakroomref15_May.j0]
  by_cases a2 : kind > 7
  · have : ansOk kind of rk items n yes key = false := by
      unfold ansOk
      have h1 : (kind == 1) = false := beq_eq_false_iff_ne.mpr (by omega)
      have h2 : decide (kind ≤ 7) = false := decide_eq_false (by omega)
      simp [h1, h2]
    rw [this]
    unfold cloakroomref15_May.f
    rw [if_neg a1, if_pos a2]
    simp [cloakroomref15_May.j0]
  have hkd : kind = 1 ∨ kind = 2 ∨ kind = 3 ∨ kind = 4 ∨ kind = 5 ∨ kind = 6 ∨ kind = 7 := by omega
  clear a1 a2
  rcases hkd with rfl | rfl | rfl | rfl | rfl | rfl | rfl
  · cases yes with
    | true => simp [cloakroomref15_May.f, cloakroomref15_May.j0, ansOk]
    | false =>
      by_cases hk0 : key.size = 0
      · by_cases h1 : of < 1
        · have : decide (1 ≤ of) = false := decide_eq_false (by omega)
          simp [cloakroomref15_May.f, cloakroomref15_May.j0, cloakroomref15_May.j1, cloakroomref15_May.j2, ansOk, resOk, key_ne, hk0, h1, this]
        by_cases h2 : of > 11
        · have : decide (of ≤ 11) = false := decide_eq_false (by omega)
          simp [cloakroomref15_May.f, cloakroomref15_May.j0, cloakroomref15_May.j1, cloakroomref15_May.j2, ansOk, resOk, key_ne, hk0, h1, h2, this]
        by_cases h3 : rk < 1
        · have : decide (1 ≤ rk) = false := decide_eq_false (by omega)
          simp [cloakroomref15_May.f, cloakroomref15_May.j0, cloakroomref15_May.j1, cloakroomref15_May.j2, ansOk, resOk, key_ne, hk0, h1, h2, h3, this]
        by_cases h4 : rk > 7
        · have : decide (rk ≤ 7) = false := decide_eq_false (by omega)
          simp [cloakroomref15_May.f, cloakroomref15_May.j0, cloakroomref15_May.j1, cloakroomref15_May.j2, ansOk, resOk, key_ne, hk0, h1, h2, h3, h4, this]
        have g1 : decide (1 ≤ of) = true := decide_eq_true (by omega)
        have g2 : decide (of ≤ 11) = true := decide_eq_true (by omega)
        have g3 : decide (1 ≤ rk) = true := decide_eq_true (by omega)
        have g4 : decide (rk ≤ 7) = true := decide_eq_true (by omega)
        by_cases h8 : (items.length : Int) > 8
        · simp [cloakroomref15_May.f, cloakroomref15_May.j0, cloakroomref15_May.j1, cloakroomref15_May.j2, ansOk, resOk, key_ne, hk0, h1, h2, h3, h4, h8, e8]
        · have hl0' := hl0 (by omega)
          generalize hB : items.all itemOk = B at hl0'
          simp only [cloakroomref15_May.f, cloakroomref15_May.j0, cloakroomref15_May.j1, cloakroomref15_May.j2, cloakroomref15_May.j3, cloakroomref15_counts.f, hl0', ansOk, resOk, cnt, key_ne, hk0, e8, g1, g2, g3, g4, hB, isEmpty_len, Option.bind_some, decide_eq_false h8, eq_false h1, eq_false h2, eq_false h3, eq_false h4, if_false]
          by_cases h5 : (items.length : Int) > 0 <;> by_cases h6 : rk = 1 <;> by_cases h9 : n = 0 <;> by_cases h7 : of = 10 <;> by_cases h10 : n > 8 <;> by_cases h11 : of = 6 <;> by_cases h12 : of = 7 <;> by_cases h13 : of = 1 <;>
            first | (exfalso; omega) | (simp [h1, h2, h3, h4, h5, h6, h8, h9, h7, h10, h11, h12, h13]; done) | (simp [h1, h2, h3, h4, h5, h6, h8, h9, h7, h10, h11, h12, h13]; omega) | (simp_all; done) | (simp_all; by_cases hz : 8 < n <;> simp [hz])
      · simp [cloakroomref15_May.f, cloakroomref15_May.j0, cloakroomref15_May.j1, ansOk, key_ne, hk0]
  all_goals
    simp only [cloakroomref15_May.f, cloakroomref15_May.j0, cloakroomref15_May.j1, ansOk, key_ne, es1, es2, isEmpty_len2]
    cases yes <;> by_cases hk0 : key.size = 0 <;> by_cases k1 : (key.size : Int) < 1 <;> by_cases k2 : (key.size : Int) > 32 <;> by_cases h4 : of = 0 <;> by_cases h5 : rk = 0 <;> by_cases h6 : n = 0 <;>
      first | (exfalso; omega) | (simp [hk0, k1, k2, h4, h5, h6]; done) | (simp_all; done)
end Go.Proofs.YtfoengihiaegoaaDoor.P
