import Derived.Test.YtfoengihiaegoaaDoorP9
import Derived.Test.YtfoengihiaegoaaDoorP2
import Derived.Test.YtfoengihiaegoaaDoorP10
import Derived.Test.YtfoengihiaegoaaDoorP8
import Derived.Test.YtfoengihiaegoaaDoorXPurePlain
import Derived.Test.YtfoengihiaegoaaDoorXDone
import Derived.Test.YtfoengihiaegoaaDoorP12
import Derived.Test.YtfoengihiaegoaaDoorP11
import Derived.Laws.RangeAny
import Derived.Laws.RangeString
import Derived.Lib.ItoaNum
/- The plain law of keys and numbers in the document's own answer: a number's text, an answer's lines. -/
namespace Go.Proofs.YtfoengihiaegoaaDoor.P
open Go.RowKit Go.Proofs.YtfoengihiaegoaaDoorW.PrintWords
set_option linter.unusedVariables false
set_option linter.unusedSimpArgs false
theorem Text_eq : ∀ (d k u : Nat), 1 ≤ d → d ≤ k → u < 10 ^ d → u < 18446744073709551616 → cloakroomref09_Text.f k (u : Int) = some (txt (Lib.decDigits u)) := by
  intro d
  induction d with
  | zero => intro k u h; omega
  | succ d ih =>
    intro k u _ hk hu h64
    obtain ⟨k, rfl⟩ : ∃ j, k = j + 1 := ⟨k - 1, by omega⟩
    simp only [cloakroomref09_Text.f]
    by_cases h10 : u < 10
    · have hw : IntKind.u64.wrap ((u : Int) + 1) = (u : Int) + 1 := x_wrap_u64 _ (by omega) (by omega)
      rw [if_pos (by omega), if_pos (by omega), hw, if_pos (by omega), if_pos (by omega)]
      have : u = 0 ∨ u = 1 ∨ u = 2 ∨ u = 3 ∨ u = 4 ∨ u = 5 ∨ u = 6 ∨ u = 7 ∨ u = 8 ∨ u = 9 := by omega
      congr 1
      rw [Lib.decDigits, dif_pos h10]
      rcases this with rfl | rfl | rfl | rfl | rfl | rfl | rfl | rfl | rfl | rfl <;> rfl
    · have hd : Int.tdiv (u : Int) 10 = ((u / 10 : Nat) : Int) := by rw [Int.tdiv_eq_ediv_of_nonneg (by omega)]; omega
      have hm : Int.tmod (u : Int) 10 = ((u % 10 : Nat) : Int) := by rw [Int.tmod_eq_emod_of_nonneg (by omega)]; omega
      have hd1 : 1 ≤ d := by
        rcases d with _ | d
        · simp at hu; omega
        · omega
      have hw : IntKind.u64.wrap ((u / 10 : Nat) : Int) = ((u / 10 : Nat) : Int) := x_wrap_u64 _ (by omega) (by omega)
      have hp : (10 : Nat) ^ 1 ≤ 10 ^ d := Nat.pow_le_pow_right (by omega) hd1
      have h1 := ih k (u / 10) hd1 (by omega) (by rw [Nat.pow_succ] at hu; omega) (by omega)
      have h2 := ih k (u % 10) hd1 (by omega) (by omega) (by omega)
      rw [if_neg (by omega), hd, hm, hw, h1, Option.bind_some, h2, Option.bind_some]
      have e1 : (txt (Lib.decDigits (u / 10))).size ≤ 20 := by rw [x_txt_size]; have := x_dec_len ((u / 10 : Nat) : Int) (by simp only [u64ok, Bool.and_eq_true, decide_eq_true_eq]; omega); unfold dec at this; rw [Int.toNat_natCast] at this; exact this
      have e2 : (txt (Lib.decDigits (u % 10))).size ≤ 20 := by rw [x_txt_size]; have := x_dec_len ((u % 10 : Nat) : Int) (by simp only [u64ok, Bool.and_eq_true, decide_eq_true_eq]; omega); unfold dec at this; rw [Int.toNat_natCast] at this; exact this
      rw [if_pos (by omega)]
      congr 1
      rw [Lib.decDigits.eq_def u, dif_neg h10, Lib.decDigits.eq_def (u % 10), dif_pos (by omega)]
      apply ByteArray.ext
      simp [txt, ByteArray.data_append]
theorem Text_dec (n : Int) (k : Nat) (hn : u64ok n = true) (hk : 20 ≤ k) : cloakroomref09_Text.f k n = some (txt (dec n)) := by
  simp only [u64ok, Bool.and_eq_true, decide_eq_true_eq] at hn
  obtain ⟨u, rfl⟩ := Int.eq_ofNat_of_zero_le hn.1
  have := Text_eq 20 k u (by omega) hk (by omega) (by omega)
  rw [this]
  rfl
theorem Text_wrap (n : Int) (k : Nat) (hn : u64ok n = true) (hk : 20 ≤ k) : cloakroomref09_Text.f k (IntKind.u64.wrap n) = some (txt (dec n)) := by
  have h := hn
  simp only [u64ok, Bool.and_eq_true, decide_eq_true_eq] at h
  rw [x_wrap_u64 n h.1 h.2]
  exact Text_dec n k hn hk
theorem txt_app (a b : List UInt8) : txt a ++ txt b = txt (a ++ b) := by
  apply ByteArray.ext
  simp [txt, ByteArray.data_append]
theorem txt_chs (s : ByteArray) : txt (chs s) = s := rfl
end Go.Proofs.YtfoengihiaegoaaDoor.P
