import Derived.Test.YtfoengihiaegoaaDoorXDefs
import Derived.Test.YtfoengihiaegoaaDoorShelf
import Derived.Test.YtfoengihiaegoaaDoorXJoin
import Derived.Lib.Hide
import Derived.Test.YtfoengihiaegoaaDoorP0
import Derived.Test.YtfoengihiaegoaaDoorXNum
import Derived.Test.YtfoengihiaegoaaDoorP7
import Derived.Test.YtfoengihiaegoaaDoorP3
/- The walk of words.done: the lines of what was done: a strings.Builder, a loop over the items, one over the words. -/
namespace Go.Proofs.YtfoengihiaegoaaDoor.P
set_option linter.unusedVariables false
set_option linter.unusedSimpArgs false
open Go.Shelf Go.RowKit Go.Lib Go.Proofs.YtfoengihiaegoaaDoorW.PrintWords Go.Proofs.YtfoengihiaegoaaDoorW.PrintLast Go.Proofs.YtfoengihiaegoaaDoorW.PrintMore
theorem x_dec_len (n : Int) (h : u64ok n = true) : (dec n).length ≤ 20 := by
  unfold dec
  simp only [u64ok, Bool.and_eq_true, decide_eq_true_eq] at h
  rw [Lib.decDigits_length]
  by_cases h0 : 1 ≤ n.toNat
  · have := Lib.numDigits_eq n.toNat h0 (by omega)
    split at this <;> omega
  · have : n.toNat = 0 := by omega
    rw [this, Lib.nDigits_small (by omega)]
    omega
theorem x_txt_size (l : List UInt8) : (txt l).size = l.length := by simp [txt, ByteArray.size]
theorem x_wrap_u64 (y : Int) (h0 : 0 ≤ y) (h1 : y < 18446744073709551616) : IntKind.u64.wrap y = y := by
  simp [IntKind.wrap, IntKind.bits, IntKind.signed]
  omega
@[local go_sem] theorem x_index6_0 (W : World) (s0 s1 s2 s3 s4 s5 : ByteArray) : (Instr.index 97 (.agg #[.string s0, .string s1, .string s2, .string s3, .string s4, .string s5]) (.int .i64 0)).run Tryd.prog W = .ok (.string s0) W := by
  have h := Tryd.underlying97
  have h9 := Tryd.sizeOf9
  have h8 := Tryd.isAgg9
  simp [Instr.index, asIntOf, part, go_sem, h9, h8]
@[local go_sem] theorem x_index6_1 (W : World) (s0 s1 s2 s3 s4 s5 : ByteArray) : (Instr.index 97 (.agg #[.string s0, .string s1, .string s2, .string s3, .string s4, .string s5]) (.int .i64 1)).run Tryd.prog W = .ok (.string s1) W := by
  have h := Tryd.underlying97
  have h9 := Tryd.sizeOf9
  have h8 := Tryd.isAgg9
  simp [Instr.index, asIntOf, part, go_sem, h9, h8]
@[local go_sem] theorem x_index6_2 (W : World) (s0 s1 s2 s3 s4 s5 : ByteArray) : (Instr.index 97 (.agg #[.string s0, .string s1, .string s2, .string s3, .string s4, .string s5]) (.int .i64 2)).run Tryd.prog W = .ok (.string s2) W := by
  have h := Tryd.underlying97
  have h9 := Tryd.sizeOf9
  have h8 := Tryd.isAgg9
  simp [Instr.index, asIntOf, part, go_sem, h9, h8]
@[local go_sem] theorem x_index6_3 (W : World) (s0 s1 s2 s3 s4 s5 : ByteArray) : (Instr.index 97 (.agg #[.string s0, .string s1, .string s2, .string s3, .string s4, .string s5]) (.int .i64 3)).run Tryd.prog W = .ok (.string s3) W := by
  have h := Tryd.underlying97
  have h9 := Tryd.sizeOf9
  have h8 := Tryd.isAgg9
  simp [Instr.index, asIntOf, part, go_sem, h9, h8]
@[local go_sem] theorem x_index6_4 (W : World) (s0 s1 s2 s3 s4 s5 : ByteArray) : (Instr.index 97 (.agg #[.string s0, .string s1, .string s2, .string s3, .string s4, .string s5]) (.int .i64 4)).run Tryd.prog W = .ok (.string s4) W := by
  have h := Tryd.underlying97
  have h9 := Tryd.sizeOf9
  have h8 := Tryd.isAgg9
  simp [Instr.index, asIntOf, part, go_sem, h9, h8]
@[local go_sem] theorem x_index6_5 (W : World) (s0 s1 s2 s3 s4 s5 : ByteArray) : (Instr.index 97 (.agg #[.string s0, .string s1, .string s2, .string s3, .string s4, .string s5]) (.int .i64 5)).run Tryd.prog W = .ok (.string s5) W := by
  have h := Tryd.underlying97
  have h9 := Tryd.sizeOf9
  have h8 := Tryd.isAgg9
  simp [Instr.index, asIntOf, part, go_sem, h9, h8]
end Go.Proofs.YtfoengihiaegoaaDoor.P
