/- What a request reads as, in the print's words. -/
import Derived.Test.YtfoengihiaegoaaDoorXOpen
namespace Go.Proofs.YtfoengihiaegoaaDoor.P
open Go.RowKit Go.Proofs.YtfoengihiaegoaaDoorW.PrintWords
set_option linter.unusedVariables false
section
variable {H : Type} {enc : TypeId × Value → H} {W : World} {base : Nat} {sp : Nat → Bool} {held : Bool}
set_option maxRecDepth 100000 in
theorem open_command {fuel : Nat} {cs : List Value} {x : DataW H × List MemPlace} (h : DataW.trod enc Tryd.prog W base sp held fuel 40 cs = some x) :
    ∃ (a0 a1 : Int) (A2 : Option Addr) (c2 : Nat) (l2 : List ByteArray) (a3 : ByteArray) (a4 a5 a6 a7 : Int), cs = [.int .u8 a0, .int .i64 a1, .slice A2 l2.length c2, .string a3, .int .u32 a4, .int .i64 a5, .int .u64 a6, .int .u64 a7] ∧ Kd.C Kd.string W A2 l2.length l2 ∧ l2.length ≤ c2 ∧
      (Lit.int .u32 a4).wf = true ∧ (Lit.int .u64 a6).wf = true ∧ (Lit.int .u64 a7).wf = true := by
  obtain ⟨xs, n, rfl, _, hl, hlen, hf⟩ := DataW.trod_struct Tryd.underlying40 h
  have hc : Tryd.prog.cellsOf 40 = 8 := by kernel_rfl
  rw [hc] at hl
  have hxs : xs.length = 8 := hlen
  have z_uint8 : Tryd.prog.cellsOf 5 = 1 := by kernel_rfl
  have z_int : Tryd.prog.cellsOf 3 = 1 := by kernel_rfl
  have z_s_string : Tryd.prog.cellsOf 37 = 1 := by kernel_rfl
  have z_string : Tryd.prog.cellsOf 9 = 1 := by kernel_rfl
  have z_uint32 : Tryd.prog.cellsOf 38 = 1 := by kernel_rfl
  have z_uint64 : Tryd.prog.cellsOf 23 = 1 := by kernel_rfl
  match cs, hl, xs, hxs with
  | [c0, c1, c2, c3, c4, c5, c6, c7], _, [y0, y1, y2, y3, y4, y5, y6, y7], _ =>
    have h0 : DataW.trod enc Tryd.prog W base sp held n 5 ((([c0, c1, c2, c3, c4, c5, c6, c7] : List Value).drop 0).take (Tryd.prog.cellsOf 5)) = some y0 := hf 0 _ rfl
    rw [z_uint8] at h0
    have h1 : DataW.trod enc Tryd.prog W base sp held n 3 ((([c0, c1, c2, c3, c4, c5, c6, c7] : List Value).drop 1).take (Tryd.prog.cellsOf 3)) = some y1 := hf 1 _ rfl
    rw [z_int] at h1
    have h2 : DataW.trod enc Tryd.prog W base sp held n 37 ((([c0, c1, c2, c3, c4, c5, c6, c7] : List Value).drop 2).take (Tryd.prog.cellsOf 37)) = some y2 := hf 2 _ rfl
    rw [z_s_string] at h2
    have h3 : DataW.trod enc Tryd.prog W base sp held n 9 ((([c0, c1, c2, c3, c4, c5, c6, c7] : List Value).drop 3).take (Tryd.prog.cellsOf 9)) = some y3 := hf 3 _ rfl
    rw [z_string] at h3
    have h4 : DataW.trod enc Tryd.prog W base sp held n 38 ((([c0, c1, c2, c3, c4, c5, c6, c7] : List Value).drop 4).take (Tryd.prog.cellsOf 38)) = some y4 := hf 4 _ rfl
    rw [z_uint32] at h4
    have h5 : DataW.trod enc Tryd.prog W base sp held n 3 ((([c0, c1, c2, c3, c4, c5, c6, c7] : List Value).drop 5).take (Tryd.prog.cellsOf 3)) = some y5 := hf 5 _ rfl
    rw [z_int] at h5
    have h6 : DataW.trod enc Tryd.prog W base sp held n 23 ((([c0, c1, c2, c3, c4, c5, c6, c7] : List Value).drop 6).take (Tryd.prog.cellsOf 23)) = some y6 := hf 6 _ rfl
    rw [z_uint64] at h6
    have h7 : DataW.trod enc Tryd.prog W base sp held n 23 ((([c0, c1, c2, c3, c4, c5, c6, c7] : List Value).drop 7).take (Tryd.prog.cellsOf 23)) = some y7 := hf 7 _ rfl
    rw [z_uint64] at h7
    obtain ⟨a0, w0, e0⟩ := opens_int Tryd.underlying5 _ _ _ h0
    obtain ⟨a1, w1, e1⟩ := opens_int Tryd.underlying3 _ _ _ h1
    obtain ⟨l2, w2, e2⟩ := opens_slice (d := Kd.string) Tryd.underlying37 (by kernel_rfl) (opens_string Tryd.underlying9) _ _ _ h2
    obtain ⟨a3, w3, e3⟩ := opens_string Tryd.underlying9 _ _ _ h3
    obtain ⟨a4, w4, e4⟩ := opens_int Tryd.underlying38 _ _ _ h4
    obtain ⟨a5, w5, e5⟩ := opens_int Tryd.underlying3 _ _ _ h5
    obtain ⟨a6, w6, e6⟩ := opens_int Tryd.underlying23 _ _ _ h6
    obtain ⟨a7, w7, e7⟩ := opens_int Tryd.underlying23 _ _ _ h7
    obtain ⟨A2, k2, e2, hle, hC⟩ := e2
    replace e0 : [c0] = [Value.int .u8 a0] := e0
    replace e1 : [c1] = [Value.int .i64 a1] := e1
    replace e2 : [c2] = [Value.slice A2 l2.length k2] := e2
    replace e3 : [c3] = [Value.string a3] := e3
    replace e4 : [c4] = [Value.int .u32 a4] := e4
    replace e5 : [c5] = [Value.int .i64 a5] := e5
    replace e6 : [c6] = [Value.int .u64 a6] := e6
    replace e7 : [c7] = [Value.int .u64 a7] := e7
    simp only [List.cons.injEq, and_true] at e0 e1 e2 e3 e4 e5 e6 e7
    subst e0 e1 e2 e3 e4 e5 e6 e7
    exact ⟨a0, a1, A2, k2, l2, a3, a4, a5, a6, a7, rfl, hC, hle, w4, w6, w7⟩
set_option maxRecDepth 100000 in
theorem open_request {fuel : Nat} {cs : List Value} {x : DataW H × List MemPlace} (h : DataW.trod enc Tryd.prog W base sp held fuel 42 cs = some x) :
    ∃ (r0 a0 a1 : Int) (A2 : Option Addr) (c2 : Nat) (l2 : List ByteArray) (a3 : ByteArray) (a4 a5 a6 a7 r2 : Int) (r3 : ByteArray) (r4 r5 : Bool), cs = [.int .u8 r0, .int .u8 a0, .int .i64 a1, .slice A2 l2.length c2, .string a3, .int .u32 a4, .int .i64 a5, .int .u64 a6, .int .u64 a7, .int .i64 r2, .string r3, .bool r4, .bool r5] ∧ Kd.C Kd.string W A2 l2.length l2 ∧ l2.length ≤ c2 ∧
      (Lit.int .u32 a4).wf = true ∧ (Lit.int .u64 a6).wf = true ∧ (Lit.int .u64 a7).wf = true := by
  obtain ⟨xs, n, rfl, _, hl, hlen, hf⟩ := DataW.trod_struct Tryd.underlying42 h
  have hc : Tryd.prog.cellsOf 42 = 13 := by kernel_rfl
  rw [hc] at hl
  have hxs : xs.length = 6 := hlen
  have z_cmd : Tryd.prog.cellsOf 40 = 8 := by kernel_rfl
  have z_uint8 : Tryd.prog.cellsOf 5 = 1 := by kernel_rfl
  have z_int : Tryd.prog.cellsOf 3 = 1 := by kernel_rfl
  have z_string : Tryd.prog.cellsOf 9 = 1 := by kernel_rfl
  have z_bool : Tryd.prog.cellsOf 4 = 1 := by kernel_rfl
  match cs, hl, xs, hxs with
  | [c0, c1, c2, c3, c4, c5, c6, c7, c8, c9, c10, c11, c12], _, [y0, y1, y2, y3, y4, y5], _ =>
    have h0 : DataW.trod enc Tryd.prog W base sp held n 5 ((([c0, c1, c2, c3, c4, c5, c6, c7, c8, c9, c10, c11, c12] : List Value).drop 0).take (Tryd.prog.cellsOf 5)) = some y0 := hf 0 _ rfl
    rw [z_uint8] at h0
    have h1 : DataW.trod enc Tryd.prog W base sp held n 40 ((([c0, c1, c2, c3, c4, c5, c6, c7, c8, c9, c10, c11, c12] : List Value).drop 1).take (Tryd.prog.cellsOf 40)) = some y1 := hf 1 _ rfl
    rw [z_cmd] at h1
    have h2 : DataW.trod enc Tryd.prog W base sp held n 3 ((([c0, c1, c2, c3, c4, c5, c6, c7, c8, c9, c10, c11, c12] : List Value).drop 9).take (Tryd.prog.cellsOf 3)) = some y2 := hf 2 _ rfl
    rw [z_int] at h2
    have h3 : DataW.trod enc Tryd.prog W base sp held n 9 ((([c0, c1, c2, c3, c4, c5, c6, c7, c8, c9, c10, c11, c12] : List Value).drop 10).take (Tryd.prog.cellsOf 9)) = some y3 := hf 3 _ rfl
    rw [z_string] at h3
    have h4 : DataW.trod enc Tryd.prog W base sp held n 4 ((([c0, c1, c2, c3, c4, c5, c6, c7, c8, c9, c10, c11, c12] : List Value).drop 11).take (Tryd.prog.cellsOf 4)) = some y4 := hf 4 _ rfl
    rw [z_bool] at h4
    have h5 : DataW.trod enc Tryd.prog W base sp held n 4 ((([c0, c1, c2, c3, c4, c5, c6, c7, c8, c9, c10, c11, c12] : List Value).drop 12).take (Tryd.prog.cellsOf 4)) = some y5 := hf 5 _ rfl
    rw [z_bool] at h5
    obtain ⟨r0, _, e0⟩ := opens_int Tryd.underlying5 _ _ _ h0
    obtain ⟨a0, a1, A2, k2, l2, a3, a4, a5, a6, a7, ec, hC, hle, w4, w6, w7⟩ := open_command h1
    obtain ⟨r2, _, e2⟩ := opens_int Tryd.underlying3 _ _ _ h2
    obtain ⟨r3, _, e3⟩ := opens_string Tryd.underlying9 _ _ _ h3
    obtain ⟨r4, _, e4⟩ := opens_bool Tryd.underlying4 _ _ _ h4
    obtain ⟨r5, _, e5⟩ := opens_bool Tryd.underlying4 _ _ _ h5
    replace e0 : [c0] = [Value.int .u8 r0] := e0
    replace ec : [c1, c2, c3, c4, c5, c6, c7, c8] = [.int .u8 a0, .int .i64 a1, .slice A2 l2.length k2, .string a3, .int .u32 a4, .int .i64 a5, .int .u64 a6, .int .u64 a7] := ec
    replace e2 : [c9] = [Value.int .i64 r2] := e2
    replace e3 : [c10] = [Value.string r3] := e3
    replace e4 : [c11] = [Value.bool r4] := e4
    replace e5 : [c12] = [Value.bool r5] := e5
    simp only [List.cons.injEq, and_true] at e0 ec e2 e3 e4 e5
    obtain ⟨rfl, rfl, rfl, rfl, rfl, rfl, rfl, rfl⟩ := ec
    subst e0 e2 e3 e4 e5
    exact ⟨r0, a0, a1, A2, k2, l2, a3, a4, a5, a6, a7, r2, r3, r4, r5, rfl, hC, hle, w4, w6, w7⟩
end
theorem wf_u32 {n : Int} (h : (Lit.int .u32 n).wf = true) : u64ok n = true := by
  simp only [Lit.wf, Bool.and_eq_true, decide_eq_true_eq] at h
  have h1 : IntKind.u32.min = 0 := by decide
  have h2 : IntKind.u32.max = 4294967295 := by decide
  rw [h1, h2] at h
  simp only [u64ok, Bool.and_eq_true, decide_eq_true_eq]
  omega
end Go.Proofs.YtfoengihiaegoaaDoor.P
