/- What an argument reads as, in the print's words: a reading of data in memory ('DataW.trod') gives the kinds' facts. -/
import Derived.Test.YtfoengihiaegoaaDoorP0
import Derived.Test.YtfoengihiaegoaaDoorXDefs
import Derived.ProofKit
import Derived.ChangeArms
namespace Go.Proofs.YtfoengihiaegoaaDoor.P
open Go.RowKit Go.Proofs.YtfoengihiaegoaaDoorW.PrintWords
set_option linter.unusedVariables false
section
variable {H : Type} (enc : TypeId × Value → H) (W : World) (base : Nat) (sp : Nat → Bool) (held : Bool)

/-- Whatever reads as data of type t is of the kind d, and fits. -/
def Opens {α : Type} (t : TypeId) (d : Kd α) (ok : α → Prop) : Prop :=
  ∀ (fuel : Nat) (cs : List Value) (x : DataW H × List MemPlace), DataW.trod enc Tryd.prog W base sp held fuel t cs = some x → ∃ y : α, ok y ∧ d.K W y cs
variable {enc W base sp held}

theorem opens_int {t : TypeId} {k : IntKind} (ht : Tryd.prog.underlying t = some (.int k)) : Opens enc W base sp held t (Kd.int k) (fun n => (Lit.int k n).wf = true) := by
  intro fuel cs x h
  obtain ⟨n, rfl, _, hw⟩ := DataW.trod_int ht h
  exact ⟨n, hw, rfl⟩
theorem opens_bool {t : TypeId} (ht : Tryd.prog.underlying t = some .bool) : Opens enc W base sp held t Kd.bool (fun _ => True) := by
  intro fuel cs x h
  obtain ⟨n, rfl, _⟩ := DataW.trod_bool ht h
  exact ⟨n, trivial, rfl⟩
theorem opens_string {t : TypeId} (ht : Tryd.prog.underlying t = some .string) : Opens enc W base sp held t Kd.string (fun s => s.size ≤ maxLen) := by
  intro fuel cs x h
  obtain ⟨n, rfl, _, hs⟩ := DataW.trod_string ht h
  exact ⟨n, hs, rfl⟩
theorem choose_list {α : Type} {p : Nat → α → Prop} : ∀ (n : Nat), (∀ i, i < n → ∃ y, p i y) → ∃ l : List α, l.length = n ∧ ∀ i y, l[i]? = some y → p i y
  | 0, _ => ⟨[], rfl, fun i y h => by simp at h⟩
  | n + 1, h => by
    obtain ⟨l, hl, hp⟩ := choose_list n (fun i hi => h i (by omega))
    obtain ⟨y, hy⟩ := h n (by omega)
    refine ⟨l ++ [y], by simp [hl], fun i z hz => ?_⟩
    by_cases hi : i < n
    · rw [List.getElem?_append_left (by omega)] at hz
      exact hp i z hz
    · have e : i = n := by
        have := (List.getElem?_eq_some_iff.1 hz).1
        simp [hl] at this
        omega
      subst e
      rw [List.getElem?_append_right (by omega)] at hz
      simp [hl] at hz
      subst hz
      exact hy
theorem x_cells {w : World} {b : Nat} {a : Addr} {n : Nat} {cs : List Value} (h : w.cells? b a n = some cs) : cs.length = n ∧ ∀ i u, cs[i]? = some u → w.cell? (a.add i) = some u := by
  obtain ⟨_, hl, hc⟩ := World.cells?_some h
  refine ⟨hl, fun i u hu => ?_⟩
  rw [hc i (by have := (List.getElem?_eq_some_iff.1 hu).1; omega)]
  exact hu
theorem x_add (a : Addr) (i j : Nat) : (a.add i).add j = a.add (i + j) := by
  unfold Addr.add
  by_cases hi : i = 0 <;> by_cases hj : j = 0 <;> simp [hi, hj, Nat.add_assoc]
theorem opens_slice {α : Type} {t e : TypeId} {d : Kd α} {ok : α → Prop} (ht : Tryd.prog.underlying t = some (.slice e)) (hsz : Tryd.prog.cellsOf e = d.sz) (he : Opens enc W base sp held e d ok) :
    Opens enc W base sp held t (Kd.slice e d) (fun l => ∀ y ∈ l, ok y) := by
  intro fuel cs x h
  rcases DataW.trod_slice ht h with ⟨rfl, _⟩ | ⟨a, len, cap, elems, rest, n, _, rfl, _, hb, hlc, hcm, hel, hel2, _⟩
  · exact ⟨[], (by intro y hy; cases hy), ⟨none, 0, rfl, Nat.le_refl _, Kd.C_nil _ _⟩⟩
  · obtain ⟨l, hl, hp⟩ := choose_list (p := fun i y => ok y ∧ ∃ c, c.length = d.sz ∧ d.K W y c ∧ ∀ j u, c[j]? = some u → W.cell? (a.add (i * d.sz + j)) = some u) len (fun i hi => by
      have h1 := hel2 i hi
      rw [List.getElem?_eq_getElem (by omega)] at h1
      simp only [Option.bind_eq_some_iff] at h1
      obtain ⟨c, hc, hr⟩ := h1
      obtain ⟨y, hy, hk⟩ := he _ _ _ hr
      rw [hsz] at hc
      obtain ⟨hcl, hcc⟩ := x_cells hc
      exact ⟨y, hy, c, hcl, hk, fun j u hj => by rw [← x_add]; exact hcc j u hj⟩)
    have hcm' : cap ≤ 9223372036854775807 := hcm
    refine ⟨l, ?_, ⟨some a, cap, by rw [hl], by omega, ⟨rfl, by omega, fun _ => ⟨a, rfl, fun j p hj => (hp j p hj).2⟩⟩⟩⟩
    intro y hy
    obtain ⟨i, hi, rfl⟩ := List.mem_iff_getElem.1 hy
    exact (hp i _ (List.getElem?_eq_getElem hi)).1
def fits5 (x : S56) : Prop := (Lit.int .u32 x.f2).wf = true ∧ (Lit.int .i64 x.f3).wf = true ∧ (Lit.int .u64 x.f4).wf = true
set_option maxRecDepth 100000 in
theorem opens_item : Opens enc W base sp held 56 k56 fits5 := by
  intro fuel cs x h
  obtain ⟨xs, n, rfl, _, hl, hlen, hf⟩ := DataW.trod_struct Tryd.underlying56 h
  have hc : Tryd.prog.cellsOf 56 = 5 := by kernel_rfl
  rw [hc] at hl
  have hxs : xs.length = 5 := hlen
  match cs, hl, xs, hxs with
  | [c0, c1, c2, c3, c4], _, [y0, y1, y2, y3, y4], _ =>
    have z9 : Tryd.prog.cellsOf 9 = 1 := by kernel_rfl
    have z38 : Tryd.prog.cellsOf 38 = 1 := by kernel_rfl
    have z3 : Tryd.prog.cellsOf 3 = 1 := by kernel_rfl
    have z23 : Tryd.prog.cellsOf 23 = 1 := by kernel_rfl
    have h0 : DataW.trod enc Tryd.prog W base sp held n 9 ((([c0, c1, c2, c3, c4] : List Value).drop 0).take (Tryd.prog.cellsOf 9)) = some y0 := hf 0 _ rfl
    rw [z9] at h0
    have h1 : DataW.trod enc Tryd.prog W base sp held n 9 ((([c0, c1, c2, c3, c4] : List Value).drop 1).take (Tryd.prog.cellsOf 9)) = some y1 := hf 1 _ rfl
    rw [z9] at h1
    have h2 : DataW.trod enc Tryd.prog W base sp held n 38 ((([c0, c1, c2, c3, c4] : List Value).drop 2).take (Tryd.prog.cellsOf 38)) = some y2 := hf 2 _ rfl
    rw [z38] at h2
    have h3 : DataW.trod enc Tryd.prog W base sp held n 3 ((([c0, c1, c2, c3, c4] : List Value).drop 3).take (Tryd.prog.cellsOf 3)) = some y3 := hf 3 _ rfl
    rw [z3] at h3
    have h4 : DataW.trod enc Tryd.prog W base sp held n 23 ((([c0, c1, c2, c3, c4] : List Value).drop 4).take (Tryd.prog.cellsOf 23)) = some y4 := hf 4 _ rfl
    rw [z23] at h4
    obtain ⟨s0, _, e0⟩ := opens_string Tryd.underlying9 _ _ _ h0
    obtain ⟨s1, _, e1⟩ := opens_string Tryd.underlying9 _ _ _ h1
    obtain ⟨n2, w2, e2⟩ := opens_int Tryd.underlying38 _ _ _ h2
    obtain ⟨n3, w3, e3⟩ := opens_int Tryd.underlying3 _ _ _ h3
    obtain ⟨n4, w4, e4⟩ := opens_int Tryd.underlying23 _ _ _ h4
    replace e0 : [c0] = [Value.string s0] := e0
    replace e1 : [c1] = [Value.string s1] := e1
    replace e2 : [c2] = [Value.int .u32 n2] := e2
    replace e3 : [c3] = [Value.int .i64 n3] := e3
    replace e4 : [c4] = [Value.int .u64 n4] := e4
    simp only [List.cons.injEq, and_true] at e0 e1 e2 e3 e4
    subst e0 e1 e2 e3 e4
    exact ⟨⟨s0, s1, n2, n3, n4⟩, ⟨w2, w3, w4⟩, k56_mk W ⟨s0, s1, n2, n3, n4⟩⟩
set_option maxRecDepth 100000 in
/-- An answer, opened. -/
theorem open_answer {fuel : Nat} {cs : List Value} {x : DataW H × List MemPlace} (h : DataW.trod enc Tryd.prog W base sp held fuel 27 cs = some x) :
    ∃ (a0 a1 a2 : Int) (A3 : Option Addr) (c3 : Nat) (l3 : List S56) (a4 : Int) (a5 : Bool) (a6 : ByteArray), cs = [.int .u8 a0, .int .u8 a1, .int .u8 a2, .slice A3 l3.length c3, .int .u64 a4, .bool a5, .string a6] ∧ k56.C W A3 l3.length l3 ∧ l3.length ≤ c3 ∧
      (Lit.int .u8 a0).wf = true ∧ (Lit.int .u8 a1).wf = true ∧ (Lit.int .u8 a2).wf = true ∧ (∀ y ∈ l3, fits5 y) ∧ (Lit.int .u64 a4).wf = true := by
  obtain ⟨xs, n, rfl, _, hl, hlen, hf⟩ := DataW.trod_struct Tryd.underlying27 h
  have hc : Tryd.prog.cellsOf 27 = 7 := by kernel_rfl
  rw [hc] at hl
  have hxs : xs.length = 5 := hlen
  have z4 : Tryd.prog.cellsOf 4 = 1 := by kernel_rfl
  have z5 : Tryd.prog.cellsOf 5 = 1 := by kernel_rfl
  have z9 : Tryd.prog.cellsOf 9 = 1 := by kernel_rfl
  have z22 : Tryd.prog.cellsOf 22 = 1 := by kernel_rfl
  have z23 : Tryd.prog.cellsOf 23 = 1 := by kernel_rfl
  have z25 : Tryd.prog.cellsOf 25 = 3 := by kernel_rfl
  match cs, hl, xs, hxs with
  | [c0, c1, c2, c3, c4, c5, c6], _, [y0, y1, y2, y3, y4], _ =>
    have h0 : DataW.trod enc Tryd.prog W base sp held n 5 ((([c0, c1, c2, c3, c4, c5, c6] : List Value).drop 0).take (Tryd.prog.cellsOf 5)) = some y0 := hf 0 _ rfl
    rw [z5] at h0
    have h1 : DataW.trod enc Tryd.prog W base sp held n 5 ((([c0, c1, c2, c3, c4, c5, c6] : List Value).drop 1).take (Tryd.prog.cellsOf 5)) = some y1 := hf 1 _ rfl
    rw [z5] at h1
    have h2 : DataW.trod enc Tryd.prog W base sp held n 25 ((([c0, c1, c2, c3, c4, c5, c6] : List Value).drop 2).take (Tryd.prog.cellsOf 25)) = some y2 := hf 2 _ rfl
    rw [z25] at h2
    have h3 : DataW.trod enc Tryd.prog W base sp held n 4 ((([c0, c1, c2, c3, c4, c5, c6] : List Value).drop 5).take (Tryd.prog.cellsOf 4)) = some y3 := hf 3 _ rfl
    rw [z4] at h3
    have h4 : DataW.trod enc Tryd.prog W base sp held n 9 ((([c0, c1, c2, c3, c4, c5, c6] : List Value).drop 6).take (Tryd.prog.cellsOf 9)) = some y4 := hf 4 _ rfl
    rw [z9] at h4
    obtain ⟨a0, w0, e0⟩ := opens_int Tryd.underlying5 _ _ _ h0
    obtain ⟨a1, w1, e1⟩ := opens_int Tryd.underlying5 _ _ _ h1
    obtain ⟨b5, _, e5⟩ := opens_bool Tryd.underlying4 _ _ _ h3
    obtain ⟨s6, _, e6⟩ := opens_string Tryd.underlying9 _ _ _ h4
    obtain ⟨xs2, n2, rfl, _, hl2, hlen2, hf2⟩ := DataW.trod_struct Tryd.underlying25 h2
    have hxs2 : xs2.length = 3 := hlen2
    match xs2, hxs2 with
    | [y20, y21, y22], _ =>
      have g0 : DataW.trod enc Tryd.prog W base sp held n2 5 ((([c2, c3, c4] : List Value).drop 0).take (Tryd.prog.cellsOf 5)) = some y20 := hf2 0 _ rfl
      rw [z5] at g0
      have g1 : DataW.trod enc Tryd.prog W base sp held n2 22 ((([c2, c3, c4] : List Value).drop 1).take (Tryd.prog.cellsOf 22)) = some y21 := hf2 1 _ rfl
      rw [z22] at g1
      have g2 : DataW.trod enc Tryd.prog W base sp held n2 23 ((([c2, c3, c4] : List Value).drop 2).take (Tryd.prog.cellsOf 23)) = some y22 := hf2 2 _ rfl
      rw [z23] at g2
      obtain ⟨a2, w2, e2⟩ := opens_int Tryd.underlying5 _ _ _ g0
      obtain ⟨l3, w3, e3⟩ := opens_slice (d := k56) Tryd.underlying22 (by kernel_rfl) opens_item _ _ _ g1
      obtain ⟨a4, w4, e4⟩ := opens_int Tryd.underlying23 _ _ _ g2
      replace e0 : [c0] = [Value.int .u8 a0] := e0
      replace e1 : [c1] = [Value.int .u8 a1] := e1
      replace e2 : [c2] = [Value.int .u8 a2] := e2
      obtain ⟨A3, k3, e3, hle, hC⟩ := e3
      replace e3 : [c3] = [Value.slice A3 l3.length k3] := e3
      replace e4 : [c4] = [Value.int .u64 a4] := e4
      replace e5 : [c5] = [Value.bool b5] := e5
      replace e6 : [c6] = [Value.string s6] := e6
      simp only [List.cons.injEq, and_true] at e0 e1 e2 e3 e4 e5 e6
      subst e0 e1 e2 e3 e4 e5 e6
      exact ⟨a0, a1, a2, A3, k3, l3, a4, b5, s6, rfl, hC, hle, w0, w1, w2, w3, w4⟩
end
theorem wf_u64 {n : Int} (h : (Lit.int .u64 n).wf = true) : u64ok n = true := by
  simp only [Lit.wf, Bool.and_eq_true, decide_eq_true_eq] at h
  have h1 : IntKind.u64.min = 0 := by decide
  have h2 : IntKind.u64.max = 18446744073709551615 := by decide
  rw [h1, h2] at h
  simp only [u64ok, Bool.and_eq_true, decide_eq_true_eq]
  omega
end Go.Proofs.YtfoengihiaegoaaDoor.P
