/- What the walks take of the program's own start: the package-level variables of Go's library that are read, and that a world which only grew holds them still. -/
import Derived.Test.YtfoengihiaegoaaDoorProg
import Derived.Below
import Derived.Lib.LaidTab
import Derived.Lib.ItoaNum
import Derived.WalkSmall
import Derived.KernelRfl
import Derived.RowKit
import Derived.Test.YtfoengihiaegoaaDoorWMore
namespace Go.Proofs.YtfoengihiaegoaaDoor.P
open Go.RowKit Go.Proofs.YtfoengihiaegoaaDoorW.PrintWords Go.Proofs.YtfoengihiaegoaaDoorW.PrintMore

theorem x_cell_below {w w' : World} (hb : Below w.heap.size w w') {a : Addr} {v : Value} (hc : w.cell? a = some v) : w'.cell? a = some v := (hb.cell (World.block_lt_of_cell? w a hc)).trans hc
theorem x_var_lt {w : World} {n : String} {g : Nat} {cs : Array Value} (hg : Tryd.prog.globalNamed n = some g) (hv : w.var? Tryd.prog n = some cs) : g < w.heap.size := by
  unfold World.var? at hv
  rw [hg] at hv
  simp only [Option.bind_some] at hv
  rcases Nat.lt_or_ge g w.heap.size with h | h
  · exact h
  · rw [Array.getElem?_eq_none h] at hv; cases hv

theorem Kd.V_string {P : Program} {w : World} {src dst e base e' : Nat} {ok : Nat → Prop} {v : Value} {xs : List Int} (hs : P.underlying src = some (.slice e)) (he : P.underlying e = some (.int .u8)) (hd : P.underlying dst = some .string)
    (h : Kd.V (Kd.int .u8) e' w base ok v xs) : (convert src dst v).run P w = .ok (.string (strOfNums xs)) w := by
  obtain ⟨A, c, rfl, _, hF⟩ := h
  exact Kd.C_string hs he hd (Kd.F_now hF)
theorem conv_V (W : World) (base e : Nat) (s : ByteArray) (hs : s.size ≤ 9223372036854775807) : Kd.V (Kd.int .u8) e (Lib.bytesWorld W e s) base (fun k => W.heap.size ≤ k) (.slice (some ⟨W.heap.size, 0, none⟩) s.size (grownCap W s.size 0 e)) (bytesOf s) := by
  refine ⟨some ⟨W.heap.size, 0, none⟩, grownCap W s.size 0 e, by rw [bytesOf_length], by rw [bytesOf_length]; exact grownCap_ge _ _ _ _, fun W' hW => ?_⟩
  have h := bytes_reads W e s hs
  have hb : W'.heap[W.heap.size]? = (Lib.bytesWorld W e s).heap[W.heap.size]? := hW _ (Nat.le_refl _) (by rw [Lib.bytesWorld_size]; omega)
  refine Kd.C_of_reads (enc := Value.int .u8) (d := (0 : Int)) (h1 := fun _ => rfl) ⟨rfl, by rw [bytesOf_length]; exact hs, fun hn => ?_⟩
  rw [bytesOf_length] at hn ⊢
  obtain ⟨ad, ea, hc⟩ := h.2.2 hn
  refine ⟨ad, ea, fun j hj => ?_⟩
  injection ea with ea
  subst ea
  rw [← hc j hj, add_plain]
  unfold World.cell?
  rw [hb]
/-- []byte(s) of a text that is no constant, as an event. -/
theorem x_conv {P : Program} {ops : Array Oper} {rest : List Oper} {o : Oper} {a : Act} {Q : Exit → Act → World → Prop} {w0 W : World} (base e : Nat) (hgd : o.guard = none) {N : Tmp} (_hd : o.dst = some N) (src dst : TypeId) (x : Operand) (ho : o.op = .convert src dst x)
    {s : ByteArray} (hx : a.eval x = .string s) {u : TypeDesc} (h1 : P.underlying src = some u) (h2 : P.underlying dst = some (.slice e)) (h3 : P.underlying e = some (.int .u8)) (hs : s.size ≤ 9223372036854775807) (HB : Below base w0 W) (hbase : base ≤ W.heap.size)
    (h : ∀ v1 w1, Kd.V (Kd.int .u8) e w1 base (fun k => W.heap.size ≤ k) v1 (bytesOf s) → Below base w0 w1 → True → True → wpList P ops Q rest (a.put o.dst v1) w1) : wpList P ops Q (o :: rest) a W := by
  have hrun : (execOp a.eval o).run P W = .ok (.value (.slice (some ⟨W.heap.size, 0, none⟩) s.size (grownCap W s.size 0 e))) (Lib.bytesWorld W e s) := by
    simp [execOp, ho, hx, print_bytes src dst e h1 h2 h3 s W]
  exact Kd.event_run hgd hrun (h _ _ (conv_V W base e s hs) (bytes_below HB hbase e s) trivial trivial)
theorem x_size_lit (a : Array UInt8) : (⟨a⟩ : ByteArray).size = a.size := rfl
theorem x_nonempty (l : List UInt8) : (!l.isEmpty) = (l != []) := by cases l <;> rfl
theorem x_nonempty' (l : List UInt8) : l.isEmpty = !(l != []) := by cases l <;> rfl

/-- The package-level variables of Go's library that the code reads, as they lie: for what writes, for what reads. -/
structure Laid (w : World) : Prop where
  pow10 : Lib.TabIs Tryd.prog w "internal/strconv.uint64pow10" .u64 Lib.pow10Tab
structure LaidR (w : World) : Prop extends Laid w where
  maxLen : ∃ m, w.cell? ⟨0, 0, none⟩ = some (.int .i64 m)
  errR : ∃ tp p, w.var? Tryd.prog "strconv.ErrRange" = some #[.iface tp p]
theorem Laid.below {w w1 : World} (h : Laid w) (hb : Below w.heap.size w w1) : Laid w1 where
  pow10 := by
    have hg : Tryd.prog.globalNamed "internal/strconv.uint64pow10" = some 1 := by kernel_rfl
    exact var?_below hb hg (x_var_lt hg h.pow10) h.pow10
theorem LaidR.below {w w1 : World} (h : LaidR w) (hb : Below w.heap.size w w1) : LaidR w1 where
  toLaid := h.toLaid.below hb
  maxLen := h.maxLen.imp fun _ hc => x_cell_below hb hc
  errR := by
    obtain ⟨tp, p, hv⟩ := h.errR
    have hg : Tryd.prog.globalNamed "strconv.ErrRange" = some 7 := by kernel_rfl
    exact ⟨tp, p, var?_below hb hg (x_var_lt hg hv) hv⟩
end Go.Proofs.YtfoengihiaegoaaDoor.P
