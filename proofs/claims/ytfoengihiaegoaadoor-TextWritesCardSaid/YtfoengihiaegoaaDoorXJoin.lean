/- The contract of strings.Join, in the print's form: the elements, the separator between them; where all that fits into 2^47 bytes. -/
import Derived.Test.YtfoengihiaegoaaDoorXDefs
import Derived.Test.YtfoengihiaegoaaDoorShelf
namespace Go.Proofs.YtfoengihiaegoaaDoor.P
set_option linter.unusedVariables false
open Go.Shelf Go.RowKit Go.Lib Go.Proofs.YtfoengihiaegoaaDoorW.PrintWords
theorem x_spot {w : World} {ad : Addr} {v : Value} (h : w.cell? ad = some v) : ad = ⟨ad.block, ad.off, none⟩ := by
  obtain ⟨b, o, s⟩ := ad
  cases s with
  | none => rfl
  | some s => unfold World.cell? at h; split at h <;> simp at h
theorem strings_Join.calls (A0 : Option Addr) (c0 : Nat) (l0 : List ByteArray) (a1 : ByteArray) (r : ByteArray) (w : World) (hr0 : Kd.C Kd.string w A0 l0.length l0) (hc0 : l0.length ≤ c0) (h : strings_Join.f l0 a1 = some r) :
    Calls Tryd.prog 36 #[.slice A0 l0.length c0, .string a1] w fun e w' => e = .returned (.string r) ∧ Below w.heap.size w w' := by
  unfold strings_Join.f at h
  split at h
  · rename_i hd
    obtain rfl := Option.some.inj h
    by_cases h0 : l0.length = 0
    · obtain rfl := List.eq_nil_of_length_eq_zero h0
      refine (Tryd.strings_Join_none A0 c0 a1 w).mono ?_
      rintro e w' ⟨rfl, rfl⟩
      exact ⟨rfl, Below.refl _ _⟩
    · obtain ⟨ad, rfl, hc⟩ := (Kd.reads_of_C (enc := Value.string) (d := ByteArray.empty) (h1 := fun _ => rfl) hr0).2.2 (by omega)
      have hc1 := hc 0 (by omega)
      have hsp : ad = ⟨ad.block, ad.off, none⟩ := x_spot (show w.cell? ad = _ from hc1)
      obtain ⟨b, o, s⟩ := ad
      obtain rfl : s = none := congrArg Addr.spot hsp
      refine (Tryd.strings_Join b o c0 l0 a1 w (fun j x hj => ?_) (World.block_lt_of_cell? w ⟨b, o, none⟩ hc1) hd.1 hc0 hd.2).mono ?_
      · obtain ⟨hl, rfl⟩ := List.getElem?_eq_some_iff.1 hj
        have := hc j hl
        rw [Lib.add_plain, List.getD_eq_getElem?_getD, hj] at this
        exact this
      · rintro e w' ⟨rfl, hb⟩
        exact ⟨rfl, hb⟩
  · cases h
end Go.Proofs.YtfoengihiaegoaaDoor.P
