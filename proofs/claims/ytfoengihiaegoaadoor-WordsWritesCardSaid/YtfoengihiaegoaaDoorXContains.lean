/- slices.ContainsFunc over items, at the two closures that the words' code hands to it: is one bad, has one a key that is not plain? -/
import Derived.Test.YtfoengihiaegoaaDoorXDefs
import Derived.Test.YtfoengihiaegoaaDoorShelf
import Derived.Shelf.SlicesQ.IndexFunc
import Derived.Test.YtfoengihiaegoaaDoorP44
import Derived.Test.YtfoengihiaegoaaDoorP44
import Derived.Test.YtfoengihiaegoaaDoorP44
import Derived.Test.YtfoengihiaegoaaDoorP44
namespace Go.Proofs.YtfoengihiaegoaaDoor.P
set_option linter.unusedVariables false
open Go.Shelf Go.RowKit Go.Lib Go.Proofs.YtfoengihiaegoaaDoorW.PrintWords

theorem x_spot5 {w : World} {ad : Addr} {v : Value} (h : w.cell? (ad.add 0) = some v) : ad = ⟨ad.block, ad.off, none⟩ := by
  obtain ⟨b, o, s⟩ := ad
  cases s with
  | none => rfl
  | some s => unfold World.cell? at h; split at h <;> simp [Addr.add] at h
instance : Inhabited S56 := ⟨z56⟩
def encItem (x : S56) : List Value := [.string x.f0, .string x.f1, .int .u32 x.f2, .int .i64 x.f3, .int .u64 x.f4]
theorem rd_item (xs : List S56) (j : Nat) : rd_T56 xs (j : Int) = xs[j]! := by
  unfold rd_T56
  rw [Int.toNat_natCast, List.getD_eq_getElem?_getD, getElem!_def]
  cases xs[j]? <;> rfl
set_option maxHeartbeats 1000000 in
theorem contains_none (fv : Value) (a : Option Addr) (c : Nat) (w : World) :
    Calls Tryd.prog 21 #[.slice a 0 c, fv] w fun e w' => e = .returned (.bool false) ∧ w' = w := by
  have h6 : Calls Tryd.prog 55 #[.slice a 0 c, fv] w fun e w' => e = .returned (.int .i64 (-1)) ∧ w' = w := by
    go_enter Tryd.func55, Tryd.ntmps55
    go_wp2
    go_loopg [5, 8] 0 (fun _ _ s8 wr => s8 = .int .i64 0 ∧ wr = w)
    case atStart => exact ⟨rfl, rfl⟩
    case round =>
      obtain ⟨rfl, rfl⟩ := hrel
      go_wp2
      go_ret
      exact ⟨rfl, rfl⟩
  go_enter Tryd.func21, Tryd.ntmps21
  go_wp2_with (go_at_call 55; refine h6.mono ?_; rintro e w' ⟨rfl, rfl⟩)
  go_ret
  exact ⟨rfl, rfl⟩
theorem contains_items (g : Nat) (p : S56 → Bool) (eg : ∀ args w, (callFunc g args).run Tryd.prog w = .ok (.enter g args) w)
    (hp : ∀ (W : World) (x : S56), Calls Tryd.prog g #[.agg (encItem x).toArray] W fun e w' => e = .returned (.bool (p x)) ∧ Below W.heap.size W w')
    (A0 : Option Addr) (c0 : Nat) (l0 : List (S56)) (w : World) (hr0 : Kd.C k56 w A0 l0.length l0) :
    Calls Tryd.prog 21 #[.slice A0 l0.length c0, .func (.func g) #[] #[]] w fun e w' => e = .returned (.bool (l0.any p)) ∧ Below w.heap.size w w' := by
  by_cases h0 : l0.length = 0
  · obtain rfl := List.eq_nil_of_length_eq_zero h0
    refine (contains_none _ A0 c0 w).mono ?_
    rintro e w' ⟨rfl, rfl⟩
    exact ⟨rfl, Below.refl _ _⟩
  · obtain ⟨ad, rfl, hc0, -⟩ := at_T56 hr0 0 (by omega) (by omega)
    have hsp := x_spot5 (ad := ad) (by simpa using hc0)
    obtain ⟨b, o, s⟩ := ad
    obtain rfl : s = none := congrArg Addr.spot hsp
    have hb : b < w.heap.size := World.block_lt_of_cell? w _ hc0
    have hrow : ∀ j, j < l0.length → ∀ i v, (encItem l0[j]!)[i]? = some v → w.cell? ⟨b, o + j * 5 + i, none⟩ = some v := by
      intro j hj i v hi
      obtain ⟨ad2, e2, g0, g1, g2, g3, g4⟩ := at_T56 hr0 (j : Int) (by omega) (by omega)
      injection e2 with e2
      subst e2
      rw [rd_item] at g0 g1 g2 g3 g4
      rw [Int.toNat_natCast] at g0 g1 g2 g3 g4
      rcases i with _ | _ | _ | _ | _ | i
      · obtain rfl := Option.some.inj hi; rw [Lib.add_plain] at g0; exact g0
      · obtain rfl := Option.some.inj hi; rw [Lib.add_plain] at g1; exact g1
      · obtain rfl := Option.some.inj hi; rw [Lib.add_plain] at g2; exact g2
      · obtain rfl := Option.some.inj hi; rw [Lib.add_plain] at g3; exact g3
      · obtain rfl := Option.some.inj hi; rw [Lib.add_plain] at g4; exact g4
      · simp [encItem] at hi
    have hbig : l0.length ≤ 9223372036854775807 := Kd.C_max hr0
    have h := AnyQ.slices_ContainsFunc Tryd.lays_ContainsFunc_api_Item 5 Tryd.isAgg56 Tryd.sizeOf56 encItem (fun _ => rfl) p g #[] eg b o l0.length c0 l0 w
      (fun W x hb => (hp W x).mono fun _ _ h => ⟨h.1, hb.trans (h.2.mono hb.size)⟩) (Nat.le_refl _) hbig hb hrow
    rw [List.take_length] at h
    exact h

theorem item_bad (x : S56) : words_result_1.f 1 x.f0 x.f1 x.f2 x.f3 x.f4 = some (!itemOk x) := by
  unfold words_result_1.f item_Check.f itemOk
  simp only [item_Check.j0]
  have e1 : decide (1 ≤ x.f0.size) = !decide ((x.f0.size : Int) < 1) := by rw [← decide_not]; exact decide_eq_decide.2 (by omega)
  have e2 : decide (x.f0.size ≤ 32) = !decide ((x.f0.size : Int) > 32) := by rw [← decide_not]; exact decide_eq_decide.2 (by omega)
  have e3 : decide (x.f1.size ≤ 512) = !decide ((x.f1.size : Int) > 512) := by rw [← decide_not]; exact decide_eq_decide.2 (by omega)
  rw [e1, e2, e3]
  by_cases h1 : (x.f0.size : Int) < 1 <;> by_cases h2 : (x.f0.size : Int) > 32 <;> by_cases h3 : (x.f1.size : Int) > 512 <;> by_cases h4 : x.f3 ≥ 0 <;> by_cases h5 : x.f3 ≤ 1099511627776 <;>
    simp [h1, h2, h3, h4, h5, item_moment.f]
theorem anyBadItem.calls (A0 : Option Addr) (c0 : Nat) (l0 : List (S56)) (a1 : Unit) (r : Bool) (w : World) (hr0 : Kd.C k56 w A0 l0.length l0) (hc0 : l0.length ≤ c0) (h : anyBadItem.f l0 a1 = some r) :
    Calls Tryd.prog 21 #[.slice A0 l0.length c0, .func (.func 66) #[] #[]] w fun e w' => e = .returned (.bool r) ∧ Below w.heap.size w w' := by
  obtain rfl := Option.some.inj h
  exact contains_items _ _ (enters_of Tryd.func66 (by kernel_rfl) rfl) (fun W x => words_result_1.calls 1 _ _ _ _ _ _ W (item_bad x)) A0 c0 l0 w hr0
theorem anyOddItem.calls (A0 : Option Addr) (c0 : Nat) (l0 : List (S56)) (a1 : Unit) (r : Bool) (w : World) (hr0 : Kd.C k56 w A0 l0.length l0) (hc0 : l0.length ≤ c0) (h : anyOddItem.f l0 a1 = some r) :
    Calls Tryd.prog 21 #[.slice A0 l0.length c0, .func (.func 22) #[] #[]] w fun e w' => e = .returned (.bool r) ∧ Below w.heap.size w w' := by
  obtain rfl := Option.some.inj h
  exact contains_items _ _ (enters_of Tryd.func22 (by kernel_rfl) rfl) (fun W x => words_Write_1.calls _ _ _ _ _ _ W (by simp [words_Write_1.f, words_plain.f])) A0 c0 l0 w hr0
end Go.Proofs.YtfoengihiaegoaaDoor.P
