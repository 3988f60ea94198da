/- slices.ContainsFunc over texts, at the closure that text.Write hands to it: is one no plain key? (The closure's call may lay blocks: the world is only 'below'.) -/
import Derived.Test.YtfoengihiaegoaaDoorXDefs
import Derived.Test.YtfoengihiaegoaaDoorShelf
import Derived.Shelf.SlicesQ.IndexFunc
import Derived.Test.YtfoengihiaegoaaDoorP49
namespace Go.Proofs.YtfoengihiaegoaaDoor.P
set_option linter.unusedVariables false
open Go.Shelf Go.RowKit Go.Lib Go.Proofs.YtfoengihiaegoaaDoorW.PrintWords
theorem x_spotS {w : World} {ad : Addr} {v : Value} (h : w.cell? (ad.add 0) = some v) : ad = ⟨ad.block, ad.off, none⟩ := by
  obtain ⟨b, o, s⟩ := ad
  cases s with
  | none => rfl
  | some s => unfold World.cell? at h; split at h <;> simp [Addr.add] at h
set_option maxHeartbeats 2000000 in
theorem index_texts (p : ByteArray → Bool) (g : Nat) (eg : ∀ args w, (callFunc g args).run Tryd.prog w = .ok (.enter g args) w) (b off c : Nat) (zs : List ByteArray) (w : World)
    (hp : PredBelow Tryd.prog g #[] Value.string p w) (hbig : zs.length ≤ 9223372036854775807) (hb : b < w.heap.size) (hc : ∀ j, j < zs.length → w.cell? ⟨b, off + j, none⟩ = some (.string (zs.getD j ByteArray.empty))) :
    Calls Tryd.prog 70 #[.slice (some ⟨b, off, none⟩) zs.length c, .func (.func g) #[] #[]] w fun e w' => e = .returned (.int .i64 (Lib.idxBy (fun _ y => p y) zs ByteArray.empty)) ∧ Below w.heap.size w w' := by
  have hrow : ∀ (W : World), Below w.heap.size w W → ∀ j, j < zs.length → W.cell? ⟨b, off + j, none⟩ = some (.string (zs.getD j ByteArray.empty)) := fun W hW j hj => (hW.cell (p := ⟨b, off + j, none⟩) hb).trans (hc j hj)
  clear hc
  have hd : ∀ j, j < zs.length → zs.getD j ByteArray.empty = zs[j]! := fun j hj => by
    rw [List.getD_eq_getElem?_getD, List.getElem?_eq_getElem hj, getElem!_pos zs j hj]
    rfl
  have HD := Lib.hid hd
  clear hd
  go_enter Tryd.func70, Tryd.ntmps70
  go_wp2
  go_loopg [5, 8] zs.length (fun gg _ s8 wr => ∃ kk : Nat, kk ≤ zs.length ∧ zs.length - kk ≤ gg ∧ s8 = .int .i64 kk ∧ Aside (Below w.heap.size w wr) ∧ Aside (∀ j, j < kk → p (zs[j]!) = false))
  case atStart => exact ⟨0, Nat.zero_le _, by omega, rfl, Below.refl _ w, fun j hj => absurd hj (Nat.not_lt_zero _)⟩
  case round =>
    obtain ⟨kk, hkk, hg, rfl, BW, A⟩ := hrel
    by_cases hlt : kk < zs.length
    · have hltz : (kk : Int) < (zs.length : Int) := by omega
      have l2 := hrow wr BW.out kk (by omega)
      have hcall := hp wr (zs.getD kk ByteArray.empty) BW.out
      clear hrow hp
      generalize hy : zs.getD kk ByteArray.empty = y at l2 hcall
      have B : Aside (zs[kk]! = y) := (HD.out kk hlt).symm.trans hy
      clear hy
      cases hq : p y with
      | true =>
        rw [hq] at hcall
        go_wp2_with (go_at_fn g; refine hcall.mono ?_; rintro e w' ⟨rfl, hb'⟩)
        go_ret
        refine ⟨?_, hb'⟩
        have h := Lib.idxBy_hit (fun _ y => p y) zs zs.length kk ByteArray.empty hlt (Nat.le_refl _) (by show p zs[kk]! = true; rw [B.out]; exact hq) A.out
        rw [List.take_length] at h
        rw [h]
        rfl
      | false =>
        rw [hq] at hcall
        go_wp2_with (go_at_fn g; refine hcall.mono ?_; rintro e w' ⟨rfl, hb'⟩)
        go_roundg (zs.length - (kk + 1))
        case measure => omega
        case rel =>
          refine ⟨kk + 1, by omega, by omega, by go_num, hb', (show Aside _ from fun j hj => ?_)⟩
          by_cases e : j = kk
          · subst e
            rw [B.out]; exact hq
          · exact A.out j (by omega)
    · have hltz : ¬ (kk : Int) < (zs.length : Int) := by omega
      have hkk2 : kk = zs.length := by omega
      subst hkk2
      go_wp2
      go_ret
      refine ⟨?_, BW.out⟩
      have h := Lib.idxBy_miss (fun _ y => p y) zs zs.length ByteArray.empty A.out
      rw [List.take_length] at h
      rw [h]
      rfl
theorem contains_texts (p : ByteArray → Bool) (g : Nat) (eg : ∀ args w, (callFunc g args).run Tryd.prog w = .ok (.enter g args) w)
    (hp : ∀ (W : World) (x : ByteArray), Calls Tryd.prog g #[.string x] W fun e w' => e = .returned (.bool (p x)) ∧ Below W.heap.size W w')
    (A0 : Option Addr) (c0 : Nat) (l0 : List ByteArray) (w : World) (hr0 : Kd.C Kd.string w A0 l0.length l0) :
    Calls Tryd.prog 32 #[.slice A0 l0.length c0, .func (.func g) #[] #[]] w fun e w' => e = .returned (.bool (l0.any p)) ∧ Below w.heap.size w w' := by
  by_cases h0 : l0.length = 0
  · obtain rfl := List.eq_nil_of_length_eq_zero h0
    refine (Tryd.slices_ContainsFunc_empty (α := ByteArray) A0 c0 _ w).mono ?_
    rintro e w' ⟨rfl, rfl⟩
    exact ⟨rfl, Below.refl _ _⟩
  · obtain ⟨ad, rfl, hc⟩ := (Kd.reads_of_C (enc := Value.string) (d := ByteArray.empty) (h1 := fun _ => rfl) hr0).2.2 (by omega)
    have hc1 := hc 0 (by omega)
    have hsp : ad = ⟨ad.block, ad.off, none⟩ := x_spotS hc1
    obtain ⟨b, o, s⟩ := ad
    obtain rfl : s = none := congrArg Addr.spot hsp
    have hb : b < w.heap.size := World.block_lt_of_cell? w _ hc1
    have hbig : l0.length ≤ 9223372036854775807 := Kd.C_max hr0
    have hP : PredBelow Tryd.prog g #[] Value.string p w := fun W x hW => (hp W x).mono fun _ _ h => ⟨h.1, hW.trans (h.2.mono hW.size)⟩
    have hix := index_texts p g eg b o c0 l0 w hP hbig hb (fun j hj => by have := hc j hj; rw [Lib.add_plain] at this; exact this)
    have he : l0.any p = decide (0 ≤ Lib.idxBy (fun _ y => p y) l0 ByteArray.empty) := (Lib.idxBy_nonneg_iff (fun _ y => p y) l0 ByteArray.empty).symm
    rw [he]
    clear hc hc1 hP hsp hp he
    go_enter Tryd.func32, Tryd.ntmps32
    go_wp2_with (go_at_call 70; refine hix.mono ?_; rintro e w' ⟨rfl, hb'⟩)
    go_ret
    exact ⟨rfl, hb'⟩
theorem key_odd (x : ByteArray) : text_Write_1.f x = some (!plainKey x) := by
  unfold text_Write_1.f text_plain.f plainKey
  rw [Option.bind_some]
  by_cases h1 : 1 ≤ x.size
  · by_cases h2 : x.size ≤ 32
    · rw [if_pos h1, if_pos (by omega), decide_eq_true h1, decide_eq_true h2]; rfl
    · rw [if_pos h1, if_neg (by omega), decide_eq_false h2, Bool.and_false]; rfl
  · rw [if_neg h1, decide_eq_false h1]; rfl
theorem anyOddKey.calls (A0 : Option Addr) (c0 : Nat) (l0 : List ByteArray) (a1 : Unit) (r : Bool) (w : World) (hr0 : Kd.C Kd.string w A0 l0.length l0) (hc0 : l0.length ≤ c0) (h : anyOddKey.f l0 a1 = some r) :
    Calls Tryd.prog 32 #[.slice A0 l0.length c0, .func (.func 33) #[] #[]] w fun e w' => e = .returned (.bool r) ∧ Below w.heap.size w w' := by
  obtain rfl := Option.some.inj h
  exact contains_texts _ _ (enters_of Tryd.func33 (by kernel_rfl) rfl) (fun W x => text_Write_1.calls x _ W (key_odd x)) A0 c0 l0 w hr0
end Go.Proofs.YtfoengihiaegoaaDoor.P
