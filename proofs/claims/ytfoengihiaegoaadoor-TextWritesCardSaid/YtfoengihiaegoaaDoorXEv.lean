/- 'With enough rounds, it comes to r': how the printed functions' rounds are told in the plain laws. -/
import Derived.Test.YtfoengihiaegoaaDoorXDefs
namespace Go.Proofs.YtfoengihiaegoaaDoor.P
open Go.RowKit Go.Proofs.YtfoengihiaegoaaDoorW.PrintWords
def Evt {α : Type} (g : Nat → Option α) (r : α) : Prop := ∃ K, ∀ k, K ≤ k → g k = some r
theorem Evt.now {α : Type} {x : Option α} {r : α} (h : x = some r) : Evt (fun _ => x) r := ⟨0, fun _ _ => h⟩
theorem Evt.done {α : Type} (r : α) : Evt (fun _ => some r) r := ⟨0, fun _ _ => rfl⟩
theorem Evt.succ {α : Type} {g : Nat → Option α} {r : α} (h : Evt (fun k => g (k + 1)) r) : Evt g r := by
  obtain ⟨K, hK⟩ := h
  refine ⟨K + 1, fun k hk => ?_⟩
  obtain ⟨j, rfl⟩ : ∃ j, k = j + 1 := ⟨k - 1, by omega⟩
  exact hK j (by omega)
theorem Evt.bind {α β : Type} {g : Nat → Option α} {f : Nat → α → Option β} {a : α} {r : β} (hg : Evt g a) (hf : Evt (fun k => f k a) r) : Evt (fun k => (g k).bind (f k)) r := by
  obtain ⟨K, hK⟩ := hg
  obtain ⟨L, hL⟩ := hf
  refine ⟨max K L, fun k hk => ?_⟩
  show (g k).bind (f k) = some r
  rw [hK k (by omega), Option.bind_some]
  exact hL k (by omega)
theorem Evt.cast {α : Type} {g : Nat → Option α} {r r' : α} (h : Evt g r) (e : r = r') : Evt g r' := e ▸ h
theorem Evt.at_ {α : Type} {g : Nat → Option α} {r : α} (h : Evt g r) : ∃ k, g k = some r := h.imp fun K hK => hK K (Nat.le_refl _)
theorem Evt.ite {α : Type} {c : Prop} [Decidable c] {f g : Nat → Option α} {r : α} (h : c → Evt f r) (h' : ¬ c → Evt g r) : Evt (fun k => if c then f k else g k) r := by
  by_cases hc : c
  · obtain ⟨K, hK⟩ := h hc
    exact ⟨K, fun k hk => by show (if c then f k else g k) = some r; rw [if_pos hc]; exact hK k hk⟩
  · obtain ⟨K, hK⟩ := h' hc
    exact ⟨K, fun k hk => by show (if c then f k else g k) = some r; rw [if_neg hc]; exact hK k hk⟩
theorem Evt.pos {α : Type} {c : Prop} [Decidable c] {f g : Nat → Option α} {r : α} (hc : c) (h : Evt f r) : Evt (fun k => if c then f k else g k) r := Evt.ite (fun _ => h) (fun n => absurd hc n)
theorem Evt.neg {α : Type} {c : Prop} [Decidable c] {f g : Nat → Option α} {r : α} (hc : ¬ c) (h : Evt g r) : Evt (fun k => if c then f k else g k) r := Evt.ite (fun n => absurd n hc) (fun _ => h)
theorem rdS_at (xs : List ByteArray) (i : Nat) (h : i < xs.length) : rdOf ByteArray.empty xs (i : Int) = xs[i] := by
  unfold rdOf
  rw [Int.toNat_natCast, List.getD_eq_getElem?_getD, List.getElem?_eq_getElem h, Option.getD_some]
theorem wrapN_succ (i : Nat) (h : i < 9223372036854775807) : wrap64 ((i : Int) + 1) = ((i + 1 : Nat) : Int) := by
  unfold wrap64
  omega
theorem toList_inj {a b : ByteArray} : a.toList = b.toList ↔ a = b := by
  rw [ByteArray.toList_eq, ByteArray.toList_eq]
  constructor
  · intro h; exact ByteArray.ext (Array.toList_inj.1 h)
  · rintro rfl; rfl
theorem nil_size (s : ByteArray) : (s.toList = ([] : List UInt8)) ↔ s.size = 0 := by
  rw [ByteArray.toList_eq]
  constructor
  · intro h; have e : s.data.toList.length = s.size := Array.length_toList; rw [h] at e; exact e.symm
  · intro h; exact List.eq_nil_of_length_eq_zero ((Array.length_toList : s.data.toList.length = s.size).trans h)
theorem beq_dec (a b : Int) : (a == b) = decide (a = b) := by by_cases h : a = b <;> simp [h]
theorem bne_dec (a b : Int) : (a != b) = !decide (a = b) := by by_cases h : a = b <;> simp [h]
end Go.Proofs.YtfoengihiaegoaaDoor.P
