/- The plain law of requests: what text.Write writes, and what the document writes, is one: 'writeReq'. -/
import Derived.Test.YtfoengihiaegoaaDoorP24
import Derived.Test.YtfoengihiaegoaaDoorP23
import Derived.Test.YtfoengihiaegoaaDoorP17
import Derived.Test.YtfoengihiaegoaaDoorP16
import Derived.Test.YtfoengihiaegoaaDoorP31
import Derived.Test.YtfoengihiaegoaaDoorP30
import Derived.Test.YtfoengihiaegoaaDoorP10
import Derived.Test.YtfoengihiaegoaaDoorP26
import Derived.Test.YtfoengihiaegoaaDoorP25
import Derived.Test.YtfoengihiaegoaaDoorP15
import Derived.Test.YtfoengihiaegoaaDoorXPureCmd
import Derived.Test.YtfoengihiaegoaaDoorXPureLines
namespace Go.Proofs.YtfoengihiaegoaaDoor.P
open Go.RowKit Go.Proofs.YtfoengihiaegoaaDoorW.PrintWords
set_option linter.unusedVariables false
set_option linter.unusedSimpArgs false
theorem plainKey_eq (s : ByteArray) (m : Nat) : text_plain.f s (m : Int) = some (decide (1 ≤ s.size) && decide (s.size ≤ m) && isPlain s) := by
  unfold text_plain.f
  by_cases h1 : 1 ≤ s.size
  · by_cases h2 : s.size ≤ m
    · rw [if_pos h1, if_pos (by omega), decide_eq_true h1, decide_eq_true h2]; rfl
    · rw [if_pos h1, if_neg (by omega), decide_eq_false h2, Bool.and_false]; rfl
  · rw [if_neg h1, decide_eq_false h1]; rfl
section
variable (kind ckind tenant : Int) (keys : List ByteArray) (value : ByteArray) (flags for_ unique by_ ten : Int) (secret : ByteArray) (on close : Bool)
theorem bare_eq : text_bare.f kind ckind tenant keys value flags for_ unique by_ ten secret on close = some (bareCmd ckind tenant keys value flags for_ unique by_) := by
  unfold text_bare.f bareCmd
  have e : keys.isEmpty = decide ((keys.length : Int) = 0) := by cases keys <;> simp; omega
  simp only [nil_size, beq_dec, e]
  by_cases h1 : ckind = 0
  rotate_left; · simp [h1]
  by_cases h2 : tenant = 0
  rotate_left; · simp [h1, h2]
  by_cases h3 : (keys.length : Int) = 0
  rotate_left; · simp only [h1, h2, h3, if_true, if_false, decide_true, decide_false, Bool.true_and, Bool.false_and]
  by_cases h4 : value.size = 0
  rotate_left; · simp only [h1, h2, h3, h4, if_true, if_false, decide_true, decide_false, Bool.true_and, Bool.false_and]
  by_cases h5 : flags = 0
  rotate_left; · simp only [h1, h2, h3, h4, h5, if_true, if_false, decide_true, decide_false, Bool.true_and, Bool.false_and]
  by_cases h6 : for_ = 0
  rotate_left; · simp only [h1, h2, h3, h4, h5, h6, if_true, if_false, decide_true, decide_false, Bool.true_and, Bool.false_and]
  by_cases h7 : unique = 0
  rotate_left; · simp only [h1, h2, h3, h4, h5, h6, h7, if_true, if_false, decide_true, decide_false, Bool.true_and, Bool.false_and]
  simp only [h1, h2, h3, h4, h5, h6, h7, if_true, decide_true, Bool.true_and]
theorem fits_eq : text_fits.f kind ckind tenant keys value flags for_ unique by_ ten secret on close = some (reqFits kind ckind tenant keys value flags for_ unique by_ ten secret on close) := by
  have hp := plainKey_eq secret 16
  rw [show ((16 : Nat) : Int) = 16 from rfl] at hp
  unfold text_fits.f reqFits
  simp only [bare_eq, hp, Option.bind_some, nil_size, beq_dec]
  generalize bareCmd ckind tenant keys value flags for_ unique by_ = B
  generalize isPlain secret = Pl
  generalize decide (1 ≤ secret.size) = S1
  generalize decide (secret.size ≤ 16) = S2
  cases close
  rotate_left; · simp
  have k12 : kind = 1 → ¬ kind = 2 := fun h => by omega
  by_cases h2 : kind = 2
  · have h1 : ¬ kind = 1 := by omega
    have h3 : ¬ kind = 3 := by omega
    cases on
    · cases B
      · simp [h2]
      · by_cases t0 : ten ≥ 0 <;> by_cases t4 : ten < 4 <;> simp [h2, t0, t4, Bool.and_assoc]
    · simp [h3]
  · by_cases h1 : kind = 1
    · cases on <;> by_cases t0 : ten = 0 <;> by_cases s0 : secret.size = 0 <;> simp [h1, t0, s0]
    · by_cases h3 : kind = 3 <;> cases on <;> cases B <;> by_cases t0 : ten = 0 <;> by_cases s0 : secret.size = 0 <;> simp [h1, h2, h3, t0, s0]
theorem nil_lit : (⟨#[]⟩ : ByteArray).toList = ([] : List UInt8) := (nil_size _).2 rfl
theorem same_j0 (b : Bool) (hb : b = false → keys = []) (a7 b7 : Int) (a8 : ByteArray) (c1 c2 c3 c4 : Int) (d1 d2 : Int) (e1 e2 e3 e4 : Int) : Evt (fun k => cloakroomref10_SameCommand.j0 k b d1 d2 keys value flags for_ unique by_ a7 b7 ([] : List ByteArray) a8 e1 e2 e3 e4) (!b) := by
  refine Evt.succ ?_
  simp only [cloakroomref10_SameCommand.j0]
  cases b with
  | true => exact Evt.done _
  | false =>
    rw [hb rfl]
    simp only [Bool.false_eq_true, if_false]
    refine Evt.succ ?_
    simp only [cloakroomref10_SameCommand.l0]
    exact Evt.neg (by simp) (Evt.done _)
theorem none_ev : Evt (fun k => cloakroomref14_none.f k ckind tenant keys value flags for_ unique by_) (bareCmd ckind tenant keys value flags for_ unique by_) := by
  unfold cloakroomref14_none.f
  refine Evt.bind ?_ (Evt.done _)
  unfold cloakroomref10_SameCommand.f bareCmd
  have e : ∀ b, Evt (fun k => cloakroomref10_SameCommand.j0 k true ckind tenant keys value flags for_ unique by_ 0 0 ([] : List ByteArray) (⟨#[]⟩ : ByteArray) 0 0 0 0) (false && b) := fun b => (same_j0 keys value flags for_ unique by_ true (fun h => by cases h) 0 0 _ 0 0 0 0 ckind tenant 0 0 0 0).cast rfl
  simp only [nil_lit, nil_size, beq_dec]
  by_cases h1 : ckind = 0
  rotate_left; · simp only [h1, if_false, decide_false, Bool.false_and]; exact e true
  by_cases h2 : tenant = 0
  rotate_left; · simp only [h2, if_false, decide_false, Bool.false_and, Bool.and_false]; exact Evt.ite (fun _ => e true) (fun _ => e true)
  by_cases h4 : value.size = 0
  rotate_left; · simp only [h4, if_false, decide_false, Bool.false_and, Bool.and_false]; exact Evt.ite (fun _ => Evt.ite (fun _ => e true) (fun _ => e true)) (fun _ => e true)
  by_cases h5 : flags = 0
  rotate_left; · simp only [h5, if_false, decide_false, Bool.false_and, Bool.and_false]; exact Evt.ite (fun _ => Evt.ite (fun _ => Evt.ite (fun _ => e true) (fun _ => e true)) (fun _ => e true)) (fun _ => e true)
  by_cases h6 : for_ = 0
  rotate_left; · simp only [h1, h2, h4, h5, h6, if_true, if_false, decide_false, Bool.false_and, Bool.and_false]; rw [h1, h2, h5] at e; exact e true
  by_cases h7 : unique = 0
  rotate_left; · simp only [h1, h2, h4, h5, h6, h7, if_true, if_false, decide_false, Bool.false_and, Bool.and_false]; rw [h1, h2, h5, h6] at e; exact e true
  by_cases h8 : by_ = 0
  rotate_left; · simp only [h1, h2, h4, h5, h6, h7, h8, if_true, if_false, decide_false, Bool.false_and, Bool.and_false]; rw [h1, h2, h5, h6, h7] at e; exact e true
  simp only [h1, h2, h4, h5, h6, h7, h8, if_true, decide_true, Bool.true_and, Bool.and_true]
  refine (same_j0 keys value 0 0 0 0 _ (fun h => ?_) 0 0 _ 0 0 0 0 0 0 0 0 0 0).cast ?_
  · cases keys with
    | nil => rfl
    | cons a l => exact absurd h (by simp; omega)
  · cases keys with
    | nil => rfl
    | cons a l =>
      have h1 : (((a :: l).length : Int) != (([] : List ByteArray).length : Int)) = true := bne_iff_ne.2 (by simp; omega)
      have h2 : decide (((a :: l).length : Int) = 0) = false := decide_eq_false (by simp; omega)
      rw [h1]
      simp
theorem Plain_ev (s : ByteArray) (m : Int) (hs : s.size < 9223372036854775807) : Evt (fun k => cloakroomref14_Plain.f k s m) (decide (1 ≤ s.size) && decide ((s.size : Int) ≤ m) && isPlain s) := by
  have h : ∀ f i, s.size - i = f → i ≤ s.size → Evt (fun k => cloakroomref14_Plain.l0 k s m (i : Int)) ((decide (1 ≤ s.size) && decide ((s.size : Int) ≤ m)) && plainFrom s i) := by
    intro f
    induction f with
    | zero =>
      intro i h1 h3
      refine Evt.succ ?_
      simp only [cloakroomref14_Plain.l0]
      refine Evt.neg (by omega) ?_
      rw [plainFrom_end s i (by omega), Bool.and_true]
      by_cases h0 : s.size = 0
      · exact Evt.pos ((nil_size s).2 h0) ((Evt.done _).cast (by rw [decide_eq_false (by omega), Bool.false_and]))
      · exact Evt.neg (fun e => h0 ((nil_size s).1 e)) ((Evt.done _).cast (by rw [decide_eq_true (show 1 ≤ s.size by omega), Bool.true_and]))
    | succ f ih =>
      intro i h1 h3
      have hi : i < s.size := by omega
      have hbt : bt s (i : Int) = ((s[i]'hi).toNat : Int) := by
        unfold bt
        simp [hi]
      refine Evt.succ ?_
      simp only [cloakroomref14_Plain.l0]
      refine Evt.pos (by omega) (Evt.pos (by omega) ?_)
      rw [plainFrom_step s i hi]
      simp only [hbt, wrapN_succ i (by omega)]
      by_cases h33 : ((s[i]'hi).toNat : Int) < 33
      · refine Evt.pos h33 ((Evt.done _).cast ?_)
        rw [decide_eq_false (show ¬ 33 ≤ (s[i]'hi).toNat by omega), Bool.false_and, Bool.false_and, Bool.and_false]
      · refine Evt.neg h33 ?_
        by_cases h126 : ((s[i]'hi).toNat : Int) > 126
        · refine Evt.pos h126 ((Evt.done _).cast ?_)
          rw [decide_eq_false (show ¬ (s[i]'hi).toNat ≤ 126 by omega), Bool.and_false, Bool.false_and, Bool.and_false]
        · refine Evt.neg h126 ((ih (i + 1) (by omega) (by omega)).cast ?_)
          rw [decide_eq_true (show 33 ≤ (s[i]'hi).toNat by omega), decide_eq_true (show (s[i]'hi).toNat ≤ 126 by omega), Bool.true_and, Bool.true_and]
  have h0 := h s.size 0 (by omega) (by omega)
  rw [← isPlain_eq] at h0
  unfold cloakroomref14_Plain.f
  exact h0
theorem text_ev (n : Int) (h : u64ok n = true) : Evt (fun k => cloakroomref09_Text.f k n) (txt (dec n)) := ⟨20, fun k hk => Text_dec n k h hk⟩
theorem textw_ev (n : Int) (h : u64ok n = true) : Evt (fun k => cloakroomref09_Text.f k (IntKind.u64.wrap n)) (txt (dec n)) := ⟨20, fun k hk => Text_wrap n k h hk⟩
theorem app_txt (s : ByteArray) (a b : List UInt8) : (s ++ txt a) ++ txt b = s ++ txt (a ++ b) := by
  apply ByteArray.ext
  simp [txt, ByteArray.data_append]
theorem app_size (s : ByteArray) (l : List UInt8) : (s ++ txt l).size = s.size + l.length := by rw [ByteArray.size_append, x_txt_size]
theorem blank : (⟨#[32]⟩ : ByteArray) = txt sp := rfl
theorem ends : (⟨#[13, 10]⟩ : ByteArray) = txt crlf := rfl
def T8 (value : ByteArray) : List UInt8 := crlf ++ (if puts kind || kind == 8 then chs value ++ crlf else [])
def T7 (value : ByteArray) (for_ : Int) : List UInt8 := (if kind = 9 then sp ++ dec for_ else []) ++ T8 kind value
def T5 (value : ByteArray) (for_ by_ : Int) : List UInt8 := (if kind = 6 ∨ kind = 7 then sp ++ dec by_ else []) ++ T7 kind value for_
def T4 (value : ByteArray) (for_ unique by_ : Int) : List UInt8 := (if kind = 5 then sp ++ dec unique else []) ++ T5 kind value for_ by_
def T3 (value : ByteArray) (for_ unique by_ : Int) : List UInt8 := (if puts kind || kind == 8 then sp ++ dec value.size else []) ++ T4 kind value for_ unique by_
def T2 (value : ByteArray) (flags for_ unique by_ : Int) : List UInt8 := (if puts kind then sp ++ dec flags ++ sp ++ dec for_ else []) ++ T3 kind value for_ unique by_
theorem puts_eq : puts kind = (decide (kind ≥ 2) && decide (kind ≤ 5)) := rfl
theorem line_end (s : ByteArray) (hs : s.size ≤ 5000) (hv : value.size ≤ 5000) (g : Nat → Option ByteArray)
    (hg : g = fun _ => if kind ≥ 2 then (if kind ≤ 5 then (if (s ++ txt crlf).size + value.size ≤ 9223372036854775807 then (if ((s ++ txt crlf) ++ value).size + 2 ≤ 9223372036854775807 then (some (((s ++ txt crlf) ++ value) ++ txt crlf)) else (none)) else (none)) else (if kind = 8 then (if (s ++ txt crlf).size + value.size ≤ 9223372036854775807 then (if ((s ++ txt crlf) ++ value).size + 2 ≤ 9223372036854775807 then (some (((s ++ txt crlf) ++ value) ++ txt crlf)) else (none)) else (none)) else (some (s ++ txt crlf))))
      else (if kind = 8 then (if (s ++ txt crlf).size + value.size ≤ 9223372036854775807 then (if ((s ++ txt crlf) ++ value).size + 2 ≤ 9223372036854775807 then (some (((s ++ txt crlf) ++ value) ++ txt crlf)) else (none)) else (none)) else (some (s ++ txt crlf)))) : Evt g (s ++ txt (T8 kind value)) := by
  subst hg
  have hc : crlf.length = 2 := rfl
  have e1 : (s ++ txt crlf).size + value.size ≤ 9223372036854775807 := by rw [app_size]; omega
  have e2 : ((s ++ txt crlf) ++ value).size + 2 ≤ 9223372036854775807 := by rw [ByteArray.size_append, app_size]; omega
  have e3 : ((s ++ txt crlf) ++ value) ++ txt crlf = s ++ txt (crlf ++ (chs value ++ crlf)) := by
    apply ByteArray.ext
    apply Array.toList_inj.1
    simp [txt, chs, ByteArray.data_append]
  simp only [if_pos e1, if_pos e2, e3, T8, puts_eq, beq_dec]
  by_cases h2 : kind ≥ 2 <;> by_cases h5 : kind ≤ 5 <;> by_cases h8 : kind = 8 <;> first | (exfalso; omega) | (simp only [h2, h5, h8, if_true, if_false, decide_true, decide_false, Bool.true_and, Bool.and_true, Bool.or_true, Bool.true_or, Bool.or_self, Bool.false_and, Bool.and_false, Bool.false_or, Bool.or_false, Bool.false_eq_true, List.append_nil]; exact Evt.done _)
variable (hv : value.size ≤ 2000) (hfl : u64ok flags = true) (hfo : u64ok for_ = true) (hun : u64ok unique = true) (hby : u64ok by_ = true)
include hfo hv in
theorem line_j8 (s : ByteArray) (hs : s.size ≤ 4800) : Evt (fun k => cloakroomref14_line.j8 k s kind tenant keys value flags for_ unique by_) (s ++ txt (T7 kind value for_)) := by
  refine Evt.succ ?_
  simp only [cloakroomref14_line.j8]
  have hd := x_dec_len for_ hfo
  by_cases h9 : kind = 9
  · refine Evt.pos h9 (Evt.pos (by omega) (Evt.bind (textw_ev for_ hfo) ?_))
    have e1 : (s ++ (⟨#[32]⟩ : ByteArray)).size = s.size + 1 := by rw [ByteArray.size_append]; rfl
    have e2 : ((s ++ (⟨#[32]⟩ : ByteArray)) ++ txt (dec for_)).size = s.size + 1 + (dec for_).length := by rw [ByteArray.size_append, e1, x_txt_size]
    refine Evt.pos (by rw [e1, x_txt_size]; omega) (Evt.pos (by rw [e2]; omega) ?_)
    have e3 : (s ++ (⟨#[32]⟩ : ByteArray)) ++ txt (dec for_) = s ++ txt (sp ++ dec for_) := app_txt s sp (dec for_)
    simp only [e3, ends]
    refine (line_end kind value (s ++ txt (sp ++ dec for_)) (by rw [app_size]; simp only [sp, List.length_append, List.length_cons, List.length_nil]; omega) (by omega) _ rfl).cast ?_
    rw [app_txt]
    unfold T7
    rw [if_pos h9]
  · refine Evt.neg h9 (Evt.pos (by omega) ?_)
    simp only [ends]
    refine (line_end kind value s (by omega) (by omega) _ rfl).cast ?_
    unfold T7
    rw [if_neg h9]
    rfl
include hfo hv hby in
theorem line_j7 (s : ByteArray) (hs : s.size ≤ 4700) (b : Bool) (hb : b = decide (kind = 6 ∨ kind = 7)) : Evt (fun k => cloakroomref14_line.j7 k s b kind tenant keys value flags for_ unique by_) (s ++ txt (T5 kind value for_ by_)) := by
  refine Evt.succ ?_
  simp only [cloakroomref14_line.j7]
  have hd := x_dec_len by_ hby
  by_cases h : kind = 6 ∨ kind = 7
  · rw [decide_eq_true h] at hb
    refine Evt.pos hb (Evt.pos (by omega) (Evt.bind (text_ev by_ hby) ?_))
    have e1 : (s ++ (⟨#[32]⟩ : ByteArray)).size = s.size + 1 := by rw [ByteArray.size_append]; rfl
    refine Evt.pos (by rw [e1, x_txt_size]; omega) ?_
    have e3 : (s ++ (⟨#[32]⟩ : ByteArray)) ++ txt (dec by_) = s ++ txt (sp ++ dec by_) := app_txt s sp (dec by_)
    simp only [e3]
    refine (line_j8 kind tenant keys value flags for_ unique by_ hv hfo _ (by rw [app_size]; simp only [sp, List.length_append, List.length_cons, List.length_nil]; omega)).cast ?_
    rw [app_txt]
    unfold T5
    rw [if_pos h]
  · rw [decide_eq_false h] at hb
    refine Evt.neg (by rw [hb]; decide) ((line_j8 kind tenant keys value flags for_ unique by_ hv hfo s (by omega)).cast ?_)
    unfold T5
    rw [if_neg h]
    rfl
include hfo hv hby in
theorem line_j6 (s : ByteArray) (hs : s.size ≤ 4700) : Evt (fun k => cloakroomref14_line.j6 k s kind tenant keys value flags for_ unique by_) (s ++ txt (T5 kind value for_ by_)) := by
  refine Evt.succ ?_
  simp only [cloakroomref14_line.j6]
  by_cases h6 : kind = 6
  · exact Evt.pos h6 (line_j7 kind tenant keys value flags for_ unique by_ hv hfo hby s hs true (by simp [h6]))
  · exact Evt.neg h6 (line_j7 kind tenant keys value flags for_ unique by_ hv hfo hby s hs _ (by rw [beq_dec]; simp [h6]))
include hfo hv hby hun in
theorem line_j5 (s : ByteArray) (hs : s.size ≤ 4600) : Evt (fun k => cloakroomref14_line.j5 k s kind tenant keys value flags for_ unique by_) (s ++ txt (T4 kind value for_ unique by_)) := by
  refine Evt.succ ?_
  simp only [cloakroomref14_line.j5]
  have hd := x_dec_len unique hun
  by_cases h : kind = 5
  · refine Evt.pos h (Evt.pos (by omega) (Evt.bind (text_ev unique hun) ?_))
    have e1 : (s ++ (⟨#[32]⟩ : ByteArray)).size = s.size + 1 := by rw [ByteArray.size_append]; rfl
    refine Evt.pos (by rw [e1, x_txt_size]; omega) ?_
    have e3 : (s ++ (⟨#[32]⟩ : ByteArray)) ++ txt (dec unique) = s ++ txt (sp ++ dec unique) := app_txt s sp (dec unique)
    simp only [e3]
    refine (line_j6 kind tenant keys value flags for_ unique by_ hv hfo hby _ (by rw [app_size]; simp only [sp, List.length_append, List.length_cons, List.length_nil]; omega)).cast ?_
    rw [app_txt]
    unfold T4
    rw [if_pos h]
  · refine Evt.neg h ((line_j6 kind tenant keys value flags for_ unique by_ hv hfo hby s (by omega)).cast ?_)
    unfold T4
    rw [if_neg h]
    rfl
include hfo hv hby hun in
theorem line_j4 (s : ByteArray) (hs : s.size ≤ 4500) (b : Bool) (hb : b = (puts kind || kind == 8)) : Evt (fun k => cloakroomref14_line.j4 k s b kind tenant keys value flags for_ unique by_) (s ++ txt (T3 kind value for_ unique by_)) := by
  refine Evt.succ ?_
  simp only [cloakroomref14_line.j4]
  have hu : u64ok (value.size : Int) = true := by simp only [u64ok, Bool.and_eq_true, decide_eq_true_eq]; omega
  have hd := x_dec_len _ hu
  unfold T3
  rw [← hb]
  cases b with
  | true =>
    refine Evt.pos rfl (Evt.pos (by omega) (Evt.bind (textw_ev _ hu) ?_))
    have e1 : (s ++ (⟨#[32]⟩ : ByteArray)).size = s.size + 1 := by rw [ByteArray.size_append]; rfl
    refine Evt.pos (by rw [e1, x_txt_size]; omega) ?_
    have e3 : (s ++ (⟨#[32]⟩ : ByteArray)) ++ txt (dec value.size) = s ++ txt (sp ++ dec value.size) := app_txt s sp (dec value.size)
    simp only [e3]
    refine (line_j5 kind tenant keys value flags for_ unique by_ hv hfo hun hby _ (by rw [app_size]; simp only [sp, List.length_append, List.length_cons, List.length_nil]; omega)).cast ?_
    rw [app_txt, if_pos trivial]
  | false =>
    refine Evt.neg (by decide) ((line_j5 kind tenant keys value flags for_ unique by_ hv hfo hun hby s (by omega)).cast ?_)
    rw [if_neg (by decide)]
    rfl
include hfo hv hby hun in
theorem line_j3 (s : ByteArray) (hs : s.size ≤ 4500) : Evt (fun k => cloakroomref14_line.j3 k s kind tenant keys value flags for_ unique by_) (s ++ txt (T3 kind value for_ unique by_)) := by
  refine Evt.succ ?_
  simp only [cloakroomref14_line.j3]
  have h4 := line_j4 kind tenant keys value flags for_ unique by_ hv hfo hun hby s hs
  by_cases h2 : kind ≥ 2
  · refine Evt.pos h2 ?_
    by_cases h5 : kind ≤ 5
    · exact Evt.pos h5 (h4 true (by rw [puts_eq, decide_eq_true h2, decide_eq_true h5]; rfl))
    · exact Evt.neg h5 (h4 _ (by rw [puts_eq, decide_eq_false h5, Bool.and_false, Bool.false_or]))
  · exact Evt.neg h2 (h4 _ (by rw [puts_eq, decide_eq_false h2, Bool.false_and, Bool.false_or]))
include hfo hv hby hun hfl in
theorem line_j2 (s : ByteArray) (hs : s.size ≤ 4400) (b : Bool) (hb : b = puts kind) : Evt (fun k => cloakroomref14_line.j2 k s b kind tenant keys value flags for_ unique by_) (s ++ txt (T2 kind value flags for_ unique by_)) := by
  refine Evt.succ ?_
  simp only [cloakroomref14_line.j2]
  have hd := x_dec_len flags hfl
  have hd2 := x_dec_len for_ hfo
  unfold T2
  rw [← hb]
  cases b with
  | true =>
    refine Evt.pos rfl (Evt.pos (by omega) (Evt.bind (textw_ev _ hfl) ?_))
    have e1 : (s ++ (⟨#[32]⟩ : ByteArray)).size = s.size + 1 := by rw [ByteArray.size_append]; rfl
    have e2 : ((s ++ (⟨#[32]⟩ : ByteArray)) ++ txt (dec flags)).size = s.size + 1 + (dec flags).length := by rw [ByteArray.size_append, e1, x_txt_size]
    have e4 : (((s ++ (⟨#[32]⟩ : ByteArray)) ++ txt (dec flags)) ++ (⟨#[32]⟩ : ByteArray)).size = s.size + 1 + (dec flags).length + 1 := by rw [ByteArray.size_append, e2]; rfl
    refine Evt.pos (by rw [e1, x_txt_size]; omega) (Evt.pos (by rw [e2]; omega) (Evt.bind (textw_ev _ hfo) (Evt.pos (by rw [e4, x_txt_size]; omega) ?_)))
    have e3 : (((s ++ (⟨#[32]⟩ : ByteArray)) ++ txt (dec flags)) ++ (⟨#[32]⟩ : ByteArray)) ++ txt (dec for_) = s ++ txt (sp ++ dec flags ++ sp ++ dec for_) := by
      rw [blank, app_txt, app_txt, app_txt, List.append_assoc, List.append_assoc]
    simp only [e3]
    refine (line_j3 kind tenant keys value flags for_ unique by_ hv hfo hun hby _ (by rw [app_size]; simp only [sp, List.length_append, List.length_cons, List.length_nil]; omega)).cast ?_
    rw [app_txt, if_pos trivial]
  | false =>
    refine Evt.neg (by decide) ((line_j3 kind tenant keys value flags for_ unique by_ hv hfo hun hby s (by omega)).cast ?_)
    rw [if_neg (by decide)]
    rfl
include hfo hv hby hun hfl in
theorem line_l0 (hn : keys.length ≤ 8) (hk : ∀ x ∈ keys, x.size ≤ 32) : ∀ m i s, keys.length - i = m → i ≤ keys.length → s.size + 40 * m ≤ 4000 → Evt (fun k => cloakroomref14_line.l0 k s (i : Int) kind tenant keys value flags for_ unique by_) (s ++ txt ((keys.drop i).flatMap (fun k => sp ++ chs k) ++ T2 kind value flags for_ unique by_)) := by
  intro m
  induction m with
  | zero =>
    intro i s hm hi hs
    refine Evt.succ ?_
    simp only [cloakroomref14_line.l0]
    refine Evt.neg (by omega) ?_
    rw [List.drop_eq_nil_of_le (by omega)]
    have h2 := line_j2 kind tenant keys value flags for_ unique by_ hv hfl hfo hun hby s (by omega)
    by_cases g : kind ≥ 2
    · exact Evt.pos g (h2 _ (by rw [puts_eq, decide_eq_true g, Bool.true_and]))
    · exact Evt.neg g (h2 _ (by rw [puts_eq, decide_eq_false g, Bool.false_and]))
  | succ m ih =>
    intro i s hm hi hs
    have hi' : i < keys.length := by omega
    have hx := hk keys[i] (List.getElem_mem hi')
    refine Evt.succ ?_
    simp only [cloakroomref14_line.l0, rdS_at keys i hi', wrapN_succ i (by omega)]
    have e1 : (s ++ (⟨#[32]⟩ : ByteArray)).size = s.size + 1 := by rw [ByteArray.size_append]; rfl
    refine Evt.pos (by omega) (Evt.pos (by omega) (Evt.pos (by omega) (Evt.pos (by rw [e1]; omega) ?_)))
    have e3 : (s ++ (⟨#[32]⟩ : ByteArray)) ++ keys[i] = s ++ txt (sp ++ chs keys[i]) := by
      rw [blank, ← app_txt, txt_chs]
    have e4 : (s ++ txt (sp ++ chs keys[i])).size = s.size + 1 + keys[i].size := by rw [← e3, ByteArray.size_append, e1]
    simp only [e3]
    refine (ih (i + 1) _ (by omega) (by omega) (by rw [e4]; omega)).cast ?_
    rw [app_txt, List.drop_eq_getElem_cons hi', List.flatMap_cons, List.append_assoc (sp ++ chs keys[i])]
theorem lineOf_eq : lineOf kind keys value flags for_ unique by_ = cmdName kind ++ (keys.flatMap (fun k => sp ++ chs k) ++ T2 kind value flags for_ unique by_) := by
  simp only [lineOf, T2, T3, T4, T5, T7, T8, List.append_assoc]
include hfo hv hby hun hfl in
theorem line_ev (h1 : 1 ≤ kind ∧ kind ≤ 11) (hn : keys.length ≤ 8) (hk : ∀ x ∈ keys, x.size ≤ 32) : Evt (fun k => cloakroomref14_line.f k kind tenant keys value flags for_ unique by_) (txt (lineOf kind keys value flags for_ unique by_)) := by
  have hl := fun s hs => line_l0 kind tenant keys value flags for_ unique by_ hv hfl hfo hun hby hn hk keys.length 0 s (by omega) (by omega) hs
  simp only [List.drop_zero] at hl
  rw [lineOf_eq, ← txt_app]
  have hj : ∀ s : ByteArray, s.size ≤ 100 → Evt (fun k => cloakroomref14_line.j0 k s kind tenant keys value flags for_ unique by_) (s ++ txt (keys.flatMap (fun k => sp ++ chs k) ++ T2 kind value flags for_ unique by_)) := fun s hs => by
    refine Evt.succ ?_
    simp only [cloakroomref14_line.j0]
    exact hl s (by omega)
  unfold cloakroomref14_line.f
  rcases kinds h1 with rfl | rfl | rfl | rfl | rfl | rfl | rfl | rfl | rfl | rfl | rfl
  all_goals
    simp only [Int.reduceEq, if_true, if_false]
    exact hj _ (by decide)
theorem tens_int_eq (n : Int) (h : u64ok n = true) : text_tens_int.f n = some (txt (dec n)) := by
  unfold text_tens_int.f strconv_FormatUint.f
  have h' := h
  simp only [u64ok, Bool.and_eq_true, decide_eq_true_eq] at h'
  rw [x_wrap_u64 n h'.1 h'.2, h]
  rfl
theorem tens_u32_eq (n : Int) (h : u64ok n = true) : text_tens_uint32.f n = some (txt (dec n)) := by
  unfold text_tens_uint32.f strconv_FormatUint.f
  have h' := h
  simp only [u64ok, Bool.and_eq_true, decide_eq_true_eq] at h'
  rw [x_wrap_u64 n h'.1 h'.2, h]
  rfl
theorem tens_u64_eq (n : Int) (h : u64ok n = true) : text_tens_uint64.f n = some (txt (dec n)) := by
  unfold text_tens_uint64.f strconv_FormatUint.f
  rw [h]
  rfl
theorem chs_lit (l : List UInt8) : chs (⟨l.toArray⟩ : ByteArray) = l := by simp [chs]
theorem tail_keys (l : List ByteArray) : Lib.joinTail sp (l.map chs) = l.flatMap (fun k => sp ++ chs k) := by
  unfold Lib.joinTail
  rw [List.map_map]
  rfl
def wordsTell (ws : List ByteArray) (has : Bool) : Prop := ws.length ≤ 20 ∧ has = (puts kind || kind == 8) ∧ Lib.join (ws.map chs) sp ++ crlf ++ (if has then chs value ++ crlf else []) = lineOf kind keys value flags for_ unique by_
include hfo hv hby hun hfl in
theorem words_ev (h1 : 1 ≤ kind ∧ kind ≤ 11) (hkeys : keysOk kind keys = true) : ∃ ws has, Evt (fun k => text_words.f k kind tenant keys value flags for_ unique by_) (ws, has) ∧ wordsTell kind keys value flags for_ unique by_ ws has := by
  have hu : u64ok (value.size : Int) = true := by simp only [u64ok, Bool.and_eq_true, decide_eq_true_eq]; omega
  have e0 := tens_int_eq _ hu
  have e1 := tens_u32_eq flags hfl
  have e2 := tens_int_eq for_ hfo
  have e3 := tens_u64_eq unique hun
  have e4 := tens_u64_eq by_ hby
  unfold text_words.f
  simp only [e0, Option.bind_some]
  have many : ∀ (kd : Int), (kd = 1 ∨ kd = 10) → keysOk kd keys = true → 1 ≤ keys.length ∧ keys.length ≤ 8 := by
    intro kd hkd h
    unfold keysOk at h
    rw [if_neg (by omega), if_pos hkd] at h
    simp only [Bool.and_eq_true, decide_eq_true_eq] at h
    exact ⟨h.1.1.1, h.1.1.2⟩
  have one : ∀ (kd : Int), ¬ (kd = 1 ∨ kd = 10) → ¬ kd = 11 → keysOk kd keys = true → ∃ x, keys = [x] := by
    intro kd hkd hne h
    unfold keysOk at h
    rw [if_neg hne, if_neg hkd] at h
    simp only [Bool.and_eq_true, decide_eq_true_eq] at h
    have hl : keys.length = 1 := by omega
    exact List.length_eq_one_iff.1 hl
  have h00 : ∀ x : ByteArray, rdOf ByteArray.empty [x] 0 = x := fun x => rfl
  have r0 : ∀ a b c : ByteArray, rdOf ByteArray.empty [a, b, c] ((2 - 2) % 256) = a := fun a b c => rfl
  have r1 : ∀ a b c : ByteArray, rdOf ByteArray.empty [a, b, c] ((3 - 2) % 256) = b := fun a b c => rfl
  have r2 : ∀ a b c : ByteArray, rdOf ByteArray.empty [a, b, c] ((4 - 2) % 256) = c := fun a b c => rfl
  rcases kinds h1 with rfl | rfl | rfl | rfl | rfl | rfl | rfl | rfl | rfl | rfl | rfl
  · obtain ⟨hl1, hl8⟩ := many 1 (by decide) hkeys
    refine ⟨[(⟨#[103, 101, 116]⟩ : ByteArray)] ++ keys, false, Evt.pos (by omega) (Evt.pos (by omega) (Evt.succ ?_)), by simp; omega, by decide, ?_⟩
    · simp only [text_words.j0, e1, e2, Option.bind_some, if_true]
      exact Evt.pos (by simp; omega) (Evt.done _)
    · rw [lineOf_eq, List.map_append, List.map_cons, List.map_nil, List.singleton_append, Lib.join_cons, tail_keys]
      simp [T2, T3, T4, T5, T7, T8, puts, cmdName, chs]
  · obtain ⟨x, rfl⟩ := one 2 (by decide) (by decide) hkeys
    refine ⟨[(⟨#[115, 101, 116]⟩ : ByteArray)] ++ [x, txt (dec flags), txt (dec for_), txt (dec value.size)], true, Evt.pos (by simp) (Evt.pos (by simp) (Evt.succ ?_)), by simp, by decide, ?_⟩
    · simp only [text_words.j0, e1, e2, Option.bind_some, Int.reduceEq, if_true, if_false, h00]
      refine Evt.succ ?_
      simp only [text_words.j1, beq_self_eq_true, if_true, Option.bind_some]
      exact Evt.pos (by decide) (Evt.pos (by decide) ((Evt.pos (by simp) (Evt.done _)).cast (by rw [r0])))
    · simp [lineOf, Lib.join, puts, cmdName, chs, txt, sp, crlf]
  · obtain ⟨x, rfl⟩ := one 3 (by decide) (by decide) hkeys
    refine ⟨[(⟨#[97, 100, 100]⟩ : ByteArray)] ++ [x, txt (dec flags), txt (dec for_), txt (dec value.size)], true, Evt.pos (by simp) (Evt.pos (by simp) (Evt.succ ?_)), by simp, by decide, ?_⟩
    · simp only [text_words.j0, e1, e2, Option.bind_some, Int.reduceEq, if_true, if_false, h00]
      refine Evt.succ ?_
      simp only [text_words.j1, beq_self_eq_true, if_true, Option.bind_some]
      exact Evt.pos (by decide) (Evt.pos (by decide) ((Evt.pos (by simp) (Evt.done _)).cast (by rw [r1])))
    · simp [lineOf, Lib.join, puts, cmdName, chs, txt, sp, crlf]
  · obtain ⟨x, rfl⟩ := one 4 (by decide) (by decide) hkeys
    refine ⟨[(⟨#[114, 101, 112, 108, 97, 99, 101]⟩ : ByteArray)] ++ [x, txt (dec flags), txt (dec for_), txt (dec value.size)], true, Evt.pos (by simp) (Evt.pos (by simp) (Evt.succ ?_)), by simp, by decide, ?_⟩
    · simp only [text_words.j0, e1, e2, Option.bind_some, Int.reduceEq, if_true, if_false, h00]
      refine Evt.succ ?_
      simp only [text_words.j1, beq_self_eq_true, if_true, Option.bind_some]
      exact Evt.pos (by decide) (Evt.pos (by decide) ((Evt.pos (by simp) (Evt.done _)).cast (by rw [r2])))
    · simp [lineOf, Lib.join, puts, cmdName, chs, txt, sp, crlf]
  · obtain ⟨x, rfl⟩ := one 5 (by decide) (by decide) hkeys
    refine ⟨([(⟨#[99, 97, 115]⟩ : ByteArray)] ++ [x, txt (dec flags), txt (dec for_), txt (dec value.size)]) ++ [txt (dec unique)], true, Evt.pos (by simp) (Evt.pos (by simp) (Evt.succ ?_)), by simp, by decide, ?_⟩
    · simp only [text_words.j0, e1, e2, Option.bind_some, Int.reduceEq, if_true, if_false, h00]
      refine Evt.succ ?_
      simp only [text_words.j1, Int.reduceBEq, Bool.false_eq_true, if_true, if_false, Option.bind_some, e3]
      exact Evt.pos (by simp) (Evt.pos (by simp) (Evt.done _))
    · simp [lineOf, Lib.join, puts, cmdName, chs, txt, sp, crlf]
  · obtain ⟨x, rfl⟩ := one 6 (by decide) (by decide) hkeys
    refine ⟨[(⟨#[105, 110, 99, 114]⟩ : ByteArray), x, txt (dec by_)], false, Evt.pos (by simp) (Evt.pos (by simp) (Evt.succ ?_)), by simp, by decide, ?_⟩
    · simp only [text_words.j0, e1, e2, Option.bind_some, Int.reduceEq, if_true, if_false, h00]
      refine Evt.succ ?_
      simp only [text_words.j1, Int.reduceBEq, Int.reduceEq, Bool.false_eq_true, if_true, if_false, Option.bind_some, e4]
      exact Evt.done _
    · simp [lineOf, Lib.join, puts, cmdName, chs, txt, sp, crlf]
  · obtain ⟨x, rfl⟩ := one 7 (by decide) (by decide) hkeys
    refine ⟨[(⟨#[100, 101, 99, 114]⟩ : ByteArray), x, txt (dec by_)], false, Evt.pos (by simp) (Evt.pos (by simp) (Evt.succ ?_)), by simp, by decide, ?_⟩
    · simp only [text_words.j0, e1, e2, Option.bind_some, Int.reduceEq, if_true, if_false, h00]
      refine Evt.succ ?_
      simp only [text_words.j1, Int.reduceBEq, Int.reduceEq, Bool.false_eq_true, if_true, if_false, Option.bind_some, e4]
      exact Evt.done _
    · simp [lineOf, Lib.join, puts, cmdName, chs, txt, sp, crlf]
  · obtain ⟨x, rfl⟩ := one 8 (by decide) (by decide) hkeys
    refine ⟨[(⟨#[97, 112, 112, 101, 110, 100]⟩ : ByteArray), x, txt (dec value.size)], true, Evt.pos (by simp) (Evt.pos (by simp) (Evt.succ ?_)), by simp, by decide, ?_⟩
    · simp only [text_words.j0, e1, e2, Option.bind_some, Int.reduceEq, if_true, if_false, h00]
      refine Evt.succ ?_
      simp only [text_words.j1, Int.reduceBEq, Int.reduceEq, Bool.false_eq_true, if_true, if_false, Option.bind_some, e4]
      exact Evt.done _
    · simp [lineOf, Lib.join, puts, cmdName, chs, txt, sp, crlf]
  · obtain ⟨x, rfl⟩ := one 9 (by decide) (by decide) hkeys
    refine ⟨[(⟨#[116, 111, 117, 99, 104]⟩ : ByteArray), x, txt (dec for_)], false, Evt.pos (by simp) (Evt.pos (by simp) (Evt.succ ?_)), by simp, by decide, ?_⟩
    · simp only [text_words.j0, e1, e2, Option.bind_some, Int.reduceEq, if_true, if_false, h00]
      refine Evt.succ ?_
      simp only [text_words.j1, Int.reduceBEq, Int.reduceEq, Bool.false_eq_true, if_true, if_false, Option.bind_some, e2]
      exact Evt.done _
    · simp [lineOf, Lib.join, puts, cmdName, chs, txt, sp, crlf]
  · obtain ⟨hl1, hl8⟩ := many 10 (by decide) hkeys
    refine ⟨[(⟨#[100, 101, 108, 101, 116, 101]⟩ : ByteArray)] ++ keys, false, Evt.pos (by omega) (Evt.pos (by omega) (Evt.succ ?_)), by simp; omega, by decide, ?_⟩
    · simp only [text_words.j0, e1, e2, Option.bind_some, Int.reduceEq, if_true, if_false]
      exact Evt.pos (by simp; omega) (Evt.done _)
    · rw [lineOf_eq, List.map_append, List.map_cons, List.map_nil, List.singleton_append, Lib.join_cons, tail_keys]
      simp [T2, T3, T4, T5, T7, T8, puts, cmdName, chs]
  · have hk0 : keys = [] := by
      unfold keysOk at hkeys
      rw [if_pos rfl] at hkeys
      exact List.isEmpty_iff.1 hkeys
    subst hk0
    refine ⟨[(⟨#[102, 108, 117, 115, 104]⟩ : ByteArray)], false, Evt.neg (by simp) (Evt.succ ?_), by simp, by decide, ?_⟩
    · simp only [text_words.j0, e1, e2, Option.bind_some, Int.reduceEq, if_true, if_false]
      refine Evt.succ ?_
      simp only [text_words.j1, Int.reduceBEq, Int.reduceEq, Bool.false_eq_true, if_true, if_false, Option.bind_some]
      exact Evt.done _
    · simp [lineOf, Lib.join, puts, cmdName, chs, txt, sp, crlf]
end
end Go.Proofs.YtfoengihiaegoaaDoor.P
