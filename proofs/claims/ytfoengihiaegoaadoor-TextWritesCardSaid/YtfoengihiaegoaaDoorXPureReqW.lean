/- The plain law of requests, put together: what text.Write writes, and what the document writes, is one; the law's function is true. -/
import Derived.Test.YtfoengihiaegoaaDoorXPureReq
import Derived.Test.YtfoengihiaegoaaDoorP32
namespace Go.Proofs.YtfoengihiaegoaaDoor.P
open Go.RowKit Go.Proofs.YtfoengihiaegoaaDoorW.PrintWords
set_option linter.unusedVariables false
set_option linter.unusedSimpArgs false
section
variable (kind ckind tenant : Int) (keys : List ByteArray) (value : ByteArray) (flags for_ unique by_ ten : Int) (secret : ByteArray) (on close : Bool)
theorem cmd_parts (h : cmdOk ckind tenant keys value flags for_ unique by_ = true) : (1 ≤ ckind ∧ ckind ≤ 11) ∧ keysOk ckind keys = true ∧ value.size ≤ 512 ∧ (0 ≤ for_ ∧ for_ ≤ 1099511627776) := by
  unfold cmdOk at h
  simp only [Bool.and_eq_true, decide_eq_true_eq] at h
  obtain ⟨⟨⟨⟨⟨⟨⟨⟨⟨h1, h2⟩, h3⟩, h4⟩, h5⟩, h6, h7⟩, ⟨h8, h9⟩, h10⟩, h11⟩, h12⟩, h13⟩ := h
  exact ⟨⟨h1, h2⟩, h5, h6, h8, h9⟩
theorem keys_parts (h : keysOk ckind keys = true) : keys.length ≤ 8 ∧ ∀ x ∈ keys, x.size ≤ 32 := by
  unfold keysOk at h
  by_cases h11 : ckind = 11
  · rw [if_pos h11] at h
    rw [List.isEmpty_iff.1 h]
    exact ⟨by simp, fun x hx => by cases hx⟩
  · rw [if_neg h11] at h
    simp only [Bool.and_eq_true, decide_eq_true_eq] at h
    refine ⟨?_, fun x hx => ?_⟩
    · have := h.1.1.2
      split at this <;> omega
    · have := List.all_eq_true.1 h.1.2 x hx
      unfold keySz at this
      simp only [Bool.and_eq_true, decide_eq_true_eq] at this
      exact this.2
theorem flat_len (l : List ByteArray) (h : ∀ x ∈ l, x.size ≤ 32) : (l.flatMap (fun k => sp ++ chs k)).length ≤ 40 * l.length := by
  induction l with
  | nil => simp
  | cons a l ih =>
    have h1 := h a List.mem_cons_self
    have h2 := ih (fun x hx => h x (List.mem_cons_of_mem _ hx))
    have e : (chs a).length = a.size := Array.length_toList
    have esp : sp.length = 1 := rfl
    simp only [List.flatMap_cons, List.length_append, List.length_cons, esp, e]
    omega
variable (hfl : u64ok flags = true) (hun : u64ok unique = true) (hby : u64ok by_ = true)
include hfl hun hby in
theorem lineOf_len (hfo : u64ok for_ = true) (hk : keys.length ≤ 8 ∧ ∀ x ∈ keys, x.size ≤ 32) (hv : value.size ≤ 512) : (lineOf ckind keys value flags for_ unique by_).length ≤ 5000 := by
  have h1 := flat_len keys hk.2
  have e : (chs value).length = value.size := Array.length_toList
  have hu : u64ok (value.size : Int) = true := by simp only [u64ok, Bool.and_eq_true, decide_eq_true_eq]; omega
  have d1 := x_dec_len flags hfl
  have d2 := x_dec_len for_ hfo
  have d3 := x_dec_len unique hun
  have d4 := x_dec_len by_ hby
  have d5 := x_dec_len _ hu
  have hn : (cmdName ckind).length ≤ 10 := by
    unfold cmdName
    repeat' split
    all_goals decide
  have esp : sp.length = 1 := rfl
  have ecr : crlf.length = 2 := rfl
  unfold lineOf
  simp only [List.length_append, ecr]
  repeat' split
  all_goals simp only [List.length_append, List.length_nil, e, esp, ecr]
  all_goals omega
theorem join_lit (ws : List ByteArray) (h : ws.length ≤ 20) (h2 : (Lib.join (ws.map chs) sp).length ≤ 6000) : strings_Join.f ws (⟨#[32]⟩ : ByteArray) = some (txt (Lib.join (ws.map chs) sp)) := by
  have e : chs (⟨#[32]⟩ : ByteArray) = sp := chs_lit [32]
  unfold strings_Join.f
  rw [e, if_pos ⟨by omega, by omega⟩]
theorem any_odd (l : List ByteArray) : (l.any fun k => !plainKey k) = !l.all plainKey := by
  induction l with
  | nil => rfl
  | cons a l ih => simp only [List.any_cons, List.all_cons, Bool.not_and, ih]
theorem write_j0t : Evt (fun k => text_Write.j0 k true kind ckind tenant keys value flags for_ unique by_ ten secret on close) (([] : List Int), (8 : Int)) := by
  refine Evt.succ ?_
  simp only [text_Write.j0, if_true]
  exact Evt.done _
include hfl hun hby in
theorem write_j1 (hc : cmdOk ckind tenant keys value flags for_ unique by_ = true) (b : Bool) : Evt (fun k => text_Write.j1 k b ckind tenant keys value flags for_ unique by_) (if b = true then (([] : List Int), (8 : Int)) else (bytesOf (txt (lineOf ckind keys value flags for_ unique by_)), 0)) := by
  refine Evt.succ ?_
  simp only [text_Write.j1]
  cases b with
  | true => exact Evt.done _
  | false =>
    obtain ⟨h1, hk, hv, hf⟩ := cmd_parts ckind tenant keys value flags for_ unique by_ hc
    have hfo : u64ok for_ = true := by simp only [u64ok, Bool.and_eq_true, decide_eq_true_eq]; omega
    have hkp := keys_parts ckind keys hk
    have hll := lineOf_len ckind keys value flags for_ unique by_ hfl hun hby hfo hkp hv
    obtain ⟨ws, has, hw, hlen, hhas, htell⟩ := words_ev ckind tenant keys value flags for_ unique by_ (by omega) hfl hfo hun hby h1 hk
    simp only [Bool.false_eq_true, if_false]
    refine Evt.bind hw ?_
    have e0 := congrArg List.length htell
    simp only [List.length_append] at e0
    have hj := join_lit ws hlen (by omega)
    simp only [hj, Option.bind_some]
    generalize Lib.join (ws.map chs) sp = J at htell e0
    have hJ : (txt J).size = J.length := x_txt_size J
    have eJ : (txt J ++ (⟨#[13, 10]⟩ : ByteArray)) = txt (J ++ crlf) := txt_app J crlf
    have eV : (value ++ (⟨#[13, 10]⟩ : ByteArray)) = txt (chs value ++ crlf) := by rw [← txt_app, txt_chs]; rfl
    have ec : crlf.length = 2 := rfl
    have eLv : (chs value).length = value.size := Array.length_toList
    refine Evt.pos (by omega) ?_
    simp only [eJ, eV, txt_app, x_txt_size, List.length_append, ec, eLv]
    cases has with
    | true =>
      simp only [if_true] at htell e0 ⊢
      refine Evt.pos (by omega) (Evt.pos (by omega) (Evt.pos (by omega) ((Evt.done _).cast ?_)))
      rw [← htell]
    | false =>
      simp only [Bool.false_eq_true, if_false] at htell e0 ⊢
      refine Evt.pos (by omega) ((Evt.done _).cast ?_)
      rw [← htell, List.append_nil]
theorem end_bytes (l : List UInt8) (hl : l.length ≤ 6000) (g : Nat → Option (List Int × Int)) (hg : g = fun _ => if (txt l).size + 2 ≤ 9223372036854775807 then (if (txt l ++ (⟨#[13, 10]⟩ : ByteArray)).size ≤ 9223372036854775807 then (some ((bytesOf (txt l ++ (⟨#[13, 10]⟩ : ByteArray))), 0)) else (none)) else (none)) : Evt g (bytesOf (txt (l ++ crlf)), 0) := by
  subst hg
  have e : (txt l ++ (⟨#[13, 10]⟩ : ByteArray)) = txt (l ++ crlf) := txt_app l crlf
  have ec : crlf.length = 2 := rfl
  simp only [e]
  exact Evt.pos (by rw [x_txt_size]; omega) (Evt.pos (by rw [x_txt_size, List.length_append]; omega) (Evt.done _))
variable (hkl : keys.length ≤ 40) (hvl : value.size ≤ 2000) (hsl : secret.size ≤ 1000)
include hfl hun hby hkl hsl in
theorem write_j0f (hr : reqFits kind ckind tenant keys value flags for_ unique by_ ten secret on close = true) (hk : 1 ≤ kind ∧ kind ≤ 5) : Evt (fun k => text_Write.j0 k false kind ckind tenant keys value flags for_ unique by_ ten secret on close) (writeIn kind ckind tenant keys value flags for_ unique by_ ten secret on) := by
  refine Evt.succ ?_
  simp only [text_Write.j0]
  refine Evt.neg (by decide) ?_
  by_cases h1 : kind = 1
  · refine Evt.pos h1 (Evt.bind (check_ev ckind tenant keys value flags for_ unique by_ (by omega)) ?_)
    by_cases hc : cmdOk ckind tenant keys value flags for_ unique by_ = true
    · rw [if_pos hc]
      refine Evt.pos rfl ?_
      by_cases ht : tenant = 0
      · refine Evt.pos ht ?_
        have hw := write_j1 ckind tenant keys value flags for_ unique by_ hfl hun hby hc (keys.any fun k => !plainKey k)
        refine Evt.bind (Evt.now (show anyOddKey.f keys () = some _ from rfl)) (hw.cast ?_)
        unfold writeIn
        rw [if_pos h1, any_odd, hc, show (tenant == 0) = true by simp [ht]]
        cases keys.all plainKey <;> rfl
      · refine Evt.neg ht ?_
        refine (write_j1 ckind tenant keys value flags for_ unique by_ hfl hun hby hc true).cast ?_
        unfold writeIn
        rw [if_pos h1, if_pos rfl]
        simp [hc, beq_dec, ht]
    · have hc' : cmdOk ckind tenant keys value flags for_ unique by_ = false := by simpa using hc
      rw [if_neg hc]
      refine Evt.neg (by decide) ((Evt.done _).cast ?_)
      unfold writeIn
      rw [if_pos h1, if_pos hc']
  refine Evt.neg h1 ?_
  by_cases h2 : kind = 2
  · refine Evt.pos h2 ?_
    have ht : 0 ≤ ten ∧ ten < 4 := by
      unfold reqFits at hr
      rw [show (kind == 2) = true by simp [h2]] at hr
      simp only [Bool.and_eq_true, Bool.or_eq_true, Bool.not_true, Bool.false_eq_true, decide_eq_true_eq, false_or] at hr
      exact ⟨hr.2.1.1.1.1, hr.2.1.1.1.2⟩
    have hu : u64ok ten = true := by simp only [u64ok, Bool.and_eq_true, decide_eq_true_eq]; omega
    have hd := x_dec_len ten hu
    have es : (chs secret).length = secret.size := Array.length_toList
    have esp : sp.length = 1 := rfl
    have ej : Lib.join (([(⟨#[117, 115, 101, 114]⟩ : ByteArray), txt (dec ten), secret] : List ByteArray).map chs) sp = [117, 115, 101, 114] ++ sp ++ dec ten ++ sp ++ chs secret := by simp [Lib.join, chs, txt, sp]
    have hlen : ([117, 115, 101, 114] ++ sp ++ dec ten ++ sp ++ chs secret).length ≤ 6000 := by simp only [List.length_append, List.length_cons, List.length_nil, esp, es]; omega
    have hj := join_lit [(⟨#[117, 115, 101, 114]⟩ : ByteArray), txt (dec ten), secret] (by simp) (by rw [ej]; exact hlen)
    rw [ej] at hj
    refine Evt.bind (Evt.now (tens_int_eq ten hu)) (Evt.bind (Evt.now hj) ((end_bytes _ hlen _ rfl).cast ?_))
    unfold writeIn
    rw [if_neg h1, if_pos h2]
  refine Evt.neg h2 ?_
  by_cases h3 : kind = 3
  · refine Evt.pos h3 ?_
    have hj1 := join_lit [(⟨#[116, 114, 97, 99, 107]⟩ : ByteArray), (⟨#[111, 110]⟩ : ByteArray)] (by simp) (by simp [Lib.join, chs, sp])
    have hj2 := join_lit [(⟨#[116, 114, 97, 99, 107]⟩ : ByteArray), (⟨#[111, 102, 102]⟩ : ByteArray)] (by simp) (by simp [Lib.join, chs, sp])
    cases on with
    | true =>
      refine Evt.pos rfl (Evt.bind (Evt.now hj1) ((end_bytes _ (by simp [Lib.join, chs, sp]) _ rfl).cast ?_))
      unfold writeIn
      rw [if_neg h1, if_neg h2, if_pos h3]
      simp [Lib.join, chs, sp]
    | false =>
      refine Evt.neg (by decide) (Evt.bind (Evt.now hj2) ((end_bytes _ (by simp [Lib.join, chs, sp]) _ rfl).cast ?_))
      unfold writeIn
      rw [if_neg h1, if_neg h2, if_pos h3]
      simp [Lib.join, chs, sp]
  refine Evt.neg h3 ?_
  have hj3 := join_lit [(⟨#[112, 105, 110, 103]⟩ : ByteArray)] (by simp) (by simp [Lib.join, chs, sp])
  have hj4 := join_lit [(⟨#[113, 117, 105, 116]⟩ : ByteArray)] (by simp) (by simp [Lib.join, chs, sp])
  by_cases h4 : kind = 4
  · refine Evt.pos h4 (Evt.bind (Evt.now hj3) ((end_bytes _ (by simp [Lib.join, chs, sp]) _ rfl).cast ?_))
    unfold writeIn
    rw [if_neg h1, if_neg h2, if_neg h3, if_pos h4]
    simp [Lib.join, chs, sp]
  · refine Evt.neg h4 (Evt.bind (Evt.now hj4) ((end_bytes _ (by simp [Lib.join, chs, sp]) _ rfl).cast ?_))
    unfold writeIn
    rw [if_neg h1, if_neg h2, if_neg h3, if_neg h4]
    simp [Lib.join, chs, sp]
theorem req_no (h : (decide (1 ≤ kind) && decide (kind ≤ 5) && reqFits kind ckind tenant keys value flags for_ unique by_ ten secret on close) = false) : (([] : List Int), (8 : Int)) = writeReq kind ckind tenant keys value flags for_ unique by_ ten secret on close := by
  unfold writeReq
  rw [if_neg (by rw [h]; decide)]
theorem req_yes (h1 : 1 ≤ kind ∧ kind ≤ 5) (h : reqFits kind ckind tenant keys value flags for_ unique by_ ten secret on close = true) : writeIn kind ckind tenant keys value flags for_ unique by_ ten secret on = writeReq kind ckind tenant keys value flags for_ unique by_ ten secret on close := by
  unfold writeReq
  rw [if_pos (by rw [h, decide_eq_true h1.1, decide_eq_true h1.2]; rfl)]
include hfl hun hby hkl hsl in
theorem write_ev : Evt (fun k => text_Write.f k kind ckind tenant keys value flags for_ unique by_ ten secret on close) (writeReq kind ckind tenant keys value flags for_ unique by_ ten secret on close) := by
  have ht := write_j0t kind ckind tenant keys value flags for_ unique by_ ten secret on close
  unfold text_Write.f
  by_cases h1 : kind < 1
  · exact Evt.pos h1 (ht.cast (req_no _ _ _ _ _ _ _ _ _ _ _ _ _ (by rw [decide_eq_false (show ¬ 1 ≤ kind by omega)]; rfl)))
  refine Evt.neg h1 ?_
  by_cases h5 : kind > 5
  · exact Evt.pos h5 (ht.cast (req_no _ _ _ _ _ _ _ _ _ _ _ _ _ (by rw [decide_eq_false (show ¬ kind ≤ 5 by omega), Bool.and_false]; rfl)))
  refine Evt.neg h5 (Evt.bind (Evt.now (fits_eq kind ckind tenant keys value flags for_ unique by_ ten secret on close)) ?_)
  by_cases hr : reqFits kind ckind tenant keys value flags for_ unique by_ ten secret on close = true
  · rw [hr]
    exact (write_j0f kind ckind tenant keys value flags for_ unique by_ ten secret on close hfl hun hby hkl hsl hr (by omega)).cast (req_yes _ _ _ _ _ _ _ _ _ _ _ _ _ (by omega) hr)
  · have hr' : reqFits kind ckind tenant keys value flags for_ unique by_ ten secret on close = false := by simpa using hr
    rw [hr']
    exact ht.cast (req_no _ _ _ _ _ _ _ _ _ _ _ _ _ (by rw [hr', Bool.and_false]))
theorem ref_j0t : Evt (fun k => cloakroomref14_Write.j0 k true kind ckind tenant keys value flags for_ unique by_ ten secret on close) (([] : List Int), (8 : Int)) := by
  refine Evt.succ ?_
  simp only [cloakroomref14_Write.j0, if_true]
  exact Evt.done _
def reqPre : Bool := !close && !(on && !(kind == 3)) && (kind == 2 || (ten == 0 && decide (secret.size = 0))) && (kind == 1 || bareCmd ckind tenant keys value flags for_ unique by_)
theorem refW_pre (R : List Int × Int) (h : Evt (fun k => cloakroomref14_Write.j0 k (!reqPre kind ckind tenant keys value flags for_ unique by_ ten secret on close) kind ckind tenant keys value flags for_ unique by_ ten secret on close) R) :
    Evt (fun k => cloakroomref14_Write.f k kind ckind tenant keys value flags for_ unique by_ ten secret on close) R := by
  have hn := none_ev ckind tenant keys value flags for_ unique by_
  unfold cloakroomref14_Write.f
  simp only [nil_size]
  cases close with
  | true => exact Evt.pos rfl (by simpa [reqPre] using h)
  | false =>
    refine Evt.neg (by decide) ?_
    by_cases h2 : kind = 2
    · have h1 : ¬ kind = 1 := by omega
      have h3 : ¬ kind = 3 := by omega
      cases on with
      | true =>
        have e : reqPre kind ckind tenant keys value flags for_ unique by_ ten secret true false = false := by simp [reqPre, beq_dec, h3]
        rw [e] at h
        exact Evt.pos rfl (Evt.neg h3 h)
      | false =>
        refine Evt.neg (by decide) (Evt.pos h2 (Evt.neg h1 (Evt.bind hn ?_)))
        have e : reqPre kind ckind tenant keys value flags for_ unique by_ ten secret false false = bareCmd ckind tenant keys value flags for_ unique by_ := by simp [reqPre, h2]
        rw [e] at h
        exact h
    · have key : ∀ (on' : Bool), (on' = true → kind = 3) → reqPre kind ckind tenant keys value flags for_ unique by_ ten secret on' false = ((ten == 0 && decide (secret.size = 0)) && (kind == 1 || bareCmd ckind tenant keys value flags for_ unique by_)) := by
        intro on' ho
        unfold reqPre
        cases on' with
        | true => simp [ho rfl, beq_dec]
        | false => simp [h2, beq_dec]
      have go : ∀ (on' : Bool), on' = on → (on' = true → kind = 3) → Evt (fun k => if ten = 0 then (if secret.size = 0 then (if kind = 1 then (cloakroomref14_Write.j0 k false kind ckind tenant keys value flags for_ unique by_ ten secret on false) else ((cloakroomref14_none.f k ckind tenant keys value flags for_ unique by_).bind fun t => (cloakroomref14_Write.j0 k (!t) kind ckind tenant keys value flags for_ unique by_ ten secret on false))) else (cloakroomref14_Write.j0 k true kind ckind tenant keys value flags for_ unique by_ ten secret on false)) else (cloakroomref14_Write.j0 k true kind ckind tenant keys value flags for_ unique by_ ten secret on false)) R := by
        rintro on' rfl ho
        rw [key on' ho] at h
        by_cases t0 : ten = 0
        · refine Evt.pos t0 ?_
          by_cases s0 : secret.size = 0
          · refine Evt.pos s0 ?_
            by_cases h1 : kind = 1
            · exact Evt.pos h1 (by simpa [t0, s0, h1] using h)
            · refine Evt.neg h1 (Evt.bind hn ?_)
              have e : ((ten == 0 && decide (secret.size = 0)) && (kind == 1 || bareCmd ckind tenant keys value flags for_ unique by_)) = bareCmd ckind tenant keys value flags for_ unique by_ := by simp [t0, s0, beq_dec, h1]
              rw [e] at h
              exact h
          · refine Evt.neg s0 ?_
            have e : ((ten == 0 && decide (secret.size = 0)) && (kind == 1 || bareCmd ckind tenant keys value flags for_ unique by_)) = false := by simp [s0]
            rw [e] at h
            exact h
        · refine Evt.neg t0 ?_
          have e : ((ten == 0 && decide (secret.size = 0)) && (kind == 1 || bareCmd ckind tenant keys value flags for_ unique by_)) = false := by simp [beq_dec, t0]
          rw [e] at h
          exact h
      cases on with
      | true =>
        refine Evt.pos rfl ?_
        by_cases h3 : kind = 3
        · exact Evt.pos h3 (Evt.neg h2 (go true rfl (fun _ => h3)))
        · refine Evt.neg h3 ?_
          have e : reqPre kind ckind tenant keys value flags for_ unique by_ ten secret true false = false := by simp [reqPre, beq_dec, h3]
          rw [e] at h
          exact h
      | false => exact Evt.neg (by decide) (Evt.neg h2 (go false rfl (fun h => by cases h)))
theorem plain32 (x : ByteArray) (hx : x.size ≤ 1000) : Evt (fun k => cloakroomref14_Plain.f k x 32) (plainKey x) := by
  refine (Plain_ev x 32 (by omega)).cast ?_
  unfold plainKey
  have e : decide ((x.size : Int) ≤ 32) = decide (x.size ≤ 32) := decide_eq_decide.2 (by omega)
  rw [e]
include hfl hun hby in
theorem refW_l0 (hc : cmdOk ckind tenant keys value flags for_ unique by_ = true) : ∀ m i, keys.length - i = m → i ≤ keys.length → Evt (fun k => cloakroomref14_Write.l0 k (i : Int) kind ckind tenant keys value flags for_ unique by_ ten secret on close) (if (tenant == 0 && (keys.drop i).all plainKey) = false then (([] : List Int), (8 : Int)) else (bytesOf (txt (lineOf ckind keys value flags for_ unique by_)), 0)) := by
  obtain ⟨h1, hk, hv, hf⟩ := cmd_parts ckind tenant keys value flags for_ unique by_ hc
  have hfo : u64ok for_ = true := by simp only [u64ok, Bool.and_eq_true, decide_eq_true_eq]; omega
  have hkp := keys_parts ckind keys hk
  have hll := lineOf_len ckind keys value flags for_ unique by_ hfl hun hby hfo hkp hv
  intro m
  induction m with
  | zero =>
    intro i hm hi
    refine Evt.succ ?_
    simp only [cloakroomref14_Write.l0]
    refine Evt.neg (by omega) ?_
    rw [List.drop_eq_nil_of_le (by omega)]
    by_cases ht : tenant = 0
    · refine Evt.pos ht (Evt.bind (line_ev ckind tenant keys value flags for_ unique by_ (by omega) hfl hfo hun hby h1 hkp.1 hkp.2) (Evt.pos (by rw [x_txt_size]; omega) ((Evt.done _).cast ?_)))
      rw [if_neg (by simp [ht])]
    · refine Evt.neg ht ((Evt.done _).cast ?_)
      rw [if_pos (by simp [beq_dec, ht])]
  | succ m ih =>
    intro i hm hi
    have hi' : i < keys.length := by omega
    have hx := hkp.2 keys[i] (List.getElem_mem hi')
    rw [List.drop_eq_getElem_cons hi', List.all_cons]
    refine Evt.succ ?_
    simp only [cloakroomref14_Write.l0, rdS_at keys i hi', wrapN_succ i (by omega)]
    refine Evt.pos (by omega) (Evt.pos (by omega) (Evt.bind (plain32 keys[i] (by omega)) ?_))
    cases plainKey keys[i] with
    | true => exact Evt.pos rfl ((ih (i + 1) (by omega) (by omega)).cast (by rw [Bool.true_and]))
    | false => exact Evt.neg (by decide) ((Evt.done _).cast (by rw [Bool.false_and, Bool.and_false, if_pos rfl]))
theorem fits_pre : reqFits kind ckind tenant keys value flags for_ unique by_ ten secret on close = (reqPre kind ckind tenant keys value flags for_ unique by_ ten secret on close && (!(kind == 2) || (decide (0 ≤ ten) && decide (ten < 4) && decide (1 ≤ secret.size) && decide (secret.size ≤ 16) && isPlain secret))) := rfl
include hfl hun hby hkl hsl in
theorem refW_ev : Evt (fun k => cloakroomref14_Write.f k kind ckind tenant keys value flags for_ unique by_ ten secret on close) (writeReq kind ckind tenant keys value flags for_ unique by_ ten secret on close) := by
  refine refW_pre kind ckind tenant keys value flags for_ unique by_ ten secret on close _ ?_
  have hpf := fits_pre kind ckind tenant keys value flags for_ unique by_ ten secret on close
  by_cases hp : reqPre kind ckind tenant keys value flags for_ unique by_ ten secret on close = true
  rotate_left
  · have hp' : reqPre kind ckind tenant keys value flags for_ unique by_ ten secret on close = false := by simpa using hp
    rw [hp']
    exact (ref_j0t kind ckind tenant keys value flags for_ unique by_ ten secret on close).cast (req_no _ _ _ _ _ _ _ _ _ _ _ _ _ (by rw [hpf, hp']; simp))
  rw [hp, Bool.true_and] at hpf
  rw [hp]
  refine Evt.succ ?_
  simp only [cloakroomref14_Write.j0]
  refine Evt.neg (by decide) ?_
  by_cases h1 : kind = 1
  · have hf : reqFits kind ckind tenant keys value flags for_ unique by_ ten secret on close = true := by rw [hpf]; simp [beq_dec, h1]
    rw [← req_yes _ _ _ _ _ _ _ _ _ _ _ _ _ (by omega) hf]
    unfold writeIn
    rw [if_pos h1]
    refine Evt.pos h1 (Evt.bind (refCheck_ev ckind tenant keys value flags for_ unique by_ (by omega)) ?_)
    by_cases hc : cmdOk ckind tenant keys value flags for_ unique by_ = true
    · have hl := refW_l0 kind ckind tenant keys value flags for_ unique by_ ten secret on close hfl hun hby hc keys.length 0 (by omega) (by omega)
      rw [List.drop_zero] at hl
      rw [if_pos hc, if_neg (by simp [hc])]
      exact Evt.pos rfl hl
    · have hc' : cmdOk ckind tenant keys value flags for_ unique by_ = false := by simpa using hc
      rw [if_neg hc, if_pos hc']
      exact Evt.neg (by decide) (Evt.done _)
  refine Evt.neg h1 ?_
  by_cases h2 : kind = 2
  · refine Evt.pos h2 ?_
    have h15 : 1 ≤ kind ∧ kind ≤ 5 := by omega
    rw [show (kind == 2) = true by simp [h2], Bool.not_true, Bool.false_or] at hpf
    by_cases t0 : ten < 0
    · exact Evt.pos t0 ((Evt.done _).cast (req_no _ _ _ _ _ _ _ _ _ _ _ _ _ (by rw [hpf, decide_eq_false (show ¬ 0 ≤ ten by omega)]; simp)))
    refine Evt.neg t0 ?_
    by_cases t4 : ten ≥ 4
    · exact Evt.pos t4 ((Evt.done _).cast (req_no _ _ _ _ _ _ _ _ _ _ _ _ _ (by rw [hpf, decide_eq_false (show ¬ ten < 4 by omega)]; simp)))
    refine Evt.neg t4 ?_
    have es : decide ((secret.size : Int) ≤ 16) = decide (secret.size ≤ 16) := decide_eq_decide.2 (by omega)
    refine Evt.bind (Plain_ev secret 16 (by omega)) ?_
    rw [decide_eq_true (show 0 ≤ ten by omega), decide_eq_true (show ten < 4 by omega), Bool.true_and, Bool.true_and] at hpf
    rw [es, ← hpf]
    have hu : u64ok ten = true := by simp only [u64ok, Bool.and_eq_true, decide_eq_true_eq]; omega
    have hd := x_dec_len ten hu
    by_cases hf : reqFits kind ckind tenant keys value flags for_ unique by_ ten secret on close = true
    rotate_left
    · have hf' : reqFits kind ckind tenant keys value flags for_ unique by_ ten secret on close = false := by simpa using hf
      rw [hf']
      exact Evt.neg (by decide) ((Evt.done _).cast (req_no _ _ _ _ _ _ _ _ _ _ _ _ _ (by rw [hf', Bool.and_false])))
    rw [hf, ← req_yes _ _ _ _ _ _ _ _ _ _ _ _ _ h15 hf]
    refine Evt.pos rfl (Evt.bind (textw_ev ten hu) ?_)
    have s1 : ((⟨#[117, 115, 101, 114, 32]⟩ : ByteArray) ++ txt (dec ten)).size = 5 + (dec ten).length := by rw [ByteArray.size_append, x_txt_size]; rfl
    have s2 : (((⟨#[117, 115, 101, 114, 32]⟩ : ByteArray) ++ txt (dec ten)) ++ (⟨#[32]⟩ : ByteArray)).size = 5 + (dec ten).length + 1 := by rw [ByteArray.size_append, s1]; rfl
    have s3 : ((((⟨#[117, 115, 101, 114, 32]⟩ : ByteArray) ++ txt (dec ten)) ++ (⟨#[32]⟩ : ByteArray)) ++ secret).size = 5 + (dec ten).length + 1 + secret.size := by rw [ByteArray.size_append, s2]
    have s4 : (((((⟨#[117, 115, 101, 114, 32]⟩ : ByteArray) ++ txt (dec ten)) ++ (⟨#[32]⟩ : ByteArray)) ++ secret) ++ (⟨#[13, 10]⟩ : ByteArray)).size = 5 + (dec ten).length + 1 + secret.size + 2 := by rw [ByteArray.size_append, s3]; rfl
    refine Evt.pos (by rw [x_txt_size]; omega) (Evt.pos (by rw [s1]; omega) (Evt.pos (by rw [s2]; omega) (Evt.pos (by rw [s3]; omega) (Evt.pos (by rw [s4]; omega) ((Evt.done _).cast ?_)))))
    unfold writeIn
    rw [if_neg h1, if_pos h2]
    refine congrArg (fun z => (bytesOf z, (0 : Int))) ?_
    apply ByteArray.ext
    apply Array.toList_inj.1
    simp [txt, chs, sp, crlf, ByteArray.data_append]
  refine Evt.neg h2 ?_
  have hf : reqFits kind ckind tenant keys value flags for_ unique by_ ten secret on close = true := by rw [hpf]; simp [beq_dec, h2]
  have hb : ∀ l : List UInt8, bytesOf (txt l) = l.map fun b => (b.toNat : Int) := fun l => by simp [bytesOf, txt]
  by_cases h3 : kind = 3
  · rw [← req_yes _ _ _ _ _ _ _ _ _ _ _ _ _ (by omega) hf]
    refine Evt.pos h3 ?_
    unfold writeIn
    rw [if_neg h1, if_neg h2, if_pos h3]
    cases on with
    | true => exact Evt.pos rfl ((Evt.done _).cast (by rw [hb]; rfl))
    | false => exact Evt.neg (by decide) ((Evt.done _).cast (by rw [hb]; rfl))
  refine Evt.neg h3 ?_
  by_cases h4 : kind = 4
  · rw [← req_yes _ _ _ _ _ _ _ _ _ _ _ _ _ (by omega) hf]
    refine Evt.pos h4 ?_
    unfold writeIn
    rw [if_neg h1, if_neg h2, if_neg h3, if_pos h4]
    exact (Evt.done _).cast (by rw [hb]; rfl)
  refine Evt.neg h4 ?_
  by_cases h5 : kind = 5
  · rw [← req_yes _ _ _ _ _ _ _ _ _ _ _ _ _ (by omega) hf]
    refine Evt.pos h5 ?_
    unfold writeIn
    rw [if_neg h1, if_neg h2, if_neg h3, if_neg h4]
    exact (Evt.done _).cast (by rw [hb]; rfl)
  · refine Evt.neg h5 ((Evt.done _).cast (req_no _ _ _ _ _ _ _ _ _ _ _ _ _ ?_))
    by_cases g : 1 ≤ kind
    · rw [decide_eq_false (show ¬ kind ≤ 5 by omega), Bool.and_false, Bool.false_and]
    · rw [decide_eq_false g, Bool.false_and, Bool.false_and]
theorem long_l0 (hn : keys.length < 1000) : ∀ m i, keys.length - i = m → i ≤ keys.length → ∃ r, Evt (fun k => cloakroomref10_Long.l0 k (i : Int) ckind tenant keys value flags for_ unique by_) r := by
  intro m
  induction m with
  | zero =>
    intro i hm hi
    refine ⟨false, Evt.succ ?_⟩
    simp only [cloakroomref10_Long.l0]
    exact Evt.neg (by omega) (Evt.done _)
  | succ m ih =>
    intro i hm hi
    have hi' : i < keys.length := by omega
    by_cases h : (keys[i].size : Int) > 200
    · refine ⟨true, Evt.succ ?_⟩
      simp only [cloakroomref10_Long.l0, rdS_at keys i hi']
      exact Evt.pos (by omega) (Evt.pos (by omega) (Evt.pos h (Evt.done _)))
    · obtain ⟨r, hr⟩ := ih (i + 1) (by omega) (by omega)
      refine ⟨r, Evt.succ ?_⟩
      simp only [cloakroomref10_Long.l0, rdS_at keys i hi', wrapN_succ i (by omega)]
      exact Evt.pos (by omega) (Evt.pos (by omega) (Evt.neg h hr))
theorem long_ev : ∃ r, Evt (fun k => cloakroomref10_Long.f k ckind tenant keys value flags for_ unique by_) r ∧ (r = false → keys.length ≤ 40) := by
  have ht : Evt (fun k => cloakroomref10_Long.j0 k true ckind tenant keys value flags for_ unique by_) true := by
    refine Evt.succ ?_
    simp only [cloakroomref10_Long.j0, if_true]
    exact Evt.done _
  unfold cloakroomref10_Long.f
  by_cases h1 : (value.size : Int) > 2000
  · exact ⟨true, Evt.pos h1 ht, fun h => by cases h⟩
  by_cases h2 : (keys.length : Int) > 40
  · exact ⟨true, Evt.neg h1 (by rw [decide_eq_true h2]; exact ht), fun h => by cases h⟩
  · obtain ⟨r, hr⟩ := long_l0 ckind tenant keys value flags for_ unique by_ (by omega) keys.length 0 (by omega) (by omega)
    refine ⟨r, Evt.neg h1 ?_, fun _ => by omega⟩
    rw [decide_eq_false h2]
    refine Evt.succ ?_
    simp only [cloakroomref10_Long.j0, Bool.false_eq_true, if_false]
    exact hr
include hfl hun hby in
theorem TextWrites_true : ∃ k, cloakroomlaw14_TextWrites.f k kind ckind tenant keys value flags for_ unique by_ ten secret on close = some true := by
  refine Evt.at_ (g := fun k => cloakroomlaw14_TextWrites.f k kind ckind tenant keys value flags for_ unique by_ ten secret on close) ?_
  unfold cloakroomlaw14_TextWrites.f
  obtain ⟨r, hr, hb⟩ := long_ev ckind tenant keys value flags for_ unique by_
  have ht : Evt (fun k => cloakroomlaw14_TextWrites.j0 k true kind ckind tenant keys value flags for_ unique by_ ten secret on close) true := by
    refine Evt.succ ?_
    simp only [cloakroomlaw14_TextWrites.j0, if_true]
    exact Evt.done _
  refine Evt.bind hr ?_
  cases r with
  | true => exact Evt.pos rfl ht
  | false =>
    refine Evt.neg (by decide) ?_
    by_cases hs : (secret.size : Int) > 1000
    · rw [decide_eq_true hs]; exact ht
    · rw [decide_eq_false hs]
      refine Evt.succ ?_
      simp only [cloakroomlaw14_TextWrites.j0, Bool.false_eq_true, if_false]
      refine Evt.bind (write_ev kind ckind tenant keys value flags for_ unique by_ ten secret on close hfl hun hby (hb rfl) (by omega)) (Evt.bind (refW_ev kind ckind tenant keys value flags for_ unique by_ ten secret on close hfl hun hby (hb rfl) (by omega)) (Evt.pos rfl ((Evt.done _).cast (by simp))))
end
end Go.Proofs.YtfoengihiaegoaaDoor.P
