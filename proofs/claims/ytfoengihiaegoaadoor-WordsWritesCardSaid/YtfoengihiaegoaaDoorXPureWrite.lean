/- The plain law of keys and numbers in the document's own answer: the lines of an answer that may be, and what is written. -/
import Derived.Test.YtfoengihiaegoaaDoorP8
import Derived.Test.YtfoengihiaegoaaDoorP2
import Derived.Test.YtfoengihiaegoaaDoorP9
import Derived.Test.YtfoengihiaegoaaDoorP9
import Derived.Test.YtfoengihiaegoaaDoorP7
import Derived.Test.YtfoengihiaegoaaDoorXPureLines
import Derived.Test.YtfoengihiaegoaaDoorXWrite
import Derived.Test.YtfoengihiaegoaaDoorXDone
import Derived.Test.YtfoengihiaegoaaDoorP11
import Derived.Test.YtfoengihiaegoaaDoorP10
import Derived.Laws.RangeAny
import Derived.Laws.RangeString
import Derived.Lib.ItoaNum
namespace Go.Proofs.YtfoengihiaegoaaDoor.P
open Go.RowKit Go.Proofs.YtfoengihiaegoaaDoorW.PrintWords
set_option linter.unusedVariables false
set_option linter.unusedSimpArgs false

theorem Lines_step (x0 of rk : Int) (items : List S56) (n : Int) (yes : Bool) (key : ByteArray) (k i : Nat) (s : ByteArray) (hs : s.size ≤ 100000) (hi : i < items.length) (hl : items.length < 1000) (hk : 20 ≤ k)
    (h0 : items[i].f0.size ≤ 32) (h1 : items[i].f1.size ≤ 512) (h2 : u64ok items[i].f2 = true) (h3 : u64ok items[i].f3 = true) (h4 : u64ok items[i].f4 = true) :
    cloakroomref15_Lines.l0 (k + 1) s (i : Int) x0 of rk items n yes key = cloakroomref15_Lines.l0 k (s ++ txt (itemLine items[i])) ((i + 1 : Nat) : Int) x0 of rk items n yes key := by
  simp only [cloakroomref15_Lines.l0]
  rw [if_pos (by omega), if_pos (by omega), rd_at items i hi, wrap_succ i (by omega)]
  generalize items[i] = x at h0 h1 h2 h3 h4
  have hx1 : u64ok (x.f1.size : Int) = true := by simp only [u64ok, Bool.and_eq_true, decide_eq_true_eq]; omega
  have d2 := dec_size _ h2
  have d3 := dec_size _ h3
  have d4 := dec_size _ h4
  have d1 := dec_size _ hx1
  rw [if_pos (by omega), if_pos (by simp only [ByteArray.size_append, x_size_lit, List.size_toArray, List.length_cons, List.length_nil]; omega), if_pos (by simp only [ByteArray.size_append, x_size_lit, List.size_toArray, List.length_cons, List.length_nil]; omega),
    Text_wrap _ k h2 hk, Option.bind_some,
    if_pos (by simp only [ByteArray.size_append, x_size_lit, List.size_toArray, List.length_cons, List.length_nil]; omega), if_pos (by simp only [ByteArray.size_append, x_size_lit, List.size_toArray, List.length_cons, List.length_nil]; omega),
    Text_wrap _ k h3 hk, Option.bind_some,
    if_pos (by simp only [ByteArray.size_append, x_size_lit, List.size_toArray, List.length_cons, List.length_nil]; omega), if_pos (by simp only [ByteArray.size_append, x_size_lit, List.size_toArray, List.length_cons, List.length_nil]; omega),
    Text_dec _ k h4 hk, Option.bind_some,
    if_pos (by simp only [ByteArray.size_append, x_size_lit, List.size_toArray, List.length_cons, List.length_nil]; omega), if_pos (by simp only [ByteArray.size_append, x_size_lit, List.size_toArray, List.length_cons, List.length_nil]; omega),
    Text_wrap _ k hx1 hk, Option.bind_some,
    if_pos (by simp only [ByteArray.size_append, x_size_lit, List.size_toArray, List.length_cons, List.length_nil]; omega), if_pos (by simp only [ByteArray.size_append, x_size_lit, List.size_toArray, List.length_cons, List.length_nil]; omega),
    if_pos (by simp only [ByteArray.size_append, x_size_lit, List.size_toArray, List.length_cons, List.length_nil]; omega), if_pos (by simp only [ByteArray.size_append, x_size_lit, List.size_toArray, List.length_cons, List.length_nil]; omega)]
  refine congrArg (fun z => cloakroomref15_Lines.l0 k z ((i + 1 : Nat) : Int) x0 of rk items n yes key) ?_
  apply ByteArray.ext
  apply Array.toList_inj.1
  simp [itemLine, txt, chs, sp, crlf, ByteArray.data_append]
theorem Lines_l0 (x0 of rk : Int) (items : List S56) (n : Int) (yes : Bool) (key : ByteArray) (ho : 1 ≤ of ∧ of ≤ 11) (hn : u64ok n = true) (hlen : items.length ≤ 8)
    (hit : ∀ x ∈ items, x.f0.size ≤ 32 ∧ x.f1.size ≤ 512 ∧ u64ok x.f2 = true ∧ u64ok x.f3 = true ∧ u64ok x.f4 = true) :
    ∀ (m i k : Nat) (s : ByteArray), items.length - i = m → m + 21 ≤ k → s.size + 1000 * m ≤ 100000 → cloakroomref15_Lines.l0 k s (i : Int) x0 of rk items n yes key = some (s ++ txt ((items.drop i).flatMap itemLine ++ (rowWord of ++ if cnt of then sp ++ dec n else []))) := by
  intro m
  induction m with
  | zero =>
    intro i k s hm hk hs
    rw [Lines_end x0 of rk items n yes key k i s (by omega) (by omega) (by omega) ho hn, List.drop_eq_nil_of_le (by omega)]
    rfl
  | succ m ih =>
    intro i k s hm hk hs
    obtain ⟨k, rfl⟩ : ∃ j, k = j + 1 := ⟨k - 1, by omega⟩
    have hi : i < items.length := by omega
    obtain ⟨h0, h1, h2, h3, h4⟩ := hit items[i] (List.getElem_mem hi)
    have hx1 : u64ok (items[i].f1.size : Int) = true := by simp only [u64ok, Bool.and_eq_true, decide_eq_true_eq]; omega
    have hll := x_line_len items[i] (x_head_len _ h0 hx1 h2 h3 h4) h1
    rw [Lines_step x0 of rk items n yes key k i s (by omega) hi (by omega) (by omega) h0 h1 h2 h3 h4,
      ih (i + 1) k _ (by omega) (by omega) (by rw [ByteArray.size_append, x_txt_size]; omega), List.drop_eq_getElem_cons hi]
    refine congrArg some ?_
    apply ByteArray.ext
    apply Array.toList_inj.1
    simp only [txt, ByteArray.data_append, Array.toList_append, List.flatMap_cons, List.append_assoc]
theorem Lines_eq (kind of rk : Int) (items : List S56) (n : Int) (yes : Bool) (key : ByteArray) (k : Nat) (hk : 40 ≤ k) (hans : ansOk kind of rk items n yes key = true) (hfit : items.all itemFits = true) (hn : u64ok n = true) :
    cloakroomref15_Lines.f k kind of rk items n yes key = some (txt (lines kind of rk items n yes key)) := by
  obtain ⟨hk1, hk7, hkey, hres⟩ := ansOk_parts hans
  have hkd : kind = 1 ∨ kind = 2 ∨ kind = 3 ∨ kind = 4 ∨ kind = 5 ∨ kind = 6 ∨ kind = 7 := by omega
  clear hk1 hk7 hans
  rcases hkd with rfl | rfl | rfl | rfl | rfl | rfl | rfl
  · obtain ⟨hof, hrk, hlen, hits⟩ := resOk_parts (hres rfl)
    unfold cloakroomref15_Lines.f lines
    by_cases h1 : rk = 1
    · have := Lines_l0 1 of rk items n yes key hof hn hlen (x_items items hits hfit) items.length 0 k (⟨#[]⟩ : ByteArray) rfl (by omega) (by show 0 + _ ≤ _; omega)
      rw [show ((0 : Nat) : Int) = 0 from rfl] at this
      simp only [if_neg (show ¬ (1 : Int) = 2 by decide), if_neg (show ¬ (1 : Int) = 3 by decide), if_neg (show ¬ (1 : Int) = 4 by decide), if_neg (show ¬ (1 : Int) = 5 by decide), if_neg (show ¬ (1 : Int) = 6 by decide), if_neg (show ¬ (1 : Int) = 7 by decide), if_pos h1, if_true]
      rw [this]
      congr 1
      apply ByteArray.ext
      apply Array.toList_inj.1
      simp [txt, doneLines, ByteArray.data_append]
    · have hw : cloakroomref15_word.f rk = some (txt (resWord rk)) := by
        unfold cloakroomref15_word.f
        rw [if_pos (by omega)]
      simp [h1, hw]
  all_goals unfold cloakroomref15_Lines.f lines
  · cases yes <;> rfl
  · cases yes <;> rfl
  · rfl
  · rfl
  · rfl
  · simp only [if_neg (show ¬ (7 : Int) = 1 by decide), if_neg (show ¬ (7 : Int) = 2 by decide), if_neg (show ¬ (7 : Int) = 3 by decide), if_neg (show ¬ (7 : Int) = 4 by decide), if_neg (show ¬ (7 : Int) = 5 by decide), if_neg (show ¬ (7 : Int) = 6 by decide), if_true]
    rw [if_pos (by omega)]
    first
    | rfl
    | (refine congrArg some ?_
       apply ByteArray.ext
       apply Array.toList_inj.1
       simp [txt, chs, ByteArray.data_append])
theorem lines_len (kind of rk : Int) (items : List S56) (n : Int) (yes : Bool) (key : ByteArray) (hans : ansOk kind of rk items n yes key = true) (hfit : items.all itemFits = true) (hn : u64ok n = true) : (lines kind of rk items n yes key).length ≤ 7000 := by
  obtain ⟨hk1, hk7, hkey, hres⟩ := ansOk_parts hans
  have hc : (chs key).length = key.size := Array.length_toList
  unfold lines
  by_cases h1 : kind = 1
  · obtain ⟨hof, hrk, hlen, hits⟩ := resOk_parts (hres h1)
    have := doneLines_len of items n hlen hits hfit hn
    have := resWord_len rk
    rw [if_pos h1]
    split <;> omega
  · rw [if_neg h1]
    repeat' split
    all_goals simp only [List.length_append, List.length_cons, List.length_nil, hc]
    all_goals omega
theorem Write_l0 (kind of rk : Int) (items : List S56) (n : Int) (yes : Bool) (key : ByteArray) (hans : ansOk kind of rk items n yes key = true) (hfit : items.all itemFits = true) (hn : u64ok n = true) (hlen : items.length ≤ 40) (hsz : ∀ x ∈ items, x.f0.size ≤ 1000) :
    ∀ (m i k : Nat), items.length - i = m → m + 1100 ≤ k → cloakroomref15_Write.l0 k (i : Int) kind of rk items n yes key = some (if (items.drop i).all (fun x => isPlain x.f0) = true then (bytesOf (txt (lines kind of rk items n yes key ++ crlf)), 0) else ([], 8)) := by
  intro m
  induction m with
  | zero =>
    intro i k hm hk
    obtain ⟨k, rfl⟩ : ∃ j, k = j + 1 := ⟨k - 1, by omega⟩
    have hll := lines_len kind of rk items n yes key hans hfit hn
    simp only [cloakroomref15_Write.l0]
    rw [if_neg (by omega), Lines_eq kind of rk items n yes key k (by omega) hans hfit hn, Option.bind_some, List.drop_eq_nil_of_le (by omega)]
    have e1 : (txt (lines kind of rk items n yes key)).size ≤ 7000 := by rw [x_txt_size]; exact hll
    have e2 : (txt (lines kind of rk items n yes key) ++ (⟨#[13, 10]⟩ : ByteArray)).size = (txt (lines kind of rk items n yes key)).size + 2 := ByteArray.size_append
    rw [if_pos (by omega), if_pos (by omega), ← x_end]
    rfl
  | succ m ih =>
    intro i k hm hk
    obtain ⟨k, rfl⟩ : ∃ j, k = j + 1 := ⟨k - 1, by omega⟩
    have hi : i < items.length := by omega
    simp only [cloakroomref15_Write.l0]
    rw [if_pos (by omega), if_pos (by omega), rd_at items i hi, wrap_succ i (by omega), plain15_eq _ k (hsz _ (List.getElem_mem hi)) (by omega), Option.bind_some, ih (i + 1) k (by omega) (by omega), List.drop_eq_getElem_cons hi, List.all_cons]
    cases isPlain items[i].f0 <;> simp
theorem Write_eq (kind of rk : Int) (items : List S56) (n : Int) (yes : Bool) (key : ByteArray) (k : Nat) (hk : 1200 ≤ k) (hsh : shortAns items key) (hfit : items.all itemFits = true) (hn : u64ok n = true) :
    cloakroomref15_Write.f k kind of rk items n yes key = some (writeAns kind of rk items n yes key) := by
  obtain ⟨hkey, hlen, hit⟩ := hsh
  unfold cloakroomref15_Write.f writeAns
  rw [May_eq kind of rk items n yes key k (by omega), Option.bind_some]
  obtain ⟨k, rfl⟩ : ∃ j, k = j + 1 := ⟨k - 1, by omega⟩
  by_cases ha : ansOk kind of rk items n yes key = true
  · rw [if_pos ha, plain15_eq key _ hkey (by omega), Option.bind_some]
    simp only [cloakroomref15_Write.j0]
    have := Write_l0 kind of rk items n yes key ha hfit hn hlen (fun x hx => (hit x hx).1) items.length 0 k rfl (by omega)
    rw [show ((0 : Nat) : Int) = 0 from rfl, List.drop_zero] at this
    rw [this, ha]
    cases isPlain key <;> simp
  · rw [if_neg ha]
    simp only [cloakroomref15_Write.j0]
    simp [ha]
end Go.Proofs.YtfoengihiaegoaaDoor.P
