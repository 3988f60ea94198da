/- WordsWrites: the plain law, the row, the tied card. -/
import Derived.Test.YtfoengihiaegoaaDoorXOpen
import Derived.Test.YtfoengihiaegoaaDoorXPureWrite
import Derived.Test.YtfoengihiaegoaaDoorP13
import Derived.Test.YtfoengihiaegoaaDoorP5
import Derived.Test.YtfoengihiaegoaaDoorCards
import Derived.Test.YtfoengihiaegoaaDoorTie
import Derived.ProofKit
import Derived.LaidMore
import Derived.OpenShut
import Derived.Stop.Joined
import Derived.Stop.LaidErr
import Derived.SevenTiedAt
namespace Go.Proofs.YtfoengihiaegoaaDoor.P
open Go.RowKit Go.Proofs.YtfoengihiaegoaaDoorW.PrintWords
set_option linter.unusedVariables false
set_option linter.unusedSimpArgs false

theorem words_Check_at (kind of rk : Int) (items : List S56) (n : Int) (yes : Bool) (key : ByteArray) : ∀ j, words_Check.f (4 + j) kind of rk items n yes key = some (if ansOk kind of rk items n yes key = true then 0 else 8)
  | 0 => words_Check_eq kind of rk items n yes key
  | j + 1 => words_Check.mono kind of rk items n yes key (4 + j) _ (words_Check_at kind of rk items n yes key j)
theorem WordsWrites_true (kind of rk : Int) (items : List S56) (n : Int) (yes : Bool) (key : ByteArray) (hfit : items.all itemFits = true) (hn : u64ok n = true) : cloakroomlaw15_WordsWrites.f 1300 kind of rk items n yes key = some true := by
  unfold cloakroomlaw15_WordsWrites.f
  obtain ⟨r, hr, hb⟩ := Long_eq kind of rk items n yes key 1300 (by omega)
  rw [hr, Option.bind_some]
  cases r with
  | true => rfl
  | false =>
    have hW : words_Write.f kind of rk items n yes key = some (writeAns kind of rk items n yes key) := by
      unfold words_Write.f
      rw [if_pos (by rw [hfit, hn]; rfl)]
    have hC : cloakroomref15_Check.f 1300 kind of rk items n yes key = some (if ansOk kind of rk items n yes key = true then 0 else 8) := by
      unfold cloakroomref15_Check.f
      rw [May_eq kind of rk items n yes key 1300 (by omega), Option.bind_some]
      split <;> rfl
    have hK := words_Check_at kind of rk items n yes key 1296
    rw [show 4 + 1296 = 1300 from rfl] at hK
    rw [if_neg (by decide), hW, Option.bind_some, Write_eq kind of rk items n yes key 1300 (by omega) (hb rfl) hfit hn, Option.bind_some, hK, Option.bind_some, hC, Option.bind_some, if_pos rfl, if_pos rfl]
    simp
theorem all_fits {l : List S56} (h : ∀ y ∈ l, fits5 y) : l.all itemFits = true := by
  rw [List.all_eq_true]
  intro x hx
  obtain ⟨h2, h3, h4⟩ := h x hx
  unfold itemFits
  rw [wf_u64 h4, Bool.and_true]
  simp only [Lit.wf, Bool.and_eq_true, decide_eq_true_eq] at h2
  have e1 : IntKind.u32.min = 0 := by decide
  have e2 : IntKind.u32.max = 4294967295 := by decide
  rw [e1, e2] at h2
  simp only [u64ok, Bool.and_eq_true, decide_eq_true_eq]
  omega
end Go.Proofs.YtfoengihiaegoaaDoor.P
namespace Go.Proofs.YtfoengihiaegoaaDoor.WW
open Go.ChangeShapes Go.WideShapes Go.ChangeAt Go.RowKit
theorem own : ownKnob Tryd.prog.godebug = none := by kernel_rfl
theorem laidOut : laidOutB Tryd.prog = true := by kernel_rfl
theorem gPow : Tryd.prog.globalNamed "internal/strconv.uint64pow10" = some 1 := by kernel_rfl
theorem gPowType : (Tryd.prog.globals[1]?).map (·.type) = some 147 := by kernel_rfl
theorem of_laid {W : World} (h : laidMetH Tryd.prog Rows.wordsWritesRow.laid W) : P.Laid W := by
  rw [MakeChecks.laidMetH_plain _ _ _ (by kernel_rfl)] at h
  have h1 := laidMet.tail (laidMet.tail h)
  exact ⟨Lib.tabIs_of_head gPow gPowType Tryd.underlying147 Tryd.underlying23 (by kernel_rfl) (by kernel_rfl) h1⟩
theorem door_met (os : Os) (args : Array Value) : laidMetH Tryd.prog Rows.wordsWritesRow.laid ((World.doorLaid Tryd.prog 400 os).forCall (fun _ _ => 0) ⟨#[], args, []⟩).memory :=
  laidMetH_of_parts3 (fuel := 8) (laidMet_of_run' 8 (by kernel_rfl) (by kernel_rfl)) (by kernel_rfl) (by kernel_rfl)
set_option maxRecDepth 100000 in
theorem lifted (os : Os) (started : os.Started) (H : Type) (enc : TypeId × Value → H) :
    ReturnsInHanded {} Tryd.checked os 3 .any (fun w args => (Rows.wordsWritesSpec.pre enc Tryd.prog Tryd.f3 [] false w args ∧ laidMetH Tryd.prog Rows.wordsWritesRow.laid w) ∧ sizedMet enc Tryd.prog Tryd.f3 (OpenSpec.ofChange Rows.wordsWritesSpec) false w args)
      (Rows.wordsWritesSpec.post enc Tryd.prog Tryd.f3 false true false false) := by
  refine returnsInHanded_of_change_and (C := Tryd.checked) (X := fun w _ => laidMetH Tryd.prog Rows.wordsWritesRow.laid w) (fun _ _ _ hh h => h.of_heap hh) own started (by kernel_rfl) Tryd.func3
    (ChangeSpec.witness_shaped (enc := enc) (C := Tryd.checked) (os := os) (X := fun w _ => laidMetH Tryd.prog Rows.wordsWritesRow.laid w) false (World.doorLaid Tryd.prog 400 os) #[.agg #[.int .u8 0, .int .u8 0, .int .u8 0, .slice none 0 0, .int .u64 0, .bool false, .string ByteArray.empty]] 8 rfl (World.shaped_of_RefB (by kernel_rfl) (by kernel_rfl)) (by kernel_rfl) (by kernel_rfl) (by kernel_rfl) (door_met os _)) ?_
  intro W base args ds gs before hval0 hW _ _ hL _
  have hval : ∀ (j : Nat) t v, Tryd.f3.params[j]? = some t → args[j]? = some v → Value.okWide Tryd.prog W .any base t v := hval0
  have hW' := hW
  obtain ⟨p, q, hA0, hV, rfl, hfz, hnd⟩ := hW
  have hA : DataW.TrodAll enc Tryd.prog W 0 (fun _ => true) true Tryd.f3.params.toList args.toList ds p := hA0
  rw [Tryd.params3] at hA hval
  obtain ⟨v0, d0, rfl, rfl, h0⟩ := trodAll_one hA
  obtain ⟨rfl, rfl⟩ := trodVars_none hV
  obtain ⟨cs, rfl, _⟩ := okWide_struct Tryd.underlying27 (hval 0 27 v0 rfl rfl)
  have k0 := h0
  have lt0 : ∀ x ∈ p, x.block < W.heap.size := by obtain ⟨m, hm⟩ := k0; exact DataW.trod_lt m _ _ _ hm
  obtain ⟨fuel, hf⟩ := h0
  obtain ⟨a0, a1, a2, A3, c3, l3, a4, a5, a6, hcs, hC, hle, w0, w1, w2, w3, w4⟩ := P.open_answer hf
  have hcs' : cs = #[.int .u8 a0, .int .u8 a1, .int .u8 a2, .slice A3 l3.length c3, .int .u64 a4, .bool a5, .string a6] := Array.toList_inj.1 hcs
  subst hcs'
  have hLd := of_laid hL
  clear hA0 hval0
  simp only [List.append_nil] at hW'
  refine (P.cloakroomlaw15_WordsWrites.calls 1300 a0 a1 a2 A3 c3 l3 a4 a5 a6 true W hC hle hLd (P.WordsWrites_true a0 a1 a2 l3 a4 a5 a6 (P.all_fits w3) (P.wf_u64 w4))).mono fun e W' ⟨he, bel⟩ => ?_
  subst he
  exact ⟨_, rfl, _, _, _, [], _, [], hW', trodAll_mk1 (shut_bool Tryd.underlying4 _), trodAll_mk1 (Below.trod laidOut (by kernel_rfl) (of_decide_eq_true (by kernel_rfl)) k0 bel lt0), rfl, bel.frame _, fun h => by cases h⟩
theorem over : Rows.WordsWritesSaid :=
  OpenClaim.holds_of_wide 3 Tryd.f3 rfl rfl rfl rfl rfl rfl rfl ⟨rfl, rfl, rfl, rfl, rfl⟩ rfl rfl rfl rfl rfl (by kernel_rfl) Tryd.func3 (by kernel_rfl)
    (of_decide_eq_true (by kernel_rfl)) (by unfold Func.isWrapper; first | (rw [if_pos (by decide +kernel)]; kernel_rfl) | (rw [if_neg (by decide +kernel)]; exact ⟨rfl, rfl⟩))
    (fun os started H enc _ => lifted os started H enc)
end Go.Proofs.YtfoengihiaegoaaDoor.WW
namespace Go.Proofs.YtfoengihiaegoaaDoor
open Go
/-- The tied card. -/
theorem wordsWrites_card_holds : Rows.WordsWritesCardSaid :=
  Claim7.holds_tied_plain_at .later [] [.data, .data, .data] true (true, "a026f0d5e07ccd4c5162eaefa38e77b9e29d41b0a62ec842150d95f68bceba71") true
    WW.over (fun _ h => by cases h) (by kernel_rfl) (fun _ h => by cases h) wordsWrites_row_tie rfl ⟨rfl, rfl⟩ (by kernel_rfl) rfl
    (fun f fn hf hfn => by
      obtain rfl : f = 3 := Option.some.inj ((show Tryd.prog.funcNamed "cloakroom/cloakroomlaw15.WordsWrites" = some 3 by kernel_rfl).symm.trans hf) |>.symm
      obtain rfl : fn = Tryd.f3 := (Option.some.inj (Tryd.func3.symm.trans hfn)).symm
      exact ⟨by kernel_rfl, fun j t ht => by
        rw [Tryd.params3] at ht
        have hm : t ∈ [27] := by simpa using Array.mem_of_getElem? ht
        have hall : ([27].all fun u => !Tryd.prog.wantsStandIn u) = true := by kernel_rfl
        exact (show Tryd.prog.wantsStandIn t = false by simpa using List.all_eq_true.1 hall t hm)⟩)
    (by kernel_rfl)
#print axioms wordsWrites_card_holds
end Go.Proofs.YtfoengihiaegoaaDoor
