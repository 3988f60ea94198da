/- TextWrites: a request's line, or the error, is the document's; for every request: the row, the tied card. -/
import Derived.Test.YtfoengihiaegoaaDoorXOpenReq
import Derived.Test.YtfoengihiaegoaaDoorXPureReqW
import Derived.Test.YtfoengihiaegoaaDoorP32
import Derived.Test.YtfoengihiaegoaaDoorCards
import Derived.Test.YtfoengihiaegoaaDoorTie
import Derived.ProofKit
import Derived.LaidMore
import Derived.OpenShut
import Derived.Stop.Joined
import Derived.Stop.LaidErr
import Derived.SevenTiedAt
set_option linter.unusedVariables false
set_option linter.unusedSimpArgs false
namespace Go.Proofs.YtfoengihiaegoaaDoor.TW
open Go.ChangeShapes Go.WideShapes Go.ChangeAt Go.RowKit
theorem own : ownKnob Tryd.prog.godebug = none := by kernel_rfl
theorem laidOut : laidOutB Tryd.prog = true := by kernel_rfl
theorem gPow : Tryd.prog.globalNamed "internal/strconv.uint64pow10" = some 1 := by kernel_rfl
theorem gPowType : (Tryd.prog.globals[1]?).map (·.type) = some 147 := by kernel_rfl
theorem of_laid {W : World} (h : laidMetH Tryd.prog Rows.textWritesRow.laid W) : P.Laid W := by
  rw [MakeChecks.laidMetH_plain _ _ _ (by kernel_rfl)] at h
  have h1 := laidMet.tail (laidMet.tail h)
  exact ⟨Lib.tabIs_of_head gPow gPowType Tryd.underlying147 Tryd.underlying23 (by kernel_rfl) (by kernel_rfl) h1⟩
theorem door_met (os : Os) (args : Array Value) : laidMetH Tryd.prog Rows.textWritesRow.laid ((World.doorLaid Tryd.prog 400 os).forCall (fun _ _ => 0) ⟨#[], args, []⟩).memory :=
  laidMetH_of_parts3 (fuel := 8) (laidMet_of_run' 8 (by kernel_rfl) (by kernel_rfl)) (by kernel_rfl) (by kernel_rfl)
set_option maxRecDepth 100000 in
theorem lifted (os : Os) (started : os.Started) (H : Type) (enc : TypeId × Value → H) :
    ReturnsInHanded {} Tryd.checked os 4 .any (fun w args => (Rows.textWritesSpec.pre enc Tryd.prog Tryd.f4 [] false w args ∧ laidMetH Tryd.prog Rows.textWritesRow.laid w) ∧ sizedMet enc Tryd.prog Tryd.f4 (OpenSpec.ofChange Rows.textWritesSpec) false w args)
      (Rows.textWritesSpec.post enc Tryd.prog Tryd.f4 false true false false) := by
  refine returnsInHanded_of_change_and (C := Tryd.checked) (X := fun w _ => laidMetH Tryd.prog Rows.textWritesRow.laid w) (fun _ _ _ hh h => h.of_heap hh) own started (by kernel_rfl) Tryd.func4
    (ChangeSpec.witness_shaped (enc := enc) (C := Tryd.checked) (os := os) (X := fun w _ => laidMetH Tryd.prog Rows.textWritesRow.laid w) false (World.doorLaid Tryd.prog 400 os) #[.agg #[.int .u8 0, .int .u8 0, .int .i64 0, .slice none 0 0, .string ByteArray.empty, .int .u32 0, .int .i64 0, .int .u64 0, .int .u64 0, .int .i64 0, .string ByteArray.empty, .bool false, .bool false]] 8 rfl (World.shaped_of_RefB (by kernel_rfl) (by kernel_rfl)) (by kernel_rfl) (by kernel_rfl) (by kernel_rfl) (door_met os _)) ?_
  intro W base args ds gs before hval0 hW _ _ hL _
  have hval : ∀ (j : Nat) t v, Tryd.f4.params[j]? = some t → args[j]? = some v → Value.okWide Tryd.prog W .any base t v := hval0
  have hW' := hW
  obtain ⟨p, q, hA0, hV, rfl, hfz, hnd⟩ := hW
  have hA : DataW.TrodAll enc Tryd.prog W 0 (fun _ => true) true Tryd.f4.params.toList args.toList ds p := hA0
  rw [Tryd.params4] at hA hval
  obtain ⟨v0, d0, rfl, rfl, h0⟩ := trodAll_one hA
  obtain ⟨rfl, rfl⟩ := trodVars_none hV
  obtain ⟨cs, rfl, _⟩ := okWide_struct Tryd.underlying42 (hval 0 42 v0 rfl rfl)
  have k0 := h0
  have lt0 : ∀ x ∈ p, x.block < W.heap.size := by obtain ⟨m, hm⟩ := k0; exact DataW.trod_lt m _ _ _ hm
  obtain ⟨fuel, hf⟩ := h0
  obtain ⟨r0, a0, a1, A2, c2, l2, a3, a4, a5, a6, a7, r2, r3, r4, r5, hcs, hC, hle, w4, w6, w7⟩ := P.open_request hf
  have hcs' : cs = #[.int .u8 r0, .int .u8 a0, .int .i64 a1, .slice A2 l2.length c2, .string a3, .int .u32 a4, .int .i64 a5, .int .u64 a6, .int .u64 a7, .int .i64 r2, .string r3, .bool r4, .bool r5] := Array.toList_inj.1 hcs
  subst hcs'
  have hLd := of_laid hL
  clear hA0 hval0
  simp only [List.append_nil] at hW'
  obtain ⟨k, hk⟩ := P.TextWrites_true r0 a0 a1 l2 a3 a4 a5 a6 a7 r2 r3 r4 r5 (P.wf_u32 w4) (P.wf_u64 w6) (P.wf_u64 w7)
  refine (P.cloakroomlaw14_TextWrites.calls k r0 a0 a1 A2 c2 l2 a3 a4 a5 a6 a7 r2 r3 r4 r5 true W hC hle hLd hk).mono fun e W' ⟨he, bel⟩ => ?_
  subst he
  exact ⟨_, rfl, _, _, _, [], _, [], hW', trodAll_mk1 (shut_bool Tryd.underlying4 _), trodAll_mk1 (Below.trod laidOut (by kernel_rfl) (of_decide_eq_true (by kernel_rfl)) k0 bel lt0), rfl, bel.frame _, fun h => by cases h⟩
theorem over : Rows.TextWritesSaid :=
  OpenClaim.holds_of_wide 4 Tryd.f4 rfl rfl rfl rfl rfl rfl rfl ⟨rfl, rfl, rfl, rfl, rfl⟩ rfl rfl rfl rfl rfl (by kernel_rfl) Tryd.func4 (by kernel_rfl)
    (of_decide_eq_true (by kernel_rfl)) (by unfold Func.isWrapper; first | (rw [if_pos (by decide +kernel)]; kernel_rfl) | (rw [if_neg (by decide +kernel)]; exact ⟨rfl, rfl⟩))
    (fun os started H enc _ => lifted os started H enc)
end Go.Proofs.YtfoengihiaegoaaDoor.TW
namespace Go.Proofs.YtfoengihiaegoaaDoor
open Go
theorem textWrites_card_holds : Rows.TextWritesCardSaid :=
  Claim7.holds_tied_plain_at .later [] [.data, .data, .data] true (true, "a026f0d5e07ccd4c5162eaefa38e77b9e29d41b0a62ec842150d95f68bceba71") true
    TW.over (fun _ h => by cases h) (by kernel_rfl) (fun _ h => by cases h) textWrites_row_tie rfl ⟨rfl, rfl⟩ (by kernel_rfl) rfl
    (fun f fn hf hfn => by
      obtain rfl : f = 4 := Option.some.inj ((show Tryd.prog.funcNamed "cloakroom/cloakroomlaw14.TextWrites" = some 4 by kernel_rfl).symm.trans hf) |>.symm
      obtain rfl : fn = Tryd.f4 := (Option.some.inj (Tryd.func4.symm.trans hfn)).symm
      exact ⟨by kernel_rfl, fun j t ht => by
        rw [Tryd.params4] at ht
        have hm : t ∈ [42] := by simpa using Array.mem_of_getElem? ht
        have hall : ([42].all fun u => !Tryd.prog.wantsStandIn u) = true := by kernel_rfl
        exact (show Tryd.prog.wantsStandIn t = false by simpa using List.all_eq_true.1 hall t hm)⟩)
    (by kernel_rfl)
#print axioms textWrites_card_holds
end Go.Proofs.YtfoengihiaegoaaDoor
