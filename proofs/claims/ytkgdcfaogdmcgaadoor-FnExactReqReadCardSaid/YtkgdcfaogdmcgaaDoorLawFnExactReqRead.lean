/- The law FnExactReqRead holds: for every input it returns true, and leaves its arguments as they were. The package variables that its row lists read as the program's text lays them (tied by the card). -/
import Derived.Test.YtkgdcfaogdmcgaaDoorCards
import Derived.Test.YtkgdcfaogdmcgaaDoorTie
import Derived.Test.YtkgdcfaogdmcgaaDoorAllx23
import Derived.Test.YtkgdcfaogdmcgaaDoorPureFnExactReqRead
import Derived.Test.YtkgdcfaogdmcgaaDoorXOpen
import Derived.WalkKit
import Derived.ProofKit
import Derived.OpenShut
import Derived.ShutString
import Derived.ChangeOld
import Derived.Below
import Derived.SizedLaws
import Derived.LaidMore
import Derived.SevenTiedAt
import Derived.Lay
import Derived.Stop.Joined
import Derived.Test.YtkgdcfaogdmcgaaDoorXFacts
namespace Go.Proofs.YtkgdcfaogdmcgaaDoor.fnExactReqRead
open Go.ChangeShapes Go.WideShapes Go.ChangeAt Go.RowKit
open Go.ChangeMaps (open_string shut_string)
open Go.Proofs.YtkgdcfaogdmcgaaDoor.Open Go.Proofs.YtkgdcfaogdmcgaaDoor.All Go.Proofs.YtkgdcfaogdmcgaaDoorW.PrintWords
set_option linter.unusedVariables false
theorem own : ownKnob Tryd.prog.godebug = none := by kernel_rfl
set_option maxRecDepth 100000 in
theorem lifted (os : Os) (started : os.Started) (H : Type) (enc : TypeId × Value → H) :
    ReturnsInHanded {} Tryd.checked os 7 .any (fun w args => (Rows.fnExactReqReadSpec.pre enc Tryd.prog Tryd.f7 Rows.fnExactReqReadRow.domain false w args ∧ laidMetH Tryd.prog Rows.fnExactReqReadRow.laid w) ∧ sizedMet enc Tryd.prog Tryd.f7 (OpenSpec.ofChange Rows.fnExactReqReadSpec) false w args) (Rows.fnExactReqReadSpec.post enc Tryd.prog Tryd.f7 false true false false) := by
  refine handed (C := Tryd.checked) (X := fun w _ => laidMetH Tryd.prog Rows.fnExactReqReadRow.laid w) (fun _ _ _ hh h => h.of_heap hh) own started (by kernel_rfl) Tryd.func7
    (ChangeSpec.witness_shaped (enc := enc) (C := Tryd.checked) (os := os) (X := fun w _ => laidMetH Tryd.prog Rows.fnExactReqReadRow.laid w) false (World.laidAll Tryd.prog os Rows.fnExactReqReadRow.laid) #[.string ByteArray.empty] 8 (World.laidAll_os _ _ _) (World.shaped_of_ZipB (by kernel_rfl) (by kernel_rfl)) (by kernel_rfl) (by kernel_rfl) (by kernel_rfl)
      (by rw [MakeChecks.laidMetH_plain _ _ _ (by kernel_rfl)]; exact laidMet_laidAll _ (by kernel_rfl) (by kernel_rfl))) ?_
  intro W base args ds gs before hval0 hW hcnd hsz0 hL0 hsh _
  have hL := hL0
  rw [MakeChecks.laidMetH_plain _ _ _ (by kernel_rfl)] at hL
  have hval : ∀ (j : Nat) t v, Tryd.f7.params[j]? = some t → args[j]? = some v → Value.okWide Tryd.prog W .any base t v := hval0
  have hW' := hW
  obtain ⟨p, q, hA0, hV, rfl, hfz, hnd⟩ := hW
  have hA : DataW.TrodAll enc Tryd.prog W 0 (fun _ => true) true Tryd.f7.params.toList args.toList ds p := hA0
  rw [Tryd.params7] at hA hval
  obtain ⟨v0, vs0, d0, ds0, p0, q0, hargs, rfl, rfl, h0, r0⟩ := trodAll_cons hA
  obtain ⟨rfl, rfl, rfl⟩ := trodAll_nil r0
  obtain rfl : args = #[v0] := by cases args; simp_all
  obtain ⟨rfl, rfl⟩ := trodVars_none hV
  obtain ⟨a0, rfl, rfl, rfl, o0⟩ := open_string Tryd.underlying9 (hval 0 9 v0 rfl rfl) h0
  clear hA0 hval0 hsz0
  obtain ⟨k, h⟩ := Pure.FnExactReqRead a0 o0
  have hGM : GLOBM W := GLOBM.of hsh
  have hGT : GLOBT W := GLOBT.of (laidMet.tail (laidMet.tail (hL)))
  refine (laws_FnExactReqRead.calls k a0 true W hGM hGT  rfl h).mono fun e W' he => ?_
  obtain ⟨rfl, bel0⟩ := he
  have bel := bel0
  exact ⟨_, rfl, _, _, _, [], _, [], hW', trodAll_mk1 (shut_bool Tryd.underlying4 _), (trodAll_cons_mk (shut_string Tryd.underlying9 o0) trodAll_mk0), rfl, bel.frame _, fun h => by cases h⟩
theorem named_ : Tryd.pinned.checked.prog.funcNamed Rows.fnExactReqReadRow.func = some 7 := by kernel_rfl
set_option maxHeartbeats 80000000 in
theorem closed_ : joinedFacts Tryd.pinned.checked.prog 7 Tryd.f7 Rows.fnExactReqReadSpec Rows.fnExactReqReadRow = true := by
  unfold joinedFacts
  simp only [Bool.and_eq_true]
  repeat' apply And.intro
  all_goals first | (with_reducible exact XF.stopsHeard_) | (with_reducible exact XF.mayEnter_) | (rw [XF.lifts_]; as_aux_lemma => kernel_rfl) | (as_aux_lemma => kernel_rfl)
theorem over : Rows.fnExactReqReadRow.holds Tryd.pinned (OpenSpec.ofChange Rows.fnExactReqReadSpec) :=
  OpenClaim.holds_of_wide 7 Tryd.f7 rfl rfl rfl rfl rfl rfl rfl ⟨rfl, rfl, rfl, rfl, rfl⟩ rfl rfl rfl rfl rfl named_ Tryd.func7 closed_
    (of_decide_eq_true (by kernel_rfl)) (by unfold Func.isWrapper; first | (rw [if_pos (by decide +kernel)]; kernel_rfl) | (rw [if_neg (by decide +kernel)]; exact ⟨rfl, rfl⟩))
    (fun os started H enc _ => lifted os started H enc)
theorem words : Rows.fnExactReqReadRow.wfByText (OpenSpec.ofChange Rows.fnExactReqReadSpec) = true := by kernel_rfl
theorem main_ : Tryd.pinned.checked.prog.mainIs = some (true, ( "b91319245b75bef6b0e8d811d33adf2d149953a465eb16ab09e1c44efc97a0a9" : String).toList) := by kernel_rfl
theorem looks_ : true = Tryd.pinned.checked.prog.looks [] := by kernel_rfl
theorem goes_ : false = Rows.fnExactReqReadRow.goesBy Tryd.pinned.checked.prog := by kernel_rfl
theorem standIn_ : ([9].all fun u => !Tryd.prog.wantsStandIn u) = true := by kernel_rfl
theorem proved : Rows.FnExactReqReadCardSaid :=
  Claim7.holds_tied_plain_at .later [] [.data, .data, .data, .data, .pinned] true (true, "b91319245b75bef6b0e8d811d33adf2d149953a465eb16ab09e1c44efc97a0a9") true over (fun _ h => by cases h) words (fun _ h => by cases h) fnExactReqRead_row_tie rfl ⟨rfl, rfl⟩ main_ rfl
    (fun f fn hf hfn => by
      obtain rfl : f = 7 := Option.some.inj (named_.symm.trans hf) |>.symm
      obtain rfl : fn = Tryd.f7 := (Option.some.inj (Tryd.func7.symm.trans hfn)).symm
      exact ⟨looks_, fun j t ht => by
        rw [Tryd.params7] at ht
        have hm : t ∈ [9] := by simpa using Array.mem_of_getElem? ht
        exact (show Tryd.prog.wantsStandIn t = false by simpa using List.all_eq_true.1 standIn_ t hm)⟩)
    goes_
end Go.Proofs.YtkgdcfaogdmcgaaDoor.fnExactReqRead
namespace Go.Proofs.YtkgdcfaogdmcgaaDoor
/-- The row, under a short name, for the claim. -/
theorem fnExactReqRead_holds : Rows.FnExactReqReadCardSaid := fnExactReqRead.proved
#print axioms fnExactReqRead_holds
end Go.Proofs.YtkgdcfaogdmcgaaDoor
