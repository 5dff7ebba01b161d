/- The law FnExactReqText holds: for every input it returns true, and leaves its arguments as they were. The package variables that its row lists read as the program's text lays them (tied by the card). -/
import Derived.Test.YtkgdcfaogdmcgaaDoorCards
import Derived.Test.YtkgdcfaogdmcgaaDoorTie
import Derived.Test.YtkgdcfaogdmcgaaDoorAllx23
import Derived.Test.YtkgdcfaogdmcgaaDoorPureFnExactReqText
import Derived.Test.YtkgdcfaogdmcgaaDoorXOpen
import Derived.WalkKit
import Derived.ProofKit
import Derived.OpenShut
import Derived.ShutString
import Derived.ChangeOld
import Derived.Below
import Derived.SizedLaws
import Derived.Test.YtkgdcfaogdmcgaaDoorXKinds
import Derived.LaidMore
import Derived.SevenTiedAt
import Derived.Lay
import Derived.Stop.Joined
import Derived.Test.YtkgdcfaogdmcgaaDoorXFacts
namespace Go.Proofs.YtkgdcfaogdmcgaaDoor.fnExactReqText
open Go.ChangeShapes Go.WideShapes Go.ChangeAt Go.RowKit
open Go.ChangeMaps (open_string shut_string)
open Go.Proofs.YtkgdcfaogdmcgaaDoor.Open Go.Proofs.YtkgdcfaogdmcgaaDoor.All Go.Proofs.YtkgdcfaogdmcgaaDoorW.PrintWords
set_option linter.unusedVariables false
theorem own : ownKnob Tryd.prog.godebug = none := by kernel_rfl
theorem laidOut : laidOutB Tryd.prog = true := by kernel_rfl
set_option maxRecDepth 100000 in
theorem lifted (os : Os) (started : os.Started) (H : Type) (enc : TypeId × Value → H) :
    ReturnsInHanded {} Tryd.checked os 4 .any (fun w args => (Rows.fnExactReqTextSpec.pre enc Tryd.prog Tryd.f4 Rows.fnExactReqTextRow.domain false w args ∧ laidMetH Tryd.prog Rows.fnExactReqTextRow.laid w) ∧ sizedMet enc Tryd.prog Tryd.f4 (OpenSpec.ofChange Rows.fnExactReqTextSpec) false w args) (Rows.fnExactReqTextSpec.post enc Tryd.prog Tryd.f4 false true false false) := by
  refine handed (C := Tryd.checked) (X := fun w _ => laidMetH Tryd.prog Rows.fnExactReqTextRow.laid w) (fun _ _ _ hh h => h.of_heap hh) own started (by kernel_rfl) Tryd.func4
    (ChangeSpec.witness_shaped (enc := enc) (C := Tryd.checked) (os := os) (X := fun w _ => laidMetH Tryd.prog Rows.fnExactReqTextRow.laid w) false (World.laidAll Tryd.prog os Rows.fnExactReqTextRow.laid) #[.agg #[.int .i64 0, .string ByteArray.empty, .slice none 0 0, .string ByteArray.empty]] 8 (World.laidAll_os _ _ _) (World.shaped_of_ZipB (by kernel_rfl) (by kernel_rfl)) (by kernel_rfl) (by kernel_rfl) (by kernel_rfl)
      (by rw [MakeChecks.laidMetH_plain _ _ _ (by kernel_rfl)]; exact laidMet_laidAll _ (by kernel_rfl) (by kernel_rfl))) ?_
  intro W base args ds gs before hval0 hW hcnd hsz0 hL0 hsh _
  have hL := hL0
  rw [MakeChecks.laidMetH_plain _ _ _ (by kernel_rfl)] at hL
  have hval : ∀ (j : Nat) t v, Tryd.f4.params[j]? = some t → args[j]? = some v → Value.okWide Tryd.prog W .any base t v := hval0
  have hW' := hW
  obtain ⟨p, q, hA0, hV, rfl, hfz, hnd⟩ := hW
  have hA : DataW.TrodAll enc Tryd.prog W 0 (fun _ => true) true Tryd.f4.params.toList args.toList ds p := hA0
  rw [Tryd.params4] at hA hval
  obtain ⟨v0, vs0, d0, ds0, p0, q0, hargs, rfl, rfl, h0, r0⟩ := trodAll_cons hA
  obtain ⟨rfl, rfl, rfl⟩ := trodAll_nil r0
  obtain rfl : args = #[v0] := by cases args; simp_all
  obtain ⟨rfl, rfl⟩ := trodVars_none hV
  have lt0 : ∀ x ∈ p0, x.block < W.heap.size := by obtain ⟨m, hm⟩ := h0; exact DataW.trod_lt m _ _ _ hm
  have k0 := h0
  obtain ⟨cs0, rfl, _⟩ := okWide_struct Tryd.underlying41 (hval 0 41 v0 rfl rfl)
  obtain ⟨a0, hk0, o0⟩ := of_Trod (opens_struct Tryd.underlying41 (by kernel_rfl) (opens_cons rfl (by kernel_rfl) (opens_int Tryd.underlying3) (opens_cons rfl (by kernel_rfl) (opens_string Tryd.underlying9) (opens_cons rfl (by kernel_rfl) (opens_slice Tryd.underlying39 (by kernel_rfl) (opens_struct Tryd.underlying121 (by kernel_rfl) (opens_cons rfl (by kernel_rfl) (opens_string Tryd.underlying9) (opens_last rfl (by kernel_rfl) (opens_string Tryd.underlying9))) (fun x : S121 => (x.f0, x.f1)) (fun p => ⟨p.1, p.2⟩) (fun _ => rfl))) (opens_last rfl (by kernel_rfl) (opens_string Tryd.underlying9))))) (fun x : S41 => (x.f0, x.f1, x.f2, x.f3)) (fun p => ⟨p.1, p.2.1, p.2.2.1, p.2.2.2⟩) (fun _ => rfl)) h0
  obtain ⟨A0_2, c0_2, e0, hc0_2, hr0_2⟩ := k41_open hk0
  obtain rfl : cs0 = #[.int .i64 a0.f0, .string a0.f1, .slice A0_2 a0.f2.length c0_2, .string a0.f3] := by cases cs0; simpa [Value.cells] using e0
  clear hA0 hval0 hsz0
  obtain ⟨k, h⟩ := Pure.FnExactReqText a0 o0
  have hGT : GLOBT W := GLOBT.of (laidMet.tail (laidMet.tail (hL)))
  refine (laws_FnExactReqText.calls k a0.f0 a0.f1 _ _ a0.f2 a0.f3 true W hGT hr0_2 hc0_2 rfl h).mono fun e W' he => ?_
  obtain ⟨rfl, bel0⟩ := he
  have bel := bel0
  exact ⟨_, rfl, _, _, _, [], _, [], hW', trodAll_mk1 (shut_bool Tryd.underlying4 _), (trodAll_cons_mk (Below.trod laidOut (by kernel_rfl) (of_decide_eq_true (by kernel_rfl)) k0 bel lt0) trodAll_mk0), rfl, bel.frame _, fun h => by cases h⟩
theorem named_ : Tryd.pinned.checked.prog.funcNamed Rows.fnExactReqTextRow.func = some 4 := by kernel_rfl
set_option maxHeartbeats 80000000 in
theorem closed_ : joinedFacts Tryd.pinned.checked.prog 4 Tryd.f4 Rows.fnExactReqTextSpec Rows.fnExactReqTextRow = true := by
  unfold joinedFacts
  simp only [Bool.and_eq_true]
  repeat' apply And.intro
  all_goals first | (with_reducible exact XF.stopsHeard_) | (with_reducible exact XF.mayEnter_) | (rw [XF.lifts_]; as_aux_lemma => kernel_rfl) | (as_aux_lemma => kernel_rfl)
theorem over : Rows.fnExactReqTextRow.holds Tryd.pinned (OpenSpec.ofChange Rows.fnExactReqTextSpec) :=
  OpenClaim.holds_of_wide 4 Tryd.f4 rfl rfl rfl rfl rfl rfl rfl ⟨rfl, rfl, rfl, rfl, rfl⟩ rfl rfl rfl rfl rfl named_ Tryd.func4 closed_
    (of_decide_eq_true (by kernel_rfl)) (by unfold Func.isWrapper; first | (rw [if_pos (by decide +kernel)]; kernel_rfl) | (rw [if_neg (by decide +kernel)]; exact ⟨rfl, rfl⟩))
    (fun os started H enc _ => lifted os started H enc)
theorem words : Rows.fnExactReqTextRow.wfByText (OpenSpec.ofChange Rows.fnExactReqTextSpec) = true := by kernel_rfl
theorem main_ : Tryd.pinned.checked.prog.mainIs = some (true, ( "b91319245b75bef6b0e8d811d33adf2d149953a465eb16ab09e1c44efc97a0a9" : String).toList) := by kernel_rfl
theorem looks_ : true = Tryd.pinned.checked.prog.looks [] := by kernel_rfl
theorem goes_ : false = Rows.fnExactReqTextRow.goesBy Tryd.pinned.checked.prog := by kernel_rfl
theorem standIn_ : ([41].all fun u => !Tryd.prog.wantsStandIn u) = true := by kernel_rfl
theorem proved : Rows.FnExactReqTextCardSaid :=
  Claim7.holds_tied_plain_at .later [] [.data, .data, .data, .data, .pinned] true (true, "b91319245b75bef6b0e8d811d33adf2d149953a465eb16ab09e1c44efc97a0a9") true over (fun _ h => by cases h) words (fun _ h => by cases h) fnExactReqText_row_tie rfl ⟨rfl, rfl⟩ main_ rfl
    (fun f fn hf hfn => by
      obtain rfl : f = 4 := Option.some.inj (named_.symm.trans hf) |>.symm
      obtain rfl : fn = Tryd.f4 := (Option.some.inj (Tryd.func4.symm.trans hfn)).symm
      exact ⟨looks_, fun j t ht => by
        rw [Tryd.params4] at ht
        have hm : t ∈ [41] := by simpa using Array.mem_of_getElem? ht
        exact (show Tryd.prog.wantsStandIn t = false by simpa using List.all_eq_true.1 standIn_ t hm)⟩)
    goes_
end Go.Proofs.YtkgdcfaogdmcgaaDoor.fnExactReqText
namespace Go.Proofs.YtkgdcfaogdmcgaaDoor
/-- The row, under a short name, for the claim. -/
theorem fnExactReqText_holds : Rows.FnExactReqTextCardSaid := fnExactReqText.proved
#print axioms fnExactReqText_holds
end Go.Proofs.YtkgdcfaogdmcgaaDoor
