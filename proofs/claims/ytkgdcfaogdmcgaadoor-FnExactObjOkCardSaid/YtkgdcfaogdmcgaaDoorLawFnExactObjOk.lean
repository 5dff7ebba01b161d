/- The law FnExactObjOk holds: for every input it returns true, and leaves its arguments as they were. The package variables that its row lists read as the program's text lays them (tied by the card). -/
import Derived.Test.YtkgdcfaogdmcgaaDoorCards
import Derived.Test.YtkgdcfaogdmcgaaDoorTie
import Derived.Test.YtkgdcfaogdmcgaaDoorAllx32
import Derived.Test.YtkgdcfaogdmcgaaDoorPureFnExactObjOk
import Derived.Test.YtkgdcfaogdmcgaaDoorXOpen
import Derived.WalkKit
import Derived.ProofKit
import Derived.OpenShut
import Derived.ShutString
import Derived.ChangeOld
import Derived.Below
import Derived.SizedLaws
import Derived.Test.YtkgdcfaogdmcgaaDoorXKinds
import Derived.LaidMore
import Derived.SevenTiedAt
import Derived.Lay
import Derived.Stop.Joined
import Derived.Test.YtkgdcfaogdmcgaaDoorXFacts
namespace Go.Proofs.YtkgdcfaogdmcgaaDoor.fnExactObjOk
open Go.ChangeShapes Go.WideShapes Go.ChangeAt Go.RowKit
open Go.ChangeMaps (open_string shut_string)
open Go.Proofs.YtkgdcfaogdmcgaaDoor.Open Go.Proofs.YtkgdcfaogdmcgaaDoor.All Go.Proofs.YtkgdcfaogdmcgaaDoorW.PrintWords
set_option linter.unusedVariables false
theorem own : ownKnob Tryd.prog.godebug = none := by kernel_rfl
theorem laidOut : laidOutB Tryd.prog = true := by kernel_rfl
set_option maxRecDepth 100000 in
theorem lifted (os : Os) (started : os.Started) (H : Type) (enc : TypeId × Value → H) :
    ReturnsInHanded {} Tryd.checked os 5 .any (fun w args => (Rows.fnExactObjOkSpec.pre enc Tryd.prog Tryd.f5 Rows.fnExactObjOkRow.domain false w args ∧ laidMetH Tryd.prog Rows.fnExactObjOkRow.laid w) ∧ sizedMet enc Tryd.prog Tryd.f5 (OpenSpec.ofChange Rows.fnExactObjOkSpec) false w args) (Rows.fnExactObjOkSpec.post enc Tryd.prog Tryd.f5 false true false false) := by
  refine handed (C := Tryd.checked) (X := fun w _ => laidMetH Tryd.prog Rows.fnExactObjOkRow.laid w) (fun _ _ _ hh h => h.of_heap hh) own started (by kernel_rfl) Tryd.func5
    (ChangeSpec.witness_shaped (enc := enc) (C := Tryd.checked) (os := os) (X := fun w _ => laidMetH Tryd.prog Rows.fnExactObjOkRow.laid w) false (World.laidAll Tryd.prog os Rows.fnExactObjOkRow.laid) #[.agg #[.string ByteArray.empty, .slice none 0 0, .slice none 0 0, .int .i64 0, .slice none 0 0, .string ByteArray.empty, .int .i64 0]] 8 (World.laidAll_os _ _ _) (World.shaped_of_ZipB (by kernel_rfl) (by kernel_rfl)) (by kernel_rfl) (by kernel_rfl) (by kernel_rfl)
      (by rw [MakeChecks.laidMetH_plain _ _ _ (by kernel_rfl)]; exact laidMet_laidAll _ (by kernel_rfl) (by kernel_rfl))) ?_
  intro W base args ds gs before hval0 hW hcnd hsz0 hL0 hsh _
  have hL := hL0
  rw [MakeChecks.laidMetH_plain _ _ _ (by kernel_rfl)] at hL
  have hval : ∀ (j : Nat) t v, Tryd.f5.params[j]? = some t → args[j]? = some v → Value.okWide Tryd.prog W .any base t v := hval0
  have hW' := hW
  obtain ⟨p, q, hA0, hV, rfl, hfz, hnd⟩ := hW
  have hA : DataW.TrodAll enc Tryd.prog W 0 (fun _ => true) true Tryd.f5.params.toList args.toList ds p := hA0
  rw [Tryd.params5] at hA hval
  obtain ⟨v0, vs0, d0, ds0, p0, q0, hargs, rfl, rfl, h0, r0⟩ := trodAll_cons hA
  obtain ⟨rfl, rfl, rfl⟩ := trodAll_nil r0
  obtain rfl : args = #[v0] := by cases args; simp_all
  obtain ⟨rfl, rfl⟩ := trodVars_none hV
  have lt0 : ∀ x ∈ p0, x.block < W.heap.size := by obtain ⟨m, hm⟩ := h0; exact DataW.trod_lt m _ _ _ hm
  have k0 := h0
  obtain ⟨cs0, rfl, _⟩ := okWide_struct Tryd.underlying51 (hval 0 51 v0 rfl rfl)
  obtain ⟨a0, hk0, o0⟩ := of_Trod (opens_struct Tryd.underlying51 (by kernel_rfl) (opens_cons rfl (by kernel_rfl) (opens_string Tryd.underlying9) (opens_cons rfl (by kernel_rfl) (opens_slice Tryd.underlying47 (by kernel_rfl) (opens_string Tryd.underlying9)) (opens_cons rfl (by kernel_rfl) (opens_slice Tryd.underlying47 (by kernel_rfl) (opens_string Tryd.underlying9)) (opens_cons rfl (by kernel_rfl) (opens_struct Tryd.underlying49 (by kernel_rfl) (opens_cons rfl (by kernel_rfl) (opens_int Tryd.underlying3) (opens_cons rfl (by kernel_rfl) (opens_slice Tryd.underlying39 (by kernel_rfl) (opens_struct Tryd.underlying121 (by kernel_rfl) (opens_cons rfl (by kernel_rfl) (opens_string Tryd.underlying9) (opens_last rfl (by kernel_rfl) (opens_string Tryd.underlying9))) (fun x : S121 => (x.f0, x.f1)) (fun p => ⟨p.1, p.2⟩) (fun _ => rfl))) (opens_last rfl (by kernel_rfl) (opens_string Tryd.underlying9)))) (fun x : S49 => (x.f0, x.f1, x.f2)) (fun p => ⟨p.1, p.2.1, p.2.2⟩) (fun _ => rfl)) (opens_last rfl (by kernel_rfl) (opens_int Tryd.underlying3)))))) (fun x : S51 => (x.f0, x.f1, x.f2, x.f3, x.f4)) (fun p => ⟨p.1, p.2.1, p.2.2.1, p.2.2.2.1, p.2.2.2.2⟩) (fun _ => rfl)) h0
  obtain ⟨A0_1, c0_1, A0_2, c0_2, A0_4, c0_4, e0, hc0_1, hr0_1, hc0_2, hr0_2, hc0_4, hr0_4⟩ := k51_open hk0
  obtain rfl : cs0 = #[.string a0.f0, .slice A0_1 a0.f1.length c0_1, .slice A0_2 a0.f2.length c0_2, .int .i64 a0.f3.f0, .slice A0_4 a0.f3.f1.length c0_4, .string a0.f3.f2, .int .i64 a0.f4] := by cases cs0; simpa [Value.cells] using e0
  clear hA0 hval0 hsz0
  obtain ⟨k, h⟩ := Pure.FnExactObjOk a0 o0
  have hGM : GLOBM W := GLOBM.of hsh
  refine (laws_FnExactObjOk.calls k a0.f0 _ _ a0.f1 _ _ a0.f2 a0.f3.f0 _ _ a0.f3.f1 a0.f3.f2 a0.f4 true W hGM hr0_1 hc0_1 hr0_2 hc0_2 hr0_4 hc0_4 rfl h).mono fun e W' he => ?_
  obtain ⟨rfl, bel0⟩ := he
  have bel := bel0
  exact ⟨_, rfl, _, _, _, [], _, [], hW', trodAll_mk1 (shut_bool Tryd.underlying4 _), (trodAll_cons_mk (Below.trod laidOut (by kernel_rfl) (of_decide_eq_true (by kernel_rfl)) k0 bel lt0) trodAll_mk0), rfl, bel.frame _, fun h => by cases h⟩
theorem named_ : Tryd.pinned.checked.prog.funcNamed Rows.fnExactObjOkRow.func = some 5 := by kernel_rfl
set_option maxHeartbeats 80000000 in
theorem closed_ : joinedFacts Tryd.pinned.checked.prog 5 Tryd.f5 Rows.fnExactObjOkSpec Rows.fnExactObjOkRow = true := by
  unfold joinedFacts
  simp only [Bool.and_eq_true]
  repeat' apply And.intro
  all_goals first | (with_reducible exact XF.stopsHeard_) | (with_reducible exact XF.mayEnter_) | (rw [XF.lifts_]; as_aux_lemma => kernel_rfl) | (as_aux_lemma => kernel_rfl)
theorem over : Rows.fnExactObjOkRow.holds Tryd.pinned (OpenSpec.ofChange Rows.fnExactObjOkSpec) :=
  OpenClaim.holds_of_wide 5 Tryd.f5 rfl rfl rfl rfl rfl rfl rfl ⟨rfl, rfl, rfl, rfl, rfl⟩ rfl rfl rfl rfl rfl named_ Tryd.func5 closed_
    (of_decide_eq_true (by kernel_rfl)) (by unfold Func.isWrapper; first | (rw [if_pos (by decide +kernel)]; kernel_rfl) | (rw [if_neg (by decide +kernel)]; exact ⟨rfl, rfl⟩))
    (fun os started H enc _ => lifted os started H enc)
theorem words : Rows.fnExactObjOkRow.wfByText (OpenSpec.ofChange Rows.fnExactObjOkSpec) = true := by kernel_rfl
theorem main_ : Tryd.pinned.checked.prog.mainIs = some (true, ( "b91319245b75bef6b0e8d811d33adf2d149953a465eb16ab09e1c44efc97a0a9" : String).toList) := by kernel_rfl
theorem looks_ : true = Tryd.pinned.checked.prog.looks [] := by kernel_rfl
theorem goes_ : false = Rows.fnExactObjOkRow.goesBy Tryd.pinned.checked.prog := by kernel_rfl
theorem standIn_ : ([51].all fun u => !Tryd.prog.wantsStandIn u) = true := by kernel_rfl
theorem proved : Rows.FnExactObjOkCardSaid :=
  Claim7.holds_tied_plain_at .later [] [.data, .pinned] true (true, "b91319245b75bef6b0e8d811d33adf2d149953a465eb16ab09e1c44efc97a0a9") true over (fun _ h => by cases h) words (fun _ h => by cases h) fnExactObjOk_row_tie rfl ⟨rfl, rfl⟩ main_ rfl
    (fun f fn hf hfn => by
      obtain rfl : f = 5 := Option.some.inj (named_.symm.trans hf) |>.symm
      obtain rfl : fn = Tryd.f5 := (Option.some.inj (Tryd.func5.symm.trans hfn)).symm
      exact ⟨looks_, fun j t ht => by
        rw [Tryd.params5] at ht
        have hm : t ∈ [51] := by simpa using Array.mem_of_getElem? ht
        exact (show Tryd.prog.wantsStandIn t = false by simpa using List.all_eq_true.1 standIn_ t hm)⟩)
    goes_
end Go.Proofs.YtkgdcfaogdmcgaaDoor.fnExactObjOk
namespace Go.Proofs.YtkgdcfaogdmcgaaDoor
/-- The row, under a short name, for the claim. -/
theorem fnExactObjOk_holds : Rows.FnExactObjOkCardSaid := fnExactObjOk.proved
#print axioms fnExactObjOk_holds
end Go.Proofs.YtkgdcfaogdmcgaaDoor
