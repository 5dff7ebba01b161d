/- The law FnExactHitsAny holds: for every input it returns true, and leaves its arguments as they were. The package variables that its row lists read as the program's text lays them (tied by the card). -/
import Derived.Test.YtkgdcfaogdmcgaaDoorCards
import Derived.Test.YtkgdcfaogdmcgaaDoorTie
import Derived.Test.YtkgdcfaogdmcgaaDoorAllx34
import Derived.Test.YtkgdcfaogdmcgaaDoorPureFnExactHitsAny
import Derived.Test.YtkgdcfaogdmcgaaDoorXOpen
import Derived.WalkKit
import Derived.ProofKit
import Derived.OpenShut
import Derived.ShutString
import Derived.ChangeOld
import Derived.Below
import Derived.SizedLaws
import Derived.Test.YtkgdcfaogdmcgaaDoorXKinds
import Derived.LaidMore
import Derived.SevenTiedAt
import Derived.Lay
import Derived.Stop.Joined
import Derived.Test.YtkgdcfaogdmcgaaDoorXFacts
namespace Go.Proofs.YtkgdcfaogdmcgaaDoor.fnExactHitsAny
open Go.ChangeShapes Go.WideShapes Go.ChangeAt Go.RowKit
open Go.ChangeMaps (open_string shut_string)
open Go.Proofs.YtkgdcfaogdmcgaaDoor.Open Go.Proofs.YtkgdcfaogdmcgaaDoor.All Go.Proofs.YtkgdcfaogdmcgaaDoorW.PrintWords
set_option linter.unusedVariables false
theorem own : ownKnob Tryd.prog.godebug = none := by kernel_rfl
theorem laidOut : laidOutB Tryd.prog = true := by kernel_rfl
set_option maxRecDepth 100000 in
theorem lifted (os : Os) (started : os.Started) (H : Type) (enc : TypeId × Value → H) :
    ReturnsInHanded {} Tryd.checked os 6 .any (fun w args => (Rows.fnExactHitsAnySpec.pre enc Tryd.prog Tryd.f6 Rows.fnExactHitsAnyRow.domain false w args ∧ laidMetH Tryd.prog Rows.fnExactHitsAnyRow.laid w) ∧ sizedMet enc Tryd.prog Tryd.f6 (OpenSpec.ofChange Rows.fnExactHitsAnySpec) false w args) (Rows.fnExactHitsAnySpec.post enc Tryd.prog Tryd.f6 false true false false) := by
  refine handed (C := Tryd.checked) (X := fun w _ => laidMetH Tryd.prog Rows.fnExactHitsAnyRow.laid w) (fun _ _ _ hh h => h.of_heap hh) own started (by kernel_rfl) Tryd.func6
    (ChangeSpec.witness_shaped (enc := enc) (C := Tryd.checked) (os := os) (X := fun w _ => laidMetH Tryd.prog Rows.fnExactHitsAnyRow.laid w) false (World.laidAll Tryd.prog os Rows.fnExactHitsAnyRow.laid) #[.slice none 0 0, .agg #[.string ByteArray.empty, .slice none 0 0, .slice none 0 0, .int .i64 0, .slice none 0 0, .string ByteArray.empty, .int .i64 0]] 8 (World.laidAll_os _ _ _) (World.shaped_of_ZipB (by kernel_rfl) (by kernel_rfl)) (by kernel_rfl) (by kernel_rfl) (by kernel_rfl)
      (by rw [MakeChecks.laidMetH_plain _ _ _ (by kernel_rfl)]; exact laidMet_laidAll _ (by kernel_rfl) (by kernel_rfl))) ?_
  intro W base args ds gs before hval0 hW hcnd hsz0 hL0 hsh _
  have hL := hL0
  rw [MakeChecks.laidMetH_plain _ _ _ (by kernel_rfl)] at hL
  have hval : ∀ (j : Nat) t v, Tryd.f6.params[j]? = some t → args[j]? = some v → Value.okWide Tryd.prog W .any base t v := hval0
  have hW' := hW
  obtain ⟨p, q, hA0, hV, rfl, hfz, hnd⟩ := hW
  have hA : DataW.TrodAll enc Tryd.prog W 0 (fun _ => true) true Tryd.f6.params.toList args.toList ds p := hA0
  rw [Tryd.params6] at hA hval
  obtain ⟨v0, vs0, d0, ds0, p0, q0, hargs, rfl, rfl, h0, r0⟩ := trodAll_cons hA
  obtain ⟨v1, vs1, d1, ds1, p1, q1, rfl, rfl, rfl, h1, r1⟩ := trodAll_cons r0
  obtain ⟨rfl, rfl, rfl⟩ := trodAll_nil r1
  obtain rfl : args = #[v0, v1] := by cases args; simp_all
  obtain ⟨rfl, rfl⟩ := trodVars_none hV
  have lt0 : ∀ x ∈ p0, x.block < W.heap.size := by obtain ⟨m, hm⟩ := h0; exact DataW.trod_lt m _ _ _ hm
  have k0 := h0
  obtain ⟨A0, n0, m0, rfl⟩ := okWide_slice Tryd.underlying59 (hval 0 59 v0 rfl rfl)
  obtain ⟨a0, ⟨B0, c0, e0, hc0, hr0⟩, o0⟩ := of_Trod (opens_slice Tryd.underlying59 (by kernel_rfl) (opens_struct Tryd.underlying107 (by kernel_rfl) (opens_cons rfl (by kernel_rfl) (opens_int Tryd.underlying3) (opens_cons rfl (by kernel_rfl) (opens_string Tryd.underlying9) (opens_cons rfl (by kernel_rfl) (opens_string Tryd.underlying9) (opens_last rfl (by kernel_rfl) (opens_int Tryd.underlying3))))) (fun x : S107 => (x.f0, x.f1, x.f2, x.f3)) (fun p => ⟨p.1, p.2.1, p.2.2.1, p.2.2.2⟩) (fun _ => rfl))) h0
  simp only [Value.cells, List.cons.injEq, and_true, Value.slice.injEq] at e0
  obtain ⟨rfl, rfl, rfl⟩ := e0
  have lt1 : ∀ x ∈ p1, x.block < W.heap.size := by obtain ⟨m, hm⟩ := h1; exact DataW.trod_lt m _ _ _ hm
  have k1 := h1
  obtain ⟨cs1, rfl, _⟩ := okWide_struct Tryd.underlying51 (hval 1 51 v1 rfl rfl)
  obtain ⟨a1, hk1, o1⟩ := of_Trod (opens_struct Tryd.underlying51 (by kernel_rfl) (opens_cons rfl (by kernel_rfl) (opens_string Tryd.underlying9) (opens_cons rfl (by kernel_rfl) (opens_slice Tryd.underlying47 (by kernel_rfl) (opens_string Tryd.underlying9)) (opens_cons rfl (by kernel_rfl) (opens_slice Tryd.underlying47 (by kernel_rfl) (opens_string Tryd.underlying9)) (opens_cons rfl (by kernel_rfl) (opens_struct Tryd.underlying49 (by kernel_rfl) (opens_cons rfl (by kernel_rfl) (opens_int Tryd.underlying3) (opens_cons rfl (by kernel_rfl) (opens_slice Tryd.underlying39 (by kernel_rfl) (opens_struct Tryd.underlying121 (by kernel_rfl) (opens_cons rfl (by kernel_rfl) (opens_string Tryd.underlying9) (opens_last rfl (by kernel_rfl) (opens_string Tryd.underlying9))) (fun x : S121 => (x.f0, x.f1)) (fun p => ⟨p.1, p.2⟩) (fun _ => rfl))) (opens_last rfl (by kernel_rfl) (opens_string Tryd.underlying9)))) (fun x : S49 => (x.f0, x.f1, x.f2)) (fun p => ⟨p.1, p.2.1, p.2.2⟩) (fun _ => rfl)) (opens_last rfl (by kernel_rfl) (opens_int Tryd.underlying3)))))) (fun x : S51 => (x.f0, x.f1, x.f2, x.f3, x.f4)) (fun p => ⟨p.1, p.2.1, p.2.2.1, p.2.2.2.1, p.2.2.2.2⟩) (fun _ => rfl)) h1
  obtain ⟨A1_1, c1_1, A1_2, c1_2, A1_4, c1_4, e1, hc1_1, hr1_1, hc1_2, hr1_2, hc1_4, hr1_4⟩ := k51_open hk1
  obtain rfl : cs1 = #[.string a1.f0, .slice A1_1 a1.f1.length c1_1, .slice A1_2 a1.f2.length c1_2, .int .i64 a1.f3.f0, .slice A1_4 a1.f3.f1.length c1_4, .string a1.f3.f2, .int .i64 a1.f4] := by cases cs1; simpa [Value.cells] using e1
  clear hA0 hval0 hsz0
  obtain ⟨k, h⟩ := Pure.FnExactHitsAny a0 a1 o0 o1
  have hGM : GLOBM W := GLOBM.of hsh
  refine (laws_FnExactHitsAny.calls k _ _ a0 a1.f0 _ _ a1.f1 _ _ a1.f2 a1.f3.f0 _ _ a1.f3.f1 a1.f3.f2 a1.f4 true W hGM hr0 hc0 hr1_1 hc1_1 hr1_2 hc1_2 hr1_4 hc1_4 rfl h).mono fun e W' he => ?_
  obtain ⟨rfl, bel0⟩ := he
  have bel := bel0
  exact ⟨_, rfl, _, _, _, [], _, [], hW', trodAll_mk1 (shut_bool Tryd.underlying4 _), (trodAll_cons_mk (Below.trod laidOut (by kernel_rfl) (of_decide_eq_true (by kernel_rfl)) k0 bel lt0) (trodAll_cons_mk (Below.trod laidOut (by kernel_rfl) (of_decide_eq_true (by kernel_rfl)) k1 bel lt1) trodAll_mk0)), rfl, bel.frame _, fun h => by cases h⟩
theorem named_ : Tryd.pinned.checked.prog.funcNamed Rows.fnExactHitsAnyRow.func = some 6 := by kernel_rfl
set_option maxHeartbeats 80000000 in
theorem closed_ : joinedFacts Tryd.pinned.checked.prog 6 Tryd.f6 Rows.fnExactHitsAnySpec Rows.fnExactHitsAnyRow = true := by
  unfold joinedFacts
  simp only [Bool.and_eq_true]
  repeat' apply And.intro
  all_goals first | (with_reducible exact XF.stopsHeard_) | (with_reducible exact XF.mayEnter_) | (rw [XF.lifts_]; as_aux_lemma => kernel_rfl) | (as_aux_lemma => kernel_rfl)
theorem over : Rows.fnExactHitsAnyRow.holds Tryd.pinned (OpenSpec.ofChange Rows.fnExactHitsAnySpec) :=
  OpenClaim.holds_of_wide 6 Tryd.f6 rfl rfl rfl rfl rfl rfl rfl ⟨rfl, rfl, rfl, rfl, rfl⟩ rfl rfl rfl rfl rfl named_ Tryd.func6 closed_
    (of_decide_eq_true (by kernel_rfl)) (by unfold Func.isWrapper; first | (rw [if_pos (by decide +kernel)]; kernel_rfl) | (rw [if_neg (by decide +kernel)]; exact ⟨rfl, rfl⟩))
    (fun os started H enc _ => lifted os started H enc)
theorem words : Rows.fnExactHitsAnyRow.wfByText (OpenSpec.ofChange Rows.fnExactHitsAnySpec) = true := by kernel_rfl
theorem main_ : Tryd.pinned.checked.prog.mainIs = some (true, ( "b91319245b75bef6b0e8d811d33adf2d149953a465eb16ab09e1c44efc97a0a9" : String).toList) := by kernel_rfl
theorem looks_ : true = Tryd.pinned.checked.prog.looks [] := by kernel_rfl
theorem goes_ : false = Rows.fnExactHitsAnyRow.goesBy Tryd.pinned.checked.prog := by kernel_rfl
theorem standIn_ : ([59, 51].all fun u => !Tryd.prog.wantsStandIn u) = true := by kernel_rfl
theorem proved : Rows.FnExactHitsAnyCardSaid :=
  Claim7.holds_tied_plain_at .later [] [.data, .pinned] true (true, "b91319245b75bef6b0e8d811d33adf2d149953a465eb16ab09e1c44efc97a0a9") true over (fun _ h => by cases h) words (fun _ h => by cases h) fnExactHitsAny_row_tie rfl ⟨rfl, rfl⟩ main_ rfl
    (fun f fn hf hfn => by
      obtain rfl : f = 6 := Option.some.inj (named_.symm.trans hf) |>.symm
      obtain rfl : fn = Tryd.f6 := (Option.some.inj (Tryd.func6.symm.trans hfn)).symm
      exact ⟨looks_, fun j t ht => by
        rw [Tryd.params6] at ht
        have hm : t ∈ [59, 51] := by simpa using Array.mem_of_getElem? ht
        exact (show Tryd.prog.wantsStandIn t = false by simpa using List.all_eq_true.1 standIn_ t hm)⟩)
    goes_
end Go.Proofs.YtkgdcfaogdmcgaaDoor.fnExactHitsAny
namespace Go.Proofs.YtkgdcfaogdmcgaaDoor
/-- The row, under a short name, for the claim. -/
theorem fnExactHitsAny_holds : Rows.FnExactHitsAnyCardSaid := fnExactHitsAny.proved
#print axioms fnExactHitsAny_holds
end Go.Proofs.YtkgdcfaogdmcgaaDoor
