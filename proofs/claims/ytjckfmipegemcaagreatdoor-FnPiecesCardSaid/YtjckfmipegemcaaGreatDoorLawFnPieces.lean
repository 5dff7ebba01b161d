/- The law FnPieces holds: for every input it returns true, and leaves its arguments as they were. The package variables that its row lists read as the program's text lays them (tied by the card). -/
import Derived.Test.YtjckfmipegemcaaGreatDoorKPiecesAllx11
import Derived.Test.YtjckfmipegemcaaGreatDoorKPiecesPureFnPieces
import Derived.Test.YtjckfmipegemcaaGreatDoorKPiecesXOpen
import Derived.Test.YtjckfmipegemcaaGreatDoorKPiecesXFacts
import Derived.Test.YtjckfmipegemcaaGreatDoorCards
import Derived.Test.YtjckfmipegemcaaGreatDoorTie
import Derived.WalkKit
import Derived.ProofKit
import Derived.OpenShut
import Derived.ShutString
import Derived.ChangeOld
import Derived.Below
import Derived.SizedLaws
import Derived.LaidMore
import Derived.SevenTiedAt
import Derived.Lay
import Derived.Stop.Joined
namespace Go.Proofs.YtjckfmipegemcaaGreatDoor.fnPieces
open Go.ChangeShapes Go.WideShapes Go.ChangeAt Go.RowKit
open Go.ChangeMaps (open_string shut_string)
open Go.Proofs.YtjckfmipegemcaaGreatDoor.Open Go.Proofs.YtjckfmipegemcaaGreatDoor.All Go.Proofs.YtjckfmipegemcaaGreatDoorW.PrintWords
set_option linter.unusedVariables false
theorem own : ownKnob Tryz.prog.godebug = none := by kernel_rfl
theorem laidOut : laidOutB Tryz.prog = true := by kernel_rfl
set_option maxRecDepth 100000 in
theorem lifted (os : Os) (started : os.Started) (H : Type) (enc : TypeId × Value → H) :
    ReturnsInHanded {} Tryz.checked os 3 .any (fun w args => (Rows.fnPiecesSpec.pre enc Tryz.prog Tryz.f3 Rows.fnPiecesRow.domain false w args ∧ laidMetH Tryz.prog Rows.fnPiecesRow.laid w) ∧ sizedMet enc Tryz.prog Tryz.f3 (OpenSpec.ofChange Rows.fnPiecesSpec) false w args) (Rows.fnPiecesSpec.post enc Tryz.prog Tryz.f3 false true false false) := by
  refine handed (C := Tryz.checked) (X := fun w _ => laidMetH Tryz.prog Rows.fnPiecesRow.laid w) (fun _ _ _ hh h => h.of_heap hh) own started (by kernel_rfl) Tryz.func3
    (ChangeSpec.witness_shaped (enc := enc) (C := Tryz.checked) (os := os) (X := fun w _ => laidMetH Tryz.prog Rows.fnPiecesRow.laid w) false (World.laidAll Tryz.prog os Rows.fnPiecesRow.laid) #[.slice none 0 0] 8 (World.laidAll_os _ _ _) (World.shaped_of_ZipB (by kernel_rfl) (by kernel_rfl)) (by kernel_rfl) (by kernel_rfl) (by kernel_rfl)
      (by rw [MakeChecks.laidMetH_plain _ _ _ (by kernel_rfl)]; exact laidMet_laidAll _ (by kernel_rfl) (by kernel_rfl))) ?_
  intro W base args ds gs before hval0 hW hcnd hsz0 hL0 hsh _
  have hL := hL0
  rw [MakeChecks.laidMetH_plain _ _ _ (by kernel_rfl)] at hL
  have hval : ∀ (j : Nat) t v, Tryz.f3.params[j]? = some t → args[j]? = some v → Value.okWide Tryz.prog W .any base t v := hval0
  have hW' := hW
  obtain ⟨p, q, hA0, hV, rfl, hfz, hnd⟩ := hW
  have hA : DataW.TrodAll enc Tryz.prog W 0 (fun _ => true) true Tryz.f3.params.toList args.toList ds p := hA0
  rw [Tryz.params3] at hA hval
  obtain ⟨v0, vs0, d0, ds0, p0, q0, hargs, rfl, rfl, h0, r0⟩ := trodAll_cons hA
  obtain ⟨rfl, rfl, rfl⟩ := trodAll_nil r0
  obtain rfl : args = #[v0] := by cases args; simp_all
  obtain ⟨rfl, rfl⟩ := trodVars_none hV
  have lt0 : ∀ x ∈ p0, x.block < W.heap.size := by obtain ⟨m, hm⟩ := h0; exact DataW.trod_lt m _ _ _ hm
  have k0 := h0
  obtain ⟨A0, n0, m0, rfl⟩ := okWide_slice Tryz.underlying22 (hval 0 22 v0 rfl rfl)
  obtain ⟨a0, ⟨B0, c0, e0, hc0, hr0⟩, o0⟩ := of_Trod (opens_slice Tryz.underlying22 (by kernel_rfl) (opens_int Tryz.underlying5)) h0
  simp only [Value.cells, List.cons.injEq, and_true, Value.slice.injEq] at e0
  obtain ⟨rfl, rfl, rfl⟩ := e0
  clear hA0 hval0 hsz0
  obtain ⟨k, h⟩ := Pure.FnPieces a0 o0
  have hGE : GLOBE W := GLOBE.of (laidMet.tail (laidMet.tail (laidMet.tail (laidMet.tail (laidMet.tail (hL)))))) (laidMet.tail (laidMet.tail (laidMet.tail (laidMet.tail (hL)))))
  have hGM : GLOBM W := GLOBM.of hsh
  have hGT : GLOBT W := GLOBT.of (laidMet.tail (laidMet.tail (hL)))
  refine (laws_FnPieces.calls k _ _ a0 true W hGE hGM hGT hr0 hc0 rfl h).mono fun e W' he => ?_
  obtain ⟨rfl, bel0⟩ := he
  have bel := bel0
  exact ⟨_, rfl, _, _, _, [], _, [], hW', trodAll_mk1 (shut_bool Tryz.underlying4 _), (trodAll_cons_mk (Below.trod laidOut (by kernel_rfl) (of_decide_eq_true (by kernel_rfl)) k0 bel lt0) trodAll_mk0), rfl, bel.frame _, fun h => by cases h⟩
theorem named_ : Tryz.pinned.checked.prog.funcNamed Rows.fnPiecesRow.func = some 3 := by kernel_rfl
set_option maxHeartbeats 80000000 in
theorem closed_ : joinedFacts Tryz.pinned.checked.prog 3 Tryz.f3 Rows.fnPiecesSpec Rows.fnPiecesRow = true := by
  unfold joinedFacts
  simp only [Bool.and_eq_true]
  repeat' apply And.intro
  all_goals first | (with_reducible exact XF.stopsHeard_) | (with_reducible exact XF.mayEnter_) | (rw [XF.lifts_]; as_aux_lemma => kernel_rfl) | (as_aux_lemma => kernel_rfl)
theorem over : Rows.fnPiecesRow.holds Tryz.pinned (OpenSpec.ofChange Rows.fnPiecesSpec) :=
  OpenClaim.holds_of_wide 3 Tryz.f3 rfl rfl rfl rfl rfl rfl rfl ⟨rfl, rfl, rfl, rfl, rfl⟩ rfl rfl rfl rfl rfl named_ Tryz.func3 closed_
    (of_decide_eq_true (by kernel_rfl)) (by unfold Func.isWrapper; first | (rw [if_pos (by decide +kernel)]; kernel_rfl) | (rw [if_neg (by decide +kernel)]; exact ⟨rfl, rfl⟩))
    (fun os started H enc _ => lifted os started H enc)
theorem words : Rows.fnPiecesRow.wfByText (OpenSpec.ofChange Rows.fnPiecesSpec) = true := by kernel_rfl
theorem main_ : Tryz.pinned.checked.prog.mainIs = some (true, ( "92e4c66be7e977c827969328b80926e5918ec124149b3a7b577f59cca666939b" : String).toList) := by kernel_rfl
theorem looks_ : true = Tryz.pinned.checked.prog.looks [] := by kernel_rfl
theorem goes_ : false = Rows.fnPiecesRow.goesBy Tryz.pinned.checked.prog := by kernel_rfl
theorem standIn_ : ([22].all fun u => !Tryz.prog.wantsStandIn u) = true := by kernel_rfl
theorem proved : Rows.FnPiecesCardSaid :=
  Claim7.holds_tied_plain_at .later [] [.data, .data, .data, .data, .sentinel, .sentinel, .pinned] true (true, "92e4c66be7e977c827969328b80926e5918ec124149b3a7b577f59cca666939b") true over (fun _ h => by cases h) words (fun _ h => by cases h) fnPieces_row_tie rfl ⟨rfl, rfl⟩ main_ rfl
    (fun f fn hf hfn => by
      obtain rfl : f = 3 := Option.some.inj (named_.symm.trans hf) |>.symm
      obtain rfl : fn = Tryz.f3 := (Option.some.inj (Tryz.func3.symm.trans hfn)).symm
      exact ⟨looks_, fun j t ht => by
        rw [Tryz.params3] at ht
        have hm : t ∈ [22] := by simpa using Array.mem_of_getElem? ht
        exact (show Tryz.prog.wantsStandIn t = false by simpa using List.all_eq_true.1 standIn_ t hm)⟩)
    goes_
end Go.Proofs.YtjckfmipegemcaaGreatDoor.fnPieces
namespace Go.Proofs.YtjckfmipegemcaaGreatDoor
/-- The row, under a short name, for the claim. -/
theorem fnPieces_holds : Rows.FnPiecesCardSaid := fnPieces.proved
#print axioms fnPieces_holds
end Go.Proofs.YtjckfmipegemcaaGreatDoor
