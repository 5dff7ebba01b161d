/- The law FnExactObjRead holds: for every input it returns true, and leaves its arguments as they were. The package variables that its row lists read as the program's text lays them (tied by the card). -/
import Derived.Test.YtjlpjbkpmmpojaaGreatDoorCards
import Derived.Test.YtjlpjbkpmmpojaaGreatDoorTie
import Derived.Test.YtjlpjbkpmmpojaaGreatDoorAllx35
import Derived.Test.YtjlpjbkpmmpojaaGreatDoorPureFnExactObjRead
import Derived.Test.YtjlpjbkpmmpojaaGreatDoorXOpen
import Derived.WalkKit
import Derived.ProofKit
import Derived.OpenShut
import Derived.ShutString
import Derived.ChangeOld
import Derived.Below
import Derived.SizedLaws
import Derived.LaidMore
import Derived.SevenTiedAt
import Derived.Lay
import Derived.Stop.Joined
import Derived.Test.YtjlpjbkpmmpojaaGreatDoorXFacts
namespace Go.Proofs.YtjlpjbkpmmpojaaGreatDoor.fnExactObjRead
open Go.ChangeShapes Go.WideShapes Go.ChangeAt Go.RowKit
open Go.ChangeMaps (open_string shut_string)
open Go.Proofs.YtjlpjbkpmmpojaaGreatDoor.Open Go.Proofs.YtjlpjbkpmmpojaaGreatDoor.All Go.Proofs.YtjlpjbkpmmpojaaGreatDoorW.PrintWords
set_option linter.unusedVariables false
theorem own : ownKnob Tryz.prog.godebug = none := by kernel_rfl
set_option maxRecDepth 100000 in
theorem lifted (os : Os) (started : os.Started) (H : Type) (enc : TypeId × Value → H) :
    ReturnsInHanded {} Tryz.checked os 6 .any (fun w args => (Rows.fnExactObjReadSpec.pre enc Tryz.prog Tryz.f6 Rows.fnExactObjReadRow.domain false w args ∧ laidMetH Tryz.prog Rows.fnExactObjReadRow.laid w) ∧ sizedMet enc Tryz.prog Tryz.f6 (OpenSpec.ofChange Rows.fnExactObjReadSpec) false w args) (Rows.fnExactObjReadSpec.post enc Tryz.prog Tryz.f6 false true false false) := by
  refine handed (C := Tryz.checked) (X := fun w _ => laidMetH Tryz.prog Rows.fnExactObjReadRow.laid w) (fun _ _ _ hh h => h.of_heap hh) own started (by kernel_rfl) Tryz.func6
    (ChangeSpec.witness_shaped (enc := enc) (C := Tryz.checked) (os := os) (X := fun w _ => laidMetH Tryz.prog Rows.fnExactObjReadRow.laid w) false (World.laidAll Tryz.prog os Rows.fnExactObjReadRow.laid) #[.string ByteArray.empty] 8 (World.laidAll_os _ _ _) (World.shaped_of_ZipB (by kernel_rfl) (by kernel_rfl)) (by kernel_rfl) (by kernel_rfl) (by kernel_rfl)
      (by rw [MakeChecks.laidMetH_plain _ _ _ (by kernel_rfl)]; exact laidMet_laidAll _ (by kernel_rfl) (by kernel_rfl))) ?_
  intro W base args ds gs before hval0 hW hcnd hsz0 hL0 hsh _
  have hL := hL0
  rw [MakeChecks.laidMetH_plain _ _ _ (by kernel_rfl)] at hL
  have hval : ∀ (j : Nat) t v, Tryz.f6.params[j]? = some t → args[j]? = some v → Value.okWide Tryz.prog W .any base t v := hval0
  have hW' := hW
  obtain ⟨p, q, hA0, hV, rfl, hfz, hnd⟩ := hW
  have hA : DataW.TrodAll enc Tryz.prog W 0 (fun _ => true) true Tryz.f6.params.toList args.toList ds p := hA0
  rw [Tryz.params6] at hA hval
  obtain ⟨v0, vs0, d0, ds0, p0, q0, hargs, rfl, rfl, h0, r0⟩ := trodAll_cons hA
  obtain ⟨rfl, rfl, rfl⟩ := trodAll_nil r0
  obtain rfl : args = #[v0] := by cases args; simp_all
  obtain ⟨rfl, rfl⟩ := trodVars_none hV
  obtain ⟨a0, rfl, rfl, rfl, o0⟩ := open_string Tryz.underlying9 (hval 0 9 v0 rfl rfl) h0
  clear hA0 hval0 hsz0
  obtain ⟨k, h⟩ := Pure.FnExactObjRead a0 o0
  have hGE : GLOBE W := GLOBE.of (laidMet.tail (laidMet.tail (laidMet.tail (laidMet.tail (laidMet.tail (hL)))))) (laidMet.tail (laidMet.tail (laidMet.tail (laidMet.tail (hL)))))
  have hGM : GLOBM W := GLOBM.of hsh
  have hGT : GLOBT W := GLOBT.of (laidMet.tail (laidMet.tail (hL)))
  refine (laws_FnExactObjRead.calls k a0 true W hGE hGM hGT  rfl h).mono fun e W' he => ?_
  obtain ⟨rfl, bel0⟩ := he
  have bel := bel0
  exact ⟨_, rfl, _, _, _, [], _, [], hW', trodAll_mk1 (shut_bool Tryz.underlying4 _), (trodAll_cons_mk (shut_string Tryz.underlying9 o0) trodAll_mk0), rfl, bel.frame _, fun h => by cases h⟩
theorem named_ : Tryz.pinned.checked.prog.funcNamed Rows.fnExactObjReadRow.func = some 6 := by kernel_rfl
set_option maxHeartbeats 80000000 in
theorem closed_ : joinedFacts Tryz.pinned.checked.prog 6 Tryz.f6 Rows.fnExactObjReadSpec Rows.fnExactObjReadRow = true := by
  unfold joinedFacts
  simp only [Bool.and_eq_true]
  repeat' apply And.intro
  all_goals first | (with_reducible exact XF.stopsHeard_) | (with_reducible exact XF.mayEnter_) | (rw [XF.lifts_]; as_aux_lemma => kernel_rfl) | (as_aux_lemma => kernel_rfl)
theorem over : Rows.fnExactObjReadRow.holds Tryz.pinned (OpenSpec.ofChange Rows.fnExactObjReadSpec) :=
  OpenClaim.holds_of_wide 6 Tryz.f6 rfl rfl rfl rfl rfl rfl rfl ⟨rfl, rfl, rfl, rfl, rfl⟩ rfl rfl rfl rfl rfl named_ Tryz.func6 closed_
    (of_decide_eq_true (by kernel_rfl)) (by unfold Func.isWrapper; first | (rw [if_pos (by decide +kernel)]; kernel_rfl) | (rw [if_neg (by decide +kernel)]; exact ⟨rfl, rfl⟩))
    (fun os started H enc _ => lifted os started H enc)
theorem words : Rows.fnExactObjReadRow.wfByText (OpenSpec.ofChange Rows.fnExactObjReadSpec) = true := by kernel_rfl
theorem main_ : Tryz.pinned.checked.prog.mainIs = some (true, ( "98416e4db88c125f53a2842b21afd63e5bac28e25b2a5ecaf36a4455f35f798b" : String).toList) := by kernel_rfl
theorem looks_ : true = Tryz.pinned.checked.prog.looks [] := by kernel_rfl
theorem goes_ : false = Rows.fnExactObjReadRow.goesBy Tryz.pinned.checked.prog := by kernel_rfl
theorem standIn_ : ([9].all fun u => !Tryz.prog.wantsStandIn u) = true := by kernel_rfl
theorem proved : Rows.FnExactObjReadCardSaid :=
  Claim7.holds_tied_plain_at .later [] [.data, .data, .data, .data, .sentinel, .sentinel, .pinned] true (true, "98416e4db88c125f53a2842b21afd63e5bac28e25b2a5ecaf36a4455f35f798b") true over (fun _ h => by cases h) words (fun _ h => by cases h) fnExactObjRead_row_tie rfl ⟨rfl, rfl⟩ main_ rfl
    (fun f fn hf hfn => by
      obtain rfl : f = 6 := Option.some.inj (named_.symm.trans hf) |>.symm
      obtain rfl : fn = Tryz.f6 := (Option.some.inj (Tryz.func6.symm.trans hfn)).symm
      exact ⟨looks_, fun j t ht => by
        rw [Tryz.params6] at ht
        have hm : t ∈ [9] := by simpa using Array.mem_of_getElem? ht
        exact (show Tryz.prog.wantsStandIn t = false by simpa using List.all_eq_true.1 standIn_ t hm)⟩)
    goes_
end Go.Proofs.YtjlpjbkpmmpojaaGreatDoor.fnExactObjRead
namespace Go.Proofs.YtjlpjbkpmmpojaaGreatDoor
/-- The row, under a short name, for the claim. -/
theorem fnExactObjRead_holds : Rows.FnExactObjReadCardSaid := fnExactObjRead.proved
#print axioms fnExactObjRead_holds
end Go.Proofs.YtjlpjbkpmmpojaaGreatDoor
