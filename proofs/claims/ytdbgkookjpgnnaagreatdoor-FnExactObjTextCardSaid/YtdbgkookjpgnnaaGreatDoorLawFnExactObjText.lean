/- The law FnExactObjText holds: for every input it returns true, and leaves its arguments as they were. The package variables that its row lists read as the program's text lays them (tied by the card). -/
import Derived.Test.YtdbgkookjpgnnaaGreatDoorCards
import Derived.Test.YtdbgkookjpgnnaaGreatDoorTie
import Derived.Test.YtdbgkookjpgnnaaGreatDoorAllx41
import Derived.Test.YtdbgkookjpgnnaaGreatDoorPureFnExactObjText
import Derived.Test.YtdbgkookjpgnnaaGreatDoorXOpen
import Derived.WalkKit
import Derived.ProofKit
import Derived.OpenShut
import Derived.ShutString
import Derived.ChangeOld
import Derived.Below
import Derived.SizedLaws
import Derived.Test.YtdbgkookjpgnnaaGreatDoorXKinds
import Derived.LaidMore
import Derived.SevenTiedAt
import Derived.Lay
import Derived.Stop.Joined
import Derived.Test.YtdbgkookjpgnnaaGreatDoorXFacts
namespace Go.Proofs.YtdbgkookjpgnnaaGreatDoor.fnExactObjText
open Go.ChangeShapes Go.WideShapes Go.ChangeAt Go.RowKit
open Go.ChangeMaps (open_string shut_string)
open Go.Proofs.YtdbgkookjpgnnaaGreatDoor.Open Go.Proofs.YtdbgkookjpgnnaaGreatDoor.All Go.Proofs.YtdbgkookjpgnnaaGreatDoorW.PrintWords
set_option linter.unusedVariables false
theorem own : ownKnob Tryz.prog.godebug = none := by kernel_rfl
theorem laidOut : laidOutB Tryz.prog = true := by kernel_rfl
set_option maxRecDepth 100000 in
theorem lifted (os : Os) (started : os.Started) (H : Type) (enc : TypeId × Value → H) :
    ReturnsInHanded {} Tryz.checked os 9 .any (fun w args => (Rows.fnExactObjTextSpec.pre enc Tryz.prog Tryz.f9 Rows.fnExactObjTextRow.domain false w args ∧ laidMetH Tryz.prog Rows.fnExactObjTextRow.laid w) ∧ sizedMet enc Tryz.prog Tryz.f9 (OpenSpec.ofChange Rows.fnExactObjTextSpec) false w args) (Rows.fnExactObjTextSpec.post enc Tryz.prog Tryz.f9 false true false false) := by
  refine handed (C := Tryz.checked) (X := fun w _ => laidMetH Tryz.prog Rows.fnExactObjTextRow.laid w) (fun _ _ _ hh h => h.of_heap hh) own started (by kernel_rfl) Tryz.func9
    (ChangeSpec.witness_shaped (enc := enc) (C := Tryz.checked) (os := os) (X := fun w _ => laidMetH Tryz.prog Rows.fnExactObjTextRow.laid w) false (World.laidAll Tryz.prog os Rows.fnExactObjTextRow.laid) #[.agg #[.string ByteArray.empty, .slice none 0 0, .slice none 0 0, .int .i64 0, .slice none 0 0, .string ByteArray.empty, .int .i64 0]] 8 (World.laidAll_os _ _ _) (World.shaped_of_ZipB (by kernel_rfl) (by kernel_rfl)) (by kernel_rfl) (by kernel_rfl) (by kernel_rfl)
      (by rw [MakeChecks.laidMetH_plain _ _ _ (by kernel_rfl)]; exact laidMet_laidAll _ (by kernel_rfl) (by kernel_rfl))) ?_
  intro W base args ds gs before hval0 hW hcnd hsz0 hL0 hsh _
  have hL := hL0
  rw [MakeChecks.laidMetH_plain _ _ _ (by kernel_rfl)] at hL
  have hval : ∀ (j : Nat) t v, Tryz.f9.params[j]? = some t → args[j]? = some v → Value.okWide Tryz.prog W .any base t v := hval0
  have hW' := hW
  obtain ⟨p, q, hA0, hV, rfl, hfz, hnd⟩ := hW
  have hA : DataW.TrodAll enc Tryz.prog W 0 (fun _ => true) true Tryz.f9.params.toList args.toList ds p := hA0
  rw [Tryz.params9] at hA hval
  obtain ⟨v0, vs0, d0, ds0, p0, q0, hargs, rfl, rfl, h0, r0⟩ := trodAll_cons hA
  obtain ⟨rfl, rfl, rfl⟩ := trodAll_nil r0
  obtain rfl : args = #[v0] := by cases args; simp_all
  obtain ⟨rfl, rfl⟩ := trodVars_none hV
  have lt0 : ∀ x ∈ p0, x.block < W.heap.size := by obtain ⟨m, hm⟩ := h0; exact DataW.trod_lt m _ _ _ hm
  have k0 := h0
  obtain ⟨cs0, rfl, _⟩ := okWide_struct Tryz.underlying85 (hval 0 85 v0 rfl rfl)
  obtain ⟨a0, hk0, o0⟩ := of_Trod (opens_struct Tryz.underlying85 (by kernel_rfl) (opens_cons rfl (by kernel_rfl) (opens_string Tryz.underlying9) (opens_cons rfl (by kernel_rfl) (opens_slice Tryz.underlying26 (by kernel_rfl) (opens_string Tryz.underlying9)) (opens_cons rfl (by kernel_rfl) (opens_slice Tryz.underlying26 (by kernel_rfl) (opens_string Tryz.underlying9)) (opens_cons rfl (by kernel_rfl) (opens_struct Tryz.underlying65 (by kernel_rfl) (opens_cons rfl (by kernel_rfl) (opens_int Tryz.underlying3) (opens_cons rfl (by kernel_rfl) (opens_slice Tryz.underlying41 (by kernel_rfl) (opens_struct Tryz.underlying115 (by kernel_rfl) (opens_cons rfl (by kernel_rfl) (opens_string Tryz.underlying9) (opens_last rfl (by kernel_rfl) (opens_string Tryz.underlying9))) (fun x : S115 => (x.f0, x.f1)) (fun p => ⟨p.1, p.2⟩) (fun _ => rfl))) (opens_last rfl (by kernel_rfl) (opens_string Tryz.underlying9)))) (fun x : S65 => (x.f0, x.f1, x.f2)) (fun p => ⟨p.1, p.2.1, p.2.2⟩) (fun _ => rfl)) (opens_last rfl (by kernel_rfl) (opens_int Tryz.underlying3)))))) (fun x : S85 => (x.f0, x.f1, x.f2, x.f3, x.f4)) (fun p => ⟨p.1, p.2.1, p.2.2.1, p.2.2.2.1, p.2.2.2.2⟩) (fun _ => rfl)) h0
  obtain ⟨A0_1, c0_1, A0_2, c0_2, A0_4, c0_4, e0, hc0_1, hr0_1, hc0_2, hr0_2, hc0_4, hr0_4⟩ := k85_open hk0
  obtain rfl : cs0 = #[.string a0.f0, .slice A0_1 a0.f1.length c0_1, .slice A0_2 a0.f2.length c0_2, .int .i64 a0.f3.f0, .slice A0_4 a0.f3.f1.length c0_4, .string a0.f3.f2, .int .i64 a0.f4] := by cases cs0; simpa [Value.cells] using e0
  clear hA0 hval0 hsz0
  obtain ⟨k, h⟩ := Pure.FnExactObjText a0 o0
  have hGM : GLOBM W := GLOBM.of hsh
  have hGT : GLOBT W := GLOBT.of (laidMet.tail (laidMet.tail (hL)))
  refine (laws_FnExactObjText.calls k a0.f0 _ _ a0.f1 _ _ a0.f2 a0.f3.f0 _ _ a0.f3.f1 a0.f3.f2 a0.f4 true W hGM hGT hr0_1 hc0_1 hr0_2 hc0_2 hr0_4 hc0_4 rfl h).mono fun e W' he => ?_
  obtain ⟨rfl, bel0⟩ := he
  have bel := bel0
  exact ⟨_, rfl, _, _, _, [], _, [], hW', trodAll_mk1 (shut_bool Tryz.underlying4 _), (trodAll_cons_mk (Below.trod laidOut (by kernel_rfl) (of_decide_eq_true (by kernel_rfl)) k0 bel lt0) trodAll_mk0), rfl, bel.frame _, fun h => by cases h⟩
theorem named_ : Tryz.pinned.checked.prog.funcNamed Rows.fnExactObjTextRow.func = some 9 := by kernel_rfl
set_option maxHeartbeats 80000000 in
theorem closed_ : joinedFacts Tryz.pinned.checked.prog 9 Tryz.f9 Rows.fnExactObjTextSpec Rows.fnExactObjTextRow = true := by
  unfold joinedFacts
  simp only [Bool.and_eq_true]
  repeat' apply And.intro
  all_goals first | (with_reducible exact XF.stopsHeard_) | (with_reducible exact XF.mayEnter_) | (rw [XF.lifts_]; as_aux_lemma => kernel_rfl) | (as_aux_lemma => kernel_rfl)
theorem over : Rows.fnExactObjTextRow.holds Tryz.pinned (OpenSpec.ofChange Rows.fnExactObjTextSpec) :=
  OpenClaim.holds_of_wide 9 Tryz.f9 rfl rfl rfl rfl rfl rfl rfl ⟨rfl, rfl, rfl, rfl, rfl⟩ rfl rfl rfl rfl rfl named_ Tryz.func9 closed_
    (of_decide_eq_true (by kernel_rfl)) (by unfold Func.isWrapper; first | (rw [if_pos (by decide +kernel)]; kernel_rfl) | (rw [if_neg (by decide +kernel)]; exact ⟨rfl, rfl⟩))
    (fun os started H enc _ => lifted os started H enc)
theorem words : Rows.fnExactObjTextRow.wfByText (OpenSpec.ofChange Rows.fnExactObjTextSpec) = true := by kernel_rfl
theorem main_ : Tryz.pinned.checked.prog.mainIs = some (true, ( "d21b7829255ee2a40bfeb3a031821c176a5e725a9c5cdafc92b8ee66a45e6b00" : String).toList) := by kernel_rfl
theorem looks_ : true = Tryz.pinned.checked.prog.looks [] := by kernel_rfl
theorem goes_ : false = Rows.fnExactObjTextRow.goesBy Tryz.pinned.checked.prog := by kernel_rfl
theorem standIn_ : ([85].all fun u => !Tryz.prog.wantsStandIn u) = true := by kernel_rfl
theorem proved : Rows.FnExactObjTextCardSaid :=
  Claim7.holds_tied_plain_at .later [] [.data, .data, .data, .data, .pinned] true (true, "d21b7829255ee2a40bfeb3a031821c176a5e725a9c5cdafc92b8ee66a45e6b00") true over (fun _ h => by cases h) words (fun _ h => by cases h) fnExactObjText_row_tie rfl ⟨rfl, rfl⟩ main_ rfl
    (fun f fn hf hfn => by
      obtain rfl : f = 9 := Option.some.inj (named_.symm.trans hf) |>.symm
      obtain rfl : fn = Tryz.f9 := (Option.some.inj (Tryz.func9.symm.trans hfn)).symm
      exact ⟨looks_, fun j t ht => by
        rw [Tryz.params9] at ht
        have hm : t ∈ [85] := by simpa using Array.mem_of_getElem? ht
        exact (show Tryz.prog.wantsStandIn t = false by simpa using List.all_eq_true.1 standIn_ t hm)⟩)
    goes_
end Go.Proofs.YtdbgkookjpgnnaaGreatDoor.fnExactObjText
namespace Go.Proofs.YtdbgkookjpgnnaaGreatDoor
/-- The row, under a short name, for the claim. -/
theorem fnExactObjText_holds : Rows.FnExactObjTextCardSaid := fnExactObjText.proved
#print axioms fnExactObjText_holds
end Go.Proofs.YtdbgkookjpgnnaaGreatDoor
