/- The law FnExactObjOf holds: for every input it returns true, and leaves its arguments as they were. The package variables that its row lists read as the program's text lays them (tied by the card). -/
import Derived.Test.YtjlpjbkpmmpojaaGreatDoorCards
import Derived.Test.YtjlpjbkpmmpojaaGreatDoorTie
import Derived.Test.YtjlpjbkpmmpojaaGreatDoorAllx38
import Derived.Test.YtjlpjbkpmmpojaaGreatDoorPureFnExactObjOf
import Derived.Test.YtjlpjbkpmmpojaaGreatDoorXOpen
import Derived.WalkKit
import Derived.ProofKit
import Derived.OpenShut
import Derived.ShutString
import Derived.ChangeOld
import Derived.Below
import Derived.SizedLaws
import Derived.Test.YtjlpjbkpmmpojaaGreatDoorXKinds
import Derived.LaidMore
import Derived.SevenTiedAt
import Derived.Lay
import Derived.Stop.Joined
import Derived.Test.YtjlpjbkpmmpojaaGreatDoorXFacts
namespace Go.Proofs.YtjlpjbkpmmpojaaGreatDoor.fnExactObjOf
open Go.ChangeShapes Go.WideShapes Go.ChangeAt Go.RowKit
open Go.ChangeMaps (open_string shut_string)
open Go.Proofs.YtjlpjbkpmmpojaaGreatDoor.Open Go.Proofs.YtjlpjbkpmmpojaaGreatDoor.All Go.Proofs.YtjlpjbkpmmpojaaGreatDoorW.PrintWords
set_option linter.unusedVariables false
theorem own : ownKnob Tryz.prog.godebug = none := by kernel_rfl
theorem laidOut : laidOutB Tryz.prog = true := by kernel_rfl
set_option maxRecDepth 100000 in
theorem lifted (os : Os) (started : os.Started) (H : Type) (enc : TypeId × Value → H) :
    ReturnsInHanded {} Tryz.checked os 7 .any (fun w args => (Rows.fnExactObjOfSpec.pre enc Tryz.prog Tryz.f7 Rows.fnExactObjOfRow.domain false w args ∧ laidMetH Tryz.prog Rows.fnExactObjOfRow.laid w) ∧ sizedMet enc Tryz.prog Tryz.f7 (OpenSpec.ofChange Rows.fnExactObjOfSpec) false w args) (Rows.fnExactObjOfSpec.post enc Tryz.prog Tryz.f7 false true false false) := by
  refine handed (C := Tryz.checked) (X := fun w _ => laidMetH Tryz.prog Rows.fnExactObjOfRow.laid w) (fun _ _ _ hh h => h.of_heap hh) own started (by kernel_rfl) Tryz.func7
    (ChangeSpec.witness_shaped (enc := enc) (C := Tryz.checked) (os := os) (X := fun w _ => laidMetH Tryz.prog Rows.fnExactObjOfRow.laid w) false (World.laidAll Tryz.prog os Rows.fnExactObjOfRow.laid) #[.agg #[.int .i64 0, .string ByteArray.empty, .slice none 0 0, .string ByteArray.empty], .agg #[.int .i64 0, .slice none 0 0, .string ByteArray.empty], .int .i64 0] 8 (World.laidAll_os _ _ _) (World.shaped_of_ZipB (by kernel_rfl) (by kernel_rfl)) (by kernel_rfl) (by kernel_rfl) (by kernel_rfl)
      (by rw [MakeChecks.laidMetH_plain _ _ _ (by kernel_rfl)]; exact laidMet_laidAll _ (by kernel_rfl) (by kernel_rfl))) ?_
  intro W base args ds gs before hval0 hW hcnd hsz0 hL0 hsh _
  have hL := hL0
  rw [MakeChecks.laidMetH_plain _ _ _ (by kernel_rfl)] at hL
  have hval : ∀ (j : Nat) t v, Tryz.f7.params[j]? = some t → args[j]? = some v → Value.okWide Tryz.prog W .any base t v := hval0
  have hW' := hW
  obtain ⟨p, q, hA0, hV, rfl, hfz, hnd⟩ := hW
  have hA : DataW.TrodAll enc Tryz.prog W 0 (fun _ => true) true Tryz.f7.params.toList args.toList ds p := hA0
  rw [Tryz.params7] at hA hval
  obtain ⟨v0, vs0, d0, ds0, p0, q0, hargs, rfl, rfl, h0, r0⟩ := trodAll_cons hA
  obtain ⟨v1, vs1, d1, ds1, p1, q1, rfl, rfl, rfl, h1, r1⟩ := trodAll_cons r0
  obtain ⟨v2, vs2, d2, ds2, p2, q2, rfl, rfl, rfl, h2, r2⟩ := trodAll_cons r1
  obtain ⟨rfl, rfl, rfl⟩ := trodAll_nil r2
  obtain rfl : args = #[v0, v1, v2] := by cases args; simp_all
  obtain ⟨rfl, rfl⟩ := trodVars_none hV
  have lt0 : ∀ x ∈ p0, x.block < W.heap.size := by obtain ⟨m, hm⟩ := h0; exact DataW.trod_lt m _ _ _ hm
  have k0 := h0
  obtain ⟨cs0, rfl, _⟩ := okWide_struct Tryz.underlying67 (hval 0 67 v0 rfl rfl)
  obtain ⟨a0, hk0, o0⟩ := of_Trod (opens_struct Tryz.underlying67 (by kernel_rfl) (opens_cons rfl (by kernel_rfl) (opens_int Tryz.underlying3) (opens_cons rfl (by kernel_rfl) (opens_string Tryz.underlying9) (opens_cons rfl (by kernel_rfl) (opens_slice Tryz.underlying65 (by kernel_rfl) (opens_struct Tryz.underlying163 (by kernel_rfl) (opens_cons rfl (by kernel_rfl) (opens_string Tryz.underlying9) (opens_last rfl (by kernel_rfl) (opens_string Tryz.underlying9))) (fun x : S163 => (x.f0, x.f1)) (fun p => ⟨p.1, p.2⟩) (fun _ => rfl))) (opens_last rfl (by kernel_rfl) (opens_string Tryz.underlying9))))) (fun x : S67 => (x.f0, x.f1, x.f2, x.f3)) (fun p => ⟨p.1, p.2.1, p.2.2.1, p.2.2.2⟩) (fun _ => rfl)) h0
  obtain ⟨A0_2, c0_2, e0, hc0_2, hr0_2⟩ := k67_open hk0
  obtain rfl : cs0 = #[.int .i64 a0.f0, .string a0.f1, .slice A0_2 a0.f2.length c0_2, .string a0.f3] := by cases cs0; simpa [Value.cells] using e0
  have lt1 : ∀ x ∈ p1, x.block < W.heap.size := by obtain ⟨m, hm⟩ := h1; exact DataW.trod_lt m _ _ _ hm
  have k1 := h1
  obtain ⟨cs1, rfl, _⟩ := okWide_struct Tryz.underlying69 (hval 1 69 v1 rfl rfl)
  obtain ⟨a1, hk1, o1⟩ := of_Trod (opens_struct Tryz.underlying69 (by kernel_rfl) (opens_cons rfl (by kernel_rfl) (opens_int Tryz.underlying3) (opens_cons rfl (by kernel_rfl) (opens_slice Tryz.underlying65 (by kernel_rfl) (opens_struct Tryz.underlying163 (by kernel_rfl) (opens_cons rfl (by kernel_rfl) (opens_string Tryz.underlying9) (opens_last rfl (by kernel_rfl) (opens_string Tryz.underlying9))) (fun x : S163 => (x.f0, x.f1)) (fun p => ⟨p.1, p.2⟩) (fun _ => rfl))) (opens_last rfl (by kernel_rfl) (opens_string Tryz.underlying9)))) (fun x : S69 => (x.f0, x.f1, x.f2)) (fun p => ⟨p.1, p.2.1, p.2.2⟩) (fun _ => rfl)) h1
  obtain ⟨A1_1, c1_1, e1, hc1_1, hr1_1⟩ := k69_open hk1
  obtain rfl : cs1 = #[.int .i64 a1.f0, .slice A1_1 a1.f1.length c1_1, .string a1.f2] := by cases cs1; simpa [Value.cells] using e1
  obtain ⟨a2, rfl, rfl, rfl, o2⟩ := open_int Tryz.underlying3 (hval 2 3 v2 rfl rfl) h2
  clear hA0 hval0 hsz0
  obtain ⟨k, h⟩ := Pure.FnExactObjOf a0 a1 a2 o0 o1 o2
  have hGE : GLOBE W := GLOBE.of (laidMet.tail (laidMet.tail (laidMet.tail (laidMet.tail (laidMet.tail (hL)))))) (laidMet.tail (laidMet.tail (laidMet.tail (laidMet.tail (hL)))))
  have hGM : GLOBM W := GLOBM.of hsh
  have hGT : GLOBT W := GLOBT.of (laidMet.tail (laidMet.tail (hL)))
  refine (laws_FnExactObjOf.calls k a0.f0 a0.f1 _ _ a0.f2 a0.f3 a1.f0 _ _ a1.f1 a1.f2 a2 true W hGE hGM hGT hr0_2 hc0_2 hr1_1 hc1_1 rfl h).mono fun e W' he => ?_
  obtain ⟨rfl, bel0⟩ := he
  have bel := bel0
  exact ⟨_, rfl, _, _, _, [], _, [], hW', trodAll_mk1 (shut_bool Tryz.underlying4 _), (trodAll_cons_mk (Below.trod laidOut (by kernel_rfl) (of_decide_eq_true (by kernel_rfl)) k0 bel lt0) (trodAll_cons_mk (Below.trod laidOut (by kernel_rfl) (of_decide_eq_true (by kernel_rfl)) k1 bel lt1) (trodAll_cons_mk (shut_int Tryz.underlying3 o2) trodAll_mk0))), rfl, bel.frame _, fun h => by cases h⟩
theorem named_ : Tryz.pinned.checked.prog.funcNamed Rows.fnExactObjOfRow.func = some 7 := by kernel_rfl
set_option maxHeartbeats 80000000 in
theorem closed_ : joinedFacts Tryz.pinned.checked.prog 7 Tryz.f7 Rows.fnExactObjOfSpec Rows.fnExactObjOfRow = true := by
  unfold joinedFacts
  simp only [Bool.and_eq_true]
  repeat' apply And.intro
  all_goals first | (with_reducible exact XF.stopsHeard_) | (with_reducible exact XF.mayEnter_) | (rw [XF.lifts_]; as_aux_lemma => kernel_rfl) | (as_aux_lemma => kernel_rfl)
theorem over : Rows.fnExactObjOfRow.holds Tryz.pinned (OpenSpec.ofChange Rows.fnExactObjOfSpec) :=
  OpenClaim.holds_of_wide 7 Tryz.f7 rfl rfl rfl rfl rfl rfl rfl ⟨rfl, rfl, rfl, rfl, rfl⟩ rfl rfl rfl rfl rfl named_ Tryz.func7 closed_
    (of_decide_eq_true (by kernel_rfl)) (by unfold Func.isWrapper; first | (rw [if_pos (by decide +kernel)]; kernel_rfl) | (rw [if_neg (by decide +kernel)]; exact ⟨rfl, rfl⟩))
    (fun os started H enc _ => lifted os started H enc)
theorem words : Rows.fnExactObjOfRow.wfByText (OpenSpec.ofChange Rows.fnExactObjOfSpec) = true := by kernel_rfl
theorem main_ : Tryz.pinned.checked.prog.mainIs = some (true, ( "98416e4db88c125f53a2842b21afd63e5bac28e25b2a5ecaf36a4455f35f798b" : String).toList) := by kernel_rfl
theorem looks_ : true = Tryz.pinned.checked.prog.looks [] := by kernel_rfl
theorem goes_ : false = Rows.fnExactObjOfRow.goesBy Tryz.pinned.checked.prog := by kernel_rfl
theorem standIn_ : ([67, 69, 3].all fun u => !Tryz.prog.wantsStandIn u) = true := by kernel_rfl
theorem proved : Rows.FnExactObjOfCardSaid :=
  Claim7.holds_tied_plain_at .later [] [.data, .data, .data, .data, .sentinel, .sentinel, .pinned] true (true, "98416e4db88c125f53a2842b21afd63e5bac28e25b2a5ecaf36a4455f35f798b") true over (fun _ h => by cases h) words (fun _ h => by cases h) fnExactObjOf_row_tie rfl ⟨rfl, rfl⟩ main_ rfl
    (fun f fn hf hfn => by
      obtain rfl : f = 7 := Option.some.inj (named_.symm.trans hf) |>.symm
      obtain rfl : fn = Tryz.f7 := (Option.some.inj (Tryz.func7.symm.trans hfn)).symm
      exact ⟨looks_, fun j t ht => by
        rw [Tryz.params7] at ht
        have hm : t ∈ [67, 69, 3] := by simpa using Array.mem_of_getElem? ht
        exact (show Tryz.prog.wantsStandIn t = false by simpa using List.all_eq_true.1 standIn_ t hm)⟩)
    goes_
end Go.Proofs.YtjlpjbkpmmpojaaGreatDoor.fnExactObjOf
namespace Go.Proofs.YtjlpjbkpmmpojaaGreatDoor
/-- The row, under a short name, for the claim. -/
theorem fnExactObjOf_holds : Rows.FnExactObjOfCardSaid := fnExactObjOf.proved
#print axioms fnExactObjOf_holds
end Go.Proofs.YtjlpjbkpmmpojaaGreatDoor
