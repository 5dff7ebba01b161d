/- The law FnExactFeedAll holds: for every input it returns true, and leaves its arguments as they were. The package variables that its row lists read as the program's text lays them (tied by the card). -/
import Derived.Test.YtjckfmipegemcaaGreatDoorCards
import Derived.Test.YtjckfmipegemcaaGreatDoorTie
import Derived.Test.YtjckfmipegemcaaGreatDoorAllx17
import Derived.Test.YtjckfmipegemcaaGreatDoorPureFnExactFeedAll
import Derived.Test.YtjckfmipegemcaaGreatDoorXOpen
import Derived.WalkKit
import Derived.ProofKit
import Derived.OpenShut
import Derived.ShutString
import Derived.ChangeOld
import Derived.Below
import Derived.SizedLaws
import Derived.LaidMore
import Derived.SevenTiedAt
import Derived.Lay
import Derived.Stop.Joined
import Derived.Test.YtjckfmipegemcaaGreatDoorXFacts
namespace Go.Proofs.YtjckfmipegemcaaGreatDoor.fnExactFeedAll
open Go.ChangeShapes Go.WideShapes Go.ChangeAt Go.RowKit
open Go.ChangeMaps (open_string shut_string)
open Go.Proofs.YtjckfmipegemcaaGreatDoor.Open Go.Proofs.YtjckfmipegemcaaGreatDoor.All Go.Proofs.YtjckfmipegemcaaGreatDoorW.PrintWords
set_option linter.unusedVariables false
theorem own : ownKnob Tryz.prog.godebug = none := by kernel_rfl
theorem laidOut : laidOutB Tryz.prog = true := by kernel_rfl
set_option maxRecDepth 100000 in
theorem lifted (os : Os) (started : os.Started) (H : Type) (enc : TypeId × Value → H) :
    ReturnsInHanded {} Tryz.checked os 6 .any (fun w args => (Rows.fnExactFeedAllSpec.pre enc Tryz.prog Tryz.f6 Rows.fnExactFeedAllRow.domain false w args ∧ laidMetH Tryz.prog Rows.fnExactFeedAllRow.laid w) ∧ sizedMet enc Tryz.prog Tryz.f6 (OpenSpec.ofChange Rows.fnExactFeedAllSpec) false w args) (Rows.fnExactFeedAllSpec.post enc Tryz.prog Tryz.f6 false true false false) := by
  refine handed (C := Tryz.checked) (X := fun w _ => laidMetH Tryz.prog Rows.fnExactFeedAllRow.laid w) (fun _ _ _ hh h => h.of_heap hh) own started (by kernel_rfl) Tryz.func6
    (ChangeSpec.witness_shaped (enc := enc) (C := Tryz.checked) (os := os) (X := fun w _ => laidMetH Tryz.prog Rows.fnExactFeedAllRow.laid w) false (World.laidAll Tryz.prog os Rows.fnExactFeedAllRow.laid) #[.agg #[.string ByteArray.empty, .bool false], .slice none 0 0] 8 (World.laidAll_os _ _ _) (World.shaped_of_ZipB (by kernel_rfl) (by kernel_rfl)) (by kernel_rfl) (by kernel_rfl) (by kernel_rfl)
      (by rw [MakeChecks.laidMetH_plain _ _ _ (by kernel_rfl)]; exact laidMet_laidAll _ (by kernel_rfl) (by kernel_rfl))) ?_
  intro W base args ds gs before hval0 hW hcnd hsz0 hL0 hsh _
  have hL := hL0
  rw [MakeChecks.laidMetH_plain _ _ _ (by kernel_rfl)] at hL
  have hval : ∀ (j : Nat) t v, Tryz.f6.params[j]? = some t → args[j]? = some v → Value.okWide Tryz.prog W .any base t v := hval0
  have hW' := hW
  obtain ⟨p, q, hA0, hV, rfl, hfz, hnd⟩ := hW
  have hA : DataW.TrodAll enc Tryz.prog W 0 (fun _ => true) true Tryz.f6.params.toList args.toList ds p := hA0
  rw [Tryz.params6] at hA hval
  obtain ⟨v0, vs0, d0, ds0, p0, q0, hargs, rfl, rfl, h0, r0⟩ := trodAll_cons hA
  obtain ⟨v1, vs1, d1, ds1, p1, q1, rfl, rfl, rfl, h1, r1⟩ := trodAll_cons r0
  obtain ⟨rfl, rfl, rfl⟩ := trodAll_nil r1
  obtain rfl : args = #[v0, v1] := by cases args; simp_all
  obtain ⟨rfl, rfl⟩ := trodVars_none hV
  have lt0 : ∀ x ∈ p0, x.block < W.heap.size := by obtain ⟨m, hm⟩ := h0; exact DataW.trod_lt m _ _ _ hm
  have k0 := h0
  obtain ⟨cs0, rfl, _⟩ := okWide_struct Tryz.underlying41 (hval 0 41 v0 rfl rfl)
  obtain ⟨a0, hk0, o0⟩ := of_Trod (opens_struct Tryz.underlying41 (by kernel_rfl) (opens_cons rfl (by kernel_rfl) (opens_string Tryz.underlying9) (opens_last rfl (by kernel_rfl) (opens_bool Tryz.underlying4))) (fun x : S41 => (x.f0, x.f1)) (fun p => ⟨p.1, p.2⟩) (fun _ => rfl)) h0
  obtain e0 := k41_open hk0
  obtain rfl : cs0 = #[.string a0.f0, .bool a0.f1] := by cases cs0; simpa [Value.cells] using e0
  have lt1 : ∀ x ∈ p1, x.block < W.heap.size := by obtain ⟨m, hm⟩ := h1; exact DataW.trod_lt m _ _ _ hm
  have k1 := h1
  obtain ⟨A1, n1, m1, rfl⟩ := okWide_slice Tryz.underlying35 (hval 1 35 v1 rfl rfl)
  obtain ⟨a1, ⟨B1, c1, e1, hc1, hr1⟩, o1⟩ := of_Trod (opens_slice Tryz.underlying35 (by kernel_rfl) (opens_string Tryz.underlying9)) h1
  simp only [Value.cells, List.cons.injEq, and_true, Value.slice.injEq] at e1
  obtain ⟨rfl, rfl, rfl⟩ := e1
  clear hA0 hval0 hsz0
  obtain ⟨k, h⟩ := Pure.FnExactFeedAll a0 a1 o0 o1
  have hGE : GLOBE W := GLOBE.of (laidMet.tail (laidMet.tail (laidMet.tail (laidMet.tail (laidMet.tail (hL)))))) (laidMet.tail (laidMet.tail (laidMet.tail (laidMet.tail (hL)))))
  have hGM : GLOBM W := GLOBM.of hsh
  have hGT : GLOBT W := GLOBT.of (laidMet.tail (laidMet.tail (hL)))
  refine (laws_FnExactFeedAll.calls k a0.f0 a0.f1 _ _ a1 true W hGE hGM hGT hr1 hc1 rfl h).mono fun e W' he => ?_
  obtain ⟨rfl, bel0⟩ := he
  have bel := bel0
  exact ⟨_, rfl, _, _, _, [], _, [], hW', trodAll_mk1 (shut_bool Tryz.underlying4 _), (trodAll_cons_mk (Below.trod laidOut (by kernel_rfl) (of_decide_eq_true (by kernel_rfl)) k0 bel lt0) (trodAll_cons_mk (Below.trod laidOut (by kernel_rfl) (of_decide_eq_true (by kernel_rfl)) k1 bel lt1) trodAll_mk0)), rfl, bel.frame _, fun h => by cases h⟩
theorem named_ : Tryz.pinned.checked.prog.funcNamed Rows.fnExactFeedAllRow.func = some 6 := by kernel_rfl
set_option maxHeartbeats 80000000 in
theorem closed_ : joinedFacts Tryz.pinned.checked.prog 6 Tryz.f6 Rows.fnExactFeedAllSpec Rows.fnExactFeedAllRow = true := by
  unfold joinedFacts
  simp only [Bool.and_eq_true]
  repeat' apply And.intro
  all_goals first | (with_reducible exact XF.stopsHeard_) | (with_reducible exact XF.mayEnter_) | (rw [XF.lifts_]; as_aux_lemma => kernel_rfl) | (as_aux_lemma => kernel_rfl)
theorem over : Rows.fnExactFeedAllRow.holds Tryz.pinned (OpenSpec.ofChange Rows.fnExactFeedAllSpec) :=
  OpenClaim.holds_of_wide 6 Tryz.f6 rfl rfl rfl rfl rfl rfl rfl ⟨rfl, rfl, rfl, rfl, rfl⟩ rfl rfl rfl rfl rfl named_ Tryz.func6 closed_
    (of_decide_eq_true (by kernel_rfl)) (by unfold Func.isWrapper; first | (rw [if_pos (by decide +kernel)]; kernel_rfl) | (rw [if_neg (by decide +kernel)]; exact ⟨rfl, rfl⟩))
    (fun os started H enc _ => lifted os started H enc)
theorem words : Rows.fnExactFeedAllRow.wfByText (OpenSpec.ofChange Rows.fnExactFeedAllSpec) = true := by kernel_rfl
theorem main_ : Tryz.pinned.checked.prog.mainIs = some (true, ( "92e4c66be7e977c827969328b80926e5918ec124149b3a7b577f59cca666939b" : String).toList) := by kernel_rfl
theorem looks_ : true = Tryz.pinned.checked.prog.looks [] := by kernel_rfl
theorem goes_ : false = Rows.fnExactFeedAllRow.goesBy Tryz.pinned.checked.prog := by kernel_rfl
theorem standIn_ : ([41, 35].all fun u => !Tryz.prog.wantsStandIn u) = true := by kernel_rfl
theorem proved : Rows.FnExactFeedAllCardSaid :=
  Claim7.holds_tied_plain_at .later [] [.data, .data, .data, .data, .sentinel, .sentinel, .pinned] true (true, "92e4c66be7e977c827969328b80926e5918ec124149b3a7b577f59cca666939b") true over (fun _ h => by cases h) words (fun _ h => by cases h) fnExactFeedAll_row_tie rfl ⟨rfl, rfl⟩ main_ rfl
    (fun f fn hf hfn => by
      obtain rfl : f = 6 := Option.some.inj (named_.symm.trans hf) |>.symm
      obtain rfl : fn = Tryz.f6 := (Option.some.inj (Tryz.func6.symm.trans hfn)).symm
      exact ⟨looks_, fun j t ht => by
        rw [Tryz.params6] at ht
        have hm : t ∈ [41, 35] := by simpa using Array.mem_of_getElem? ht
        exact (show Tryz.prog.wantsStandIn t = false by simpa using List.all_eq_true.1 standIn_ t hm)⟩)
    goes_
end Go.Proofs.YtjckfmipegemcaaGreatDoor.fnExactFeedAll
namespace Go.Proofs.YtjckfmipegemcaaGreatDoor
/-- The row, under a short name, for the claim. -/
theorem fnExactFeedAll_holds : Rows.FnExactFeedAllCardSaid := fnExactFeedAll.proved
#print axioms fnExactFeedAll_holds
end Go.Proofs.YtjckfmipegemcaaGreatDoor
