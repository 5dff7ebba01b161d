-- Written by a program of this session (wip/tools/hprint.py) out of the translation. Lean checks it.
import Derived.Test.YtogdmlgbdbgpkaaDoorAllx0
import Derived.Test.YtogdmlgbdbgpkaaDoorAllx17
namespace Go.Proofs.YtogdmlgbdbgpkaaDoor.All
open Go.RowKit Go.Proofs.YtogdmlgbdbgpkaaDoorW.PrintWords Go.Proofs.YtogdmlgbdbgpkaaDoorW.PrintLast Go.Proofs.YtogdmlgbdbgpkaaDoorW.PrintMore
attribute [local go_sem] max2_int min2_int max_two min_two max_three min_three max_four min_four   -- for this text's walks alone
set_option linter.unusedVariables false
set_option linter.unusedSimpArgs false

/-! ### laws_FnExactReqOk: function 9 -/
def laws_FnExactReqOk.f (k : Nat) (a0_0 : Int) (a0_1 : ByteArray) (l0_2 : List (S118)) (a0_3 : ByteArray) : Option (Bool) := (laws_szReq.f k a0_0 a0_1 l0_2 a0_3 1048576).bind fun t399 => (if t399 < 0 then (some true) else ((laws_toReq.f k a0_0 a0_1 l0_2 a0_3).bind fun bt400 => ((spec_ReqOk.f k bt400.1 bt400.2.1 bt400.2.2.1 bt400.2.2.2).bind fun t406 => ((laws_toReq.f k a0_0 a0_1 l0_2 a0_3).bind fun bt407 => ((impl_ReqOk.f k bt407.1 bt407.2.1 bt407.2.2.1 bt407.2.2.2).bind fun t414 => (if (t414 != t406) = true then (some false) else ((laws_toReq.f k a0_0 a0_1 l0_2 a0_3).bind fun bt415 => ((laws_eqReq.f k bt407.1 bt407.2.1 bt407.2.2.1 bt407.2.2.2 bt415.1 bt415.2.1 bt415.2.2.1 bt415.2.2.2).bind fun t421 => (if t421 = true then (some true) else (some false))))))))))
theorem laws_FnExactReqOk.mono : ∀ a0 a1 a2 a3 k, LeO (laws_FnExactReqOk.f k a0 a1 a2 a3) (laws_FnExactReqOk.f (k + 1) a0 a1 a2 a3) := by
  intro a0 a1 a2 a3 k
  unfold laws_FnExactReqOk.f
  repeat' first
      | (with_reducible exact impl_ReqOk.mono _ _ _ _ _)
      | (with_reducible exact laws_eqReq.mono _ _ _ _ _ _ _ _ _)
      | (with_reducible exact laws_szReq.mono _ _ _ _ _ _)
      | (with_reducible exact laws_toReq.mono _ _ _ _ _)
      | (with_reducible exact spec_ReqOk.mono _ _ _ _ _)
      | (with_reducible exact LeO.refl _)
      | (with_reducible exact LeO.none _)
      | (with_reducible refine LeO.ite ?_ ?_)
      | (with_reducible refine LeO.bind ?_ (fun _ => ?_))
      | exact impl_ReqOk.mono _ _ _ _ _
      | exact laws_eqReq.mono _ _ _ _ _ _ _ _ _
      | exact laws_szReq.mono _ _ _ _ _ _
      | exact laws_toReq.mono _ _ _ _ _
      | exact spec_ReqOk.mono _ _ _ _ _
      | exact LeO.none _
      | refine LeO.ite ?_ ?_
      | refine LeO.bind ?_ (fun _ => ?_)
set_option maxHeartbeats 8000000 in
set_option maxRecDepth 100000 in
theorem laws_FnExactReqOk.calls (k : Nat) (a0_0 : Int) (a0_1 : ByteArray) (A0_2 : Option Addr) (c0_2 : Nat) (l0_2 : List (S118)) (a0_3 : ByteArray) (r : Bool) (w : World) (hr0_2 : Kd.C k118 w A0_2 l0_2.length l0_2) (hc0_2 : l0_2.length ≤ c0_2) (ht_ : r = true) (h : laws_FnExactReqOk.f k a0_0 a0_1 l0_2 a0_3 = some r) :
    Calls Tryd.prog 9 #[.agg #[.int .i64 a0_0, .string a0_1, .slice A0_2 l0_2.length c0_2, .string a0_3]] w fun e w' => e = .returned (.bool r) ∧ Below w.heap.size w w' := by
  have hu57 := Tryd.underlying57
  have hu61 := Tryd.underlying61
  have HR0_2 := Aside0.mk hr0_2
  have HC0_2 := Aside0.mk hc0_2
  clear hr0_2 hc0_2
  have HB := Aside0.mk (Below.refl w.heap.size w)
  have H : ((laws_szReq.f k a0_0 a0_1 l0_2 a0_3 1048576).bind fun t399 => (if t399 < 0 then (some true) else ((laws_toReq.f k a0_0 a0_1 l0_2 a0_3).bind fun bt400 => ((spec_ReqOk.f k bt400.1 bt400.2.1 bt400.2.2.1 bt400.2.2.2).bind fun t406 => ((laws_toReq.f k a0_0 a0_1 l0_2 a0_3).bind fun bt407 => ((impl_ReqOk.f k bt407.1 bt407.2.1 bt407.2.2.1 bt407.2.2.2).bind fun t414 => (if (t414 != t406) = true then (some false) else ((laws_toReq.f k a0_0 a0_1 l0_2 a0_3).bind fun bt415 => ((laws_eqReq.f k bt407.1 bt407.2.1 bt407.2.2.1 bt407.2.2.2 bt415.1 bt415.2.1 bt415.2.2.1 bt415.2.2.2).bind fun t421 => (if t421 = true then (some true) else (some false))))))))))) = some r := h
  clear h
  replace H := Option.bind_eq_some_iff.mp H
  obtain ⟨t399, A20, H⟩ := H
  replace H : (if t399 < 0 then (some true) else ((laws_toReq.f k a0_0 a0_1 l0_2 a0_3).bind fun bt400 => ((spec_ReqOk.f k bt400.1 bt400.2.1 bt400.2.2.1 bt400.2.2.2).bind fun t406 => ((laws_toReq.f k a0_0 a0_1 l0_2 a0_3).bind fun bt407 => ((impl_ReqOk.f k bt407.1 bt407.2.1 bt407.2.2.1 bt407.2.2.2).bind fun t414 => (if (t414 != t406) = true then (some false) else ((laws_toReq.f k a0_0 a0_1 l0_2 a0_3).bind fun bt415 => ((laws_eqReq.f k bt407.1 bt407.2.1 bt407.2.2.1 bt407.2.2.2 bt415.1 bt415.2.1 bt415.2.2.1 bt415.2.2.2).bind fun t421 => (if t421 = true then (some true) else (some false)))))))))) = some r := H
  have A2 := Aside0.mk A20
  clear A20
  by_cases c3 : t399 < 0
  · rw [if_pos c3] at H
    have c3b0 : decide (t399 < 0) = true := decide_eq_true c3
    clear c3
    obtain rfl := Option.some.inj H
    go_enter Tryd.func9, Tryd.ntmps9
    go_wp2_with (first | ((with_reducible refine gate_dst (N := 1) rfl ?_); refine box_event ?hg (N := 1) ?hd (cs := #[.int .i64 a0_0, .string a0_1, .slice A0_2 l0_2.length c0_2, .string a0_3]) (t := 57) ?hr ?_; (case hd => rfl); (case hg => rfl); (case hr => first | (go_simp; done) | (go_simp; rfl)); intro gb398 hg w4 hbox hb; have n0_ := Aside0.mk (below_step bl hb); have n1_ := Aside0.mk (hbox); have n2_ := Aside0.mk ((by rw [hg]; exact (below_size bl) : w.heap.size ≤ gb398)); have n3_ := Aside0.mk ((by rw [hg]; exact (below_size bl) : w.heap.size ≤ gb398)); clear HB; have HB := n0_; have BK398 := n1_; have GW398 := n2_; have GE398 := n3_; clear n0_ n1_ n2_ n3_; clear hb hbox hg; have hcz5_0 : w4.cell? ⟨gb398, 0, none⟩ = some (.int .i64 a0_0) := (blk_cell BK398.out 0).trans rfl; have hcz5_1 : w4.cell? ⟨gb398, 1, none⟩ = some (.string a0_1) := (blk_cell BK398.out 1).trans rfl; have hcz5_2 : w4.cell? ⟨gb398, 2, none⟩ = some (.slice A0_2 l0_2.length c0_2) := (blk_cell BK398.out 2).trans rfl; have hcz5_3 : w4.cell? ⟨gb398, 3, none⟩ = some (.string a0_3) := (blk_cell BK398.out 3).trans rfl; have hfz5_0 := blk_frozen BK398.out 0; have hfz5_1 := blk_frozen BK398.out 1; have hfz5_2 := blk_frozen BK398.out 2; have hfz5_3 := blk_frozen BK398.out 3) | ((with_reducible refine gate_callee (f := 45) rfl ?_); refine goesL_ (some 9) rfl rfl Tryd.func45 (by kernel_rfl) rfl #[.agg #[.int .i64 a0_0, .string a0_1, .slice A0_2 l0_2.length c0_2, .string a0_3], .int .i64 1048576] rfl ma ?_; (with_reducible refine (laws_szReq.calls k a0_0 a0_1 _ _ l0_2 a0_3 1048576 t399 _ ?side1 ?side2 A2.out).mono ?_); (case side1 => repeat (first | exact (Kd.C_below HR0_2.out HB.out) | (with_reducible refine Kd.C_alloc ?_ _) | (with_reducible refine Kd.C_drewN ?_ _) | (with_reducible refine Kd.C_drew ?_))); (case side2 => exact HC0_2.out); rintro e w6 ⟨rfl, hb⟩; refine ⟨_, rfl, ?_⟩; replace BK398 := kb BK398 hb; replace HB := Aside0.mk (below_step bl hb); (try clear hb); (try clear hb2); (try clear hk); (try clear hi)))
    go_ret
    exact ⟨rf, bl⟩
  · rw [if_neg c3] at H
    have c3b0 : decide (t399 < 0) = false := decide_eq_false c3
    clear c3
    replace H := Option.bind_eq_some_iff.mp H
    obtain ⟨⟨t400, t401, t402, t405⟩, A70, H⟩ := H
    replace H : ((spec_ReqOk.f k t400 t401 t402 t405).bind fun t406 => ((laws_toReq.f k a0_0 a0_1 l0_2 a0_3).bind fun bt407 => ((impl_ReqOk.f k bt407.1 bt407.2.1 bt407.2.2.1 bt407.2.2.2).bind fun t414 => (if (t414 != t406) = true then (some false) else ((laws_toReq.f k a0_0 a0_1 l0_2 a0_3).bind fun bt415 => ((laws_eqReq.f k bt407.1 bt407.2.1 bt407.2.2.1 bt407.2.2.2 bt415.1 bt415.2.1 bt415.2.2.1 bt415.2.2.2).bind fun t421 => (if t421 = true then (some true) else (some false)))))))) = some r := H
    have A7 := Aside0.mk A70
    clear A70
    replace H := Option.bind_eq_some_iff.mp H
    obtain ⟨t406, A80, H⟩ := H
    replace H : ((laws_toReq.f k a0_0 a0_1 l0_2 a0_3).bind fun bt407 => ((impl_ReqOk.f k bt407.1 bt407.2.1 bt407.2.2.1 bt407.2.2.2).bind fun t414 => (if (t414 != t406) = true then (some false) else ((laws_toReq.f k a0_0 a0_1 l0_2 a0_3).bind fun bt415 => ((laws_eqReq.f k bt407.1 bt407.2.1 bt407.2.2.1 bt407.2.2.2 bt415.1 bt415.2.1 bt415.2.2.1 bt415.2.2.2).bind fun t421 => (if t421 = true then (some true) else (some false))))))) = some r := H
    have A8 := Aside0.mk A80
    clear A80
    replace H := Option.bind_eq_some_iff.mp H
    obtain ⟨⟨t407, t408, t409, t412⟩, A90, H⟩ := H
    replace H : ((impl_ReqOk.f k t407 t408 t409 t412).bind fun t414 => (if (t414 != t406) = true then (some false) else ((laws_toReq.f k a0_0 a0_1 l0_2 a0_3).bind fun bt415 => ((laws_eqReq.f k t407 t408 t409 t412 bt415.1 bt415.2.1 bt415.2.2.1 bt415.2.2.2).bind fun t421 => (if t421 = true then (some true) else (some false)))))) = some r := H
    have A9 := Aside0.mk A90
    clear A90
    replace H := Option.bind_eq_some_iff.mp H
    obtain ⟨t414, A100, H⟩ := H
    replace H : (if (t414 != t406) = true then (some false) else ((laws_toReq.f k a0_0 a0_1 l0_2 a0_3).bind fun bt415 => ((laws_eqReq.f k t407 t408 t409 t412 bt415.1 bt415.2.1 bt415.2.2.1 bt415.2.2.2).bind fun t421 => (if t421 = true then (some true) else (some false))))) = some r := H
    have A10 := Aside0.mk A100
    clear A100
    by_cases c11 : (t414 != t406) = true
    · rw [if_pos c11] at H
      have c11b0 : (t414 != t406) = true := c11
      (try (have c11b1 : decide (t414 = t406) = false := by simpa using c11))
      (try (have c11b2 : (t414 == t406) = false := by simpa using c11))
      (try (have c11b3 : ¬ (t414 = t406) := by simpa using c11))
      clear c11
      exact absurd (Option.some.inj H) (by rw [ht_]; decide)
    · rw [if_neg c11] at H
      have c11b0 : (t414 != t406) = false := by simpa using c11
      (try (have c11b1 : decide (t414 = t406) = true := by simpa using c11))
      (try (have c11b2 : (t414 == t406) = true := by simpa using c11))
      clear c11
      replace H := Option.bind_eq_some_iff.mp H
      obtain ⟨⟨t415, t416, t417, t420⟩, A120, H⟩ := H
      replace H : ((laws_eqReq.f k t407 t408 t409 t412 t415 t416 t417 t420).bind fun t421 => (if t421 = true then (some true) else (some false))) = some r := H
      have A12 := Aside0.mk A120
      clear A120
      replace H := Option.bind_eq_some_iff.mp H
      obtain ⟨t421, A130, H⟩ := H
      replace H : (if t421 = true then (some true) else (some false)) = some r := H
      have A13 := Aside0.mk A130
      clear A130
      by_cases c14 : t421 = true
      · subst c14
        have H1 : (some true) = some r := by rw [if_pos rfl] at H; exact H
        clear H
        have H := H1
        clear H1
        obtain rfl := Option.some.inj H
        go_enter Tryd.func9, Tryd.ntmps9
        try go_wp2_with (first | ((with_reducible refine gate_dst (N := 1) rfl ?_); refine box_event ?hg (N := 1) ?hd (cs := #[.int .i64 a0_0, .string a0_1, .slice A0_2 l0_2.length c0_2, .string a0_3]) (t := 57) ?hr ?_; (case hd => rfl); (case hg => rfl); (case hr => first | (go_simp; done) | (go_simp; rfl)); intro gb398 hg w15 hbox hb; have n0_ := Aside0.mk (below_step bl hb); have n1_ := Aside0.mk (hbox); have n2_ := Aside0.mk ((by rw [hg]; exact (below_size bl) : w.heap.size ≤ gb398)); have n3_ := Aside0.mk ((by rw [hg]; exact (below_size bl) : w.heap.size ≤ gb398)); clear HB; have HB := n0_; have BK398 := n1_; have GW398 := n2_; have GE398 := n3_; clear n0_ n1_ n2_ n3_; clear hb hbox hg; have hcz16_0 : w15.cell? ⟨gb398, 0, none⟩ = some (.int .i64 a0_0) := (blk_cell BK398.out 0).trans rfl; have hcz16_1 : w15.cell? ⟨gb398, 1, none⟩ = some (.string a0_1) := (blk_cell BK398.out 1).trans rfl; have hcz16_2 : w15.cell? ⟨gb398, 2, none⟩ = some (.slice A0_2 l0_2.length c0_2) := (blk_cell BK398.out 2).trans rfl; have hcz16_3 : w15.cell? ⟨gb398, 3, none⟩ = some (.string a0_3) := (blk_cell BK398.out 3).trans rfl; have hfz16_0 := blk_frozen BK398.out 0; have hfz16_1 := blk_frozen BK398.out 1; have hfz16_2 := blk_frozen BK398.out 2; have hfz16_3 := blk_frozen BK398.out 3) | ((with_reducible refine gate_callee (f := 45) rfl ?_); refine goesL_ (some 9) rfl rfl Tryd.func45 (by kernel_rfl) rfl #[.agg #[.int .i64 a0_0, .string a0_1, .slice A0_2 l0_2.length c0_2, .string a0_3], .int .i64 1048576] rfl ma ?_; (with_reducible refine (laws_szReq.calls k a0_0 a0_1 _ _ l0_2 a0_3 1048576 t399 _ ?side1 ?side2 A2.out).mono ?_); (case side1 => repeat (first | exact (Kd.C_below HR0_2.out HB.out) | (with_reducible refine Kd.C_alloc ?_ _) | (with_reducible refine Kd.C_drewN ?_ _) | (with_reducible refine Kd.C_drew ?_))); (case side2 => exact HC0_2.out); rintro e w17 ⟨rfl, hb⟩; refine ⟨_, rfl, ?_⟩; replace BK398 := kb BK398 hb; replace HB := Aside0.mk (below_step bl hb); (try clear hb); (try clear hb2); (try clear hk); (try clear hi); have hcz18_0 : w17.cell? ⟨gb398, 0, none⟩ = some (.int .i64 a0_0) := (blk_cell BK398.out 0).trans rfl; have hcz18_1 : w17.cell? ⟨gb398, 1, none⟩ = some (.string a0_1) := (blk_cell BK398.out 1).trans rfl; have hcz18_2 : w17.cell? ⟨gb398, 2, none⟩ = some (.slice A0_2 l0_2.length c0_2) := (blk_cell BK398.out 2).trans rfl; have hcz18_3 : w17.cell? ⟨gb398, 3, none⟩ = some (.string a0_3) := (blk_cell BK398.out 3).trans rfl; have hfz18_0 := blk_frozen BK398.out 0; have hfz18_1 := blk_frozen BK398.out 1; have hfz18_2 := blk_frozen BK398.out 2; have hfz18_3 := blk_frozen BK398.out 3) | ((with_reducible refine gate_callee (f := 47) rfl ?_); refine goesL_ (some 13) rfl rfl Tryd.func47 (by kernel_rfl) rfl #[.agg #[.int .i64 a0_0, .string a0_1, .slice A0_2 l0_2.length c0_2, .string a0_3]] rfl ma ?_; (with_reducible refine (laws_toReq.calls k a0_0 a0_1 _ _ l0_2 a0_3 t400 t401 t402 t405 _ ?side1 ?side2 A7.out).mono ?_); (case side1 => repeat (first | exact (Kd.C_below HR0_2.out HB.out) | (with_reducible refine Kd.C_alloc ?_ _) | (with_reducible refine Kd.C_drewN ?_ _) | (with_reducible refine Kd.C_drew ?_))); (case side2 => exact HC0_2.out); rintro e w19 ⟨v403, rfl, ho0, hb⟩; refine ⟨_, rfl, ?_⟩; have HO404 := Aside0.mk (Kd.R_lower ho0 (below_size bl)); replace BK398 := kb BK398 hb; replace HB := Aside0.mk (below_step bl hb); (try clear hb); (try clear hb2); (try clear hk); (try clear hi); (try clear ho0); obtain ⟨Ao20, co20, eo20⟩ := Kd.R_slice HO404.out; subst eo20) | ((with_reducible refine gate_callee (f := 46) rfl ?_); refine goesL_ (some 14) rfl rfl Tryd.func46 (by kernel_rfl) rfl #[.agg #[.int .i64 t400, .string t401, .slice Ao20 t402.length co20, .string t405]] rfl ma ?_; (with_reducible refine (spec_ReqOk.calls k t400 t401 _ _ t402 t405 t406 _ ?side1 ?side2 A8.out).mono ?_); (case side1 => repeat (first | exact (Kd.R_reads' HO404.out).2.2 | (with_reducible refine Kd.C_alloc ?_ _) | (with_reducible refine Kd.C_drewN ?_ _) | (with_reducible refine Kd.C_drew ?_))); (case side2 => exact (Kd.R_reads' HO404.out).2.1); rintro e w21 ⟨rfl, hb⟩; refine ⟨_, rfl, ?_⟩; replace HO404 := kr HO404 hb; replace BK398 := kb BK398 hb; replace HB := Aside0.mk (below_step bl hb); (try clear hb); (try clear hb2); (try clear hk); (try clear hi); have hcz22_0 : w21.cell? ⟨gb398, 0, none⟩ = some (.int .i64 a0_0) := (blk_cell BK398.out 0).trans rfl; have hcz22_1 : w21.cell? ⟨gb398, 1, none⟩ = some (.string a0_1) := (blk_cell BK398.out 1).trans rfl; have hcz22_2 : w21.cell? ⟨gb398, 2, none⟩ = some (.slice A0_2 l0_2.length c0_2) := (blk_cell BK398.out 2).trans rfl; have hcz22_3 : w21.cell? ⟨gb398, 3, none⟩ = some (.string a0_3) := (blk_cell BK398.out 3).trans rfl; have hfz22_0 := blk_frozen BK398.out 0; have hfz22_1 := blk_frozen BK398.out 1; have hfz22_2 := blk_frozen BK398.out 2; have hfz22_3 := blk_frozen BK398.out 3) | ((with_reducible refine gate_callee (f := 47) rfl ?_); refine goesL_ (some 16) rfl rfl Tryd.func47 (by kernel_rfl) rfl #[.agg #[.int .i64 a0_0, .string a0_1, .slice A0_2 l0_2.length c0_2, .string a0_3]] rfl ma ?_; (with_reducible refine (laws_toReq.calls k a0_0 a0_1 _ _ l0_2 a0_3 t407 t408 t409 t412 _ ?side1 ?side2 A9.out).mono ?_); (case side1 => repeat (first | exact (Kd.C_below HR0_2.out HB.out) | (with_reducible refine Kd.C_alloc ?_ _) | (with_reducible refine Kd.C_drewN ?_ _) | (with_reducible refine Kd.C_drew ?_))); (case side2 => exact HC0_2.out); rintro e w23 ⟨v410, rfl, ho0, hb⟩; refine ⟨_, rfl, ?_⟩; have HO411 := Aside0.mk (Kd.R_lower (Kd.R_new' ho0 (Kd.R_lt (ro HO404))) (below_size bl)); replace HO404 := Aside0.mk (Kd.R_elder' (ro HO404) (Kd.R_base ho0) hb); replace BK398 := kb BK398 hb; replace HB := Aside0.mk (below_step bl hb); (try clear hb); (try clear hb2); (try clear hk); (try clear hi); (try clear ho0)) | ((with_reducible refine gate_dst (N := 5) rfl ?_); refine box_event ?hg (N := 5) ?hd (cs := #[.int .i64 0, .string (⟨#[]⟩ : ByteArray), .slice none 0 0, .string (⟨#[]⟩ : ByteArray)]) (t := 61) ?hr ?_; (case hd => rfl); (case hg => rfl); (case hr => first | (go_simp; done) | (go_simp; rfl)); intro gb413 hg w24 hbox hb; have n0_ := Aside0.mk (Kd.R_below (ro HO404) hb); have n1_ := Aside0.mk (Kd.R_below (ro HO411) hb); have n2_ := Aside0.mk (blk_below (g := gb398) (o := .cells #[.int .i64 a0_0, .string a0_1, .slice A0_2 l0_2.length c0_2, .string a0_3] 57 (0, 0)) (bk BK398) hb); have n3_ := Aside0.mk (below_step bl hb); have n4_ := Aside0.mk (hbox); have n5_ := Aside0.mk ((by rw [hg]; exact (below_size bl) : w.heap.size ≤ gb413)); have n6_ := Aside0.mk ((by rw [hg]; exact (below_size bl) : w.heap.size ≤ gb413)); have n7_ := Aside0.mk ((by rw [hg]; exact Nat.ne_of_lt (blk_lt (g := gb398) (o := .cells #[.int .i64 a0_0, .string a0_1, .slice A0_2 l0_2.length c0_2, .string a0_3] 57 (0, 0)) (bk BK398)) : gb398 ≠ gb413)); have n8_ := Aside0.mk ((by rw [hg]; exact Nat.ne_of_gt (blk_lt (g := gb398) (o := .cells #[.int .i64 a0_0, .string a0_1, .slice A0_2 l0_2.length c0_2, .string a0_3] 57 (0, 0)) (bk BK398)) : gb413 ≠ gb398)); clear HO404; clear HO411; clear BK398; clear HB; have HO404 := n0_; have HO411 := n1_; have BK398 := n2_; have HB := n3_; have BK413 := n4_; have GW413 := n5_; have GE413 := n6_; have NB398_413 := n7_; have NB413_398 := n8_; clear n0_ n1_ n2_ n3_ n4_ n5_ n6_ n7_ n8_; clear hb hbox hg; have hnb25 := NB413_398.out; have hnc25 := NB398_413.out; have hcz26_0 : w24.cell? ⟨gb413, 0, none⟩ = some (.int .i64 0) := (blk_cell BK413.out 0).trans rfl; have hcz26_1 : w24.cell? ⟨gb413, 1, none⟩ = some (.string (⟨#[]⟩ : ByteArray)) := (blk_cell BK413.out 1).trans rfl; have hcz26_2 : w24.cell? ⟨gb413, 2, none⟩ = some (.slice none 0 0) := (blk_cell BK413.out 2).trans rfl; have hcz26_3 : w24.cell? ⟨gb413, 3, none⟩ = some (.string (⟨#[]⟩ : ByteArray)) := (blk_cell BK413.out 3).trans rfl; have hfz26_0 := blk_frozen BK413.out 0; have hfz26_1 := blk_frozen BK413.out 1; have hfz26_2 := blk_frozen BK413.out 2; have hfz26_3 := blk_frozen BK413.out 3; obtain ⟨Ao27, co27, eo27⟩ := Kd.R_slice HO411.out; subst eo27) | ((with_reducible refine gate_callee (f := 48) rfl ?_); refine goesL_ (some 18) rfl rfl Tryd.func48 (by kernel_rfl) rfl #[.agg #[.int .i64 t407, .string t408, .slice Ao27 t409.length co27, .string t412]] rfl ma ?_; (with_reducible refine (impl_ReqOk.calls k t407 t408 _ _ t409 t412 t414 _ ?side1 ?side2 A10.out).mono ?_); (case side1 => refine (Kd.R_reads' (e := 78) (base := w.heap.size) (ok := fun k_ => (True ∧ some k_ ≠ (.slice Ao20 t402.length co20 : Value).ownBlock)) (n := t409.length) (c := co27) ?_).2.2; exact (by (with_reducible repeat (first | apply Kd.R_alloc | apply Kd.R_drewN | apply Kd.R_drew)); exact (Kd.R_mono (Kd.R_far (p := ⟨gb413, 3, none⟩) (Kd.R_far (p := ⟨gb413, 2, none⟩) (Kd.R_far (p := ⟨gb413, 1, none⟩) (Kd.R_far (p := ⟨gb413, 0, none⟩) (Kd.R_types HO411.out BK413.out (by decide)) (fun _ hk => hk.2) (.int .i64 t407)) (fun _ hk => hk.2) (.string t408)) (fun _ hk => hk.2) (.slice Ao27 t409.length co27)) (fun _ hk => hk.2) (.string t412)) (fun _ h_ => h_.1)))); (case side2 => exact (Kd.R_reads' HO411.out).2.1); rintro e w28 ⟨rfl, hb⟩; refine ⟨_, rfl, ?_⟩; have n0_ := Aside0.mk (Kd.R_below (by (with_reducible repeat (first | apply Kd.R_alloc | apply Kd.R_drewN | apply Kd.R_drew)); exact (Kd.R_mono (Kd.R_far (p := ⟨gb413, 3, none⟩) (Kd.R_far (p := ⟨gb413, 2, none⟩) (Kd.R_far (p := ⟨gb413, 1, none⟩) (Kd.R_far (p := ⟨gb413, 0, none⟩) (Kd.R_types HO404.out BK413.out (by decide)) (fun _ hk => hk.2) (.int .i64 t407)) (fun _ hk => hk.2) (.string t408)) (fun _ hk => hk.2) (.slice Ao27 t409.length co27)) (fun _ hk => hk.2) (.string t412)) (fun _ h_ => h_.1))) hb); have n1_ := Aside0.mk (Kd.R_below (by (with_reducible repeat (first | apply Kd.R_alloc | apply Kd.R_drewN | apply Kd.R_drew)); exact (Kd.R_mono (Kd.R_far (p := ⟨gb413, 3, none⟩) (Kd.R_far (p := ⟨gb413, 2, none⟩) (Kd.R_far (p := ⟨gb413, 1, none⟩) (Kd.R_far (p := ⟨gb413, 0, none⟩) (Kd.R_types HO411.out BK413.out (by decide)) (fun _ hk => hk.2) (.int .i64 t407)) (fun _ hk => hk.2) (.string t408)) (fun _ hk => hk.2) (.slice Ao27 t409.length co27)) (fun _ hk => hk.2) (.string t412)) (fun _ h_ => h_.1))) hb); have n2_ := Aside0.mk (blk_below (g := gb398) (o := .cells #[.int .i64 a0_0, .string a0_1, .slice A0_2 l0_2.length c0_2, .string a0_3] 57 (0, 0)) (bf BK398) hb); have n3_ := Aside0.mk (blk_below (g := gb413) (o := .cells #[.int .i64 t407, .string t408, .slice Ao27 t409.length co27, .string t412] 61 (0, 0)) (by (with_reducible repeat (first | refine blk_drewN ?_ _ | refine blk_drew ?_ | refine blk_alloc ?_ _)); refine blk_put (cs := #[.int .i64 t407, .string t408, .slice Ao27 t409.length co27, .string (⟨#[]⟩ : ByteArray)]) ?_ 3 _ rfl; (with_reducible repeat (first | refine blk_drewN ?_ _ | refine blk_drew ?_ | refine blk_alloc ?_ _)); refine blk_put (cs := #[.int .i64 t407, .string t408, .slice none 0 0, .string (⟨#[]⟩ : ByteArray)]) ?_ 2 _ rfl; (with_reducible repeat (first | refine blk_drewN ?_ _ | refine blk_drew ?_ | refine blk_alloc ?_ _)); refine blk_put (cs := #[.int .i64 t407, .string (⟨#[]⟩ : ByteArray), .slice none 0 0, .string (⟨#[]⟩ : ByteArray)]) ?_ 1 _ rfl; (with_reducible repeat (first | refine blk_drewN ?_ _ | refine blk_drew ?_ | refine blk_alloc ?_ _)); refine blk_put (cs := #[.int .i64 0, .string (⟨#[]⟩ : ByteArray), .slice none 0 0, .string (⟨#[]⟩ : ByteArray)]) ?_ 0 _ rfl; (with_reducible repeat (first | refine blk_drewN ?_ _ | refine blk_drew ?_ | refine blk_alloc ?_ _)); exact BK413.out) hb); have n4_ := Aside0.mk (below_step bl hb); clear HO404; clear HO411; clear BK398; clear BK413; clear HB; have HO404 := n0_; have HO411 := n1_; have BK398 := n2_; have BK413 := n3_; have HB := n4_; clear n0_ n1_ n2_ n3_ n4_; (try clear hb); (try clear hb2); (try clear hk); (try clear hi)))
        replace HO404 := Aside0.mk (Kd.R_drew HO404.out)
        replace HO411 := Aside0.mk (Kd.R_drew HO411.out)
        replace BK398 := Aside0.mk (blk_drew BK398.out)
        replace BK413 := Aside0.mk (blk_drew BK413.out)
        replace HB := Aside0.mk (below_drew1 HB.out)
        refine start_ (n := 5) (S := fun w' => w'.cell? ⟨gb413, 0, none⟩ = some (.int .i64 t407) ∧ w'.cell? ⟨gb413, 1, none⟩ = some (.string t408) ∧ w'.cell? ⟨gb413, 2, none⟩ = some (.slice Ao27 t409.length co27) ∧ w'.cell? ⟨gb413, 3, none⟩ = some (.string t412) ∧ w'.cell? ⟨gb398, 0, none⟩ = some (.int .i64 a0_0) ∧ w'.cell? ⟨gb398, 1, none⟩ = some (.string a0_1) ∧ w'.cell? ⟨gb398, 2, none⟩ = some (.slice A0_2 l0_2.length c0_2) ∧ w'.cell? ⟨gb398, 3, none⟩ = some (.string a0_3)) (ds := []) #[false, false, false, false, false] (by kernel_rfl) rfl rfl ⟨(blk_cell BK413.out 0).trans rfl, (blk_cell BK413.out 1).trans rfl, (blk_cell BK413.out 2).trans rfl, (blk_cell BK413.out 3).trans rfl, (blk_cell BK398.out 0).trans rfl, (blk_cell BK398.out 1).trans rfl, (blk_cell BK398.out 2).trans rfl, (blk_cell BK398.out 3).trans rfl⟩ (fun hHeld => ?_)
        generalize w28.drew = w29 at HO404 HO411 BK398 BK413 HB hHeld ⊢
        refine take_ (i := 0) (N := some 22) (v := ?_) (a' := ?_) #[true, false, false, false, false] rfl rfl (by kernel_rfl) (fun _ _ _ h => h) (Or.inl ⟨by rfl, ?_⟩) hHeld ?_ ?_
        rotate_left
        · rintro w' ⟨s0, s1, s2, s3, s4, s5, s6, s7⟩
          go_simp
          with_reducible rfl
        rotate_left
        · simp only [Act.put, List.setIfInBounds_toArray, List.set_cons_zero, List.set_cons_succ, i64_w, i32_w]
          rfl
        refine take_ (i := 1) (N := some 23) (v := ?_) (a' := ?_) #[true, true, false, false, false] rfl rfl (by kernel_rfl) (fun _ _ _ h => h) (Or.inl ⟨by rfl, ?_⟩) hHeld ?_ ?_
        rotate_left
        · rintro w' ⟨s0, s1, s2, s3, s4, s5, s6, s7⟩
          go_simp
          with_reducible rfl
        rotate_left
        · simp only [Act.put, List.setIfInBounds_toArray, List.set_cons_zero, List.set_cons_succ, i64_w, i32_w]
          rfl
        refine one_ (i := 2) (N := some 24) #[true, true, true, false, false] rfl rfl (by kernel_rfl) (by decide) (fun K hK => ?_)
        refine goes_ Tryd.func47 (by kernel_rfl) rfl #[.agg #[.int .i64 a0_0, .string a0_1, .slice A0_2 l0_2.length c0_2, .string a0_3]] (by rfl) rfl rfl ma ?_
        with_reducible refine (laws_toReq.calls k a0_0 a0_1 _ _ l0_2 a0_3 t415 t416 t417 t420 _ ?side1 ?side2 A12.out).mono ?_
        (case side1 => repeat (first | exact (Kd.C_below HR0_2.out HB.out) | (with_reducible refine Kd.C_alloc ?_ _) | (with_reducible refine Kd.C_drewN ?_ _) | (with_reducible refine Kd.C_drew ?_)))
        (case side2 => exact HC0_2.out)
        rintro e w30 ⟨v418, rfl, ho0, hb⟩
        refine ⟨_, rfl, ?_⟩
        have HO419 := Aside0.mk (Kd.R_lower (Kd.R_new' (Kd.R_new' ho0 (Kd.R_lt (ro HO404))) (Kd.R_lt (ro HO411))) (below_size bl))
        replace HO404 := Aside0.mk (Kd.R_elder' (ro HO404) (Kd.R_base ho0) hb)
        replace HO411 := Aside0.mk (Kd.R_elder' (ro HO411) (Kd.R_base ho0) hb)
        replace BK398 := kb BK398 hb
        replace BK413 := kb BK413 hb
        replace HB := Aside0.mk (below_step bl hb)
        (try clear hb)
        (try clear hb2)
        (try clear hk)
        (try clear hi)
        (try clear ho0)
        obtain ⟨Ao31, co31, eo31⟩ := Kd.R_slice HO419.out
        (first | subst eo31 | (injection eo31 with f1_ f2_ f3_; have f4_ := f1_.symm; have f5_ := f3_.symm; clear f1_ f2_ f3_; subst f4_; subst f5_))
        refine hK.out _ _ ⟨(blk_cell BK413.out 0).trans rfl, (blk_cell BK413.out 1).trans rfl, (blk_cell BK413.out 2).trans rfl, (blk_cell BK413.out 3).trans rfl, (blk_cell BK398.out 0).trans rfl, (blk_cell BK398.out 1).trans rfl, (blk_cell BK398.out 2).trans rfl, (blk_cell BK398.out 3).trans rfl⟩ (fun hHeld => ?_)
        clear hK K
        refine norm_ (a' := ?_) ?_ ?_
        rotate_left
        · show Act.put _ (some 24) _ = _
          simp only [Act.put, List.setIfInBounds_toArray, List.set_cons_zero, List.set_cons_succ, i64_w, i32_w]
          rfl
        refine one_ (i := 3) (N := some 25) #[true, true, true, true, false] rfl rfl (by kernel_rfl) (by decide) (fun K hK => ?_)
        refine goes_ Tryd.func49 (by kernel_rfl) rfl #[.agg #[.int .i64 t407, .string t408, .slice Ao27 t409.length co27, .string t412], .agg #[.int .i64 t415, .string t416, .slice Ao31 t417.length co31, .string t420]] (by rfl) rfl rfl ma ?_
        with_reducible refine (laws_eqReq.calls k t407 t408 _ _ t409 t412 t415 t416 _ _ t417 t420 true _ ?side1 ?side2 ?side3 ?side4 A13.out).mono ?_
        (case side1 => repeat (first | exact (Kd.R_reads' HO411.out).2.2 | (with_reducible refine Kd.C_alloc ?_ _) | (with_reducible refine Kd.C_drewN ?_ _) | (with_reducible refine Kd.C_drew ?_)))
        (case side2 => exact (Kd.R_reads' HO411.out).2.1)
        (case side3 => repeat (first | exact (Kd.R_reads' HO419.out).2.2 | (with_reducible refine Kd.C_alloc ?_ _) | (with_reducible refine Kd.C_drewN ?_ _) | (with_reducible refine Kd.C_drew ?_)))
        (case side4 => exact (Kd.R_reads' HO419.out).2.1)
        rintro e w32 ⟨rfl, hb⟩
        refine ⟨_, rfl, ?_⟩
        replace HO404 := kr HO404 hb
        replace HO411 := kr HO411 hb
        replace HO419 := kr HO419 hb
        replace BK398 := kb BK398 hb
        replace BK413 := kb BK413 hb
        replace HB := Aside0.mk (below_step bl hb)
        (try clear hb)
        (try clear hb2)
        (try clear hk)
        (try clear hi)
        refine hK.out _ _ ⟨(blk_cell BK413.out 0).trans rfl, (blk_cell BK413.out 1).trans rfl, (blk_cell BK413.out 2).trans rfl, (blk_cell BK413.out 3).trans rfl, (blk_cell BK398.out 0).trans rfl, (blk_cell BK398.out 1).trans rfl, (blk_cell BK398.out 2).trans rfl, (blk_cell BK398.out 3).trans rfl⟩ (fun hHeld => ?_)
        clear hK K
        refine norm_ (a' := ?_) ?_ ?_
        rotate_left
        · show Act.put _ (some 25) _ = _
          simp only [Act.put, List.setIfInBounds_toArray, List.set_cons_zero, List.set_cons_succ, i64_w, i32_w]
          rfl
        refine pure_ (i := 4) (N := some 26) (v := ?_) (a' := ?_) #[true, true, true, true, true] rfl rfl (by kernel_rfl) (fun _ _ _ h => h) (Or.inl ⟨by rfl, ?_⟩) ?_ ?_
        rotate_left
        · intro w'
          go_simp
          with_reducible rfl
        rotate_left
        · simp only [Act.put, List.setIfInBounds_toArray, List.set_cons_zero, List.set_cons_succ, i64_w, i32_w]
          rfl
        refine done_ (by kernel_rfl) ?_
        try go_wp2
        go_ret
        exact ⟨rf, bl⟩
      · replace c14 := Bool.eq_false_iff.mpr c14
        subst c14
        have H1 : (some false) = some r := by rw [if_neg (show ¬ (false = true) by decide)] at H; exact H
        clear H
        have H := H1
        clear H1
        exact absurd (Option.some.inj H) (by rw [ht_]; decide)

end Go.Proofs.YtogdmlgbdbgpkaaDoor.All
