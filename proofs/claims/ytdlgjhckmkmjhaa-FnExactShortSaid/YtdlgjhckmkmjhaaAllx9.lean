-- Written by a program of this session (wip/tools/hprint.py) out of the translation. Lean checks it.
import Derived.Test.YtdlgjhckmkmjhaaAllx0
import Derived.Test.YtdlgjhckmkmjhaaAllx2
import Derived.Test.YtdlgjhckmkmjhaaAllx3
import Derived.Test.YtdlgjhckmkmjhaaAllx6
import Derived.Test.YtdlgjhckmkmjhaaAllx7
import Derived.Test.YtdlgjhckmkmjhaaAllx8
namespace Go.Proofs.Ytdlgjhckmkmjhaa.All
open Go.RowKit Go.Proofs.YtdlgjhckmkmjhaaW.PrintWords Go.Proofs.YtdlgjhckmkmjhaaW.PrintLast Go.Proofs.YtdlgjhckmkmjhaaW.PrintMore
attribute [local go_sem] max2_int min2_int max_two min_two max_three min_three max_four min_four   -- for this text's walks alone
set_option linter.unusedVariables false
set_option linter.unusedSimpArgs false

/-! ### laws_FnExactSame: function 11 -/
def laws_FnExactSame.f (k : Nat) (a0_0 : Int) (a0_1 : ByteArray) (l0_2 : List (S79)) (a0_3 : ByteArray) (l1 : List (S79)) : Option (Bool) := (laws_szReq.f k a0_0 a0_1 l0_2 a0_3 1048576).bind fun t330 => (if t330 < 0 then (some true) else ((laws_szFieldS.f k l1 t330).bind fun t331 => (if t331 < 0 then (some true) else ((laws_toReq.f k a0_0 a0_1 l0_2 a0_3).bind fun bt332 => ((laws_toFieldS.f k l1).bind fun t338 => ((spec_Same.f k bt332.1 bt332.2.1 bt332.2.2.1 bt332.2.2.2 t338).bind fun t341 => ((laws_toReq.f k a0_0 a0_1 l0_2 a0_3).bind fun bt342 => ((laws_toFieldS.f k l1).bind fun t349 => ((impl_Same.f bt342.1 bt342.2.1 bt342.2.2.1 bt342.2.2.2 t349).bind fun t352 => (if (t352 != t341) = true then (some false) else ((laws_toReq.f k a0_0 a0_1 l0_2 a0_3).bind fun bt353 => ((laws_eqReq.f k bt342.1 bt342.2.1 bt342.2.2.1 bt342.2.2.2 bt353.1 bt353.2.1 bt353.2.2.1 bt353.2.2.2).bind fun t359 => (if t359 = true then ((laws_toFieldS.f k l1).bind fun t360 => ((laws_eqFieldS.f k t349 t360).bind fun t363 => (if t363 = true then (some true) else (some false)))) else (some false))))))))))))))
theorem laws_FnExactSame.mono : ∀ a0 a1 a2 a3 a4 k, LeO (laws_FnExactSame.f k a0 a1 a2 a3 a4) (laws_FnExactSame.f (k + 1) a0 a1 a2 a3 a4) := by
  intro a0 a1 a2 a3 a4 k
  unfold laws_FnExactSame.f
  repeat' first
      | (with_reducible exact laws_eqFieldS.mono _ _ _)
      | (with_reducible exact laws_eqReq.mono _ _ _ _ _ _ _ _ _)
      | (with_reducible exact laws_szFieldS.mono _ _ _)
      | (with_reducible exact laws_szReq.mono _ _ _ _ _ _)
      | (with_reducible exact laws_toFieldS.mono _ _)
      | (with_reducible exact laws_toReq.mono _ _ _ _ _)
      | (with_reducible exact spec_Same.mono _ _ _ _ _ _)
      | (with_reducible exact LeO.refl _)
      | (with_reducible exact LeO.none _)
      | (with_reducible refine LeO.ite ?_ ?_)
      | (with_reducible refine LeO.bind ?_ (fun _ => ?_))
      | exact laws_eqFieldS.mono _ _ _
      | exact laws_eqReq.mono _ _ _ _ _ _ _ _ _
      | exact laws_szFieldS.mono _ _ _
      | exact laws_szReq.mono _ _ _ _ _ _
      | exact laws_toFieldS.mono _ _
      | exact laws_toReq.mono _ _ _ _ _
      | exact spec_Same.mono _ _ _ _ _ _
      | exact LeO.none _
      | refine LeO.ite ?_ ?_
      | refine LeO.bind ?_ (fun _ => ?_)
set_option maxHeartbeats 8000000 in
set_option maxRecDepth 100000 in
theorem laws_FnExactSame.calls (k : Nat) (a0_0 : Int) (a0_1 : ByteArray) (A0_2 : Option Addr) (c0_2 : Nat) (l0_2 : List (S79)) (a0_3 : ByteArray) (A1 : Option Addr) (c1 : Nat) (l1 : List (S79)) (r : Bool) (w : World) (hr0_2 : Kd.C k79 w A0_2 l0_2.length l0_2) (hc0_2 : l0_2.length ≤ c0_2) (hr1 : Kd.C k79 w A1 l1.length l1) (hc1 : l1.length ≤ c1) (ht_ : r = true) (h : laws_FnExactSame.f k a0_0 a0_1 l0_2 a0_3 l1 = some r) :
    Calls Try.prog 11 #[.agg #[.int .i64 a0_0, .string a0_1, .slice A0_2 l0_2.length c0_2, .string a0_3], .slice A1 l1.length c1] w fun e w' => e = .returned (.bool r) ∧ Below w.heap.size w w' := by
  have hu50 := Try.underlying50
  have hu54 := Try.underlying54
  have HR0_2 := Aside0.mk hr0_2
  have HC0_2 := Aside0.mk hc0_2
  clear hr0_2 hc0_2
  have HR1 := Aside0.mk hr1
  have HC1 := Aside0.mk hc1
  clear hr1 hc1
  have HB := Aside0.mk (Below.refl w.heap.size w)
  have H : ((laws_szReq.f k a0_0 a0_1 l0_2 a0_3 1048576).bind fun t330 => (if t330 < 0 then (some true) else ((laws_szFieldS.f k l1 t330).bind fun t331 => (if t331 < 0 then (some true) else ((laws_toReq.f k a0_0 a0_1 l0_2 a0_3).bind fun bt332 => ((laws_toFieldS.f k l1).bind fun t338 => ((spec_Same.f k bt332.1 bt332.2.1 bt332.2.2.1 bt332.2.2.2 t338).bind fun t341 => ((laws_toReq.f k a0_0 a0_1 l0_2 a0_3).bind fun bt342 => ((laws_toFieldS.f k l1).bind fun t349 => ((impl_Same.f bt342.1 bt342.2.1 bt342.2.2.1 bt342.2.2.2 t349).bind fun t352 => (if (t352 != t341) = true then (some false) else ((laws_toReq.f k a0_0 a0_1 l0_2 a0_3).bind fun bt353 => ((laws_eqReq.f k bt342.1 bt342.2.1 bt342.2.2.1 bt342.2.2.2 bt353.1 bt353.2.1 bt353.2.2.1 bt353.2.2.2).bind fun t359 => (if t359 = true then ((laws_toFieldS.f k l1).bind fun t360 => ((laws_eqFieldS.f k t349 t360).bind fun t363 => (if t363 = true then (some true) else (some false)))) else (some false))))))))))))))) = some r := h
  clear h
  replace H := Option.bind_eq_some_iff.mp H
  obtain ⟨t330, A30, H⟩ := H
  replace H : (if t330 < 0 then (some true) else ((laws_szFieldS.f k l1 t330).bind fun t331 => (if t331 < 0 then (some true) else ((laws_toReq.f k a0_0 a0_1 l0_2 a0_3).bind fun bt332 => ((laws_toFieldS.f k l1).bind fun t338 => ((spec_Same.f k bt332.1 bt332.2.1 bt332.2.2.1 bt332.2.2.2 t338).bind fun t341 => ((laws_toReq.f k a0_0 a0_1 l0_2 a0_3).bind fun bt342 => ((laws_toFieldS.f k l1).bind fun t349 => ((impl_Same.f bt342.1 bt342.2.1 bt342.2.2.1 bt342.2.2.2 t349).bind fun t352 => (if (t352 != t341) = true then (some false) else ((laws_toReq.f k a0_0 a0_1 l0_2 a0_3).bind fun bt353 => ((laws_eqReq.f k bt342.1 bt342.2.1 bt342.2.2.1 bt342.2.2.2 bt353.1 bt353.2.1 bt353.2.2.1 bt353.2.2.2).bind fun t359 => (if t359 = true then ((laws_toFieldS.f k l1).bind fun t360 => ((laws_eqFieldS.f k t349 t360).bind fun t363 => (if t363 = true then (some true) else (some false)))) else (some false)))))))))))))) = some r := H
  have A3 := Aside0.mk A30
  clear A30
  by_cases c4 : t330 < 0
  · rw [if_pos c4] at H
    have c4b0 : decide (t330 < 0) = true := decide_eq_true c4
    clear c4
    obtain rfl := Option.some.inj H
    go_enter Try.func11, Try.ntmps11
    go_wp2_with (first | ((with_reducible refine gate_dst (N := 2) rfl ?_); refine box_event ?hg (N := 2) ?hd (cs := #[.int .i64 a0_0, .string a0_1, .slice A0_2 l0_2.length c0_2, .string a0_3]) (t := 50) ?hr ?_; (case hd => rfl); (case hg => rfl); (case hr => first | (go_simp; done) | (go_simp; rfl)); intro gb329 hg w5 hbox hb; have n0_ := Aside0.mk (below_step bl hb); have n1_ := Aside0.mk (hbox); have n2_ := Aside0.mk ((by rw [hg]; exact (below_size bl) : w.heap.size ≤ gb329)); have n3_ := Aside0.mk ((by rw [hg]; exact (below_size bl) : w.heap.size ≤ gb329)); clear HB; have HB := n0_; have BK329 := n1_; have GW329 := n2_; have GE329 := n3_; clear n0_ n1_ n2_ n3_; clear hb hbox hg; have hcz6_0 : w5.cell? ⟨gb329, 0, none⟩ = some (.int .i64 a0_0) := (blk_cell BK329.out 0).trans rfl; have hcz6_1 : w5.cell? ⟨gb329, 1, none⟩ = some (.string a0_1) := (blk_cell BK329.out 1).trans rfl; have hcz6_2 : w5.cell? ⟨gb329, 2, none⟩ = some (.slice A0_2 l0_2.length c0_2) := (blk_cell BK329.out 2).trans rfl; have hcz6_3 : w5.cell? ⟨gb329, 3, none⟩ = some (.string a0_3) := (blk_cell BK329.out 3).trans rfl; have hfz6_0 := blk_frozen BK329.out 0; have hfz6_1 := blk_frozen BK329.out 1; have hfz6_2 := blk_frozen BK329.out 2; have hfz6_3 := blk_frozen BK329.out 3) | ((with_reducible refine gate_callee (f := 41) rfl ?_); refine goesL_ (some 12) rfl rfl Try.func41 (by kernel_rfl) rfl #[.agg #[.int .i64 a0_0, .string a0_1, .slice A0_2 l0_2.length c0_2, .string a0_3], .int .i64 1048576] rfl ma ?_; (with_reducible refine (laws_szReq.calls k a0_0 a0_1 _ _ l0_2 a0_3 1048576 t330 _ ?side1 ?side2 A3.out).mono ?_); (case side1 => repeat (first | exact (Kd.C_below HR0_2.out HB.out) | (with_reducible refine Kd.C_alloc ?_ _) | (with_reducible refine Kd.C_drewN ?_ _) | (with_reducible refine Kd.C_drew ?_))); (case side2 => exact HC0_2.out); rintro e w7 ⟨rfl, hb⟩; refine ⟨_, rfl, ?_⟩; replace BK329 := kb BK329 hb; replace HB := Aside0.mk (below_step bl hb); (try clear hb); (try clear hb2); (try clear hk); (try clear hi)))
    go_ret
    exact ⟨rf, bl⟩
  · rw [if_neg c4] at H
    have c4b0 : decide (t330 < 0) = false := decide_eq_false c4
    clear c4
    replace H := Option.bind_eq_some_iff.mp H
    obtain ⟨t331, A80, H⟩ := H
    replace H : (if t331 < 0 then (some true) else ((laws_toReq.f k a0_0 a0_1 l0_2 a0_3).bind fun bt332 => ((laws_toFieldS.f k l1).bind fun t338 => ((spec_Same.f k bt332.1 bt332.2.1 bt332.2.2.1 bt332.2.2.2 t338).bind fun t341 => ((laws_toReq.f k a0_0 a0_1 l0_2 a0_3).bind fun bt342 => ((laws_toFieldS.f k l1).bind fun t349 => ((impl_Same.f bt342.1 bt342.2.1 bt342.2.2.1 bt342.2.2.2 t349).bind fun t352 => (if (t352 != t341) = true then (some false) else ((laws_toReq.f k a0_0 a0_1 l0_2 a0_3).bind fun bt353 => ((laws_eqReq.f k bt342.1 bt342.2.1 bt342.2.2.1 bt342.2.2.2 bt353.1 bt353.2.1 bt353.2.2.1 bt353.2.2.2).bind fun t359 => (if t359 = true then ((laws_toFieldS.f k l1).bind fun t360 => ((laws_eqFieldS.f k t349 t360).bind fun t363 => (if t363 = true then (some true) else (some false)))) else (some false)))))))))))) = some r := H
    have A8 := Aside0.mk A80
    clear A80
    by_cases c9 : t331 < 0
    · rw [if_pos c9] at H
      have c9b0 : decide (t331 < 0) = true := decide_eq_true c9
      clear c9
      obtain rfl := Option.some.inj H
      go_enter Try.func11, Try.ntmps11
      go_wp2_with (first | ((with_reducible refine gate_dst (N := 2) rfl ?_); refine box_event ?hg (N := 2) ?hd (cs := #[.int .i64 a0_0, .string a0_1, .slice A0_2 l0_2.length c0_2, .string a0_3]) (t := 50) ?hr ?_; (case hd => rfl); (case hg => rfl); (case hr => first | (go_simp; done) | (go_simp; rfl)); intro gb329 hg w10 hbox hb; have n0_ := Aside0.mk (below_step bl hb); have n1_ := Aside0.mk (hbox); have n2_ := Aside0.mk ((by rw [hg]; exact (below_size bl) : w.heap.size ≤ gb329)); have n3_ := Aside0.mk ((by rw [hg]; exact (below_size bl) : w.heap.size ≤ gb329)); clear HB; have HB := n0_; have BK329 := n1_; have GW329 := n2_; have GE329 := n3_; clear n0_ n1_ n2_ n3_; clear hb hbox hg; have hcz11_0 : w10.cell? ⟨gb329, 0, none⟩ = some (.int .i64 a0_0) := (blk_cell BK329.out 0).trans rfl; have hcz11_1 : w10.cell? ⟨gb329, 1, none⟩ = some (.string a0_1) := (blk_cell BK329.out 1).trans rfl; have hcz11_2 : w10.cell? ⟨gb329, 2, none⟩ = some (.slice A0_2 l0_2.length c0_2) := (blk_cell BK329.out 2).trans rfl; have hcz11_3 : w10.cell? ⟨gb329, 3, none⟩ = some (.string a0_3) := (blk_cell BK329.out 3).trans rfl; have hfz11_0 := blk_frozen BK329.out 0; have hfz11_1 := blk_frozen BK329.out 1; have hfz11_2 := blk_frozen BK329.out 2; have hfz11_3 := blk_frozen BK329.out 3) | ((with_reducible refine gate_callee (f := 41) rfl ?_); refine goesL_ (some 12) rfl rfl Try.func41 (by kernel_rfl) rfl #[.agg #[.int .i64 a0_0, .string a0_1, .slice A0_2 l0_2.length c0_2, .string a0_3], .int .i64 1048576] rfl ma ?_; (with_reducible refine (laws_szReq.calls k a0_0 a0_1 _ _ l0_2 a0_3 1048576 t330 _ ?side1 ?side2 A3.out).mono ?_); (case side1 => repeat (first | exact (Kd.C_below HR0_2.out HB.out) | (with_reducible refine Kd.C_alloc ?_ _) | (with_reducible refine Kd.C_drewN ?_ _) | (with_reducible refine Kd.C_drew ?_))); (case side2 => exact HC0_2.out); rintro e w12 ⟨rfl, hb⟩; refine ⟨_, rfl, ?_⟩; replace BK329 := kb BK329 hb; replace HB := Aside0.mk (below_step bl hb); (try clear hb); (try clear hb2); (try clear hk); (try clear hi)) | ((with_reducible refine gate_callee (f := 22) rfl ?_); refine goesL_ (some 17) rfl rfl Try.func22 (by kernel_rfl) rfl #[.slice A1 l1.length c1, .int .i64 t330] rfl ma ?_; (with_reducible refine (laws_szFieldS.calls k _ _ l1 t330 t331 _ ?side1 ?side2 A8.out).mono ?_); (case side1 => repeat (first | exact (Kd.C_below HR1.out HB.out) | (with_reducible refine Kd.C_alloc ?_ _) | (with_reducible refine Kd.C_drewN ?_ _) | (with_reducible refine Kd.C_drew ?_))); (case side2 => exact HC1.out); rintro e w13 ⟨rfl, hb⟩; refine ⟨_, rfl, ?_⟩; replace BK329 := kb BK329 hb; replace HB := Aside0.mk (below_step bl hb); (try clear hb); (try clear hb2); (try clear hk); (try clear hi)))
      go_ret
      exact ⟨rf, bl⟩
    · rw [if_neg c9] at H
      have c9b0 : decide (t331 < 0) = false := decide_eq_false c9
      clear c9
      replace H := Option.bind_eq_some_iff.mp H
      obtain ⟨⟨t332, t333, t334, t337⟩, A140, H⟩ := H
      replace H : ((laws_toFieldS.f k l1).bind fun t338 => ((spec_Same.f k t332 t333 t334 t337 t338).bind fun t341 => ((laws_toReq.f k a0_0 a0_1 l0_2 a0_3).bind fun bt342 => ((laws_toFieldS.f k l1).bind fun t349 => ((impl_Same.f bt342.1 bt342.2.1 bt342.2.2.1 bt342.2.2.2 t349).bind fun t352 => (if (t352 != t341) = true then (some false) else ((laws_toReq.f k a0_0 a0_1 l0_2 a0_3).bind fun bt353 => ((laws_eqReq.f k bt342.1 bt342.2.1 bt342.2.2.1 bt342.2.2.2 bt353.1 bt353.2.1 bt353.2.2.1 bt353.2.2.2).bind fun t359 => (if t359 = true then ((laws_toFieldS.f k l1).bind fun t360 => ((laws_eqFieldS.f k t349 t360).bind fun t363 => (if t363 = true then (some true) else (some false)))) else (some false)))))))))) = some r := H
      have A14 := Aside0.mk A140
      clear A140
      replace H := Option.bind_eq_some_iff.mp H
      obtain ⟨t338, A150, H⟩ := H
      replace H : ((spec_Same.f k t332 t333 t334 t337 t338).bind fun t341 => ((laws_toReq.f k a0_0 a0_1 l0_2 a0_3).bind fun bt342 => ((laws_toFieldS.f k l1).bind fun t349 => ((impl_Same.f bt342.1 bt342.2.1 bt342.2.2.1 bt342.2.2.2 t349).bind fun t352 => (if (t352 != t341) = true then (some false) else ((laws_toReq.f k a0_0 a0_1 l0_2 a0_3).bind fun bt353 => ((laws_eqReq.f k bt342.1 bt342.2.1 bt342.2.2.1 bt342.2.2.2 bt353.1 bt353.2.1 bt353.2.2.1 bt353.2.2.2).bind fun t359 => (if t359 = true then ((laws_toFieldS.f k l1).bind fun t360 => ((laws_eqFieldS.f k t349 t360).bind fun t363 => (if t363 = true then (some true) else (some false)))) else (some false))))))))) = some r := H
      have A15 := Aside0.mk A150
      clear A150
      replace H := Option.bind_eq_some_iff.mp H
      obtain ⟨t341, A160, H⟩ := H
      replace H : ((laws_toReq.f k a0_0 a0_1 l0_2 a0_3).bind fun bt342 => ((laws_toFieldS.f k l1).bind fun t349 => ((impl_Same.f bt342.1 bt342.2.1 bt342.2.2.1 bt342.2.2.2 t349).bind fun t352 => (if (t352 != t341) = true then (some false) else ((laws_toReq.f k a0_0 a0_1 l0_2 a0_3).bind fun bt353 => ((laws_eqReq.f k bt342.1 bt342.2.1 bt342.2.2.1 bt342.2.2.2 bt353.1 bt353.2.1 bt353.2.2.1 bt353.2.2.2).bind fun t359 => (if t359 = true then ((laws_toFieldS.f k l1).bind fun t360 => ((laws_eqFieldS.f k t349 t360).bind fun t363 => (if t363 = true then (some true) else (some false)))) else (some false)))))))) = some r := H
      have A16 := Aside0.mk A160
      clear A160
      replace H := Option.bind_eq_some_iff.mp H
      obtain ⟨⟨t342, t343, t344, t347⟩, A170, H⟩ := H
      replace H : ((laws_toFieldS.f k l1).bind fun t349 => ((impl_Same.f t342 t343 t344 t347 t349).bind fun t352 => (if (t352 != t341) = true then (some false) else ((laws_toReq.f k a0_0 a0_1 l0_2 a0_3).bind fun bt353 => ((laws_eqReq.f k t342 t343 t344 t347 bt353.1 bt353.2.1 bt353.2.2.1 bt353.2.2.2).bind fun t359 => (if t359 = true then ((laws_toFieldS.f k l1).bind fun t360 => ((laws_eqFieldS.f k t349 t360).bind fun t363 => (if t363 = true then (some true) else (some false)))) else (some false))))))) = some r := H
      have A17 := Aside0.mk A170
      clear A170
      replace H := Option.bind_eq_some_iff.mp H
      obtain ⟨t349, A180, H⟩ := H
      replace H : ((impl_Same.f t342 t343 t344 t347 t349).bind fun t352 => (if (t352 != t341) = true then (some false) else ((laws_toReq.f k a0_0 a0_1 l0_2 a0_3).bind fun bt353 => ((laws_eqReq.f k t342 t343 t344 t347 bt353.1 bt353.2.1 bt353.2.2.1 bt353.2.2.2).bind fun t359 => (if t359 = true then ((laws_toFieldS.f k l1).bind fun t360 => ((laws_eqFieldS.f k t349 t360).bind fun t363 => (if t363 = true then (some true) else (some false)))) else (some false)))))) = some r := H
      have A18 := Aside0.mk A180
      clear A180
      replace H := Option.bind_eq_some_iff.mp H
      obtain ⟨t352, A190, H⟩ := H
      replace H : (if (t352 != t341) = true then (some false) else ((laws_toReq.f k a0_0 a0_1 l0_2 a0_3).bind fun bt353 => ((laws_eqReq.f k t342 t343 t344 t347 bt353.1 bt353.2.1 bt353.2.2.1 bt353.2.2.2).bind fun t359 => (if t359 = true then ((laws_toFieldS.f k l1).bind fun t360 => ((laws_eqFieldS.f k t349 t360).bind fun t363 => (if t363 = true then (some true) else (some false)))) else (some false))))) = some r := H
      have A19 := Aside0.mk A190
      clear A190
      by_cases c20 : (t352 != t341) = true
      · rw [if_pos c20] at H
        have c20b0 : (t352 != t341) = true := c20
        (try (have c20b1 : decide (t352 = t341) = false := by simpa using c20))
        (try (have c20b2 : (t352 == t341) = false := by simpa using c20))
        (try (have c20b3 : ¬ (t352 = t341) := by simpa using c20))
        clear c20
        exact absurd (Option.some.inj H) (by rw [ht_]; decide)
      · rw [if_neg c20] at H
        have c20b0 : (t352 != t341) = false := by simpa using c20
        (try (have c20b1 : decide (t352 = t341) = true := by simpa using c20))
        (try (have c20b2 : (t352 == t341) = true := by simpa using c20))
        clear c20
        replace H := Option.bind_eq_some_iff.mp H
        obtain ⟨⟨t353, t354, t355, t358⟩, A210, H⟩ := H
        replace H : ((laws_eqReq.f k t342 t343 t344 t347 t353 t354 t355 t358).bind fun t359 => (if t359 = true then ((laws_toFieldS.f k l1).bind fun t360 => ((laws_eqFieldS.f k t349 t360).bind fun t363 => (if t363 = true then (some true) else (some false)))) else (some false))) = some r := H
        have A21 := Aside0.mk A210
        clear A210
        replace H := Option.bind_eq_some_iff.mp H
        obtain ⟨t359, A220, H⟩ := H
        replace H : (if t359 = true then ((laws_toFieldS.f k l1).bind fun t360 => ((laws_eqFieldS.f k t349 t360).bind fun t363 => (if t363 = true then (some true) else (some false)))) else (some false)) = some r := H
        have A22 := Aside0.mk A220
        clear A220
        by_cases c23 : t359 = true
        · subst c23
          have H1 : ((laws_toFieldS.f k l1).bind fun t360 => ((laws_eqFieldS.f k t349 t360).bind fun t363 => (if t363 = true then (some true) else (some false)))) = some r := by rw [if_pos rfl] at H; exact H
          clear H
          have H := H1
          clear H1
          replace H := Option.bind_eq_some_iff.mp H
          obtain ⟨t360, A240, H⟩ := H
          replace H : ((laws_eqFieldS.f k t349 t360).bind fun t363 => (if t363 = true then (some true) else (some false))) = some r := H
          have A24 := Aside0.mk A240
          clear A240
          replace H := Option.bind_eq_some_iff.mp H
          obtain ⟨t363, A250, H⟩ := H
          replace H : (if t363 = true then (some true) else (some false)) = some r := H
          have A25 := Aside0.mk A250
          clear A250
          by_cases c26 : t363 = true
          · subst c26
            have H1 : (some true) = some r := by rw [if_pos rfl] at H; exact H
            clear H
            have H := H1
            clear H1
            obtain rfl := Option.some.inj H
            go_enter Try.func11, Try.ntmps11
            try go_wp2_with (first | ((with_reducible refine gate_dst (N := 2) rfl ?_); refine box_event ?hg (N := 2) ?hd (cs := #[.int .i64 a0_0, .string a0_1, .slice A0_2 l0_2.length c0_2, .string a0_3]) (t := 50) ?hr ?_; (case hd => rfl); (case hg => rfl); (case hr => first | (go_simp; done) | (go_simp; rfl)); intro gb329 hg w27 hbox hb; have n0_ := Aside0.mk (below_step bl hb); have n1_ := Aside0.mk (hbox); have n2_ := Aside0.mk ((by rw [hg]; exact (below_size bl) : w.heap.size ≤ gb329)); have n3_ := Aside0.mk ((by rw [hg]; exact (below_size bl) : w.heap.size ≤ gb329)); clear HB; have HB := n0_; have BK329 := n1_; have GW329 := n2_; have GE329 := n3_; clear n0_ n1_ n2_ n3_; clear hb hbox hg; have hcz28_0 : w27.cell? ⟨gb329, 0, none⟩ = some (.int .i64 a0_0) := (blk_cell BK329.out 0).trans rfl; have hcz28_1 : w27.cell? ⟨gb329, 1, none⟩ = some (.string a0_1) := (blk_cell BK329.out 1).trans rfl; have hcz28_2 : w27.cell? ⟨gb329, 2, none⟩ = some (.slice A0_2 l0_2.length c0_2) := (blk_cell BK329.out 2).trans rfl; have hcz28_3 : w27.cell? ⟨gb329, 3, none⟩ = some (.string a0_3) := (blk_cell BK329.out 3).trans rfl; have hfz28_0 := blk_frozen BK329.out 0; have hfz28_1 := blk_frozen BK329.out 1; have hfz28_2 := blk_frozen BK329.out 2; have hfz28_3 := blk_frozen BK329.out 3) | ((with_reducible refine gate_callee (f := 41) rfl ?_); refine goesL_ (some 12) rfl rfl Try.func41 (by kernel_rfl) rfl #[.agg #[.int .i64 a0_0, .string a0_1, .slice A0_2 l0_2.length c0_2, .string a0_3], .int .i64 1048576] rfl ma ?_; (with_reducible refine (laws_szReq.calls k a0_0 a0_1 _ _ l0_2 a0_3 1048576 t330 _ ?side1 ?side2 A3.out).mono ?_); (case side1 => repeat (first | exact (Kd.C_below HR0_2.out HB.out) | (with_reducible refine Kd.C_alloc ?_ _) | (with_reducible refine Kd.C_drewN ?_ _) | (with_reducible refine Kd.C_drew ?_))); (case side2 => exact HC0_2.out); rintro e w29 ⟨rfl, hb⟩; refine ⟨_, rfl, ?_⟩; replace BK329 := kb BK329 hb; replace HB := Aside0.mk (below_step bl hb); (try clear hb); (try clear hb2); (try clear hk); (try clear hi)) | ((with_reducible refine gate_callee (f := 22) rfl ?_); refine goesL_ (some 17) rfl rfl Try.func22 (by kernel_rfl) rfl #[.slice A1 l1.length c1, .int .i64 t330] rfl ma ?_; (with_reducible refine (laws_szFieldS.calls k _ _ l1 t330 t331 _ ?side1 ?side2 A8.out).mono ?_); (case side1 => repeat (first | exact (Kd.C_below HR1.out HB.out) | (with_reducible refine Kd.C_alloc ?_ _) | (with_reducible refine Kd.C_drewN ?_ _) | (with_reducible refine Kd.C_drew ?_))); (case side2 => exact HC1.out); rintro e w30 ⟨rfl, hb⟩; refine ⟨_, rfl, ?_⟩; replace BK329 := kb BK329 hb; replace HB := Aside0.mk (below_step bl hb); (try clear hb); (try clear hb2); (try clear hk); (try clear hi); have hcz31_0 : w30.cell? ⟨gb329, 0, none⟩ = some (.int .i64 a0_0) := (blk_cell BK329.out 0).trans rfl; have hcz31_1 : w30.cell? ⟨gb329, 1, none⟩ = some (.string a0_1) := (blk_cell BK329.out 1).trans rfl; have hcz31_2 : w30.cell? ⟨gb329, 2, none⟩ = some (.slice A0_2 l0_2.length c0_2) := (blk_cell BK329.out 2).trans rfl; have hcz31_3 : w30.cell? ⟨gb329, 3, none⟩ = some (.string a0_3) := (blk_cell BK329.out 3).trans rfl; have hfz31_0 := blk_frozen BK329.out 0; have hfz31_1 := blk_frozen BK329.out 1; have hfz31_2 := blk_frozen BK329.out 2; have hfz31_3 := blk_frozen BK329.out 3) | ((with_reducible refine gate_callee (f := 43) rfl ?_); refine goesL_ (some 21) rfl rfl Try.func43 (by kernel_rfl) rfl #[.agg #[.int .i64 a0_0, .string a0_1, .slice A0_2 l0_2.length c0_2, .string a0_3]] rfl ma ?_; (with_reducible refine (laws_toReq.calls k a0_0 a0_1 _ _ l0_2 a0_3 t332 t333 t334 t337 _ ?side1 ?side2 A14.out).mono ?_); (case side1 => repeat (first | exact (Kd.C_below HR0_2.out HB.out) | (with_reducible refine Kd.C_alloc ?_ _) | (with_reducible refine Kd.C_drewN ?_ _) | (with_reducible refine Kd.C_drew ?_))); (case side2 => exact HC0_2.out); rintro e w32 ⟨v335, rfl, ho0, hb⟩; refine ⟨_, rfl, ?_⟩; have HO336 := Aside0.mk (Kd.R_lower ho0 (below_size bl)); replace BK329 := kb BK329 hb; replace HB := Aside0.mk (below_step bl hb); (try clear hb); (try clear hb2); (try clear hk); (try clear hi); (try clear ho0)) | ((with_reducible refine gate_callee (f := 24) rfl ?_); refine goesL_ (some 23) rfl rfl Try.func24 (by kernel_rfl) rfl #[.slice A1 l1.length c1] rfl ma ?_; (with_reducible refine (laws_toFieldS.calls k _ _ l1 t338 _ ?side1 ?side2 A15.out).mono ?_); (case side1 => repeat (first | exact (Kd.C_below HR1.out HB.out) | (with_reducible refine Kd.C_alloc ?_ _) | (with_reducible refine Kd.C_drewN ?_ _) | (with_reducible refine Kd.C_drew ?_))); (case side2 => exact HC1.out); rintro e w33 ⟨v339, rfl, ho0, hb⟩; refine ⟨_, rfl, ?_⟩; have HO340 := Aside0.mk (Kd.R_lower (Kd.R_new' ho0 (Kd.R_lt (ro HO336))) (below_size bl)); replace HO336 := Aside0.mk (Kd.R_elder' (ro HO336) (Kd.R_base ho0) hb); replace BK329 := kb BK329 hb; replace HB := Aside0.mk (below_step bl hb); (try clear hb); (try clear hb2); (try clear hk); (try clear hi); (try clear ho0); obtain ⟨Ao34, co34, eo34⟩ := Kd.R_slice HO336.out; subst eo34; obtain ⟨Ao35, co35, eo35⟩ := Kd.R_slice HO340.out; subst eo35) | ((with_reducible refine gate_callee (f := 42) rfl ?_); refine goesL_ (some 24) rfl rfl Try.func42 (by kernel_rfl) rfl #[.agg #[.int .i64 t332, .string t333, .slice Ao34 t334.length co34, .string t337], .slice Ao35 t338.length co35] rfl ma ?_; (with_reducible refine (spec_Same.calls k t332 t333 _ _ t334 t337 _ _ t338 t341 _ ?side1 ?side2 ?side3 ?side4 A16.out).mono ?_); (case side1 => repeat (first | exact (Kd.R_reads' HO336.out).2.2 | (with_reducible refine Kd.C_alloc ?_ _) | (with_reducible refine Kd.C_drewN ?_ _) | (with_reducible refine Kd.C_drew ?_))); (case side2 => exact (Kd.R_reads' HO336.out).2.1); (case side3 => repeat (first | exact (Kd.R_reads' HO340.out).2.2 | (with_reducible refine Kd.C_alloc ?_ _) | (with_reducible refine Kd.C_drewN ?_ _) | (with_reducible refine Kd.C_drew ?_))); (case side4 => exact (Kd.R_reads' HO340.out).2.1); rintro e w36 ⟨rfl, hb⟩; refine ⟨_, rfl, ?_⟩; replace HO336 := kr HO336 hb; replace HO340 := kr HO340 hb; replace BK329 := kb BK329 hb; replace HB := Aside0.mk (below_step bl hb); (try clear hb); (try clear hb2); (try clear hk); (try clear hi); have hcz37_0 : w36.cell? ⟨gb329, 0, none⟩ = some (.int .i64 a0_0) := (blk_cell BK329.out 0).trans rfl; have hcz37_1 : w36.cell? ⟨gb329, 1, none⟩ = some (.string a0_1) := (blk_cell BK329.out 1).trans rfl; have hcz37_2 : w36.cell? ⟨gb329, 2, none⟩ = some (.slice A0_2 l0_2.length c0_2) := (blk_cell BK329.out 2).trans rfl; have hcz37_3 : w36.cell? ⟨gb329, 3, none⟩ = some (.string a0_3) := (blk_cell BK329.out 3).trans rfl; have hfz37_0 := blk_frozen BK329.out 0; have hfz37_1 := blk_frozen BK329.out 1; have hfz37_2 := blk_frozen BK329.out 2; have hfz37_3 := blk_frozen BK329.out 3) | ((with_reducible refine gate_callee (f := 43) rfl ?_); refine goesL_ (some 26) rfl rfl Try.func43 (by kernel_rfl) rfl #[.agg #[.int .i64 a0_0, .string a0_1, .slice A0_2 l0_2.length c0_2, .string a0_3]] rfl ma ?_; (with_reducible refine (laws_toReq.calls k a0_0 a0_1 _ _ l0_2 a0_3 t342 t343 t344 t347 _ ?side1 ?side2 A17.out).mono ?_); (case side1 => repeat (first | exact (Kd.C_below HR0_2.out HB.out) | (with_reducible refine Kd.C_alloc ?_ _) | (with_reducible refine Kd.C_drewN ?_ _) | (with_reducible refine Kd.C_drew ?_))); (case side2 => exact HC0_2.out); rintro e w38 ⟨v345, rfl, ho0, hb⟩; refine ⟨_, rfl, ?_⟩; have HO346 := Aside0.mk (Kd.R_lower (Kd.R_new' (Kd.R_new' ho0 (Kd.R_lt (ro HO336))) (Kd.R_lt (ro HO340))) (below_size bl)); replace HO336 := Aside0.mk (Kd.R_elder' (ro HO336) (Kd.R_base ho0) hb); replace HO340 := Aside0.mk (Kd.R_elder' (ro HO340) (Kd.R_base ho0) hb); replace BK329 := kb BK329 hb; replace HB := Aside0.mk (below_step bl hb); (try clear hb); (try clear hb2); (try clear hk); (try clear hi); (try clear ho0)) | ((with_reducible refine gate_dst (N := 7) rfl ?_); refine box_event ?hg (N := 7) ?hd (cs := #[.int .i64 0, .string (⟨#[]⟩ : ByteArray), .slice none 0 0, .string (⟨#[]⟩ : ByteArray)]) (t := 54) ?hr ?_; (case hd => rfl); (case hg => rfl); (case hr => first | (go_simp; done) | (go_simp; rfl)); intro gb348 hg w39 hbox hb; have n0_ := Aside0.mk (Kd.R_below (ro HO336) hb); have n1_ := Aside0.mk (Kd.R_below (ro HO340) hb); have n2_ := Aside0.mk (Kd.R_below (ro HO346) hb); have n3_ := Aside0.mk (blk_below (g := gb329) (o := .cells #[.int .i64 a0_0, .string a0_1, .slice A0_2 l0_2.length c0_2, .string a0_3] 50 (0, 0)) (bk BK329) hb); have n4_ := Aside0.mk (below_step bl hb); have n5_ := Aside0.mk (hbox); have n6_ := Aside0.mk ((by rw [hg]; exact (below_size bl) : w.heap.size ≤ gb348)); have n7_ := Aside0.mk ((by rw [hg]; exact (below_size bl) : w.heap.size ≤ gb348)); have n8_ := Aside0.mk ((by rw [hg]; exact Nat.ne_of_lt (blk_lt (g := gb329) (o := .cells #[.int .i64 a0_0, .string a0_1, .slice A0_2 l0_2.length c0_2, .string a0_3] 50 (0, 0)) (bk BK329)) : gb329 ≠ gb348)); have n9_ := Aside0.mk ((by rw [hg]; exact Nat.ne_of_gt (blk_lt (g := gb329) (o := .cells #[.int .i64 a0_0, .string a0_1, .slice A0_2 l0_2.length c0_2, .string a0_3] 50 (0, 0)) (bk BK329)) : gb348 ≠ gb329)); clear HO336; clear HO340; clear HO346; clear BK329; clear HB; have HO336 := n0_; have HO340 := n1_; have HO346 := n2_; have BK329 := n3_; have HB := n4_; have BK348 := n5_; have GW348 := n6_; have GE348 := n7_; have NB329_348 := n8_; have NB348_329 := n9_; clear n0_ n1_ n2_ n3_ n4_ n5_ n6_ n7_ n8_ n9_; clear hb hbox hg; have hnb40 := NB348_329.out; have hnc40 := NB329_348.out; have hcz41_0 : w39.cell? ⟨gb348, 0, none⟩ = some (.int .i64 0) := (blk_cell BK348.out 0).trans rfl; have hcz41_1 : w39.cell? ⟨gb348, 1, none⟩ = some (.string (⟨#[]⟩ : ByteArray)) := (blk_cell BK348.out 1).trans rfl; have hcz41_2 : w39.cell? ⟨gb348, 2, none⟩ = some (.slice none 0 0) := (blk_cell BK348.out 2).trans rfl; have hcz41_3 : w39.cell? ⟨gb348, 3, none⟩ = some (.string (⟨#[]⟩ : ByteArray)) := (blk_cell BK348.out 3).trans rfl; have hfz41_0 := blk_frozen BK348.out 0; have hfz41_1 := blk_frozen BK348.out 1; have hfz41_2 := blk_frozen BK348.out 2; have hfz41_3 := blk_frozen BK348.out 3; obtain ⟨Ao42, co42, eo42⟩ := Kd.R_slice HO346.out; subst eo42) | ((with_reducible refine gate_callee (f := 24) rfl ?_); refine goesL_ (some 28) rfl rfl Try.func24 (by kernel_rfl) rfl #[.slice A1 l1.length c1] rfl ma ?_; (with_reducible refine (laws_toFieldS.calls k _ _ l1 t349 _ ?side1 ?side2 A18.out).mono ?_); (case side1 => exact Kd.C_below HR1.out bl); (case side2 => exact HC1.out); rintro e w43 ⟨v350, rfl, ho0, hb⟩; refine ⟨_, rfl, ?_⟩; have n0_ := Aside0.mk (Kd.R_elder' (by (with_reducible repeat (first | apply Kd.R_alloc | apply Kd.R_drewN | apply Kd.R_drew)); exact (Kd.R_mono (Kd.R_far (p := ⟨gb348, 3, none⟩) (Kd.R_far (p := ⟨gb348, 2, none⟩) (Kd.R_far (p := ⟨gb348, 1, none⟩) (Kd.R_far (p := ⟨gb348, 0, none⟩) (Kd.R_types HO336.out BK348.out (by decide)) (fun _ hk => hk.2) (.int .i64 t342)) (fun _ hk => hk.2) (.string t343)) (fun _ hk => hk.2) (.slice Ao42 t344.length co42)) (fun _ hk => hk.2) (.string t347)) (fun _ h_ => h_.1))) (Kd.R_base ho0) hb); have n1_ := Aside0.mk (Kd.R_elder' (by (with_reducible repeat (first | apply Kd.R_alloc | apply Kd.R_drewN | apply Kd.R_drew)); exact (Kd.R_mono (Kd.R_far (p := ⟨gb348, 3, none⟩) (Kd.R_far (p := ⟨gb348, 2, none⟩) (Kd.R_far (p := ⟨gb348, 1, none⟩) (Kd.R_far (p := ⟨gb348, 0, none⟩) (Kd.R_types HO340.out BK348.out (by decide)) (fun _ hk => hk.2) (.int .i64 t342)) (fun _ hk => hk.2) (.string t343)) (fun _ hk => hk.2) (.slice Ao42 t344.length co42)) (fun _ hk => hk.2) (.string t347)) (fun _ h_ => h_.1))) (Kd.R_base ho0) hb); have n2_ := Aside0.mk (Kd.R_elder' (by (with_reducible repeat (first | apply Kd.R_alloc | apply Kd.R_drewN | apply Kd.R_drew)); exact (Kd.R_mono (Kd.R_far (p := ⟨gb348, 3, none⟩) (Kd.R_far (p := ⟨gb348, 2, none⟩) (Kd.R_far (p := ⟨gb348, 1, none⟩) (Kd.R_far (p := ⟨gb348, 0, none⟩) (Kd.R_types HO346.out BK348.out (by decide)) (fun _ hk => hk.2) (.int .i64 t342)) (fun _ hk => hk.2) (.string t343)) (fun _ hk => hk.2) (.slice Ao42 t344.length co42)) (fun _ hk => hk.2) (.string t347)) (fun _ h_ => h_.1))) (Kd.R_base ho0) hb); have n3_ := Aside0.mk (Kd.R_lower (Kd.R_new' (Kd.R_new' (Kd.R_new' ho0 (Kd.R_lt (by (with_reducible repeat (first | apply Kd.R_alloc | apply Kd.R_drewN | apply Kd.R_drew)); exact (Kd.R_mono (Kd.R_far (p := ⟨gb348, 3, none⟩) (Kd.R_far (p := ⟨gb348, 2, none⟩) (Kd.R_far (p := ⟨gb348, 1, none⟩) (Kd.R_far (p := ⟨gb348, 0, none⟩) (Kd.R_types HO336.out BK348.out (by decide)) (fun _ hk => hk.2) (.int .i64 t342)) (fun _ hk => hk.2) (.string t343)) (fun _ hk => hk.2) (.slice Ao42 t344.length co42)) (fun _ hk => hk.2) (.string t347)) (fun _ h_ => h_.1))))) (Kd.R_lt (by (with_reducible repeat (first | apply Kd.R_alloc | apply Kd.R_drewN | apply Kd.R_drew)); exact (Kd.R_mono (Kd.R_far (p := ⟨gb348, 3, none⟩) (Kd.R_far (p := ⟨gb348, 2, none⟩) (Kd.R_far (p := ⟨gb348, 1, none⟩) (Kd.R_far (p := ⟨gb348, 0, none⟩) (Kd.R_types HO340.out BK348.out (by decide)) (fun _ hk => hk.2) (.int .i64 t342)) (fun _ hk => hk.2) (.string t343)) (fun _ hk => hk.2) (.slice Ao42 t344.length co42)) (fun _ hk => hk.2) (.string t347)) (fun _ h_ => h_.1))))) (Kd.R_lt (by (with_reducible repeat (first | apply Kd.R_alloc | apply Kd.R_drewN | apply Kd.R_drew)); exact (Kd.R_mono (Kd.R_far (p := ⟨gb348, 3, none⟩) (Kd.R_far (p := ⟨gb348, 2, none⟩) (Kd.R_far (p := ⟨gb348, 1, none⟩) (Kd.R_far (p := ⟨gb348, 0, none⟩) (Kd.R_types HO346.out BK348.out (by decide)) (fun _ hk => hk.2) (.int .i64 t342)) (fun _ hk => hk.2) (.string t343)) (fun _ hk => hk.2) (.slice Ao42 t344.length co42)) (fun _ hk => hk.2) (.string t347)) (fun _ h_ => h_.1))))) (below_size bl)); have n4_ := Aside0.mk (blk_below (g := gb329) (o := .cells #[.int .i64 a0_0, .string a0_1, .slice A0_2 l0_2.length c0_2, .string a0_3] 50 (0, 0)) (bf BK329) hb); have n5_ := Aside0.mk (blk_below (g := gb348) (o := .cells #[.int .i64 t342, .string t343, .slice Ao42 t344.length co42, .string t347] 54 (0, 0)) (by (with_reducible repeat (first | refine blk_drewN ?_ _ | refine blk_drew ?_ | refine blk_alloc ?_ _)); refine blk_put (cs := #[.int .i64 t342, .string t343, .slice Ao42 t344.length co42, .string (⟨#[]⟩ : ByteArray)]) ?_ 3 _ rfl; (with_reducible repeat (first | refine blk_drewN ?_ _ | refine blk_drew ?_ | refine blk_alloc ?_ _)); refine blk_put (cs := #[.int .i64 t342, .string t343, .slice none 0 0, .string (⟨#[]⟩ : ByteArray)]) ?_ 2 _ rfl; (with_reducible repeat (first | refine blk_drewN ?_ _ | refine blk_drew ?_ | refine blk_alloc ?_ _)); refine blk_put (cs := #[.int .i64 t342, .string (⟨#[]⟩ : ByteArray), .slice none 0 0, .string (⟨#[]⟩ : ByteArray)]) ?_ 1 _ rfl; (with_reducible repeat (first | refine blk_drewN ?_ _ | refine blk_drew ?_ | refine blk_alloc ?_ _)); refine blk_put (cs := #[.int .i64 0, .string (⟨#[]⟩ : ByteArray), .slice none 0 0, .string (⟨#[]⟩ : ByteArray)]) ?_ 0 _ rfl; (with_reducible repeat (first | refine blk_drewN ?_ _ | refine blk_drew ?_ | refine blk_alloc ?_ _)); exact BK348.out) hb); have n6_ := Aside0.mk (below_step bl hb); clear HO336; clear HO340; clear HO346; clear BK329; clear BK348; clear HB; have HO336 := n0_; have HO340 := n1_; have HO346 := n2_; have HO351 := n3_; have BK329 := n4_; have BK348 := n5_; have HB := n6_; clear n0_ n1_ n2_ n3_ n4_ n5_ n6_; (try clear hb); (try clear hb2); (try clear hk); (try clear hi); (try clear ho0); have hcz44_0 : w43.cell? ⟨gb348, 0, none⟩ = some (.int .i64 t342) := (blk_cell BK348.out 0).trans rfl; have hcz44_1 : w43.cell? ⟨gb348, 1, none⟩ = some (.string t343) := (blk_cell BK348.out 1).trans rfl; have hcz44_2 : w43.cell? ⟨gb348, 2, none⟩ = some (.slice Ao42 t344.length co42) := (blk_cell BK348.out 2).trans rfl; have hcz44_3 : w43.cell? ⟨gb348, 3, none⟩ = some (.string t347) := (blk_cell BK348.out 3).trans rfl; have hfz44_0 := blk_frozen BK348.out 0; have hfz44_1 := blk_frozen BK348.out 1; have hfz44_2 := blk_frozen BK348.out 2; have hfz44_3 := blk_frozen BK348.out 3; obtain ⟨Ao45, co45, eo45⟩ := Kd.R_slice HO351.out; subst eo45) | ((with_reducible refine gate_callee (f := 44) rfl ?_); refine goesL_ (some 31) rfl rfl Try.func44 (by kernel_rfl) rfl #[.agg #[.int .i64 t342, .string t343, .slice Ao42 t344.length co42, .string t347], .slice Ao45 t349.length co45] rfl ma ?_; (with_reducible refine (impl_Same.calls t342 t343 _ _ t344 t347 _ _ t349 t352 _ ?side1 ?side2 ?side3 ?side4 A19.out).mono ?_); (case side1 => repeat (first | exact (Kd.R_reads' HO346.out).2.2 | (with_reducible refine Kd.C_alloc ?_ _) | (with_reducible refine Kd.C_drewN ?_ _) | (with_reducible refine Kd.C_drew ?_))); (case side2 => exact (Kd.R_reads' HO346.out).2.1); (case side3 => repeat (first | exact (Kd.R_reads' HO351.out).2.2 | (with_reducible refine Kd.C_alloc ?_ _) | (with_reducible refine Kd.C_drewN ?_ _) | (with_reducible refine Kd.C_drew ?_))); (case side4 => exact (Kd.R_reads' HO351.out).2.1); rintro e w46 ⟨rfl, hb⟩; refine ⟨_, rfl, ?_⟩; replace HO336 := kr HO336 hb; replace HO340 := kr HO340 hb; replace HO346 := kr HO346 hb; replace HO351 := kr HO351 hb; replace BK329 := kb BK329 hb; replace BK348 := kb BK348 hb; replace HB := Aside0.mk (below_step bl hb); (try clear hb); (try clear hb2); (try clear hk); (try clear hi)))
            replace HO336 := Aside0.mk (Kd.R_drew HO336.out)
            replace HO340 := Aside0.mk (Kd.R_drew HO340.out)
            replace HO346 := Aside0.mk (Kd.R_drew HO346.out)
            replace HO351 := Aside0.mk (Kd.R_drew HO351.out)
            replace BK329 := Aside0.mk (blk_drew BK329.out)
            replace BK348 := Aside0.mk (blk_drew BK348.out)
            replace HB := Aside0.mk (below_drew1 HB.out)
            refine start_ (n := 5) (S := fun w' => w'.cell? ⟨gb348, 0, none⟩ = some (.int .i64 t342) ∧ w'.cell? ⟨gb348, 1, none⟩ = some (.string t343) ∧ w'.cell? ⟨gb348, 2, none⟩ = some (.slice Ao42 t344.length co42) ∧ w'.cell? ⟨gb348, 3, none⟩ = some (.string t347) ∧ w'.cell? ⟨gb329, 0, none⟩ = some (.int .i64 a0_0) ∧ w'.cell? ⟨gb329, 1, none⟩ = some (.string a0_1) ∧ w'.cell? ⟨gb329, 2, none⟩ = some (.slice A0_2 l0_2.length c0_2) ∧ w'.cell? ⟨gb329, 3, none⟩ = some (.string a0_3)) (ds := []) #[false, false, false, false, false] (by kernel_rfl) rfl rfl ⟨(blk_cell BK348.out 0).trans rfl, (blk_cell BK348.out 1).trans rfl, (blk_cell BK348.out 2).trans rfl, (blk_cell BK348.out 3).trans rfl, (blk_cell BK329.out 0).trans rfl, (blk_cell BK329.out 1).trans rfl, (blk_cell BK329.out 2).trans rfl, (blk_cell BK329.out 3).trans rfl⟩ (fun hHeld => ?_)
            generalize w46.drew = w47 at HO336 HO340 HO346 HO351 BK329 BK348 HB hHeld ⊢
            refine take_ (i := 0) (N := some 35) (v := ?_) (a' := ?_) #[true, false, false, false, false] rfl rfl (by kernel_rfl) (fun _ _ _ h => h) (Or.inl ⟨by rfl, ?_⟩) hHeld ?_ ?_
            rotate_left
            · rintro w' ⟨s0, s1, s2, s3, s4, s5, s6, s7⟩
              go_simp
              with_reducible rfl
            rotate_left
            · simp only [Act.put, List.setIfInBounds_toArray, List.set_cons_zero, List.set_cons_succ, i64_w, i32_w]
              rfl
            refine take_ (i := 1) (N := some 36) (v := ?_) (a' := ?_) #[true, true, false, false, false] rfl rfl (by kernel_rfl) (fun _ _ _ h => h) (Or.inl ⟨by rfl, ?_⟩) hHeld ?_ ?_
            rotate_left
            · rintro w' ⟨s0, s1, s2, s3, s4, s5, s6, s7⟩
              go_simp
              with_reducible rfl
            rotate_left
            · simp only [Act.put, List.setIfInBounds_toArray, List.set_cons_zero, List.set_cons_succ, i64_w, i32_w]
              rfl
            refine one_ (i := 2) (N := some 37) #[true, true, true, false, false] rfl rfl (by kernel_rfl) (by decide) (fun K hK => ?_)
            refine goes_ Try.func43 (by kernel_rfl) rfl #[.agg #[.int .i64 a0_0, .string a0_1, .slice A0_2 l0_2.length c0_2, .string a0_3]] (by rfl) rfl rfl ma ?_
            with_reducible refine (laws_toReq.calls k a0_0 a0_1 _ _ l0_2 a0_3 t353 t354 t355 t358 _ ?side1 ?side2 A21.out).mono ?_
            (case side1 => repeat (first | exact (Kd.C_below HR0_2.out HB.out) | (with_reducible refine Kd.C_alloc ?_ _) | (with_reducible refine Kd.C_drewN ?_ _) | (with_reducible refine Kd.C_drew ?_)))
            (case side2 => exact HC0_2.out)
            rintro e w48 ⟨v356, rfl, ho0, hb⟩
            refine ⟨_, rfl, ?_⟩
            have HO357 := Aside0.mk (Kd.R_lower (Kd.R_new' (Kd.R_new' (Kd.R_new' (Kd.R_new' ho0 (Kd.R_lt (ro HO336))) (Kd.R_lt (ro HO340))) (Kd.R_lt (ro HO346))) (Kd.R_lt (ro HO351))) (below_size bl))
            replace HO336 := Aside0.mk (Kd.R_elder' (ro HO336) (Kd.R_base ho0) hb)
            replace HO340 := Aside0.mk (Kd.R_elder' (ro HO340) (Kd.R_base ho0) hb)
            replace HO346 := Aside0.mk (Kd.R_elder' (ro HO346) (Kd.R_base ho0) hb)
            replace HO351 := Aside0.mk (Kd.R_elder' (ro HO351) (Kd.R_base ho0) hb)
            replace BK329 := kb BK329 hb
            replace BK348 := kb BK348 hb
            replace HB := Aside0.mk (below_step bl hb)
            (try clear hb)
            (try clear hb2)
            (try clear hk)
            (try clear hi)
            (try clear ho0)
            obtain ⟨Ao49, co49, eo49⟩ := Kd.R_slice HO357.out
            (first | subst eo49 | (injection eo49 with f1_ f2_ f3_; have f4_ := f1_.symm; have f5_ := f3_.symm; clear f1_ f2_ f3_; subst f4_; subst f5_))
            refine hK.out _ _ ⟨(blk_cell BK348.out 0).trans rfl, (blk_cell BK348.out 1).trans rfl, (blk_cell BK348.out 2).trans rfl, (blk_cell BK348.out 3).trans rfl, (blk_cell BK329.out 0).trans rfl, (blk_cell BK329.out 1).trans rfl, (blk_cell BK329.out 2).trans rfl, (blk_cell BK329.out 3).trans rfl⟩ (fun hHeld => ?_)
            clear hK K
            refine norm_ (a' := ?_) ?_ ?_
            rotate_left
            · show Act.put _ (some 37) _ = _
              simp only [Act.put, List.setIfInBounds_toArray, List.set_cons_zero, List.set_cons_succ, i64_w, i32_w]
              rfl
            refine one_ (i := 3) (N := some 38) #[true, true, true, true, false] rfl rfl (by kernel_rfl) (by decide) (fun K hK => ?_)
            refine goes_ Try.func45 (by kernel_rfl) rfl #[.agg #[.int .i64 t342, .string t343, .slice Ao42 t344.length co42, .string t347], .agg #[.int .i64 t353, .string t354, .slice Ao49 t355.length co49, .string t358]] (by rfl) rfl rfl ma ?_
            with_reducible refine (laws_eqReq.calls k t342 t343 _ _ t344 t347 t353 t354 _ _ t355 t358 true _ ?side1 ?side2 ?side3 ?side4 A22.out).mono ?_
            (case side1 => repeat (first | exact (Kd.R_reads' HO346.out).2.2 | (with_reducible refine Kd.C_alloc ?_ _) | (with_reducible refine Kd.C_drewN ?_ _) | (with_reducible refine Kd.C_drew ?_)))
            (case side2 => exact (Kd.R_reads' HO346.out).2.1)
            (case side3 => repeat (first | exact (Kd.R_reads' HO357.out).2.2 | (with_reducible refine Kd.C_alloc ?_ _) | (with_reducible refine Kd.C_drewN ?_ _) | (with_reducible refine Kd.C_drew ?_)))
            (case side4 => exact (Kd.R_reads' HO357.out).2.1)
            rintro e w50 ⟨rfl, hb⟩
            refine ⟨_, rfl, ?_⟩
            replace HO336 := kr HO336 hb
            replace HO340 := kr HO340 hb
            replace HO346 := kr HO346 hb
            replace HO351 := kr HO351 hb
            replace HO357 := kr HO357 hb
            replace BK329 := kb BK329 hb
            replace BK348 := kb BK348 hb
            replace HB := Aside0.mk (below_step bl hb)
            (try clear hb)
            (try clear hb2)
            (try clear hk)
            (try clear hi)
            refine hK.out _ _ ⟨(blk_cell BK348.out 0).trans rfl, (blk_cell BK348.out 1).trans rfl, (blk_cell BK348.out 2).trans rfl, (blk_cell BK348.out 3).trans rfl, (blk_cell BK329.out 0).trans rfl, (blk_cell BK329.out 1).trans rfl, (blk_cell BK329.out 2).trans rfl, (blk_cell BK329.out 3).trans rfl⟩ (fun hHeld => ?_)
            clear hK K
            refine norm_ (a' := ?_) ?_ ?_
            rotate_left
            · show Act.put _ (some 38) _ = _
              simp only [Act.put, List.setIfInBounds_toArray, List.set_cons_zero, List.set_cons_succ, i64_w, i32_w]
              rfl
            refine pure_ (i := 4) (N := some 39) (v := ?_) (a' := ?_) #[true, true, true, true, true] rfl rfl (by kernel_rfl) (fun _ _ _ h => h) (Or.inl ⟨by rfl, ?_⟩) ?_ ?_
            rotate_left
            · intro w'
              go_simp
              with_reducible rfl
            rotate_left
            · simp only [Act.put, List.setIfInBounds_toArray, List.set_cons_zero, List.set_cons_succ, i64_w, i32_w]
              rfl
            refine done_ (by kernel_rfl) ?_
            try go_wp2_with (first | ((with_reducible refine gate_callee (f := 24) rfl ?_); refine goesL_ (some 42) rfl rfl Try.func24 (by kernel_rfl) rfl #[.slice A1 l1.length c1] rfl ma ?_; (with_reducible refine (laws_toFieldS.calls k _ _ l1 t360 _ ?side1 ?side2 A24.out).mono ?_); (case side1 => repeat (first | exact (Kd.C_below HR1.out HB.out) | (with_reducible refine Kd.C_alloc ?_ _) | (with_reducible refine Kd.C_drewN ?_ _) | (with_reducible refine Kd.C_drew ?_))); (case side2 => exact HC1.out); rintro e w51 ⟨v361, rfl, ho0, hb⟩; refine ⟨_, rfl, ?_⟩; have HO362 := Aside0.mk (Kd.R_lower (Kd.R_new' (Kd.R_new' (Kd.R_new' (Kd.R_new' (Kd.R_new' ho0 (Kd.R_lt (ro HO336))) (Kd.R_lt (ro HO340))) (Kd.R_lt (ro HO346))) (Kd.R_lt (ro HO351))) (Kd.R_lt (ro HO357))) (below_size bl)); replace HO336 := Aside0.mk (Kd.R_elder' (ro HO336) (Kd.R_base ho0) hb); replace HO340 := Aside0.mk (Kd.R_elder' (ro HO340) (Kd.R_base ho0) hb); replace HO346 := Aside0.mk (Kd.R_elder' (ro HO346) (Kd.R_base ho0) hb); replace HO351 := Aside0.mk (Kd.R_elder' (ro HO351) (Kd.R_base ho0) hb); replace HO357 := Aside0.mk (Kd.R_elder' (ro HO357) (Kd.R_base ho0) hb); replace BK329 := kb BK329 hb; replace BK348 := kb BK348 hb; replace HB := Aside0.mk (below_step bl hb); (try clear hb); (try clear hb2); (try clear hk); (try clear hi); (try clear ho0); obtain ⟨Ao52, co52, eo52⟩ := Kd.R_slice HO362.out; subst eo52) | ((with_reducible refine gate_callee (f := 26) rfl ?_); refine goesL_ (some 43) rfl rfl Try.func26 (by kernel_rfl) rfl #[.slice Ao45 t349.length co45, .slice Ao52 t360.length co52] rfl ma ?_; (with_reducible refine (laws_eqFieldS.calls k _ _ t349 _ _ t360 true _ ?side1 ?side2 ?side3 ?side4 A25.out).mono ?_); (case side1 => repeat (first | exact (Kd.R_reads' HO351.out).2.2 | (with_reducible refine Kd.C_alloc ?_ _) | (with_reducible refine Kd.C_drewN ?_ _) | (with_reducible refine Kd.C_drew ?_))); (case side2 => exact (Kd.R_reads' HO351.out).2.1); (case side3 => repeat (first | exact (Kd.R_reads' HO362.out).2.2 | (with_reducible refine Kd.C_alloc ?_ _) | (with_reducible refine Kd.C_drewN ?_ _) | (with_reducible refine Kd.C_drew ?_))); (case side4 => exact (Kd.R_reads' HO362.out).2.1); rintro e w53 ⟨rfl, hb⟩; refine ⟨_, rfl, ?_⟩; replace HO336 := kr HO336 hb; replace HO340 := kr HO340 hb; replace HO346 := kr HO346 hb; replace HO351 := kr HO351 hb; replace HO357 := kr HO357 hb; replace HO362 := kr HO362 hb; replace BK329 := kb BK329 hb; replace BK348 := kb BK348 hb; replace HB := Aside0.mk (below_step bl hb); (try clear hb); (try clear hb2); (try clear hk); (try clear hi)))
            go_ret
            exact ⟨rf, bl⟩
          · replace c26 := Bool.eq_false_iff.mpr c26
            subst c26
            have H1 : (some false) = some r := by rw [if_neg (show ¬ (false = true) by decide)] at H; exact H
            clear H
            have H := H1
            clear H1
            exact absurd (Option.some.inj H) (by rw [ht_]; decide)
        · replace c23 := Bool.eq_false_iff.mpr c23
          subst c23
          have H1 : (some false) = some r := by rw [if_neg (show ¬ (false = true) by decide)] at H; exact H
          clear H
          have H := H1
          clear H1
          exact absurd (Option.some.inj H) (by rw [ht_]; decide)

/-! ### spec_Drop: function 46 -/
def spec_Drop.l0 : Nat → List (S81) → Int → List (S81) → Int → Option ((List (S81)))
  | 0, _, _, _, _ => none
  | k + 1, x0, x5, x6, x7 => if x7 < (x0.length : Int) then (if x7 = x5 then (spec_Drop.l0 k x0 x5 x6 (wrap64 (x7 + 1))) else (if 0 ≤ x7 then (if x6.length < 4398046511104 then (spec_Drop.l0 k x0 x5 (x6 ++ [(⟨(rd_T81 x0 x7).f0, (rd_T81 x0 x7).f1⟩ : S81)]) (wrap64 (x7 + 1))) else (none)) else (none))) else (some x6)
def spec_Drop.f (k : Nat) (l0 : List (S81)) (a1 : ByteArray) : Option ((List (S81))) := (spec_l2At.f k l0 a1).bind fun t364 => (spec_Drop.l0 k l0 t364 (([] : List (S81))) 0)
theorem spec_Drop.mono_l : ∀ k, (∀ y0 y1 y2 y3, LeO (spec_Drop.l0 k y0 y1 y2 y3) (spec_Drop.l0 (k + 1) y0 y1 y2 y3))
  | 0 => fun _ _ _ _ r h => by simp [spec_Drop.l0] at h
  | k + 1 => by
    have ih0 := spec_Drop.mono_l k
    · intro y0 y1 y2 y3
      unfold spec_Drop.l0
      repeat' first
      | (with_reducible exact ih0 _ _ _ _)
      | (with_reducible exact spec_l2At.mono _ _ _)
      | (with_reducible exact LeO.refl _)
      | (with_reducible exact LeO.none _)
      | (with_reducible refine LeO.ite ?_ ?_)
      | (with_reducible refine LeO.bind ?_ (fun _ => ?_))
      | exact ih0 _ _ _ _
      | exact spec_l2At.mono _ _ _
      | exact LeO.none _
      | refine LeO.ite ?_ ?_
      | refine LeO.bind ?_ (fun _ => ?_)
theorem spec_Drop.mono : ∀ a0 a1 k, LeO (spec_Drop.f k a0 a1) (spec_Drop.f (k + 1) a0 a1) := by
  intro a0 a1 k
  have ih0 := spec_Drop.mono_l k
  unfold spec_Drop.f
  repeat' first
      | (with_reducible exact ih0 _ _ _ _)
      | (with_reducible exact spec_l2At.mono _ _ _)
      | (with_reducible exact LeO.refl _)
      | (with_reducible exact LeO.none _)
      | (with_reducible refine LeO.ite ?_ ?_)
      | (with_reducible refine LeO.bind ?_ (fun _ => ?_))
      | exact ih0 _ _ _ _
      | exact spec_l2At.mono _ _ _
      | exact LeO.none _
      | refine LeO.ite ?_ ?_
      | refine LeO.bind ?_ (fun _ => ?_)
set_option maxHeartbeats 8000000 in
set_option maxRecDepth 100000 in
theorem spec_Drop.calls (k : Nat) (A0 : Option Addr) (c0 : Nat) (l0 : List (S81)) (a1 : ByteArray) (r : List (S81)) (w : World) (hr0 : Kd.C k81 w A0 l0.length l0) (hc0 : l0.length ≤ c0) (h : spec_Drop.f k l0 a1 = some r) :
    Calls Try.prog 46 #[.slice A0 l0.length c0, .string a1] w fun e w' => ∃ v0_ : Value, e = .returned (v0_) ∧ Kd.R k81 81 w' w.heap.size (fun _ => True) v0_ r ∧ Below w.heap.size w w' := by
  have hu81 := Try.underlying81
  have HR0 := Aside0.mk hr0
  have HC0 := Aside0.mk hc0
  clear hr0 hc0
  have HB := Aside0.mk (Below.refl w.heap.size w)
  have H : ((spec_l2At.f k l0 a1).bind fun t364 => (spec_Drop.l0 k l0 t364 (([] : List (S81))) 0)) = some r := h
  clear h
  replace H := Option.bind_eq_some_iff.mp H
  obtain ⟨t364, A30, H⟩ := H
  replace H : (spec_Drop.l0 k l0 t364 (([] : List (S81))) 0) = some r := H
  have A3 := Aside0.mk A30
  clear A30
  obtain ⟨y365, hy365⟩ : ∃ y_ : List (S81), y_ = (([] : List (S81))) := ⟨_, rfl⟩
  replace H : (spec_Drop.l0 k l0 t364 y365 0) = some r := by first | (rw [hy365]; with_reducible exact H) | (have H2_ := (Option.bind_some _ _).symm.trans H; rw [hy365]; with_reducible exact H2_) | (have H2_ := (Option.bind_some _ _).symm.trans H; with_reducible exact H2_) | with_reducible exact H | (rw [hy365]; exact H) | exact H
  have Ny365 := Aside0.mk hy365
  clear hy365
  have H' := Aside0.mk H
  clear H
  go_enter Try.func46, Try.ntmps46
  go_wp2_with (first | ((with_reducible refine gate_callee (f := 67) rfl ?_); refine goesL_ (some 10) rfl rfl Try.func67 (by kernel_rfl) rfl #[.slice A0 l0.length c0, .string a1] rfl ma ?_; (with_reducible refine (spec_l2At.calls k _ _ l0 a1 t364 _ ?side1 ?side2 A3.out).mono ?_); (case side1 => repeat (first | exact HR0.out | (with_reducible refine Kd.C_alloc ?_ _) | (with_reducible refine Kd.C_drewN ?_ _) | (with_reducible refine Kd.C_drew ?_))); (case side2 => exact HC0.out); rintro e w' ⟨rfl, ⟨nd, rfl⟩⟩; refine ⟨_, rfl, ?_⟩) | ((with_reducible refine gate_dst (N := 11) rfl ?_); refine Kd.R_lit k81 _ 81 ?hg (N := 11) ?hd (xs := ([] : List (S81))) (inner := []) (ok := fun _ => True) (okp := fun _ => True) ?hr ?hp (fun _ hk => hk) trivial (Below.refl _ _) (Nat.le_refl _) (by simp) ?_; (case hd => rfl); (case hg => rfl); (case hr => first | (go_simp; done) | (go_simp; rfl)); (case hp => exact (Reps.none _ _)); intro v366 w4 ho5 hb hg_ hnew_; clear hg_ hnew_; (first | rw [← Ny365.out] at ho5 | (simp only [Int.reduceToNat] at ho5; rw [← Ny365.out] at ho5)); have HO367 := Aside0.mk (Kd.R_lower ho5 (below_size bl)); replace HB := Aside0.mk (below_step bl hb); clear hb ho5))
  go_loopg [6, 7] k (fun kq v6 v7 w' => ∃ (x6_1 : List (S81)) (x7_1 : Int), v7 = .int .i64 x7_1 ∧ Aside0 (spec_Drop.l0 kq l0 t364 x6_1 x7_1 = some r) ∧ Aside0 (kq ≤ k) ∧ Aside0 (Kd.R k81 81 w' w.heap.size (fun _ => True) v6 x6_1) ∧ Aside0 (Below w.heap.size w w'))
  case atStart => exact ⟨(y365), (0), (by first | rfl | (simp; done) | (simp [*]; done)), H', ⟨Nat.le_refl _⟩, ⟨by (with_reducible repeat (first | apply Kd.R_alloc | apply Kd.R_drewN | apply Kd.R_drew)); exact HO367.out⟩, ⟨by repeat (first | (with_reducible first | exact HB.out | apply below_alloc | apply pw_below_drewN | apply below_drew1) | exact HB.out)⟩⟩
  case round =>
    clear H'
    try clear p2
    try clear c4
    obtain ⟨x6_1, x7_1, rfl, HA, HK1, HO_6, HB⟩ := hrel
    cases gk with
    | zero => exact absurd HA.out (by simp [spec_Drop.l0])
    | succ k1 =>
      have H := HA.out
      clear HA
      simp only [spec_Drop.l0] at H
      by_cases c6 : x7_1 < (l0.length : Int)
      · rw [if_pos c6] at H
        have c6b0 : decide (x7_1 < (l0.length : Int)) = true := decide_eq_true c6
        clear c6
        by_cases c7 : x7_1 = t364
        · rw [if_pos c7] at H
          have c7b0 : (x7_1 == t364) = true := beq_iff_eq.mpr c7
          have c7b1 : (x7_1 != t364) = false := bne_eq_false_iff_eq.mpr c7
          clear c7
          have H' := Aside0.mk H
          clear H
          go_wp2
          go_roundg k1
          case measure => have := HK1.out; omega
          case rel => exact ⟨(x6_1), (wrap64 (x7_1 + 1)), (by first | rfl | (simp; done) | (simp [*]; done)), H', ⟨by have := HK1.out; omega⟩, ⟨by (with_reducible repeat (first | apply Kd.R_alloc | apply Kd.R_drewN | apply Kd.R_drew)); exact HO_6.out⟩, ⟨by repeat (first | (with_reducible first | exact HB.out | apply below_alloc | apply pw_below_drewN | apply below_drew1) | exact HB.out)⟩⟩
        · rw [if_neg c7] at H
          have c7b0 : (x7_1 == t364) = false := beq_eq_false_iff_ne.mpr c7
          have c7b1 : (x7_1 != t364) = true := bne_iff_ne.mpr c7
          by_cases c8 : 0 ≤ x7_1
          · rw [if_pos c8] at H
            have c8b0 : decide (0 ≤ x7_1) = true := decide_eq_true c8
            clear c8
            by_cases c9 : x6_1.length < 4398046511104
            · rw [if_pos c9] at H
              have LMc9 := Aside0.mk c9
              clear c9
              obtain ⟨y369, hy369⟩ : ∃ y_ : List (S81), y_ = (x6_1 ++ [(⟨(rd_T81 l0 x7_1).f0, (rd_T81 l0 x7_1).f1⟩ : S81)]) := ⟨_, rfl⟩
              replace H : (spec_Drop.l0 k1 l0 t364 y369 (wrap64 (x7_1 + 1))) = some r := by first | (rw [hy369]; with_reducible exact H) | (have H2_ := (Option.bind_some _ _).symm.trans H; rw [hy369]; with_reducible exact H2_) | (have H2_ := (Option.bind_some _ _).symm.trans H; with_reducible exact H2_) | with_reducible exact H | (rw [hy369]; exact H) | exact H
              have Ny369 := Aside0.mk hy369
              clear hy369
              have H' := Aside0.mk H
              clear H
              have p368 : 0 ≤ (x7_1 : Int) := of_decide_eq_true (by first | (with_reducible assumption) | assumption)
              have q368 : x7_1 < (l0.length : Int) := of_decide_eq_true (by first | (with_reducible assumption) | assumption)
              obtain ⟨ad368, e368, hx368_0, hx368_1⟩ := at_T81 HR0.out x7_1 p368 q368
              cases e368
              replace hx368_0 := (HB.out.cell (World.block_lt_of_cell? w _ hx368_0)).trans hx368_0
              replace hx368_1 := (HB.out.cell (World.block_lt_of_cell? w _ hx368_1)).trans hx368_1
              replace p368 := eq_true p368
              replace q368 := eq_true q368
              go_wp2_with (first | ((with_reducible refine gate_builtin (b := .append) (xs := #[.tmp 21, .tmp 26]) rfl ?_); at_builtin; refine Kd.R_append k81 (w0 := w) w.heap.size rfl (.tmp 21) (.tmp 26) 31 81 (.agg #[(.string ⟨#[]⟩), (.string ⟨#[]⟩)]) 32 rfl Try.underlying31 info81 rfl (by decide) (by omega) u6 x6_1 (⟨(rd_T81 l0 x7_1).f0, (rd_T81 l0 x7_1).f1⟩ : S81) [.string ((rd_T81 l0 x7_1).f0), .string ((rd_T81 l0 x7_1).f1)] (fun _ => True) (fun _ => False) rfl rfl ?aP (fun _ hk => hk.elim) ?aF ?aO ?aB ?aS ?aL ?_; (case aP => exact k81_mkM _ _ _ (⟨(rd_T81 l0 x7_1).f0, (rd_T81 l0 x7_1).f1⟩ : S81)); (case aB => exact bl); (case aF => exact (fun _ _ => trivial)); (case aO => exact (ro HO_6)); (case aS => exact (below_size bl)); (case aL => have := LMc9.out; omega); intro v370 w10 ho hb hg hat; rw [← Ny369.out] at ho; have n0_ := Aside0.mk (hb); have n1_ := Aside0.mk (ho); clear HB; clear HO_6; have HB := n0_; have HO371 := n1_; clear n0_ n1_; clear ho hb hg hat))
              go_roundg k1
              case measure => have := HK1.out; omega
              case rel => exact ⟨(y369), (wrap64 (x7_1 + 1)), (by first | rfl | (simp; done) | (simp [*]; done)), H', ⟨by have := HK1.out; omega⟩, ⟨by (with_reducible repeat (first | apply Kd.R_alloc | apply Kd.R_drewN | apply Kd.R_drew)); exact HO371.out⟩, ⟨by repeat (first | (with_reducible first | exact HB.out | apply below_alloc | apply pw_below_drewN | apply below_drew1) | exact HB.out)⟩⟩
            · rw [if_neg c9] at H
              exact absurd H (by simp)
          · rw [if_neg c8] at H
            exact absurd H (by simp)
      · rw [if_neg c6] at H
        have c6b0 : decide (x7_1 < (l0.length : Int)) = false := decide_eq_false c6
        clear c6
        obtain rfl := Option.some.inj H
        go_wp2
        go_ret
        exact ⟨_, rf, by (with_reducible repeat (first | apply Kd.R_alloc | apply Kd.R_drewN | apply Kd.R_drew)); exact HO_6.out, bl⟩

/-! ### slices.Delete of one field of a row of the call's own, in place -/
/-- a store behind a row's last element (its capacity reaches further) turns nothing of it -/
theorem R_beyond {α : Type} {d : Kd α} {e base g m c j : Nat} {ok : Nat → Prop} {W : World} {xs : List α} (h : Kd.R d e W base ok (.slice (some ⟨g, 0, none⟩) m c) xs) (hj : m * d.sz ≤ j) (u : Value) : Kd.R d e (W.setCell ⟨g, j, none⟩ u) base ok (.slice (some ⟨g, 0, none⟩) m c) xs := by
  obtain ⟨hm, _, _⟩ := Kd.R_reads' h
  obtain ⟨hok, inner, ⟨hl, hown⟩, hr⟩ := h
  refine ⟨hok, inner, ⟨hl, ?_⟩, hr.imp_ (fun _ _ hp => Kd.M_far (p := ⟨g, j, none⟩) hp (fun k hk e => hk.2 (by rw [e]; rfl)) u)⟩
  rcases hown with ⟨hv, _⟩ | ⟨g', cap, cur, hv, hb, hh, h1, h2, h3, h4⟩
  · cases hv
  injection hv with ha _ hc
  injection ha with ha
  injection ha with hg
  subst hg; subst hc
  refine .inr ⟨g, c, cur.setIfInBounds j u, by rw [← hm], hb, blk_set hh j u, h1, h2, by simpa using h3, ?_⟩
  rw [← h4, Array.toList_setIfInBounds, List.take_set_of_le (by rw [← hm]; omega)]
theorem R_cells {α : Type} {d : Kd α} {e base g m c : Nat} {ok : Nat → Prop} {W : World} {xs : List α} (h : Kd.R d e W base ok (.slice (some ⟨g, 0, none⟩) m c) xs) (j : Nat) (hj : j < c * d.sz) : (W.cell? ⟨g, j, none⟩).isSome = true ∧ W.frozen? ⟨g, j, none⟩ = false ∧ base ≤ g := by
  obtain ⟨_, inner, ⟨hl, hown⟩, hr⟩ := h
  rcases hown with ⟨hv, _⟩ | ⟨g', cap, cur, hv, hb, hh, h1, h2, h3, h4⟩
  · cases hv
  injection hv with ha _ hc
  injection ha with ha
  injection ha with hg
  subst hg; subst hc
  refine ⟨?_, blk_frozen hh j, hb⟩
  rw [blk_cell hh, Array.getElem?_eq_getElem (by omega)]; rfl
theorem clear_one (g n c' : Nat) (hn : 0 < n) (w : World) (h1 : (w.cell? ⟨g, (n - 1) * 2, none⟩).isSome = true ∧ w.frozen? ⟨g, (n - 1) * 2, none⟩ = false) (h2 : (w.cell? ⟨g, (n - 1) * 2 + 1, none⟩).isSome = true ∧ w.frozen? ⟨g, (n - 1) * 2 + 1, none⟩ = false) (ty : TypeId) :
    (Builtin.clear_ #[31] ty #[.slice (some ⟨g, (n - 1) * 2, none⟩) (n - (n - 1)) c']).run Try.prog w = .ok (.tuple #[]) ((w.setCell ⟨g, (n - 1) * 2, none⟩ (.string ⟨#[]⟩)).setCell ⟨g, (n - 1) * 2 + 1, none⟩ (.string ⟨#[]⟩)) := by
  have hst := run_storeCells_cells (P := Try.prog) g ((n - 1) * 2) [.string ⟨#[]⟩, .string ⟨#[]⟩] 0 w (by intro j hj; have hj' : j < 2 := hj; rcases j with _ | _ | j; exact h1.1; exact h2.1; omega) (by intro j hj; have hj' : j < 2 := hj; rcases j with _ | _ | j; exact h1.2; exact h2.2; omega) (by simp [Value.oneCell'])
  have hz : (zeroValue 81).run Try.prog w = .ok (.agg #[.string ⟨#[]⟩, .string ⟨#[]⟩]) w := by kernel_rfl
  have hone : n - (n - 1) = 1 := by omega
  rw [hone]
  have hzc : (Builtin.zeroCells #[Value.string ⟨#[]⟩, Value.string ⟨#[]⟩] 1).toList = [Value.string ⟨#[]⟩, Value.string ⟨#[]⟩] := by kernel_rfl
  simp only [Builtin.clear_]
  simp [run_underlying Try.underlying31, hz, Value.cells, hzc, hst]
  rfl
set_option maxHeartbeats 8000000 in
set_option maxRecDepth 100000 in
theorem deleteF (w0 : World) (base g c i : Nat) (xs : List S81) (W : World) (HO : Kd.R k81 81 W base (fun _ => True) (.slice (some ⟨g, 0, none⟩) xs.length c) xs) (hi : i < xs.length) (hn : xs.length < 4398046511104) (HB : Below base w0 W) (hbase : base ≤ W.heap.size) :
    Calls Try.prog 75 #[.slice (some ⟨g, 0, none⟩) xs.length c, .int .i64 i, .int .i64 ((i : Int) + 1)] W fun e w' => ∃ v0_ : Value, e = .returned v0_ ∧ Kd.R k81 81 w' base (fun _ => True) v0_ (xs.eraseIdx i) ∧ Below base w0 w' := by
  obtain ⟨_, hc, _⟩ := Kd.R_reads' HO
  have HOA := Aside0.mk HO
  have HBA := Aside0.mk HB
  clear HO HB
  have h0 : (0 : Int) ≤ (i : Int) := by omega
  have h1 : (i : Int) ≤ (i : Int) + 1 := by omega
  have h2 : (i : Int) + 1 ≤ (xs.length : Int) := by omega
  have h3 : (xs.length : Int) ≤ (c : Int) := by omega
  have hne : ((i : Int) == (i : Int) + 1) = false := by simp; omega
  go_enter Try.func75, Try.ntmps75
  go_wp2
  have h4 : (0 : Int) ≤ (i : Int) + 1 := by omega
  have HNE := Aside0.mk hn
  clear hn
  by_cases hci : c = i + 1
  · subst hci
    go_region_law ((refine Kd.R_delete_step k81 (w0 := w0) base ?hw (.tmp 22) (.tmp 25) 31 81 rfl Try.underlying31 (by kernel_rfl) (g := g) (n := xs.length) (c := i + 1) (k := i) rfl rfl ?hA ?hm (Kd.R_drew HOA.out) hi (below_drew HBA.out) hbase ?_); (case hw => rfl); (case hA => simp); (case hm => omega); intro w1 ho hb hg; have HO1 := Aside0.mk ho; have HB1 := Aside0.mk hb; have HG1 := Aside0.mk hg; clear ho hb hg)
    have q1 := R_cells HO1.out ((xs.length - 1) * 2) (by show _ < (i + 1) * 2; omega)
    have q2 := R_cells HO1.out ((xs.length - 1) * 2 + 1) (by show _ < (i + 1) * 2; omega)
    have kcl := clear_one g xs.length ((i + 1) - (xs.length - 1)) (by omega) w1 ⟨q1.1, q1.2.1⟩ ⟨q2.1, q2.2.1⟩
    have HQ := Aside0.mk q1.2.2
    clear q1 q2
    have k1 : (0 : Int) ≤ ((xs.length - 1 : Nat) : Int) := by omega
    have k2 : ((xs.length - 1 : Nat) : Int) ≤ (xs.length : Int) := by omega
    go_wp2
    go_ret
    exact ⟨_, rfl, R_beyond (R_beyond HO1.out (by show (xs.length - 1) * 2 ≤ _; omega) _) (by show (xs.length - 1) * 2 ≤ _; omega) _, (HB1.out.setCell (p := ⟨g, (xs.length - 1) * 2, none⟩) HQ.out _).setCell (p := ⟨g, (xs.length - 1) * 2 + 1, none⟩) HQ.out _⟩
  · have hcf : (c == i + 1) = false := by simpa using hci
    have HC := Aside0.mk hci
    have hic : i ≤ c := by omega
    go_region_law ((refine Kd.R_delete_step k81 (w0 := w0) base ?hw (.tmp 22) (.tmp 25) 31 81 rfl Try.underlying31 (by kernel_rfl) (g := g) (n := xs.length) (c := c) (k := i) rfl rfl ?hA ?hm (Kd.R_drew HOA.out) hi (below_drew HBA.out) hbase ?_); (case hw => rfl); (case hA => rw [if_neg HC.out, Option.map_some, add_plain]; rfl); (case hm => first | rfl | omega); intro w1 ho hb hg; have HO1 := Aside0.mk ho; have HB1 := Aside0.mk hb; have HG1 := Aside0.mk hg; clear ho hb hg)
    have q1 := R_cells HO1.out ((xs.length - 1) * 2) (by show _ < c * 2; omega)
    have q2 := R_cells HO1.out ((xs.length - 1) * 2 + 1) (by show _ < c * 2; omega)
    have kcl := clear_one g xs.length (c - (xs.length - 1)) (by omega) w1 ⟨q1.1, q1.2.1⟩ ⟨q2.1, q2.2.1⟩
    have HQ := Aside0.mk q1.2.2
    clear q1 q2
    have k1 : (0 : Int) ≤ ((xs.length - 1 : Nat) : Int) := by omega
    have k2 : ((xs.length - 1 : Nat) : Int) ≤ (xs.length : Int) := by omega
    go_wp2
    go_ret
    exact ⟨_, rfl, R_beyond (R_beyond HO1.out (by show (xs.length - 1) * 2 ≤ _; omega) _) (by show (xs.length - 1) * 2 ≤ _; omega) _, (HB1.out.setCell (p := ⟨g, (xs.length - 1) * 2, none⟩) HQ.out _).setCell (p := ⟨g, (xs.length - 1) * 2 + 1, none⟩) HQ.out _⟩

/-! ### impl.Drop -/
def impl_Drop.f (l0 : List S81) (a1 : ByteArray) : Option (List S81) := if l0.length < 4398046511104 then some (if at_ a1 l0 0 < 0 then l0 else l0.eraseIdx (at_ a1 l0 0).toNat) else none
theorem at_bounds (n : ByteArray) : ∀ (l : List S81) (i : Nat), at_ n l i = -1 ∨ ((i : Int) ≤ at_ n l i ∧ at_ n l i < (i : Int) + l.length)
  | [], i => .inl rfl
  | x :: r, i => by
    simp only [at_]
    split
    · exact .inr ⟨Int.le_refl _, by simp; omega⟩
    · rcases at_bounds n r (i + 1) with h | h
      · exact .inl h
      · exact .inr ⟨by omega, by simp; omega⟩
set_option maxHeartbeats 8000000 in
set_option maxRecDepth 100000 in
theorem impl_Drop.calls (A0 : Option Addr) (c0 : Nat) (l0 : List (S81)) (a1 : ByteArray) (r : List S81) (w : World) (hr0 : Kd.C k81 w A0 l0.length l0) (hc0 : l0.length ≤ c0) (h : impl_Drop.f l0 a1 = some r) :
    Calls Try.prog 47 #[.slice A0 l0.length c0, .string a1] w fun e w' => ∃ v0_ : Value, e = .returned v0_ ∧ Kd.R k81 81 w' w.heap.size (fun _ => True) v0_ r ∧ Below w.heap.size w w' := by
  unfold impl_Drop.f at h
  split at h
  case isFalse => cases h
  rename_i hl
  have HRR := Aside0.mk (Option.some.inj h).symm
  have HN := Aside0.mk hl
  have HR := Aside0.mk hr0
  have HC0 := Aside0.mk hc0
  have hcl : slices_Clone_Field.f l0 = some l0 := by unfold slices_Clone_Field.f; rw [if_pos hl]
  have hat : impl_fieldAt.f l0 a1 = some (at_ a1 l0 0) := by unfold impl_fieldAt.f; rw [if_pos hl]
  have HCL := Aside0.mk hcl
  have HAT := Aside0.mk hat
  have hb := at_bounds a1 l0 0
  clear h hl hr0 hc0 hcl hat
  obtain ⟨j, hj⟩ : ∃ j, j = at_ a1 l0 0 := ⟨_, rfl⟩
  rw [← hj] at hb
  have HJ := Aside0.mk hj
  rw [HJ.out.symm] at HAT
  clear hj
  by_cases hneg : j < 0
  · have hd : decide (0 ≤ j) = false := by simpa using hneg
    have HNEG := Aside0.mk hneg
    clear hneg hb
    go_enter Try.func47, Try.ntmps47
    go_wp2_with (first | (go_at_call 74; refine (slices_Clone_Field.calls _ _ l0 l0 _ HR.out HC0.out HCL.out).mono ?_; rintro e w1 ⟨v1, rfl, ho, hb⟩; have HO1 := Aside0.mk ho; have HB1 := Aside0.mk hb; clear ho hb) | (go_at_call 69; refine (impl_fieldAt.calls _ _ l0 a1 _ _ (Kd.C_below HR.out HB1.out) HC0.out HAT.out).mono ?_; rintro e w2 ⟨rfl, hb⟩; have HB2 := Aside0.mk hb; clear hb))
    go_ret
    exact ⟨_, rfl, by rw [HRR.out, if_pos (by rw [← HJ.out]; exact HNEG.out)]; exact Kd.R_below HO1.out HB2.out, below_then HB1.out HB1.out.size HB2.out⟩
  · obtain ⟨i, rfl⟩ : ∃ i : Nat, j = (i : Int) := ⟨j.toNat, by omega⟩
    have hi : i < l0.length := by omega
    have hd : decide ((0 : Int) ≤ (i : Int)) = true := by simp
    have hbi : (i : Int) ≤ 4398046511104 := by have := HN.out; omega
    have HI := Aside0.mk hi
    clear hneg hb hi
    go_enter Try.func47, Try.ntmps47
    go_wp2_with (first | (go_at_call 74; refine (slices_Clone_Field.calls _ _ l0 l0 _ HR.out HC0.out HCL.out).mono ?_; rintro e w1 ⟨v1, rfl, ho, hb⟩; obtain ⟨g1, cap1, rfl, hg1, _⟩ := Kd.R_form ho (Nat.lt_of_le_of_lt (Nat.zero_le _) HI.out); have HO1 := Aside0.mk ho; have HB1 := Aside0.mk hb; clear ho hb hg1) | (go_at_call 69; refine (impl_fieldAt.calls _ _ l0 a1 _ _ (Kd.C_below HR.out HB1.out) HC0.out HAT.out).mono ?_; rintro e w2 ⟨rfl, hb⟩; have HB2 := Aside0.mk hb; clear hb) | (go_at_call 75; refine (deleteF w w.heap.size g1 cap1 i l0 _ (Kd.R_below HO1.out HB2.out) HI.out HN.out (below_then HB1.out HB1.out.size HB2.out) (below_size (below_then HB1.out HB1.out.size HB2.out))).mono ?_; rintro e w3 ⟨v3, rfl, ho, hb⟩; have HO3 := Aside0.mk ho; have HB3 := Aside0.mk hb; clear ho hb))
    go_ret
    exact ⟨_, rfl, by rw [HRR.out, if_neg (by rw [← HJ.out]; omega), ← HJ.out, Int.toNat_natCast]; exact HO3.out, HB3.out⟩

/-! ### laws_FnExactDrop: function 12 -/
def laws_FnExactDrop.j0 : Nat → List (S79) → ByteArray → List (S81) → List (S81) → Bool → Option (Bool)
  | 0, _, _, _, _, _ => none
  | k + 1, x0, x1, x6, x8, x49 => if x49 = true then (some false) else ((laws_markFieldS.f k x8 1).bind fun bt393 => ((laws_heldFieldS.f k bt393.2 1).bind fun t395 => (if t395 < 0 then (some false) else (if t395 = bt393.1 then ((laws_toFieldS.f k x0).bind fun t396 => ((impl_Drop.f t396 x1).bind fun t399 => ((laws_eqFieldS.f k t399 x6).bind fun t402 => (if t402 = true then ((laws_heldFieldS.f k bt393.2 1).bind fun t403 => (if t403 < 0 then (some false) else (if t403 = bt393.1 then (some true) else (some false)))) else (some false))))) else (some false)))))
def laws_FnExactDrop.f (k : Nat) (l0 : List (S79)) (a1 : ByteArray) : Option (Bool) := if (a1.size : Int) > 1048576 then (some true) else ((laws_szFieldS.f k l0 1048576).bind fun t372 => (if t372 < 0 then (some true) else ((laws_toFieldS.f k l0).bind fun t373 => ((spec_Drop.f k t373 a1).bind fun t376 => ((laws_toFieldS.f k l0).bind fun t379 => ((impl_Drop.f t379 a1).bind fun t382 => ((laws_eqFieldS.f k t382 t376).bind fun t385 => (if t385 = true then ((laws_toFieldS.f k l0).bind fun t386 => ((laws_eqFieldS.f k t379 t386).bind fun t389 => (if t389 = true then ((laws_markFieldS.f k t379 1).bind fun bt390 => (if bt390.1 < 0 then (laws_FnExactDrop.j0 k l0 a1 t376 t382 true) else ((laws_eqFieldS.f k t382 t376).bind fun t392 => (laws_FnExactDrop.j0 k l0 a1 t376 t382 (!t392))))) else (some false)))) else (some false)))))))))
theorem laws_FnExactDrop.mono_l : ∀ k, (∀ y0 y1 y2 y3 y4, LeO (laws_FnExactDrop.j0 k y0 y1 y2 y3 y4) (laws_FnExactDrop.j0 (k + 1) y0 y1 y2 y3 y4))
  | 0 => fun _ _ _ _ _ r h => by simp [laws_FnExactDrop.j0] at h
  | k + 1 => by
    have ih0 := laws_FnExactDrop.mono_l k
    · intro y0 y1 y2 y3 y4
      unfold laws_FnExactDrop.j0
      repeat' first
      | (with_reducible exact ih0 _ _ _ _ _)
      | (with_reducible exact laws_eqFieldS.mono _ _ _)
      | (with_reducible exact laws_heldFieldS.mono _ _ _)
      | (with_reducible exact laws_markFieldS.mono _ _ _)
      | (with_reducible exact laws_szFieldS.mono _ _ _)
      | (with_reducible exact laws_toFieldS.mono _ _)
      | (with_reducible exact spec_Drop.mono _ _ _)
      | (with_reducible exact LeO.refl _)
      | (with_reducible exact LeO.none _)
      | (with_reducible refine LeO.ite ?_ ?_)
      | (with_reducible refine LeO.bind ?_ (fun _ => ?_))
      | exact ih0 _ _ _ _ _
      | exact laws_eqFieldS.mono _ _ _
      | exact laws_heldFieldS.mono _ _ _
      | exact laws_markFieldS.mono _ _ _
      | exact laws_szFieldS.mono _ _ _
      | exact laws_toFieldS.mono _ _
      | exact spec_Drop.mono _ _ _
      | exact LeO.none _
      | refine LeO.ite ?_ ?_
      | refine LeO.bind ?_ (fun _ => ?_)
theorem laws_FnExactDrop.mono : ∀ a0 a1 k, LeO (laws_FnExactDrop.f k a0 a1) (laws_FnExactDrop.f (k + 1) a0 a1) := by
  intro a0 a1 k
  have ih0 := laws_FnExactDrop.mono_l k
  unfold laws_FnExactDrop.f
  repeat' first
      | (with_reducible exact ih0 _ _ _ _ _)
      | (with_reducible exact laws_eqFieldS.mono _ _ _)
      | (with_reducible exact laws_heldFieldS.mono _ _ _)
      | (with_reducible exact laws_markFieldS.mono _ _ _)
      | (with_reducible exact laws_szFieldS.mono _ _ _)
      | (with_reducible exact laws_toFieldS.mono _ _)
      | (with_reducible exact spec_Drop.mono _ _ _)
      | (with_reducible exact LeO.refl _)
      | (with_reducible exact LeO.none _)
      | (with_reducible refine LeO.ite ?_ ?_)
      | (with_reducible refine LeO.bind ?_ (fun _ => ?_))
      | exact ih0 _ _ _ _ _
      | exact laws_eqFieldS.mono _ _ _
      | exact laws_heldFieldS.mono _ _ _
      | exact laws_markFieldS.mono _ _ _
      | exact laws_szFieldS.mono _ _ _
      | exact laws_toFieldS.mono _ _
      | exact spec_Drop.mono _ _ _
      | exact LeO.none _
      | refine LeO.ite ?_ ?_
      | refine LeO.bind ?_ (fun _ => ?_)
set_option maxHeartbeats 8000000 in
set_option maxRecDepth 100000 in
theorem laws_FnExactDrop.calls (k : Nat) (A0 : Option Addr) (c0 : Nat) (l0 : List (S79)) (a1 : ByteArray) (r : Bool) (w : World) (hr0 : Kd.C k79 w A0 l0.length l0) (hc0 : l0.length ≤ c0) (ht_ : r = true) (h : laws_FnExactDrop.f k l0 a1 = some r) :
    Calls Try.prog 12 #[.slice A0 l0.length c0, .string a1] w fun e w' => e = .returned (.bool r) ∧ Below w.heap.size w w' := by
  have HR0 := Aside0.mk hr0
  have HC0 := Aside0.mk hc0
  clear hr0 hc0
  have HB := Aside0.mk (Below.refl w.heap.size w)
  have H : (if (a1.size : Int) > 1048576 then (some true) else ((laws_szFieldS.f k l0 1048576).bind fun t372 => (if t372 < 0 then (some true) else ((laws_toFieldS.f k l0).bind fun t373 => ((spec_Drop.f k t373 a1).bind fun t376 => ((laws_toFieldS.f k l0).bind fun t379 => ((impl_Drop.f t379 a1).bind fun t382 => ((laws_eqFieldS.f k t382 t376).bind fun t385 => (if t385 = true then ((laws_toFieldS.f k l0).bind fun t386 => ((laws_eqFieldS.f k t379 t386).bind fun t389 => (if t389 = true then ((laws_markFieldS.f k t379 1).bind fun bt390 => (if bt390.1 < 0 then (laws_FnExactDrop.j0 k l0 a1 t376 t382 true) else ((laws_eqFieldS.f k t382 t376).bind fun t392 => (laws_FnExactDrop.j0 k l0 a1 t376 t382 (!t392))))) else (some false)))) else (some false)))))))))) = some r := h
  clear h
  by_cases c3 : (a1.size : Int) > 1048576
  · rw [if_pos c3] at H
    have c3b0 : decide (1048576 < (a1.size : Int)) = true := decide_eq_true c3
    have c3b1 : decide (1048576 < a1.size) = true := decide_eq_true (by omega)
    clear c3
    obtain rfl := Option.some.inj H
    go_enter Try.func12, Try.ntmps12
    go_wp2
    go_ret
    exact ⟨rf, bl⟩
  · rw [if_neg c3] at H
    have c3b0 : decide (1048576 < (a1.size : Int)) = false := decide_eq_false c3
    have c3b1 : decide (1048576 < a1.size) = false := decide_eq_false (by omega)
    clear c3
    replace H := Option.bind_eq_some_iff.mp H
    obtain ⟨t372, A40, H⟩ := H
    replace H : (if t372 < 0 then (some true) else ((laws_toFieldS.f k l0).bind fun t373 => ((spec_Drop.f k t373 a1).bind fun t376 => ((laws_toFieldS.f k l0).bind fun t379 => ((impl_Drop.f t379 a1).bind fun t382 => ((laws_eqFieldS.f k t382 t376).bind fun t385 => (if t385 = true then ((laws_toFieldS.f k l0).bind fun t386 => ((laws_eqFieldS.f k t379 t386).bind fun t389 => (if t389 = true then ((laws_markFieldS.f k t379 1).bind fun bt390 => (if bt390.1 < 0 then (laws_FnExactDrop.j0 k l0 a1 t376 t382 true) else ((laws_eqFieldS.f k t382 t376).bind fun t392 => (laws_FnExactDrop.j0 k l0 a1 t376 t382 (!t392))))) else (some false)))) else (some false)))))))) = some r := H
    have A4 := Aside0.mk A40
    clear A40
    by_cases c5 : t372 < 0
    · rw [if_pos c5] at H
      have c5b0 : decide (t372 < 0) = true := decide_eq_true c5
      clear c5
      obtain rfl := Option.some.inj H
      go_enter Try.func12, Try.ntmps12
      go_wp2_with (first | ((with_reducible refine gate_callee (f := 22) rfl ?_); refine goesL_ (some 18) rfl rfl Try.func22 (by kernel_rfl) rfl #[.slice A0 l0.length c0, .int .i64 1048576] rfl ma ?_; (with_reducible refine (laws_szFieldS.calls k _ _ l0 1048576 t372 _ ?side1 ?side2 A4.out).mono ?_); (case side1 => repeat (first | exact HR0.out | (with_reducible refine Kd.C_alloc ?_ _) | (with_reducible refine Kd.C_drewN ?_ _) | (with_reducible refine Kd.C_drew ?_))); (case side2 => exact HC0.out); rintro e w6 ⟨rfl, hb⟩; refine ⟨_, rfl, ?_⟩; replace HB := Aside0.mk (below_step bl hb); (try clear hb); (try clear hb2); (try clear hk); (try clear hi)))
      go_ret
      exact ⟨rf, bl⟩
    · rw [if_neg c5] at H
      have c5b0 : decide (t372 < 0) = false := decide_eq_false c5
      clear c5
      replace H := Option.bind_eq_some_iff.mp H
      obtain ⟨t373, A70, H⟩ := H
      replace H : ((spec_Drop.f k t373 a1).bind fun t376 => ((laws_toFieldS.f k l0).bind fun t379 => ((impl_Drop.f t379 a1).bind fun t382 => ((laws_eqFieldS.f k t382 t376).bind fun t385 => (if t385 = true then ((laws_toFieldS.f k l0).bind fun t386 => ((laws_eqFieldS.f k t379 t386).bind fun t389 => (if t389 = true then ((laws_markFieldS.f k t379 1).bind fun bt390 => (if bt390.1 < 0 then (laws_FnExactDrop.j0 k l0 a1 t376 t382 true) else ((laws_eqFieldS.f k t382 t376).bind fun t392 => (laws_FnExactDrop.j0 k l0 a1 t376 t382 (!t392))))) else (some false)))) else (some false)))))) = some r := H
      have A7 := Aside0.mk A70
      clear A70
      replace H := Option.bind_eq_some_iff.mp H
      obtain ⟨t376, A80, H⟩ := H
      replace H : ((laws_toFieldS.f k l0).bind fun t379 => ((impl_Drop.f t379 a1).bind fun t382 => ((laws_eqFieldS.f k t382 t376).bind fun t385 => (if t385 = true then ((laws_toFieldS.f k l0).bind fun t386 => ((laws_eqFieldS.f k t379 t386).bind fun t389 => (if t389 = true then ((laws_markFieldS.f k t379 1).bind fun bt390 => (if bt390.1 < 0 then (laws_FnExactDrop.j0 k l0 a1 t376 t382 true) else ((laws_eqFieldS.f k t382 t376).bind fun t392 => (laws_FnExactDrop.j0 k l0 a1 t376 t382 (!t392))))) else (some false)))) else (some false))))) = some r := H
      have A8 := Aside0.mk A80
      clear A80
      replace H := Option.bind_eq_some_iff.mp H
      obtain ⟨t379, A90, H⟩ := H
      replace H : ((impl_Drop.f t379 a1).bind fun t382 => ((laws_eqFieldS.f k t382 t376).bind fun t385 => (if t385 = true then ((laws_toFieldS.f k l0).bind fun t386 => ((laws_eqFieldS.f k t379 t386).bind fun t389 => (if t389 = true then ((laws_markFieldS.f k t379 1).bind fun bt390 => (if bt390.1 < 0 then (laws_FnExactDrop.j0 k l0 a1 t376 t382 true) else ((laws_eqFieldS.f k t382 t376).bind fun t392 => (laws_FnExactDrop.j0 k l0 a1 t376 t382 (!t392))))) else (some false)))) else (some false)))) = some r := H
      have A9 := Aside0.mk A90
      clear A90
      replace H := Option.bind_eq_some_iff.mp H
      obtain ⟨t382, A100, H⟩ := H
      replace H : ((laws_eqFieldS.f k t382 t376).bind fun t385 => (if t385 = true then ((laws_toFieldS.f k l0).bind fun t386 => ((laws_eqFieldS.f k t379 t386).bind fun t389 => (if t389 = true then ((laws_markFieldS.f k t379 1).bind fun bt390 => (if bt390.1 < 0 then (laws_FnExactDrop.j0 k l0 a1 t376 t382 true) else ((laws_eqFieldS.f k t382 t376).bind fun t392 => (laws_FnExactDrop.j0 k l0 a1 t376 t382 (!t392))))) else (some false)))) else (some false))) = some r := H
      have A10 := Aside0.mk A100
      clear A100
      replace H := Option.bind_eq_some_iff.mp H
      obtain ⟨t385, A110, H⟩ := H
      replace H : (if t385 = true then ((laws_toFieldS.f k l0).bind fun t386 => ((laws_eqFieldS.f k t379 t386).bind fun t389 => (if t389 = true then ((laws_markFieldS.f k t379 1).bind fun bt390 => (if bt390.1 < 0 then (laws_FnExactDrop.j0 k l0 a1 t376 t382 true) else ((laws_eqFieldS.f k t382 t376).bind fun t392 => (laws_FnExactDrop.j0 k l0 a1 t376 t382 (!t392))))) else (some false)))) else (some false)) = some r := H
      have A11 := Aside0.mk A110
      clear A110
      by_cases c12 : t385 = true
      · subst c12
        have H1 : ((laws_toFieldS.f k l0).bind fun t386 => ((laws_eqFieldS.f k t379 t386).bind fun t389 => (if t389 = true then ((laws_markFieldS.f k t379 1).bind fun bt390 => (if bt390.1 < 0 then (laws_FnExactDrop.j0 k l0 a1 t376 t382 true) else ((laws_eqFieldS.f k t382 t376).bind fun t392 => (laws_FnExactDrop.j0 k l0 a1 t376 t382 (!t392))))) else (some false)))) = some r := by rw [if_pos rfl] at H; exact H
        clear H
        have H := H1
        clear H1
        replace H := Option.bind_eq_some_iff.mp H
        obtain ⟨t386, A130, H⟩ := H
        replace H : ((laws_eqFieldS.f k t379 t386).bind fun t389 => (if t389 = true then ((laws_markFieldS.f k t379 1).bind fun bt390 => (if bt390.1 < 0 then (laws_FnExactDrop.j0 k l0 a1 t376 t382 true) else ((laws_eqFieldS.f k t382 t376).bind fun t392 => (laws_FnExactDrop.j0 k l0 a1 t376 t382 (!t392))))) else (some false))) = some r := H
        have A13 := Aside0.mk A130
        clear A130
        replace H := Option.bind_eq_some_iff.mp H
        obtain ⟨t389, A140, H⟩ := H
        replace H : (if t389 = true then ((laws_markFieldS.f k t379 1).bind fun bt390 => (if bt390.1 < 0 then (laws_FnExactDrop.j0 k l0 a1 t376 t382 true) else ((laws_eqFieldS.f k t382 t376).bind fun t392 => (laws_FnExactDrop.j0 k l0 a1 t376 t382 (!t392))))) else (some false)) = some r := H
        have A14 := Aside0.mk A140
        clear A140
        by_cases c15 : t389 = true
        · subst c15
          have H1 : ((laws_markFieldS.f k t379 1).bind fun bt390 => (if bt390.1 < 0 then (laws_FnExactDrop.j0 k l0 a1 t376 t382 true) else ((laws_eqFieldS.f k t382 t376).bind fun t392 => (laws_FnExactDrop.j0 k l0 a1 t376 t382 (!t392))))) = some r := by rw [if_pos rfl] at H; exact H
          clear H
          have H := H1
          clear H1
          replace H := Option.bind_eq_some_iff.mp H
          obtain ⟨⟨t390, t391⟩, A160, H⟩ := H
          replace H : (if t390 < 0 then (laws_FnExactDrop.j0 k l0 a1 t376 t382 true) else ((laws_eqFieldS.f k t382 t376).bind fun t392 => (laws_FnExactDrop.j0 k l0 a1 t376 t382 (!t392)))) = some r := H
          have A16 := Aside0.mk A160
          clear A160
          have HC17 := Aside0.mk H
          clear H
          go_enter Try.func12, Try.ntmps12
          go_upto_region 16 with (first | ((with_reducible refine gate_callee (f := 22) rfl ?_); refine goesL_ (some 18) rfl rfl Try.func22 (by kernel_rfl) rfl #[.slice A0 l0.length c0, .int .i64 1048576] rfl ma ?_; (with_reducible refine (laws_szFieldS.calls k _ _ l0 1048576 t372 _ ?side1 ?side2 A4.out).mono ?_); (case side1 => repeat (first | exact HR0.out | (with_reducible refine Kd.C_alloc ?_ _) | (with_reducible refine Kd.C_drewN ?_ _) | (with_reducible refine Kd.C_drew ?_))); (case side2 => exact HC0.out); rintro e w18 ⟨rfl, hb⟩; refine ⟨_, rfl, ?_⟩; replace HB := Aside0.mk (below_step bl hb); (try clear hb); (try clear hb2); (try clear hk); (try clear hi)) | ((with_reducible refine gate_callee (f := 24) rfl ?_); refine goesL_ (some 22) rfl rfl Try.func24 (by kernel_rfl) rfl #[.slice A0 l0.length c0] rfl ma ?_; (with_reducible refine (laws_toFieldS.calls k _ _ l0 t373 _ ?side1 ?side2 A7.out).mono ?_); (case side1 => repeat (first | exact (Kd.C_below HR0.out HB.out) | (with_reducible refine Kd.C_alloc ?_ _) | (with_reducible refine Kd.C_drewN ?_ _) | (with_reducible refine Kd.C_drew ?_))); (case side2 => exact HC0.out); rintro e w19 ⟨v374, rfl, ho0, hb⟩; refine ⟨_, rfl, ?_⟩; have HO375 := Aside0.mk (Kd.R_lower ho0 (below_size bl)); replace HB := Aside0.mk (below_step bl hb); (try clear hb); (try clear hb2); (try clear hk); (try clear hi); (try clear ho0); obtain ⟨Ao20, co20, eo20⟩ := Kd.R_slice HO375.out; subst eo20) | ((with_reducible refine gate_callee (f := 46) rfl ?_); refine goesL_ (some 24) rfl rfl Try.func46 (by kernel_rfl) rfl #[.slice Ao20 t373.length co20, .string a1] rfl ma ?_; (with_reducible refine (spec_Drop.calls k _ _ t373 a1 t376 _ ?side1 ?side2 A8.out).mono ?_); (case side1 => repeat (first | exact (Kd.R_reads' HO375.out).2.2 | (with_reducible refine Kd.C_alloc ?_ _) | (with_reducible refine Kd.C_drewN ?_ _) | (with_reducible refine Kd.C_drew ?_))); (case side2 => exact (Kd.R_reads' HO375.out).2.1); rintro e w21 ⟨v377, rfl, ho0, hb⟩; refine ⟨_, rfl, ?_⟩; have HO378 := Aside0.mk (Kd.R_lower (Kd.R_new' ho0 (Kd.R_lt (ro HO375))) (below_size bl)); replace HO375 := Aside0.mk (Kd.R_elder' (ro HO375) (Kd.R_base ho0) hb); replace HB := Aside0.mk (below_step bl hb); (try clear hb); (try clear hb2); (try clear hk); (try clear hi); (try clear ho0)) | ((with_reducible refine gate_callee (f := 24) rfl ?_); refine goesL_ (some 26) rfl rfl Try.func24 (by kernel_rfl) rfl #[.slice A0 l0.length c0] rfl ma ?_; (with_reducible refine (laws_toFieldS.calls k _ _ l0 t379 _ ?side1 ?side2 A9.out).mono ?_); (case side1 => repeat (first | exact (Kd.C_below HR0.out HB.out) | (with_reducible refine Kd.C_alloc ?_ _) | (with_reducible refine Kd.C_drewN ?_ _) | (with_reducible refine Kd.C_drew ?_))); (case side2 => exact HC0.out); rintro e w22 ⟨v380, rfl, ho0, hb⟩; refine ⟨_, rfl, ?_⟩; have HO381 := Aside0.mk (Kd.R_lower (Kd.R_new' (Kd.R_new' ho0 (Kd.R_lt (ro HO375))) (Kd.R_lt (ro HO378))) (below_size bl)); replace HO375 := Aside0.mk (Kd.R_elder' (ro HO375) (Kd.R_base ho0) hb); replace HO378 := Aside0.mk (Kd.R_elder' (ro HO378) (Kd.R_base ho0) hb); replace HB := Aside0.mk (below_step bl hb); (try clear hb); (try clear hb2); (try clear hk); (try clear hi); (try clear ho0); obtain ⟨Ao23, co23, eo23⟩ := Kd.R_slice HO381.out; subst eo23) | ((with_reducible refine gate_callee (f := 47) rfl ?_); refine goesL_ (some 29) rfl rfl Try.func47 (by kernel_rfl) rfl #[.slice Ao23 t379.length co23, .string a1] rfl ma ?_; (with_reducible refine (impl_Drop.calls _ _ t379 a1 t382 _ ?side1 ?side2 A10.out).mono ?_); (case side1 => repeat (first | exact (Kd.R_reads' HO381.out).2.2 | (with_reducible refine Kd.C_alloc ?_ _) | (with_reducible refine Kd.C_drewN ?_ _) | (with_reducible refine Kd.C_drew ?_))); (case side2 => exact (Kd.R_reads' HO381.out).2.1); rintro e w24 ⟨v383, rfl, ho0, hb⟩; refine ⟨_, rfl, ?_⟩; have HO384 := Aside0.mk (Kd.R_lower (Kd.R_new' (Kd.R_new' (Kd.R_new' ho0 (Kd.R_lt (ro HO375))) (Kd.R_lt (ro HO378))) (Kd.R_lt (ro HO381))) (below_size bl)); replace HO375 := Aside0.mk (Kd.R_elder' (ro HO375) (Kd.R_base ho0) hb); replace HO378 := Aside0.mk (Kd.R_elder' (ro HO378) (Kd.R_base ho0) hb); replace HO381 := Aside0.mk (Kd.R_elder' (ro HO381) (Kd.R_base ho0) hb); replace HB := Aside0.mk (below_step bl hb); (try clear hb); (try clear hb2); (try clear hk); (try clear hi); (try clear ho0); obtain ⟨Ao25, co25, eo25⟩ := Kd.R_slice HO384.out; subst eo25; obtain ⟨Ao26, co26, eo26⟩ := Kd.R_slice HO378.out; subst eo26) | ((with_reducible refine gate_callee (f := 26) rfl ?_); refine goesL_ (some 32) rfl rfl Try.func26 (by kernel_rfl) rfl #[.slice Ao25 t382.length co25, .slice Ao26 t376.length co26] rfl ma ?_; (with_reducible refine (laws_eqFieldS.calls k _ _ t382 _ _ t376 true _ ?side1 ?side2 ?side3 ?side4 A11.out).mono ?_); (case side1 => repeat (first | exact (Kd.R_reads' HO384.out).2.2 | (with_reducible refine Kd.C_alloc ?_ _) | (with_reducible refine Kd.C_drewN ?_ _) | (with_reducible refine Kd.C_drew ?_))); (case side2 => exact (Kd.R_reads' HO384.out).2.1); (case side3 => repeat (first | exact (Kd.R_reads' HO378.out).2.2 | (with_reducible refine Kd.C_alloc ?_ _) | (with_reducible refine Kd.C_drewN ?_ _) | (with_reducible refine Kd.C_drew ?_))); (case side4 => exact (Kd.R_reads' HO378.out).2.1); rintro e w27 ⟨rfl, hb⟩; refine ⟨_, rfl, ?_⟩; replace HO375 := kr HO375 hb; replace HO378 := kr HO378 hb; replace HO381 := kr HO381 hb; replace HO384 := kr HO384 hb; replace HB := Aside0.mk (below_step bl hb); (try clear hb); (try clear hb2); (try clear hk); (try clear hi)) | ((with_reducible refine gate_callee (f := 24) rfl ?_); refine goesL_ (some 36) rfl rfl Try.func24 (by kernel_rfl) rfl #[.slice A0 l0.length c0] rfl ma ?_; (with_reducible refine (laws_toFieldS.calls k _ _ l0 t386 _ ?side1 ?side2 A13.out).mono ?_); (case side1 => repeat (first | exact (Kd.C_below HR0.out HB.out) | (with_reducible refine Kd.C_alloc ?_ _) | (with_reducible refine Kd.C_drewN ?_ _) | (with_reducible refine Kd.C_drew ?_))); (case side2 => exact HC0.out); rintro e w28 ⟨v387, rfl, ho0, hb⟩; refine ⟨_, rfl, ?_⟩; have HO388 := Aside0.mk (Kd.R_lower (Kd.R_new' (Kd.R_new' (Kd.R_new' (Kd.R_new' ho0 (Kd.R_lt (ro HO375))) (Kd.R_lt (ro HO378))) (Kd.R_lt (ro HO381))) (Kd.R_lt (ro HO384))) (below_size bl)); replace HO375 := Aside0.mk (Kd.R_elder' (ro HO375) (Kd.R_base ho0) hb); replace HO378 := Aside0.mk (Kd.R_elder' (ro HO378) (Kd.R_base ho0) hb); replace HO381 := Aside0.mk (Kd.R_elder' (ro HO381) (Kd.R_base ho0) hb); replace HO384 := Aside0.mk (Kd.R_elder' (ro HO384) (Kd.R_base ho0) hb); replace HB := Aside0.mk (below_step bl hb); (try clear hb); (try clear hb2); (try clear hk); (try clear hi); (try clear ho0); obtain ⟨Ao29, co29, eo29⟩ := Kd.R_slice HO388.out; subst eo29) | ((with_reducible refine gate_callee (f := 26) rfl ?_); refine goesL_ (some 37) rfl rfl Try.func26 (by kernel_rfl) rfl #[.slice Ao23 t379.length co23, .slice Ao29 t386.length co29] rfl ma ?_; (with_reducible refine (laws_eqFieldS.calls k _ _ t379 _ _ t386 true _ ?side1 ?side2 ?side3 ?side4 A14.out).mono ?_); (case side1 => repeat (first | exact (Kd.R_reads' HO381.out).2.2 | (with_reducible refine Kd.C_alloc ?_ _) | (with_reducible refine Kd.C_drewN ?_ _) | (with_reducible refine Kd.C_drew ?_))); (case side2 => exact (Kd.R_reads' HO381.out).2.1); (case side3 => repeat (first | exact (Kd.R_reads' HO388.out).2.2 | (with_reducible refine Kd.C_alloc ?_ _) | (with_reducible refine Kd.C_drewN ?_ _) | (with_reducible refine Kd.C_drew ?_))); (case side4 => exact (Kd.R_reads' HO388.out).2.1); rintro e w30 ⟨rfl, hb⟩; refine ⟨_, rfl, ?_⟩; replace HO375 := kr HO375 hb; replace HO378 := kr HO378 hb; replace HO381 := kr HO381 hb; replace HO384 := kr HO384 hb; replace HO388 := kr HO388 hb; replace HB := Aside0.mk (below_step bl hb); (try clear hb); (try clear hb2); (try clear hk); (try clear hi)) | ((with_reducible refine gate_callee (f := 39) rfl ?_); refine goesL_ (some 41) rfl rfl Try.func39 (by kernel_rfl) rfl #[.slice Ao23 t379.length co23, .int .i64 1] rfl ma ?_; (with_reducible refine (laws_markFieldS.calls k (fun k_ => some k_ = (.slice Ao23 t379.length co23 : Value).ownBlock) (.slice Ao23 t379.length co23) t379 1 t390 t391 w _ ?side1 ?side2 A16.out).mono ?_); (case side1 => repeat (first | (with_reducible first | exact HB.out | apply below_alloc | apply pw_below_drewN | apply below_drew1) | exact HB.out)); (case side2 => exact Kd.R_tight rfl HO381.out); rintro e w31 ⟨rfl, hy0, hb, hkp⟩; refine ⟨_, rfl, ?_⟩; replace HO375 := Aside0.mk (Kd.R_mono (ok' := fun k_ => some k_ ≠ (.slice Ao26 t376.length co26 : Value).ownBlock ∧ some k_ ≠ (.slice Ao23 t379.length co23 : Value).ownBlock ∧ some k_ ≠ (.slice Ao25 t382.length co25 : Value).ownBlock ∧ some k_ ≠ (.slice Ao29 t386.length co29 : Value).ownBlock) (Kd.R_keptB (HO375.out) hkp (fun k_ hk_ hs_ => (hk_.1.1.2) hs_)) (fun k_ hk_ => ⟨hk_.1.1.1.1.2, hk_.1.1.1.2, hk_.1.1.2, hk_.1.2⟩)); replace HO378 := Aside0.mk (Kd.R_mono (ok' := fun k_ => some k_ ≠ (.slice Ao20 t373.length co20 : Value).ownBlock ∧ some k_ ≠ (.slice Ao23 t379.length co23 : Value).ownBlock ∧ some k_ ≠ (.slice Ao25 t382.length co25 : Value).ownBlock ∧ some k_ ≠ (.slice Ao29 t386.length co29 : Value).ownBlock) (Kd.R_keptB (HO378.out) hkp (fun k_ hk_ hs_ => (hk_.1.1.2) hs_)) (fun k_ hk_ => ⟨hk_.1.1.1.1.2, hk_.1.1.1.2, hk_.1.1.2, hk_.1.2⟩)); replace HO381 := Aside0.mk (Kd.R_reok rfl hy0 (fun k_ e_ => HO381.out.1 k_ e_)); replace HO384 := Aside0.mk (Kd.R_mono (ok' := fun k_ => some k_ ≠ (.slice Ao20 t373.length co20 : Value).ownBlock ∧ some k_ ≠ (.slice Ao26 t376.length co26 : Value).ownBlock ∧ some k_ ≠ (.slice Ao23 t379.length co23 : Value).ownBlock ∧ some k_ ≠ (.slice Ao29 t386.length co29 : Value).ownBlock) (Kd.R_keptB (HO384.out) hkp (fun k_ hk_ hs_ => (hk_.1.2) hs_)) (fun k_ hk_ => ⟨hk_.1.1.1.1.2, hk_.1.1.1.2, hk_.1.1.2, hk_.1.2⟩)); replace HO388 := Aside0.mk (Kd.R_mono (ok' := fun k_ => some k_ ≠ (.slice Ao20 t373.length co20 : Value).ownBlock ∧ some k_ ≠ (.slice Ao26 t376.length co26 : Value).ownBlock ∧ some k_ ≠ (.slice Ao23 t379.length co23 : Value).ownBlock ∧ some k_ ≠ (.slice Ao25 t382.length co25 : Value).ownBlock) (Kd.R_keptB (HO388.out) hkp (fun k_ hk_ hs_ => (hk_.1.2) hs_)) (fun k_ hk_ => ⟨hk_.1.1.1.1.2, hk_.1.1.1.2, hk_.1.1.2, hk_.1.2⟩)); replace HB := Aside0.mk (hb); (try clear hb); (try clear hkp); (try clear hy0)))
          (try simp only [Act.put, List.setIfInBounds_toArray, List.set_cons_zero, List.set_cons_succ])
          go_cut [49] (fun v49 wc => ∃ (kq : Nat) (x49_16 : Bool), v49 = .bool x49_16 ∧ Aside0 (laws_FnExactDrop.j0 kq l0 a1 t376 t382 x49_16 = some r) ∧ Aside0 (kq ≤ k) ∧ Aside0 (Kd.R k81 81 wc w.heap.size (fun k_ => some k_ ≠ ((.slice Ao25 t382.length co25) : Value).ownBlock) (.slice Ao26 t376.length co26) t376) ∧ Aside0 (Kd.R k81 81 wc w.heap.size (fun k_ => some k_ ≠ ((.slice Ao26 t376.length co26) : Value).ownBlock) (.slice Ao25 t382.length co25) t382) ∧ Aside0 (Below w.heap.size w wc))
          case first =>
            have H := HC17.out
            clear HC17
            by_cases c32 : t390 < 0
            · rw [if_pos c32] at H
              have c32b0 : decide (t390 < 0) = true := decide_eq_true c32
              clear c32
              (first | rw [c32b0] | (simp only [i64_w, i32_w]; rw [c32b0]) | skip)
              cases k with
              | zero => exact absurd H (by simp [laws_FnExactDrop.j0])
              | succ k_ => simp only [laws_FnExactDrop.j0, if_true] at H; exact absurd (Option.some.inj H) (by rw [ht_]; decide)
            · rw [if_neg c32] at H
              have c32b0 : decide (t390 < 0) = false := decide_eq_false c32
              clear c32
              (first | rw [c32b0] | (simp only [i64_w, i32_w]; rw [c32b0]) | skip)
              replace H := Option.bind_eq_some_iff.mp H
              obtain ⟨t392, A330, H⟩ := H
              replace H : (laws_FnExactDrop.j0 k l0 a1 t376 t382 (!t392)) = some r := H
              have A33 := Aside0.mk A330
              clear A330
              have H' := Aside0.mk H
              clear H
              go_wp2_with (first | (go_at_call 26; (with_reducible refine (laws_eqFieldS.calls k _ _ t382 _ _ t376 t392 _ ?side1 ?side2 ?side3 ?side4 A33.out).mono ?_); (case side1 => repeat (first | exact (Kd.R_reads' HO384.out).2.2 | (with_reducible refine Kd.C_alloc ?_ _) | (with_reducible refine Kd.C_drewN ?_ _) | (with_reducible refine Kd.C_drew ?_))); (case side2 => exact (Kd.R_reads' HO384.out).2.1); (case side3 => repeat (first | exact (Kd.R_reads' HO378.out).2.2 | (with_reducible refine Kd.C_alloc ?_ _) | (with_reducible refine Kd.C_drewN ?_ _) | (with_reducible refine Kd.C_drew ?_))); (case side4 => exact (Kd.R_reads' HO378.out).2.1); rintro e w34 ⟨rfl, hb⟩; replace HO375 := kr HO375 hb; replace HO378 := kr HO378 hb; replace HO381 := kr HO381 hb; replace HO384 := kr HO384 hb; replace HO388 := kr HO388 hb; replace HB := Aside0.mk (below_step bl hb); (try clear hb); (try clear hb2); (try clear hk); (try clear hi)))
              go_meet
              case rel => exact ⟨_, (!t392), (by first | rfl | (simp; done) | (simp [*]; done)), H', ⟨by first | omega | exact Nat.le_refl _⟩, ⟨by (with_reducible repeat (first | apply Kd.R_alloc | apply Kd.R_drewN | apply Kd.R_drew)); exact Kd.R_mono HO378.out (fun _ hk => hk.2.2.1)⟩, ⟨by (with_reducible repeat (first | apply Kd.R_alloc | apply Kd.R_drewN | apply Kd.R_drew)); exact Kd.R_mono HO384.out (fun _ hk => hk.2.1)⟩, ⟨by repeat (first | (with_reducible first | exact HB.out | apply below_alloc | apply pw_below_drewN | apply below_drew1) | exact HB.out)⟩⟩
          case rest =>
            clear HC17
            try clear c1
            try clear c2
            try clear p2
            try clear c3
            try clear c3b0
            try clear c3b1
            try clear c4
            try clear c5
            try clear c5b0
            try clear c12
            try clear c15
            try clear c22
            try clear c24
            try clear c26
            try clear c32
            try clear c32b0
            obtain ⟨kq, x49_16, rfl, HA, HJ16, HO_6, HO_8, HB⟩ := hcut
            cases kq with
            | zero => exact absurd HA.out (by simp [laws_FnExactDrop.j0])
            | succ kj16 =>
              have H := HA.out
              clear HA
              simp only [laws_FnExactDrop.j0] at H
              by_cases c35 : x49_16 = true
              · subst c35
                have H1 : (some false) = some r := by rw [if_pos rfl] at H; exact H
                clear H
                have H := H1
                clear H1
                exact absurd (Option.some.inj H) (by rw [ht_]; decide)
              · replace c35 := Bool.eq_false_iff.mpr c35
                subst c35
                have H1 : ((laws_markFieldS.f kj16 t382 1).bind fun bt393 => ((laws_heldFieldS.f kj16 bt393.2 1).bind fun t395 => (if t395 < 0 then (some false) else (if t395 = bt393.1 then ((laws_toFieldS.f kj16 l0).bind fun t396 => ((impl_Drop.f t396 a1).bind fun t399 => ((laws_eqFieldS.f kj16 t399 t376).bind fun t402 => (if t402 = true then ((laws_heldFieldS.f kj16 bt393.2 1).bind fun t403 => (if t403 < 0 then (some false) else (if t403 = bt393.1 then (some true) else (some false)))) else (some false))))) else (some false))))) = some r := by rw [if_neg (show ¬ (false = true) by decide)] at H; exact H
                clear H
                have H := H1
                clear H1
                replace H := Option.bind_eq_some_iff.mp H
                obtain ⟨⟨t393, t394⟩, A360, H⟩ := H
                replace H : ((laws_heldFieldS.f kj16 t394 1).bind fun t395 => (if t395 < 0 then (some false) else (if t395 = t393 then ((laws_toFieldS.f kj16 l0).bind fun t396 => ((impl_Drop.f t396 a1).bind fun t399 => ((laws_eqFieldS.f kj16 t399 t376).bind fun t402 => (if t402 = true then ((laws_heldFieldS.f kj16 t394 1).bind fun t403 => (if t403 < 0 then (some false) else (if t403 = t393 then (some true) else (some false)))) else (some false))))) else (some false)))) = some r := H
                have A36 := Aside0.mk A360
                clear A360
                replace H := Option.bind_eq_some_iff.mp H
                obtain ⟨t395, A370, H⟩ := H
                replace H : (if t395 < 0 then (some false) else (if t395 = t393 then ((laws_toFieldS.f kj16 l0).bind fun t396 => ((impl_Drop.f t396 a1).bind fun t399 => ((laws_eqFieldS.f kj16 t399 t376).bind fun t402 => (if t402 = true then ((laws_heldFieldS.f kj16 t394 1).bind fun t403 => (if t403 < 0 then (some false) else (if t403 = t393 then (some true) else (some false)))) else (some false))))) else (some false))) = some r := H
                have A37 := Aside0.mk A370
                clear A370
                by_cases c38 : t395 < 0
                · rw [if_pos c38] at H
                  have c38b0 : decide (t395 < 0) = true := decide_eq_true c38
                  clear c38
                  exact absurd (Option.some.inj H) (by rw [ht_]; decide)
                · rw [if_neg c38] at H
                  have c38b0 : decide (t395 < 0) = false := decide_eq_false c38
                  clear c38
                  by_cases c39 : t395 = t393
                  · rw [if_pos c39] at H
                    have c39b0 : (t395 == t393) = true := beq_iff_eq.mpr c39
                    have c39b1 : (t395 != t393) = false := bne_eq_false_iff_eq.mpr c39
                    clear c39
                    replace H := Option.bind_eq_some_iff.mp H
                    obtain ⟨t396, A400, H⟩ := H
                    replace H : ((impl_Drop.f t396 a1).bind fun t399 => ((laws_eqFieldS.f kj16 t399 t376).bind fun t402 => (if t402 = true then ((laws_heldFieldS.f kj16 t394 1).bind fun t403 => (if t403 < 0 then (some false) else (if t403 = t393 then (some true) else (some false)))) else (some false)))) = some r := H
                    have A40 := Aside0.mk A400
                    clear A400
                    replace H := Option.bind_eq_some_iff.mp H
                    obtain ⟨t399, A410, H⟩ := H
                    replace H : ((laws_eqFieldS.f kj16 t399 t376).bind fun t402 => (if t402 = true then ((laws_heldFieldS.f kj16 t394 1).bind fun t403 => (if t403 < 0 then (some false) else (if t403 = t393 then (some true) else (some false)))) else (some false))) = some r := H
                    have A41 := Aside0.mk A410
                    clear A410
                    replace H := Option.bind_eq_some_iff.mp H
                    obtain ⟨t402, A420, H⟩ := H
                    replace H : (if t402 = true then ((laws_heldFieldS.f kj16 t394 1).bind fun t403 => (if t403 < 0 then (some false) else (if t403 = t393 then (some true) else (some false)))) else (some false)) = some r := H
                    have A42 := Aside0.mk A420
                    clear A420
                    by_cases c43 : t402 = true
                    · subst c43
                      have H1 : ((laws_heldFieldS.f kj16 t394 1).bind fun t403 => (if t403 < 0 then (some false) else (if t403 = t393 then (some true) else (some false)))) = some r := by rw [if_pos rfl] at H; exact H
                      clear H
                      have H := H1
                      clear H1
                      replace H := Option.bind_eq_some_iff.mp H
                      obtain ⟨t403, A440, H⟩ := H
                      replace H : (if t403 < 0 then (some false) else (if t403 = t393 then (some true) else (some false))) = some r := H
                      have A44 := Aside0.mk A440
                      clear A440
                      by_cases c45 : t403 < 0
                      · rw [if_pos c45] at H
                        have c45b0 : decide (t403 < 0) = true := decide_eq_true c45
                        clear c45
                        exact absurd (Option.some.inj H) (by rw [ht_]; decide)
                      · rw [if_neg c45] at H
                        have c45b0 : decide (t403 < 0) = false := decide_eq_false c45
                        clear c45
                        by_cases c46 : t403 = t393
                        · rw [if_pos c46] at H
                          have c46b0 : (t403 == t393) = true := beq_iff_eq.mpr c46
                          have c46b1 : (t403 != t393) = false := bne_eq_false_iff_eq.mpr c46
                          clear c46
                          obtain rfl := Option.some.inj H
                          go_wp2_with (first | ((with_reducible refine gate_callee (f := 39) rfl ?_); refine goesL_ (some 52) rfl rfl Try.func39 (by kernel_rfl) rfl #[.slice Ao25 t382.length co25, .int .i64 1] rfl ma ?_; (with_reducible refine (laws_markFieldS.calls kj16 (fun k_ => some k_ = (.slice Ao25 t382.length co25 : Value).ownBlock) (.slice Ao25 t382.length co25) t382 1 t393 t394 w _ ?side1 ?side2 A36.out).mono ?_); (case side1 => repeat (first | (with_reducible first | exact HB.out | apply below_alloc | apply pw_below_drewN | apply below_drew1) | exact HB.out)); (case side2 => exact Kd.R_tight rfl HO_8.out); rintro e w47 ⟨rfl, hy0, hb, hkp⟩; refine ⟨_, rfl, ?_⟩; replace HO_6 := Aside0.mk (Kd.R_mono (ok' := fun k_ => some k_ ≠ (.slice Ao25 t382.length co25 : Value).ownBlock) (Kd.R_keptB (HO_6.out) hkp (fun k_ hk_ hs_ => (hk_) hs_)) (fun k_ hk_ => hk_.1)); replace HO_8 := Aside0.mk (Kd.R_reok rfl hy0 (fun k_ e_ => HO_8.out.1 k_ e_)); replace HB := Aside0.mk (hb); (try clear hb); (try clear hkp); (try clear hy0)) | ((with_reducible refine gate_callee (f := 40) rfl ?_); refine goesL_ (some 55) rfl rfl Try.func40 (by kernel_rfl) rfl #[.slice Ao25 t394.length co25, .int .i64 1] rfl (by (try simp only [List.map_toArray, List.map_cons, List.map_nil]); first | done | (rw [show t394.length = t382.length from (Kd.R_reads' HO_8.out).1.symm] <;> rfl) | rfl | (simp only [List.length_drop, List.length_take]; rfl)) ?_; (with_reducible refine (laws_heldFieldS.calls kj16 _ _ t394 1 t395 _ ?side1 ?side2 A37.out).mono ?_); (case side1 => repeat (first | exact (Kd.R_reads' HO_8.out).2.2 | (with_reducible refine Kd.C_alloc ?_ _) | (with_reducible refine Kd.C_drewN ?_ _) | (with_reducible refine Kd.C_drew ?_))); (case side2 => rw [show t394.length = t382.length from (Kd.R_reads' HO_8.out).1.symm]; exact (Kd.R_reads' HO_8.out).2.1); rintro e w48 ⟨rfl, hb⟩; refine ⟨_, rfl, ?_⟩; replace HO_6 := kr HO_6 hb; replace HO_8 := kr HO_8 hb; replace HB := Aside0.mk (below_step bl hb); (try clear hb); (try clear hb2); (try clear hk); (try clear hi)) | ((with_reducible refine gate_callee (f := 24) rfl ?_); refine goesL_ (some 62) rfl rfl Try.func24 (by kernel_rfl) rfl #[.slice A0 l0.length c0] rfl ma ?_; (with_reducible refine (laws_toFieldS.calls kj16 _ _ l0 t396 _ ?side1 ?side2 A40.out).mono ?_); (case side1 => repeat (first | exact (Kd.C_below HR0.out HB.out) | (with_reducible refine Kd.C_alloc ?_ _) | (with_reducible refine Kd.C_drewN ?_ _) | (with_reducible refine Kd.C_drew ?_))); (case side2 => exact HC0.out); rintro e w49 ⟨v397, rfl, ho0, hb⟩; refine ⟨_, rfl, ?_⟩; have HO398 := Aside0.mk (Kd.R_lower (Kd.R_new' (Kd.R_new' ho0 (Kd.R_lt (ro HO_6))) (Kd.R_lt (ro HO_8))) (below_size bl)); replace HO_6 := Aside0.mk (Kd.R_elder' (ro HO_6) (Kd.R_base ho0) hb); replace HO_8 := Aside0.mk (Kd.R_elder' (ro HO_8) (Kd.R_base ho0) hb); replace HB := Aside0.mk (below_step bl hb); (try clear hb); (try clear hb2); (try clear hk); (try clear hi); (try clear ho0); obtain ⟨Ao50, co50, eo50⟩ := Kd.R_slice HO398.out; subst eo50) | ((with_reducible refine gate_callee (f := 47) rfl ?_); refine goesL_ (some 64) rfl rfl Try.func47 (by kernel_rfl) rfl #[.slice Ao50 t396.length co50, .string a1] rfl ma ?_; (with_reducible refine (impl_Drop.calls _ _ t396 a1 t399 _ ?side1 ?side2 A41.out).mono ?_); (case side1 => repeat (first | exact (Kd.R_reads' HO398.out).2.2 | (with_reducible refine Kd.C_alloc ?_ _) | (with_reducible refine Kd.C_drewN ?_ _) | (with_reducible refine Kd.C_drew ?_))); (case side2 => exact (Kd.R_reads' HO398.out).2.1); rintro e w51 ⟨v400, rfl, ho0, hb⟩; refine ⟨_, rfl, ?_⟩; have HO401 := Aside0.mk (Kd.R_lower (Kd.R_new' (Kd.R_new' (Kd.R_new' ho0 (Kd.R_lt (ro HO_6))) (Kd.R_lt (ro HO_8))) (Kd.R_lt (ro HO398))) (below_size bl)); replace HO_6 := Aside0.mk (Kd.R_elder' (ro HO_6) (Kd.R_base ho0) hb); replace HO_8 := Aside0.mk (Kd.R_elder' (ro HO_8) (Kd.R_base ho0) hb); replace HO398 := Aside0.mk (Kd.R_elder' (ro HO398) (Kd.R_base ho0) hb); replace HB := Aside0.mk (below_step bl hb); (try clear hb); (try clear hb2); (try clear hk); (try clear hi); (try clear ho0); obtain ⟨Ao52, co52, eo52⟩ := Kd.R_slice HO401.out; subst eo52) | ((with_reducible refine gate_callee (f := 26) rfl ?_); refine goesL_ (some 67) rfl rfl Try.func26 (by kernel_rfl) rfl #[.slice Ao52 t399.length co52, .slice Ao26 t376.length co26] rfl ma ?_; (with_reducible refine (laws_eqFieldS.calls kj16 _ _ t399 _ _ t376 true _ ?side1 ?side2 ?side3 ?side4 A42.out).mono ?_); (case side1 => repeat (first | exact (Kd.R_reads' HO401.out).2.2 | (with_reducible refine Kd.C_alloc ?_ _) | (with_reducible refine Kd.C_drewN ?_ _) | (with_reducible refine Kd.C_drew ?_))); (case side2 => exact (Kd.R_reads' HO401.out).2.1); (case side3 => repeat (first | exact (Kd.R_reads' HO_6.out).2.2 | (with_reducible refine Kd.C_alloc ?_ _) | (with_reducible refine Kd.C_drewN ?_ _) | (with_reducible refine Kd.C_drew ?_))); (case side4 => exact (Kd.R_reads' HO_6.out).2.1); rintro e w53 ⟨rfl, hb⟩; refine ⟨_, rfl, ?_⟩; replace HO_6 := kr HO_6 hb; replace HO_8 := kr HO_8 hb; replace HO398 := kr HO398 hb; replace HO401 := kr HO401 hb; replace HB := Aside0.mk (below_step bl hb); (try clear hb); (try clear hb2); (try clear hk); (try clear hi)) | ((with_reducible refine gate_callee (f := 40) rfl ?_); refine goesL_ (some 71) rfl rfl Try.func40 (by kernel_rfl) rfl #[.slice Ao25 t394.length co25, .int .i64 1] rfl (by (try simp only [List.map_toArray, List.map_cons, List.map_nil]); first | done | (rw [show t394.length = t382.length from (Kd.R_reads' HO_8.out).1.symm] <;> rfl) | rfl | (simp only [List.length_drop, List.length_take]; rfl)) ?_; (with_reducible refine (laws_heldFieldS.calls kj16 _ _ t394 1 t403 _ ?side1 ?side2 A44.out).mono ?_); (case side1 => repeat (first | exact (Kd.R_reads' HO_8.out).2.2 | (with_reducible refine Kd.C_alloc ?_ _) | (with_reducible refine Kd.C_drewN ?_ _) | (with_reducible refine Kd.C_drew ?_))); (case side2 => rw [show t394.length = t382.length from (Kd.R_reads' HO_8.out).1.symm]; exact (Kd.R_reads' HO_8.out).2.1); rintro e w54 ⟨rfl, hb⟩; refine ⟨_, rfl, ?_⟩; replace HO_6 := kr HO_6 hb; replace HO_8 := kr HO_8 hb; replace HO398 := kr HO398 hb; replace HO401 := kr HO401 hb; replace HB := Aside0.mk (below_step bl hb); (try clear hb); (try clear hb2); (try clear hk); (try clear hi)))
                          go_ret
                          exact ⟨rf, bl⟩
                        · rw [if_neg c46] at H
                          have c46b0 : (t403 == t393) = false := beq_eq_false_iff_ne.mpr c46
                          have c46b1 : (t403 != t393) = true := bne_iff_ne.mpr c46
                          exact absurd (Option.some.inj H) (by rw [ht_]; decide)
                    · replace c43 := Bool.eq_false_iff.mpr c43
                      subst c43
                      have H1 : (some false) = some r := by rw [if_neg (show ¬ (false = true) by decide)] at H; exact H
                      clear H
                      have H := H1
                      clear H1
                      exact absurd (Option.some.inj H) (by rw [ht_]; decide)
                  · rw [if_neg c39] at H
                    have c39b0 : (t395 == t393) = false := beq_eq_false_iff_ne.mpr c39
                    have c39b1 : (t395 != t393) = true := bne_iff_ne.mpr c39
                    exact absurd (Option.some.inj H) (by rw [ht_]; decide)
        · replace c15 := Bool.eq_false_iff.mpr c15
          subst c15
          have H1 : (some false) = some r := by rw [if_neg (show ¬ (false = true) by decide)] at H; exact H
          clear H
          have H := H1
          clear H1
          exact absurd (Option.some.inj H) (by rw [ht_]; decide)
      · replace c12 := Bool.eq_false_iff.mpr c12
        subst c12
        have H1 : (some false) = some r := by rw [if_neg (show ¬ (false = true) by decide)] at H; exact H
        clear H
        have H := H1
        clear H1
        exact absurd (Option.some.inj H) (by rw [ht_]; decide)

/-! ### laws_szResp: function 48 -/
def laws_szResp.f (k : Nat) (a0_0 : Int) (l0_1 : List (S79)) (a0_2 : ByteArray) (a1 : Int) : Option (Int) := (laws_szFieldS.f k l0_1 a1).bind fun t405 => (if t405 < 0 then (some (-1)) else (if (wrap64 (t405 - (a0_2.size : Int))) < 0 then (some (-1)) else (some (wrap64 (t405 - (a0_2.size : Int))))))
theorem laws_szResp.mono : ∀ a0 a1 a2 a3 k, LeO (laws_szResp.f k a0 a1 a2 a3) (laws_szResp.f (k + 1) a0 a1 a2 a3) := by
  intro a0 a1 a2 a3 k
  unfold laws_szResp.f
  repeat' first
      | (with_reducible exact laws_szFieldS.mono _ _ _)
      | (with_reducible exact LeO.refl _)
      | (with_reducible exact LeO.none _)
      | (with_reducible refine LeO.ite ?_ ?_)
      | (with_reducible refine LeO.bind ?_ (fun _ => ?_))
      | exact laws_szFieldS.mono _ _ _
      | exact LeO.none _
      | refine LeO.ite ?_ ?_
      | refine LeO.bind ?_ (fun _ => ?_)
set_option maxHeartbeats 8000000 in
set_option maxRecDepth 100000 in
theorem laws_szResp.calls (k : Nat) (a0_0 : Int) (A0_1 : Option Addr) (c0_1 : Nat) (l0_1 : List (S79)) (a0_2 : ByteArray) (a1 : Int) (r : Int) (w : World) (hr0_1 : Kd.C k79 w A0_1 l0_1.length l0_1) (hc0_1 : l0_1.length ≤ c0_1) (h : laws_szResp.f k a0_0 l0_1 a0_2 a1 = some r) :
    Calls Try.prog 48 #[.agg #[.int .i64 a0_0, .slice A0_1 l0_1.length c0_1, .string a0_2], .int .i64 a1] w fun e w' => e = .returned (.int .i64 r) ∧ Below w.heap.size w w' := by
  have hu60 := Try.underlying60
  have HR0_1 := Aside0.mk hr0_1
  have HC0_1 := Aside0.mk hc0_1
  clear hr0_1 hc0_1
  have HB := Aside0.mk (Below.refl w.heap.size w)
  have H : ((laws_szFieldS.f k l0_1 a1).bind fun t405 => (if t405 < 0 then (some (-1)) else (if (wrap64 (t405 - (a0_2.size : Int))) < 0 then (some (-1)) else (some (wrap64 (t405 - (a0_2.size : Int))))))) = some r := h
  clear h
  replace H := Option.bind_eq_some_iff.mp H
  obtain ⟨t405, A30, H⟩ := H
  replace H : (if t405 < 0 then (some (-1)) else (if (wrap64 (t405 - (a0_2.size : Int))) < 0 then (some (-1)) else (some (wrap64 (t405 - (a0_2.size : Int)))))) = some r := H
  have A3 := Aside0.mk A30
  clear A30
  by_cases c4 : t405 < 0
  · rw [if_pos c4] at H
    have c4b0 : decide (t405 < 0) = true := decide_eq_true c4
    clear c4
    obtain rfl := Option.some.inj H
    go_enter Try.func48, Try.ntmps48
    go_wp2_with (first | ((with_reducible refine gate_dst (N := 2) rfl ?_); refine box_event ?hg (N := 2) ?hd (cs := #[.int .i64 a0_0, .slice A0_1 l0_1.length c0_1, .string a0_2]) (t := 60) ?hr ?_; (case hd => rfl); (case hg => rfl); (case hr => first | (go_simp; done) | (go_simp; rfl)); intro gb404 hg w5 hbox hb; have n0_ := Aside0.mk (below_step bl hb); have n1_ := Aside0.mk (hbox); have n2_ := Aside0.mk ((by rw [hg]; exact (below_size bl) : w.heap.size ≤ gb404)); have n3_ := Aside0.mk ((by rw [hg]; exact (below_size bl) : w.heap.size ≤ gb404)); clear HB; have HB := n0_; have BK404 := n1_; have GW404 := n2_; have GE404 := n3_; clear n0_ n1_ n2_ n3_; clear hb hbox hg; have hcz6_0 : w5.cell? ⟨gb404, 0, none⟩ = some (.int .i64 a0_0) := (blk_cell BK404.out 0).trans rfl; have hcz6_1 : w5.cell? ⟨gb404, 1, none⟩ = some (.slice A0_1 l0_1.length c0_1) := (blk_cell BK404.out 1).trans rfl; have hcz6_2 : w5.cell? ⟨gb404, 2, none⟩ = some (.string a0_2) := (blk_cell BK404.out 2).trans rfl; have hfz6_0 := blk_frozen BK404.out 0; have hfz6_1 := blk_frozen BK404.out 1; have hfz6_2 := blk_frozen BK404.out 2) | ((with_reducible refine gate_callee (f := 22) rfl ?_); refine goesL_ (some 8) rfl rfl Try.func22 (by kernel_rfl) rfl #[.slice A0_1 l0_1.length c0_1, .int .i64 a1] rfl ma ?_; (with_reducible refine (laws_szFieldS.calls k _ _ l0_1 a1 t405 _ ?side1 ?side2 A3.out).mono ?_); (case side1 => repeat (first | exact (Kd.C_below HR0_1.out HB.out) | (with_reducible refine Kd.C_alloc ?_ _) | (with_reducible refine Kd.C_drewN ?_ _) | (with_reducible refine Kd.C_drew ?_))); (case side2 => exact HC0_1.out); rintro e w7 ⟨rfl, hb⟩; refine ⟨_, rfl, ?_⟩; replace BK404 := kb BK404 hb; replace HB := Aside0.mk (below_step bl hb); (try clear hb); (try clear hb2); (try clear hk); (try clear hi)))
    go_ret
    exact ⟨rf, bl⟩
  · rw [if_neg c4] at H
    have c4b0 : decide (t405 < 0) = false := decide_eq_false c4
    clear c4
    by_cases c8 : (wrap64 (t405 - (a0_2.size : Int))) < 0
    · rw [if_pos c8] at H
      have c8b0 : decide ((wrap64 (t405 - (a0_2.size : Int))) < 0) = true := decide_eq_true c8
      clear c8
      obtain rfl := Option.some.inj H
      go_enter Try.func48, Try.ntmps48
      go_wp2_with (first | ((with_reducible refine gate_dst (N := 2) rfl ?_); refine box_event ?hg (N := 2) ?hd (cs := #[.int .i64 a0_0, .slice A0_1 l0_1.length c0_1, .string a0_2]) (t := 60) ?hr ?_; (case hd => rfl); (case hg => rfl); (case hr => first | (go_simp; done) | (go_simp; rfl)); intro gb404 hg w9 hbox hb; have n0_ := Aside0.mk (below_step bl hb); have n1_ := Aside0.mk (hbox); have n2_ := Aside0.mk ((by rw [hg]; exact (below_size bl) : w.heap.size ≤ gb404)); have n3_ := Aside0.mk ((by rw [hg]; exact (below_size bl) : w.heap.size ≤ gb404)); clear HB; have HB := n0_; have BK404 := n1_; have GW404 := n2_; have GE404 := n3_; clear n0_ n1_ n2_ n3_; clear hb hbox hg; have hcz10_0 : w9.cell? ⟨gb404, 0, none⟩ = some (.int .i64 a0_0) := (blk_cell BK404.out 0).trans rfl; have hcz10_1 : w9.cell? ⟨gb404, 1, none⟩ = some (.slice A0_1 l0_1.length c0_1) := (blk_cell BK404.out 1).trans rfl; have hcz10_2 : w9.cell? ⟨gb404, 2, none⟩ = some (.string a0_2) := (blk_cell BK404.out 2).trans rfl; have hfz10_0 := blk_frozen BK404.out 0; have hfz10_1 := blk_frozen BK404.out 1; have hfz10_2 := blk_frozen BK404.out 2) | ((with_reducible refine gate_callee (f := 22) rfl ?_); refine goesL_ (some 8) rfl rfl Try.func22 (by kernel_rfl) rfl #[.slice A0_1 l0_1.length c0_1, .int .i64 a1] rfl ma ?_; (with_reducible refine (laws_szFieldS.calls k _ _ l0_1 a1 t405 _ ?side1 ?side2 A3.out).mono ?_); (case side1 => repeat (first | exact (Kd.C_below HR0_1.out HB.out) | (with_reducible refine Kd.C_alloc ?_ _) | (with_reducible refine Kd.C_drewN ?_ _) | (with_reducible refine Kd.C_drew ?_))); (case side2 => exact HC0_1.out); rintro e w11 ⟨rfl, hb⟩; refine ⟨_, rfl, ?_⟩; replace BK404 := kb BK404 hb; replace HB := Aside0.mk (below_step bl hb); (try clear hb); (try clear hb2); (try clear hk); (try clear hi); have hcz12_0 : w11.cell? ⟨gb404, 0, none⟩ = some (.int .i64 a0_0) := (blk_cell BK404.out 0).trans rfl; have hcz12_1 : w11.cell? ⟨gb404, 1, none⟩ = some (.slice A0_1 l0_1.length c0_1) := (blk_cell BK404.out 1).trans rfl; have hcz12_2 : w11.cell? ⟨gb404, 2, none⟩ = some (.string a0_2) := (blk_cell BK404.out 2).trans rfl; have hfz12_0 := blk_frozen BK404.out 0; have hfz12_1 := blk_frozen BK404.out 1; have hfz12_2 := blk_frozen BK404.out 2))
      go_ret
      exact ⟨rf, bl⟩
    · rw [if_neg c8] at H
      have c8b0 : decide ((wrap64 (t405 - (a0_2.size : Int))) < 0) = false := decide_eq_false c8
      clear c8
      obtain rfl := Option.some.inj H
      go_enter Try.func48, Try.ntmps48
      go_wp2_with (first | ((with_reducible refine gate_dst (N := 2) rfl ?_); refine box_event ?hg (N := 2) ?hd (cs := #[.int .i64 a0_0, .slice A0_1 l0_1.length c0_1, .string a0_2]) (t := 60) ?hr ?_; (case hd => rfl); (case hg => rfl); (case hr => first | (go_simp; done) | (go_simp; rfl)); intro gb404 hg w13 hbox hb; have n0_ := Aside0.mk (below_step bl hb); have n1_ := Aside0.mk (hbox); have n2_ := Aside0.mk ((by rw [hg]; exact (below_size bl) : w.heap.size ≤ gb404)); have n3_ := Aside0.mk ((by rw [hg]; exact (below_size bl) : w.heap.size ≤ gb404)); clear HB; have HB := n0_; have BK404 := n1_; have GW404 := n2_; have GE404 := n3_; clear n0_ n1_ n2_ n3_; clear hb hbox hg; have hcz14_0 : w13.cell? ⟨gb404, 0, none⟩ = some (.int .i64 a0_0) := (blk_cell BK404.out 0).trans rfl; have hcz14_1 : w13.cell? ⟨gb404, 1, none⟩ = some (.slice A0_1 l0_1.length c0_1) := (blk_cell BK404.out 1).trans rfl; have hcz14_2 : w13.cell? ⟨gb404, 2, none⟩ = some (.string a0_2) := (blk_cell BK404.out 2).trans rfl; have hfz14_0 := blk_frozen BK404.out 0; have hfz14_1 := blk_frozen BK404.out 1; have hfz14_2 := blk_frozen BK404.out 2) | ((with_reducible refine gate_callee (f := 22) rfl ?_); refine goesL_ (some 8) rfl rfl Try.func22 (by kernel_rfl) rfl #[.slice A0_1 l0_1.length c0_1, .int .i64 a1] rfl ma ?_; (with_reducible refine (laws_szFieldS.calls k _ _ l0_1 a1 t405 _ ?side1 ?side2 A3.out).mono ?_); (case side1 => repeat (first | exact (Kd.C_below HR0_1.out HB.out) | (with_reducible refine Kd.C_alloc ?_ _) | (with_reducible refine Kd.C_drewN ?_ _) | (with_reducible refine Kd.C_drew ?_))); (case side2 => exact HC0_1.out); rintro e w15 ⟨rfl, hb⟩; refine ⟨_, rfl, ?_⟩; replace BK404 := kb BK404 hb; replace HB := Aside0.mk (below_step bl hb); (try clear hb); (try clear hb2); (try clear hk); (try clear hi); have hcz16_0 : w15.cell? ⟨gb404, 0, none⟩ = some (.int .i64 a0_0) := (blk_cell BK404.out 0).trans rfl; have hcz16_1 : w15.cell? ⟨gb404, 1, none⟩ = some (.slice A0_1 l0_1.length c0_1) := (blk_cell BK404.out 1).trans rfl; have hcz16_2 : w15.cell? ⟨gb404, 2, none⟩ = some (.string a0_2) := (blk_cell BK404.out 2).trans rfl; have hfz16_0 := blk_frozen BK404.out 0; have hfz16_1 := blk_frozen BK404.out 1; have hfz16_2 := blk_frozen BK404.out 2))
      go_ret
      exact ⟨rf, bl⟩

end Go.Proofs.Ytdlgjhckmkmjhaa.All
