-- Written by a program of this session (wip/tools/hprint.py) out of the translation. Lean checks it.
import Derived.Test.YtiinmfjbildclaaDoorAllx0
import Derived.Test.YtiinmfjbildclaaDoorAllx34
import Derived.Test.YtiinmfjbildclaaDoorAllx36
namespace Go.Proofs.YtiinmfjbildclaaDoor.All
open Go.RowKit Go.Proofs.YtiinmfjbildclaaDoorW.PrintWords Go.Proofs.YtiinmfjbildclaaDoorW.PrintLast Go.Proofs.YtiinmfjbildclaaDoorW.PrintMore
attribute [local go_sem] max2_int min2_int max_two min_two max_three min_three max_four min_four   -- for this text's walks alone
set_option linter.unusedVariables false
set_option linter.unusedSimpArgs false

/-! ### laws_FnExactRespText: function 6 -/
def laws_FnExactRespText.f (k : Nat) (a0_0 : Int) (l0_1 : List (S113)) (a0_2 : ByteArray) : Option (Bool) := (laws_szResp.f k a0_0 l0_1 a0_2 1048576).bind fun t892 => (if t892 < 0 then (some true) else ((laws_toResp.f k a0_0 l0_1 a0_2).bind fun bt893 => ((spec_RespText.f k bt893.1 bt893.2.1 bt893.2.2).bind fun t898 => ((laws_toResp.f k a0_0 l0_1 a0_2).bind fun bt899 => ((impl_RespText.f k bt899.1 bt899.2.1 bt899.2.2).bind fun t905 => (if t905.toList = t898.toList then ((laws_toResp.f k a0_0 l0_1 a0_2).bind fun bt906 => ((laws_eqResp.f k bt899.1 bt899.2.1 bt899.2.2 bt906.1 bt906.2.1 bt906.2.2).bind fun t911 => (if t911 = true then (some true) else (some false)))) else (some false)))))))
theorem laws_FnExactRespText.mono : ∀ a0 a1 a2 k, LeO (laws_FnExactRespText.f k a0 a1 a2) (laws_FnExactRespText.f (k + 1) a0 a1 a2) := by
 intro a0 a1 a2 k
 unfold laws_FnExactRespText.f
 repeat' first
   | (with_reducible exact impl_RespText.mono _ _ _ _)
   | (with_reducible exact laws_eqResp.mono _ _ _ _ _ _ _)
   | (with_reducible exact laws_szResp.mono _ _ _ _ _)
   | (with_reducible exact laws_toResp.mono _ _ _ _)
   | (with_reducible exact spec_RespText.mono _ _ _ _)
   | (with_reducible exact LeO.refl _)
   | (with_reducible exact LeO.none _)
   | (with_reducible refine LeO.ite ?_ ?_)
   | (with_reducible refine LeO.bind ?_ (fun _ => ?_))
   | exact impl_RespText.mono _ _ _ _
   | exact laws_eqResp.mono _ _ _ _ _ _ _
   | exact laws_szResp.mono _ _ _ _ _
   | exact laws_toResp.mono _ _ _ _
   | exact spec_RespText.mono _ _ _ _
   | exact LeO.none _
   | refine LeO.ite ?_ ?_
   | refine LeO.bind ?_ (fun _ => ?_)
set_option maxHeartbeats 8000000 in
set_option maxRecDepth 100000 in
theorem laws_FnExactRespText.calls (k : Nat) (a0_0 : Int) (A0_1 : Option Addr) (c0_1 : Nat) (l0_1 : List (S113)) (a0_2 : ByteArray) (r : Bool) (w : World) (hGT : GLOBT w) (hr0_1 : Kd.C k113 w A0_1 l0_1.length l0_1) (hc0_1 : l0_1.length ≤ c0_1) (ht_ : r = true) (h : laws_FnExactRespText.f k a0_0 l0_1 a0_2 = some r) :
  Calls Tryd.prog 6 #[.agg #[.int .i64 a0_0, .slice A0_1 l0_1.length c0_1, .string a0_2]] w fun e w' => e = .returned (.bool r) ∧ Below w.heap.size w w' := by
 have hu51 := Tryd.underlying51
 have hu43 := Tryd.underlying43
 have HR0_1 := am hr0_1
 have HC0_1 := am hc0_1
 clear hr0_1 hc0_1
 have HGT := am hGT
 clear hGT
 have HB := am (Below.refl w.heap.size w)
 have H : ((laws_szResp.f k a0_0 l0_1 a0_2 1048576).bind fun t892 => (if t892 < 0 then (some true) else ((laws_toResp.f k a0_0 l0_1 a0_2).bind fun bt893 => ((spec_RespText.f k bt893.1 bt893.2.1 bt893.2.2).bind fun t898 => ((laws_toResp.f k a0_0 l0_1 a0_2).bind fun bt899 => ((impl_RespText.f k bt899.1 bt899.2.1 bt899.2.2).bind fun t905 => (if t905.toList = t898.toList then ((laws_toResp.f k a0_0 l0_1 a0_2).bind fun bt906 => ((laws_eqResp.f k bt899.1 bt899.2.1 bt899.2.2 bt906.1 bt906.2.1 bt906.2.2).bind fun t911 => (if t911 = true then (some true) else (some false)))) else (some false)))))))) = some r := h
 clear h
 replace H := ob H
 obtain ⟨t892, A20, H⟩ := H
 replace H : (if t892 < 0 then (some true) else ((laws_toResp.f k a0_0 l0_1 a0_2).bind fun bt893 => ((spec_RespText.f k bt893.1 bt893.2.1 bt893.2.2).bind fun t898 => ((laws_toResp.f k a0_0 l0_1 a0_2).bind fun bt899 => ((impl_RespText.f k bt899.1 bt899.2.1 bt899.2.2).bind fun t905 => (if t905.toList = t898.toList then ((laws_toResp.f k a0_0 l0_1 a0_2).bind fun bt906 => ((laws_eqResp.f k bt899.1 bt899.2.1 bt899.2.2 bt906.1 bt906.2.1 bt906.2.2).bind fun t911 => (if t911 = true then (some true) else (some false)))) else (some false))))))) = some r := H
 have A2 := am A20
 clear A20
 by_cases c3 : t892 < 0
 ·rw [if_pos c3] at H
  have c3b0 : decide (t892 < 0) = true := decide_eq_true c3
  clear c3
  obtain rfl := Option.some.inj H
  go_enter Tryd.func6, Tryd.ntmps6
  go_wp2_with (first | ((with_reducible refine gate_dst (N := 1) rfl ?_); refine box_event ?hg (N := 1) ?hd (cs := #[.int .i64 a0_0, .slice A0_1 l0_1.length c0_1, .string a0_2]) (t := 51) ?hr ?_; (case hd => rfl); (case hg => rfl); (case hr => first | (go_simp; done) | (go_simp; rfl)); intro gb891 hg w4 hbox hb; have n0_ := am (below_step bl hb); have n1_ := am (hbox); have n2_ := am (sz hg : w.heap.size ≤ gb891); have n3_ := am (sz hg : w.heap.size ≤ gb891); clear HB; have HB := n0_; have BK891 := n1_; have GW891 := n2_; have GE891 := n3_; clear n0_ n1_ n2_ n3_; clear hb hbox hg; have hcz5_0 : w4.cell? ⟨gb891, 0, none⟩ = some (.int .i64 a0_0) := bc BK891; have hcz5_1 : w4.cell? ⟨gb891, 1, none⟩ = some (.slice A0_1 l0_1.length c0_1) := bc BK891; have hcz5_2 : w4.cell? ⟨gb891, 2, none⟩ = some (.string a0_2) := bc BK891; have hfz5_0 := blk_frozen BK891.out 0; have hfz5_1 := blk_frozen BK891.out 1; have hfz5_2 := blk_frozen BK891.out 2) | ((with_reducible refine gate_callee (f := 41) rfl ?_); refine goesL_ (some 9) rfl rfl Tryd.func41 (by kernel_rfl) rfl #[.agg #[.int .i64 a0_0, .slice A0_1 l0_1.length c0_1, .string a0_2], .int .i64 1048576] rfl ma ?_; (with_reducible refine (laws_szResp.calls k a0_0 _ _ l0_1 a0_2 1048576 t892 _ ?side1 ?side2 A2.out).mono ?_); (case side1 => exact cb HR0_1); (case side2 => exact HC0_1.out); rintro e w6 ⟨rfl, hb⟩; refine ⟨_, rfl, ?_⟩; replace BK891 := kb BK891 hb; replace HB := am (below_step bl hb); (try clear hb); (try clear hb2); (try clear hk); (try clear hi)))
  go_ret
  exact ⟨rf, bl⟩
 ·rw [if_neg c3] at H
  have c3b0 : decide (t892 < 0) = false := decide_eq_false c3
  clear c3
  replace H := ob H
  obtain ⟨⟨t893, t894, t897⟩, A70, H⟩ := H
  replace H : ((spec_RespText.f k t893 t894 t897).bind fun t898 => ((laws_toResp.f k a0_0 l0_1 a0_2).bind fun bt899 => ((impl_RespText.f k bt899.1 bt899.2.1 bt899.2.2).bind fun t905 => (if t905.toList = t898.toList then ((laws_toResp.f k a0_0 l0_1 a0_2).bind fun bt906 => ((laws_eqResp.f k bt899.1 bt899.2.1 bt899.2.2 bt906.1 bt906.2.1 bt906.2.2).bind fun t911 => (if t911 = true then (some true) else (some false)))) else (some false))))) = some r := H
  have A7 := am A70
  clear A70
  replace H := ob H
  obtain ⟨t898, A80, H⟩ := H
  replace H : ((laws_toResp.f k a0_0 l0_1 a0_2).bind fun bt899 => ((impl_RespText.f k bt899.1 bt899.2.1 bt899.2.2).bind fun t905 => (if t905.toList = t898.toList then ((laws_toResp.f k a0_0 l0_1 a0_2).bind fun bt906 => ((laws_eqResp.f k bt899.1 bt899.2.1 bt899.2.2 bt906.1 bt906.2.1 bt906.2.2).bind fun t911 => (if t911 = true then (some true) else (some false)))) else (some false)))) = some r := H
  have A8 := am A80
  clear A80
  replace H := ob H
  obtain ⟨⟨t899, t900, t903⟩, A90, H⟩ := H
  replace H : ((impl_RespText.f k t899 t900 t903).bind fun t905 => (if t905.toList = t898.toList then ((laws_toResp.f k a0_0 l0_1 a0_2).bind fun bt906 => ((laws_eqResp.f k t899 t900 t903 bt906.1 bt906.2.1 bt906.2.2).bind fun t911 => (if t911 = true then (some true) else (some false)))) else (some false))) = some r := H
  have A9 := am A90
  clear A90
  replace H := ob H
  obtain ⟨t905, A100, H⟩ := H
  replace H : (if t905.toList = t898.toList then ((laws_toResp.f k a0_0 l0_1 a0_2).bind fun bt906 => ((laws_eqResp.f k t899 t900 t903 bt906.1 bt906.2.1 bt906.2.2).bind fun t911 => (if t911 = true then (some true) else (some false)))) else (some false)) = some r := H
  have A10 := am A100
  clear A100
  by_cases c11 : t905.toList = t898.toList
  ·rw [if_pos c11] at H
   have c11b0 : (t905.toList == t898.toList) = true := beq_iff_eq.mpr c11
   have c11b1 : (t905.toList != t898.toList) = false := bne_eq_false_iff_eq.mpr c11
   clear c11
   replace H := ob H
   obtain ⟨⟨t906, t907, t910⟩, A120, H⟩ := H
   replace H : ((laws_eqResp.f k t899 t900 t903 t906 t907 t910).bind fun t911 => (if t911 = true then (some true) else (some false))) = some r := H
   have A12 := am A120
   clear A120
   replace H := ob H
   obtain ⟨t911, A130, H⟩ := H
   replace H : (if t911 = true then (some true) else (some false)) = some r := H
   have A13 := am A130
   clear A130
   by_cases c14 : t911 = true
   ·subst c14
    have H1 : (some true) = some r := by rw [if_pos rfl] at H; exact H
    clear H
    have H := H1
    clear H1
    obtain rfl := Option.some.inj H
    go_enter Tryd.func6, Tryd.ntmps6
    try go_wp2_with (first | ((with_reducible refine gate_dst (N := 1) rfl ?_); refine box_event ?hg (N := 1) ?hd (cs := #[.int .i64 a0_0, .slice A0_1 l0_1.length c0_1, .string a0_2]) (t := 51) ?hr ?_; (case hd => rfl); (case hg => rfl); (case hr => first | (go_simp; done) | (go_simp; rfl)); intro gb891 hg w15 hbox hb; have n0_ := am (below_step bl hb); have n1_ := am (hbox); have n2_ := am (sz hg : w.heap.size ≤ gb891); have n3_ := am (sz hg : w.heap.size ≤ gb891); clear HB; have HB := n0_; have BK891 := n1_; have GW891 := n2_; have GE891 := n3_; clear n0_ n1_ n2_ n3_; clear hb hbox hg; have hcz16_0 : w15.cell? ⟨gb891, 0, none⟩ = some (.int .i64 a0_0) := bc BK891; have hcz16_1 : w15.cell? ⟨gb891, 1, none⟩ = some (.slice A0_1 l0_1.length c0_1) := bc BK891; have hcz16_2 : w15.cell? ⟨gb891, 2, none⟩ = some (.string a0_2) := bc BK891; have hfz16_0 := blk_frozen BK891.out 0; have hfz16_1 := blk_frozen BK891.out 1; have hfz16_2 := blk_frozen BK891.out 2) | ((with_reducible refine gate_callee (f := 41) rfl ?_); refine goesL_ (some 9) rfl rfl Tryd.func41 (by kernel_rfl) rfl #[.agg #[.int .i64 a0_0, .slice A0_1 l0_1.length c0_1, .string a0_2], .int .i64 1048576] rfl ma ?_; (with_reducible refine (laws_szResp.calls k a0_0 _ _ l0_1 a0_2 1048576 t892 _ ?side1 ?side2 A2.out).mono ?_); (case side1 => exact cb HR0_1); (case side2 => exact HC0_1.out); rintro e w17 ⟨rfl, hb⟩; refine ⟨_, rfl, ?_⟩; replace BK891 := kb BK891 hb; replace HB := am (below_step bl hb); (try clear hb); (try clear hb2); (try clear hk); (try clear hi); have hcz18_0 : w17.cell? ⟨gb891, 0, none⟩ = some (.int .i64 a0_0) := bc BK891; have hcz18_1 : w17.cell? ⟨gb891, 1, none⟩ = some (.slice A0_1 l0_1.length c0_1) := bc BK891; have hcz18_2 : w17.cell? ⟨gb891, 2, none⟩ = some (.string a0_2) := bc BK891; have hfz18_0 := blk_frozen BK891.out 0; have hfz18_1 := blk_frozen BK891.out 1; have hfz18_2 := blk_frozen BK891.out 2) | ((with_reducible refine gate_callee (f := 43) rfl ?_); refine goesL_ (some 13) rfl rfl Tryd.func43 (by kernel_rfl) rfl #[.agg #[.int .i64 a0_0, .slice A0_1 l0_1.length c0_1, .string a0_2]] rfl ma ?_; (with_reducible refine (laws_toResp.calls k a0_0 _ _ l0_1 a0_2 t893 t894 t897 _ ?side1 ?side2 A7.out).mono ?_); (case side1 => exact cb HR0_1); (case side2 => exact HC0_1.out); rintro e w19 ⟨v895, rfl, ho0, hb⟩; refine ⟨_, rfl, ?_⟩; have HO896 := am (Kd.R_lower ho0 (below_size bl)); replace BK891 := kb BK891 hb; replace HB := am (below_step bl hb); (try clear hb); (try clear hb2); (try clear hk); (try clear hi); (try clear ho0); obtain ⟨Ao20, co20, eo20⟩ := Kd.R_slice HO896.out; subst eo20) | ((with_reducible refine gate_callee (f := 42) rfl ?_); refine goesL_ (some 14) rfl rfl Tryd.func42 (by kernel_rfl) rfl #[.agg #[.int .i64 t893, .slice Ao20 t894.length co20, .string t897]] rfl ma ?_; (with_reducible refine (spec_RespText.calls k t893 _ _ t894 t897 t898 _ ?side1 ?side2 A8.out).mono ?_); (case side1 => exact rc HO896); (case side2 => exact (Kd.R_reads' HO896.out).2.1); rintro e w21 ⟨rfl, hb⟩; refine ⟨_, rfl, ?_⟩; replace HO896 := kr HO896 hb; replace BK891 := kb BK891 hb; replace HB := am (below_step bl hb); (try clear hb); (try clear hb2); (try clear hk); (try clear hi); have hcz22_0 : w21.cell? ⟨gb891, 0, none⟩ = some (.int .i64 a0_0) := bc BK891; have hcz22_1 : w21.cell? ⟨gb891, 1, none⟩ = some (.slice A0_1 l0_1.length c0_1) := bc BK891; have hcz22_2 : w21.cell? ⟨gb891, 2, none⟩ = some (.string a0_2) := bc BK891; have hfz22_0 := blk_frozen BK891.out 0; have hfz22_1 := blk_frozen BK891.out 1; have hfz22_2 := blk_frozen BK891.out 2) | ((with_reducible refine gate_callee (f := 43) rfl ?_); refine goesL_ (some 16) rfl rfl Tryd.func43 (by kernel_rfl) rfl #[.agg #[.int .i64 a0_0, .slice A0_1 l0_1.length c0_1, .string a0_2]] rfl ma ?_; (with_reducible refine (laws_toResp.calls k a0_0 _ _ l0_1 a0_2 t899 t900 t903 _ ?side1 ?side2 A9.out).mono ?_); (case side1 => exact cb HR0_1); (case side2 => exact HC0_1.out); rintro e w23 ⟨v901, rfl, ho0, hb⟩; refine ⟨_, rfl, ?_⟩; have HO902 := am (Kd.R_lower (Kd.R_new' ho0 (Kd.R_lt (ro HO896))) (below_size bl)); replace HO896 := am (Kd.R_elder' (ro HO896) (Kd.R_base ho0) hb); replace BK891 := kb BK891 hb; replace HB := am (below_step bl hb); (try clear hb); (try clear hb2); (try clear hk); (try clear hi); (try clear ho0)) | ((with_reducible refine gate_dst (N := 5) rfl ?_); refine box_event ?hg (N := 5) ?hd (cs := #[.int .i64 0, .slice none 0 0, .string (⟨#[]⟩ : ByteArray)]) (t := 43) ?hr ?_; (case hd => rfl); (case hg => rfl); (case hr => first | (go_simp; done) | (go_simp; rfl)); intro gb904 hg w24 hbox hb; have n0_ := am (Kd.R_below (ro HO896) hb); have n1_ := am (Kd.R_below (ro HO902) hb); have n2_ := kb BK891 hb; have n3_ := am (below_step bl hb); have n4_ := am (hbox); have n5_ := am (sz hg : w.heap.size ≤ gb904); have n6_ := am (sz hg : w.heap.size ≤ gb904); have n7_ := am (nl hg BK891 : gb891 ≠ gb904); have n8_ := am (ng hg BK891 : gb904 ≠ gb891); clear HO896; clear HO902; clear BK891; clear HB; have HO896 := n0_; have HO902 := n1_; have BK891 := n2_; have HB := n3_; have BK904 := n4_; have GW904 := n5_; have GE904 := n6_; have NB891_904 := n7_; have NB904_891 := n8_; clear n0_ n1_ n2_ n3_ n4_ n5_ n6_ n7_ n8_; clear hb hbox hg; have hnb25 := NB904_891.out; have hnc25 := NB891_904.out; have hcz26_0 : w24.cell? ⟨gb904, 0, none⟩ = some (.int .i64 0) := bc BK904; have hcz26_1 : w24.cell? ⟨gb904, 1, none⟩ = some (.slice none 0 0) := bc BK904; have hcz26_2 : w24.cell? ⟨gb904, 2, none⟩ = some (.string (⟨#[]⟩ : ByteArray)) := bc BK904; have hfz26_0 := blk_frozen BK904.out 0; have hfz26_1 := blk_frozen BK904.out 1; have hfz26_2 := blk_frozen BK904.out 2; obtain ⟨Ao27, co27, eo27⟩ := Kd.R_slice HO902.out; subst eo27) | ((with_reducible refine gate_callee (f := 44) rfl ?_); refine goesL_ (some 18) rfl rfl Tryd.func44 (by kernel_rfl) rfl #[.agg #[.int .i64 t899, .slice Ao27 t900.length co27, .string t903]] rfl ma ?_; (with_reducible refine (impl_RespText.calls k t899 _ _ t900 t903 t905 _ ?side1 ?side2 ?side3 A10.out).mono ?_); (case side1 => exact GLOBT.below HGT.out bl); (case side2 => refine (Kd.R_reads' (e := 114) (base := w.heap.size) (ok := fun k_ => (True ∧ some k_ ≠ (.slice Ao20 t894.length co20 : Value).ownBlock)) (n := t900.length) (c := co27) ?_).2.2; exact (by (with_reducible repeat (first | apply Kd.R_alloc | apply Kd.R_drewN | apply Kd.R_drew)); exact (Kd.R_mono (Kd.R_far (p := ⟨gb904, 2, none⟩) (Kd.R_far (p := ⟨gb904, 1, none⟩) (Kd.R_far (p := ⟨gb904, 0, none⟩) (Kd.R_types HO902.out BK904.out (by decide)) (fun _ hk => hk.2) (.int .i64 t899)) (fun _ hk => hk.2) (.slice Ao27 t900.length co27)) (fun _ hk => hk.2) (.string t903)) (fun _ h_ => h_.1)))); (case side3 => exact (Kd.R_reads' HO902.out).2.1); rintro e w28 ⟨rfl, hb⟩; refine ⟨_, rfl, ?_⟩; have n0_ := am (Kd.R_below (by (with_reducible repeat (first | apply Kd.R_alloc | apply Kd.R_drewN | apply Kd.R_drew)); exact (Kd.R_mono (Kd.R_far (p := ⟨gb904, 2, none⟩) (Kd.R_far (p := ⟨gb904, 1, none⟩) (Kd.R_far (p := ⟨gb904, 0, none⟩) (Kd.R_types HO896.out BK904.out (by decide)) (fun _ hk => hk.2) (.int .i64 t899)) (fun _ hk => hk.2) (.slice Ao27 t900.length co27)) (fun _ hk => hk.2) (.string t903)) (fun _ h_ => h_.1))) hb); have n1_ := am (Kd.R_below (by (with_reducible repeat (first | apply Kd.R_alloc | apply Kd.R_drewN | apply Kd.R_drew)); exact (Kd.R_mono (Kd.R_far (p := ⟨gb904, 2, none⟩) (Kd.R_far (p := ⟨gb904, 1, none⟩) (Kd.R_far (p := ⟨gb904, 0, none⟩) (Kd.R_types HO902.out BK904.out (by decide)) (fun _ hk => hk.2) (.int .i64 t899)) (fun _ hk => hk.2) (.slice Ao27 t900.length co27)) (fun _ hk => hk.2) (.string t903)) (fun _ h_ => h_.1))) hb); have n2_ := kf BK891 hb; have n3_ := am (blk_below (g := gb904) (o := .cells #[.int .i64 t899, .slice Ao27 t900.length co27, .string t903] 43 (0, 0)) (by (with_reducible repeat (first | refine blk_drewN ?_ _ | refine blk_drew ?_ | refine blk_alloc ?_ _)); refine blk_put (cs := #[.int .i64 t899, .slice Ao27 t900.length co27, .string (⟨#[]⟩ : ByteArray)]) ?_ 2 _ rfl; (with_reducible repeat (first | refine blk_drewN ?_ _ | refine blk_drew ?_ | refine blk_alloc ?_ _)); refine blk_put (cs := #[.int .i64 t899, .slice none 0 0, .string (⟨#[]⟩ : ByteArray)]) ?_ 1 _ rfl; (with_reducible repeat (first | refine blk_drewN ?_ _ | refine blk_drew ?_ | refine blk_alloc ?_ _)); refine blk_put (cs := #[.int .i64 0, .slice none 0 0, .string (⟨#[]⟩ : ByteArray)]) ?_ 0 _ rfl; (with_reducible repeat (first | refine blk_drewN ?_ _ | refine blk_drew ?_ | refine blk_alloc ?_ _)); exact BK904.out) hb); have n4_ := am (below_step bl hb); clear HO896; clear HO902; clear BK891; clear BK904; clear HB; have HO896 := n0_; have HO902 := n1_; have BK891 := n2_; have BK904 := n3_; have HB := n4_; clear n0_ n1_ n2_ n3_ n4_; (try clear hb); (try clear hb2); (try clear hk); (try clear hi)))
    replace HO896 := am (Kd.R_drew HO896.out)
    replace HO902 := am (Kd.R_drew HO902.out)
    replace BK891 := am (blk_drew BK891.out)
    replace BK904 := am (blk_drew BK904.out)
    replace HB := am (below_drew1 HB.out)
    refine start_ (n := 5) (S := fun w' => w'.cell? ⟨gb904, 0, none⟩ = some (.int .i64 t899) ∧ w'.cell? ⟨gb904, 1, none⟩ = some (.slice Ao27 t900.length co27) ∧ w'.cell? ⟨gb904, 2, none⟩ = some (.string t903) ∧ w'.cell? ⟨gb891, 0, none⟩ = some (.int .i64 a0_0) ∧ w'.cell? ⟨gb891, 1, none⟩ = some (.slice A0_1 l0_1.length c0_1) ∧ w'.cell? ⟨gb891, 2, none⟩ = some (.string a0_2)) (ds := []) #[false, false, false, false, false] (by kernel_rfl) rfl rfl ⟨bc BK904, bc BK904, bc BK904, bc BK891, bc BK891, bc BK891⟩ (fun hHeld => ?_)
    generalize w28.drew = w29 at HO896 HO902 BK891 BK904 HB hHeld ⊢
    refine take_ (i := 0) (N := some 22) (v := ?_) (a' := ?_) #[true, false, false, false, false] rfl rfl (by kernel_rfl) (fun _ _ _ h => h) (Or.inl ⟨by rfl, ?_⟩) hHeld ?_ ?_
    rotate_left
    ·rintro w' ⟨s0, s1, s2, s3, s4, s5⟩
     go_simp
     with_reducible rfl
    rotate_left
    ·simp only [Act.put, List.setIfInBounds_toArray, List.set_cons_zero, List.set_cons_succ, i64_w, i32_w]
     rfl
    refine take_ (i := 1) (N := some 23) (v := ?_) (a' := ?_) #[true, true, false, false, false] rfl rfl (by kernel_rfl) (fun _ _ _ h => h) (Or.inl ⟨by rfl, ?_⟩) hHeld ?_ ?_
    rotate_left
    ·rintro w' ⟨s0, s1, s2, s3, s4, s5⟩
     go_simp
     with_reducible rfl
    rotate_left
    ·simp only [Act.put, List.setIfInBounds_toArray, List.set_cons_zero, List.set_cons_succ, i64_w, i32_w]
     rfl
    refine one_ (i := 2) (N := some 24) #[true, true, true, false, false] rfl rfl (by kernel_rfl) (by decide) (fun K hK => ?_)
    refine goes_ Tryd.func43 (by kernel_rfl) rfl #[.agg #[.int .i64 a0_0, .slice A0_1 l0_1.length c0_1, .string a0_2]] (by rfl) rfl rfl ma ?_
    with_reducible refine (laws_toResp.calls k a0_0 _ _ l0_1 a0_2 t906 t907 t910 _ ?side1 ?side2 A12.out).mono ?_
    (case side1 => exact cb HR0_1)
    (case side2 => exact HC0_1.out)
    rintro e w30 ⟨v908, rfl, ho0, hb⟩
    refine ⟨_, rfl, ?_⟩
    have HO909 := am (Kd.R_lower (Kd.R_new' (Kd.R_new' ho0 (Kd.R_lt (ro HO896))) (Kd.R_lt (ro HO902))) (below_size bl))
    replace HO896 := am (Kd.R_elder' (ro HO896) (Kd.R_base ho0) hb)
    replace HO902 := am (Kd.R_elder' (ro HO902) (Kd.R_base ho0) hb)
    replace BK891 := kb BK891 hb
    replace BK904 := kb BK904 hb
    replace HB := am (below_step bl hb)
    (try clear hb)
    (try clear hb2)
    (try clear hk)
    (try clear hi)
    (try clear ho0)
    obtain ⟨Ao31, co31, eo31⟩ := Kd.R_slice HO909.out
    (first | subst eo31 | (injection eo31 with f1_ f2_ f3_; have f4_ := f1_.symm; have f5_ := f3_.symm; clear f1_ f2_ f3_; subst f4_; subst f5_))
    refine hK.out _ _ ⟨bc BK904, bc BK904, bc BK904, bc BK891, bc BK891, bc BK891⟩ (fun hHeld => ?_)
    clear hK K
    refine norm_ (a' := ?_) ?_ ?_
    rotate_left
    ·show Act.put _ (some 24) _ = _
     simp only [Act.put, List.setIfInBounds_toArray, List.set_cons_zero, List.set_cons_succ, i64_w, i32_w]
     rfl
    refine one_ (i := 3) (N := some 25) #[true, true, true, true, false] rfl rfl (by kernel_rfl) (by decide) (fun K hK => ?_)
    refine goes_ Tryd.func45 (by kernel_rfl) rfl #[.agg #[.int .i64 t899, .slice Ao27 t900.length co27, .string t903], .agg #[.int .i64 t906, .slice Ao31 t907.length co31, .string t910]] (by rfl) rfl rfl ma ?_
    with_reducible refine (laws_eqResp.calls k t899 _ _ t900 t903 t906 _ _ t907 t910 true _ ?side1 ?side2 ?side3 ?side4 A13.out).mono ?_
    (case side1 => exact rc HO902)
    (case side2 => exact (Kd.R_reads' HO902.out).2.1)
    (case side3 => exact rc HO909)
    (case side4 => exact (Kd.R_reads' HO909.out).2.1)
    rintro e w32 ⟨rfl, hb⟩
    refine ⟨_, rfl, ?_⟩
    replace HO896 := kr HO896 hb
    replace HO902 := kr HO902 hb
    replace HO909 := kr HO909 hb
    replace BK891 := kb BK891 hb
    replace BK904 := kb BK904 hb
    replace HB := am (below_step bl hb)
    (try clear hb)
    (try clear hb2)
    (try clear hk)
    (try clear hi)
    refine hK.out _ _ ⟨bc BK904, bc BK904, bc BK904, bc BK891, bc BK891, bc BK891⟩ (fun hHeld => ?_)
    clear hK K
    refine norm_ (a' := ?_) ?_ ?_
    rotate_left
    ·show Act.put _ (some 25) _ = _
     simp only [Act.put, List.setIfInBounds_toArray, List.set_cons_zero, List.set_cons_succ, i64_w, i32_w]
     rfl
    refine pure_ (i := 4) (N := some 26) (v := ?_) (a' := ?_) #[true, true, true, true, true] rfl rfl (by kernel_rfl) (fun _ _ _ h => h) (Or.inl ⟨by rfl, ?_⟩) ?_ ?_
    rotate_left
    ·intro w'
     go_simp
     with_reducible rfl
    rotate_left
    ·simp only [Act.put, List.setIfInBounds_toArray, List.set_cons_zero, List.set_cons_succ, i64_w, i32_w]
     rfl
    refine done_ (by kernel_rfl) ?_
    try go_wp2
    go_ret
    exact ⟨rf, bl⟩
   ·replace c14 := Bool.eq_false_iff.mpr c14
    subst c14
    have H1 : (some false) = some r := by rw [if_neg (show ¬ (false = true) by decide)] at H; exact H
    clear H
    have H := H1
    clear H1
    exact absurd (Option.some.inj H) (by rw [ht_]; decide)
  ·rw [if_neg c11] at H
   have c11b0 : (t905.toList == t898.toList) = false := beq_eq_false_iff_ne.mpr c11
   have c11b1 : (t905.toList != t898.toList) = true := bne_iff_ne.mpr c11
   exact absurd (Option.some.inj H) (by rw [ht_]; decide)

end Go.Proofs.YtiinmfjbildclaaDoor.All
