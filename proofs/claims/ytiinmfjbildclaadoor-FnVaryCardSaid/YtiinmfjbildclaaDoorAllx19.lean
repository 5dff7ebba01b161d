-- Written by a program of this session (wip/tools/hprint.py) out of the translation. Lean checks it.
import Derived.Test.YtiinmfjbildclaaDoorAllx0
import Derived.Test.YtiinmfjbildclaaDoorAllx4
import Derived.Test.YtiinmfjbildclaaDoorAllx16
namespace Go.Proofs.YtiinmfjbildclaaDoor.All
open Go.RowKit Go.Proofs.YtiinmfjbildclaaDoorW.PrintWords Go.Proofs.YtiinmfjbildclaaDoorW.PrintLast Go.Proofs.YtiinmfjbildclaaDoorW.PrintMore
attribute [local go_sem] max2_int min2_int max_two min_two max_three min_three max_four min_four   -- for this text's walks alone
set_option linter.unusedVariables false
set_option linter.unusedSimpArgs false

/-! ### spec_l1Once: function 109 -/
def spec_l1Once.f (s0_0 : List Int) (s0_1 : Int) (s0_2 : Int) (a1 : Int) : Option (Bool × Int × Int) := (spec_l1Below.f s0_0 s0_1 s0_2 a1).bind fun bt406 => (some ((bt406.1 == 0), bt406.2.1, bt406.2.2))
set_option maxHeartbeats 8000000 in
set_option maxRecDepth 100000 in
theorem spec_l1Once.calls (g : Nat) (s0_0 : List Int) (s0_1 : Int) (s0_2 : Int) (a1 : Int) (r1 : Bool) (r2 : Int) (r3 : Int) (w0 w : World) (hI : IsS161 w0 w g s0_0 s0_1 s0_2) (hB : Below w0.heap.size w0 w) (h : spec_l1Once.f s0_0 s0_1 s0_2 a1 = some (r1, r2, r3)) :
  Calls Tryd.prog 109 #[.pointer (some ⟨g, 0, none⟩), .int .i64 a1] w fun e w' => e = .returned (.bool r1) ∧ IsS161 w0 w' g s0_0 r2 r3 ∧ Below w0.heap.size w0 w' ∧ KeepBut w w' g none := by
 have HI0 := am hI
 have HK := am (KeepBut.refl w g none)
 have HL := am hB.size
 clear hI
 have HW0 := am hB.size
 have HB := am hB
 clear hB
 have H : ((spec_l1Below.f s0_0 s0_1 s0_2 a1).bind fun bt406 => (some ((bt406.1 == 0), bt406.2.1, bt406.2.2))) = some (r1, r2, r3) := h
 clear h
 replace H := ob H
 obtain ⟨⟨t406, t407, t408⟩, A30, H⟩ := H
 replace H : (some ((t406 == 0), t407, t408)) = some (r1, r2, r3) := H
 have A3 := am A30
 clear A30
 simp only [Option.some.injEq, Prod.mk.injEq] at H
 obtain ⟨rfl, rfl, rfl⟩ := H
 go_enter Tryd.func109, Tryd.ntmps109
 go_wp2_with (first | ((with_reducible refine gate_callee (f := 166) rfl ?_); refine goesL_ (some 7) rfl rfl Tryd.func166 (by kernel_rfl) rfl #[.pointer (some ⟨g, 0, none⟩), .int .i64 a1] rfl ma ?_; (with_reducible refine (spec_l1Below.calls g s0_0 s0_1 s0_2 a1 t406 t407 t408 w0 _ ?side1 ?side2 A3.out).mono ?_); (case side1 => repeat (first | (with_reducible first | exact HI0.out | apply IsS161.alloc | apply IsS161.drewN | apply IsS161.drew | apply IsS161.set_1 | apply IsS161.set_2) | exact HI0.out)); (case side2 => repeat (first | (with_reducible first | exact HB.out | apply below_alloc | apply pw_below_drewN | apply below_drew1 | refine below_set ?_ (IsS161.ge HI0.out)) | exact HB.out)); rintro e w4 ⟨rfl, hi, hb, hk⟩; refine ⟨_, rfl, ?_⟩; replace HK := am (KeepBut.trans (by repeat (first | (with_reducible first | exact HK.out | apply KeepBut.set_ | apply keep_drewN | apply keep_drew | apply keep_alloc) | exact HK.out)) hk (.inl rfl)); replace HB := am (hb); replace HI0 := am (hi); (try clear hb); (try clear hb2); (try clear hk); (try clear hi)))
 go_ret
 exact ⟨rf, by repeat (first | (with_reducible first | exact HI0.out | apply IsS161.alloc | apply IsS161.drewN | apply IsS161.drew | apply IsS161.set_1 | apply IsS161.set_2) | exact HI0.out), by repeat (first | (with_reducible first | exact HB.out | apply below_alloc | apply pw_below_drewN | apply below_drew1 | refine below_set ?_ (IsS161.ge HI0.out)) | exact HB.out), by repeat (first | (with_reducible first | exact HK.out | apply KeepBut.set_ | apply keep_drewN | apply keep_drew | apply keep_alloc) | exact HK.out)⟩

/-! ### spec_Put: function 114 -/
def spec_Put.f (k : Nat) (l0 : List (S114)) (a1 : ByteArray) (a2 : ByteArray) : Option ((List (S114))) := (some (([] : List (S114)) : List (S114))).bind fun y409 => (if y409.length + l0.length < 4398046511104 then ((some (y409 ++ l0 : List (S114))).bind fun y412 => ((spec_l2At.f k l0 a1).bind fun t415 => (if t415 < 0 then (if y412.length < 4398046511104 then (some (y412 ++ [(⟨a1, a2⟩ : S114)])) else (none)) else (if 0 ≤ t415 then (if t415 < (y412.length : Int) then (some (y412.set (t415 : Int).toNat (⟨(rd_T114 y412 t415).f0, a2⟩ : S114))) else (none)) else (none))))) else (none))
theorem spec_Put.mono : ∀ a0 a1 a2 k, LeO (spec_Put.f k a0 a1 a2) (spec_Put.f (k + 1) a0 a1 a2) := by
 intro a0 a1 a2 k
 unfold spec_Put.f
 repeat' first
   | (with_reducible exact spec_l2At.mono _ _ _)
   | (with_reducible exact LeO.refl _)
   | (with_reducible exact LeO.none _)
   | (with_reducible refine LeO.ite ?_ ?_)
   | (with_reducible refine LeO.bind ?_ (fun _ => ?_))
   | exact spec_l2At.mono _ _ _
   | exact LeO.none _
   | refine LeO.ite ?_ ?_
   | refine LeO.bind ?_ (fun _ => ?_)
set_option maxHeartbeats 8000000 in
set_option maxRecDepth 100000 in
theorem spec_Put.calls (k : Nat) (A0 : Option Addr) (c0 : Nat) (l0 : List (S114)) (a1 : ByteArray) (a2 : ByteArray) (r : List (S114)) (w : World) (hr0 : Kd.C k114 w A0 l0.length l0) (hc0 : l0.length ≤ c0) (h : spec_Put.f k l0 a1 a2 = some r) :
  Calls Tryd.prog 114 #[.slice A0 l0.length c0, .string a1, .string a2] w fun e w' => ∃ v0_ : Value, e = .returned (v0_) ∧ Kd.R k114 114 w' w.heap.size (fun _ => True) v0_ r ∧ Below w.heap.size w w' := by
 have hu114 := Tryd.underlying114
 have HR0 := am hr0
 have HC0 := am hc0
 clear hr0 hc0
 have HB := am (Below.refl w.heap.size w)
 have H : ((some (([] : List (S114)) : List (S114))).bind fun y409 => (if y409.length + l0.length < 4398046511104 then ((some (y409 ++ l0 : List (S114))).bind fun y412 => ((spec_l2At.f k l0 a1).bind fun t415 => (if t415 < 0 then (if y412.length < 4398046511104 then (some (y412 ++ [(⟨a1, a2⟩ : S114)])) else (none)) else (if 0 ≤ t415 then (if t415 < (y412.length : Int) then (some (y412.set (t415 : Int).toNat (⟨(rd_T114 y412 t415).f0, a2⟩ : S114))) else (none)) else (none))))) else (none))) = some r := h
 clear h
 obtain ⟨y409, hy409⟩ : ∃ y_ : List (S114), y_ = (([] : List (S114))) := ⟨_, rfl⟩
 replace H : (if y409.length + l0.length < 4398046511104 then ((some (y409 ++ l0 : List (S114))).bind fun y412 => ((spec_l2At.f k l0 a1).bind fun t415 => (if t415 < 0 then (if y412.length < 4398046511104 then (some (y412 ++ [(⟨a1, a2⟩ : S114)])) else (none)) else (if 0 ≤ t415 then (if t415 < (y412.length : Int) then (some (y412.set (t415 : Int).toNat (⟨(rd_T114 y412 t415).f0, a2⟩ : S114))) else (none)) else (none))))) else (none)) = some r := by first | (rw [hy409]; with_reducible exact H) | (have H2_ := (Option.bind_some _ _).symm.trans H; rw [hy409]; with_reducible exact H2_) | (have H2_ := (Option.bind_some _ _).symm.trans H; with_reducible exact H2_) | with_reducible exact H | (rw [hy409]; exact H) | exact H
 have Ny409 := am hy409
 clear hy409
 by_cases c4 : y409.length + l0.length < 4398046511104
 ·rw [if_pos c4] at H
  have LMc4 := am c4
  clear c4
  obtain ⟨y412, hy412⟩ : ∃ y_ : List (S114), y_ = (y409 ++ l0) := ⟨_, rfl⟩
  replace H : ((spec_l2At.f k l0 a1).bind fun t415 => (if t415 < 0 then (if y412.length < 4398046511104 then (some (y412 ++ [(⟨a1, a2⟩ : S114)])) else (none)) else (if 0 ≤ t415 then (if t415 < (y412.length : Int) then (some (y412.set (t415 : Int).toNat (⟨(rd_T114 y412 t415).f0, a2⟩ : S114))) else (none)) else (none)))) = some r := by first | (rw [hy412]; with_reducible exact H) | (have H2_ := (Option.bind_some _ _).symm.trans H; rw [hy412]; with_reducible exact H2_) | (have H2_ := (Option.bind_some _ _).symm.trans H; with_reducible exact H2_) | with_reducible exact H | (rw [hy412]; exact H) | exact H
  have Ny412 := am hy412
  clear hy412
  replace H := ob H
  obtain ⟨t415, A50, H⟩ := H
  replace H : (if t415 < 0 then (if y412.length < 4398046511104 then (some (y412 ++ [(⟨a1, a2⟩ : S114)])) else (none)) else (if 0 ≤ t415 then (if t415 < (y412.length : Int) then (some (y412.set (t415 : Int).toNat (⟨(rd_T114 y412 t415).f0, a2⟩ : S114))) else (none)) else (none))) = some r := H
  have A5 := am A50
  clear A50
  by_cases c6 : t415 < 0
  ·rw [if_pos c6] at H
   have c6b0 : decide (t415 < 0) = true := decide_eq_true c6
   clear c6
   by_cases c7 : y412.length < 4398046511104
   ·rw [if_pos c7] at H
    have LMc7 := am c7
    clear c7
    obtain ⟨y416, hy416⟩ : ∃ y_ : List (S114), y_ = (y412 ++ [(⟨a1, a2⟩ : S114)]) := ⟨_, rfl⟩
    replace H : (some y416) = some r := by first | (rw [hy416]; with_reducible exact H) | (have H2_ := (Option.bind_some _ _).symm.trans H; rw [hy416]; with_reducible exact H2_) | (have H2_ := (Option.bind_some _ _).symm.trans H; with_reducible exact H2_) | with_reducible exact H | (rw [hy416]; exact H) | exact H
    have Ny416 := am hy416
    clear hy416
    obtain rfl := Option.some.inj H
    go_enter Tryd.func114, Tryd.ntmps114
    go_wp2_with (first | ((with_reducible refine gate_dst (N := 9) rfl ?_); refine Kd.R_lit k114 _ 114 ?hg (N := 9) ?hd (xs := ([] : List (S114))) (inner := []) (ok := fun _ => True) (okp := fun _ => True) ?hr ?hp (fun _ hk => hk) trivial (Below.refl _ _) (Nat.le_refl _) (by simp) ?_; (case hd => rfl); (case hg => rfl); (case hr => first | (go_simp; done) | (go_simp; rfl)); (case hp => exact (Reps.none _ _)); intro v410 w8 ho9 hb hg_ hnew_; clear hg_ hnew_; (first | rw [← Ny409.out] at ho9 | (simp only [Int.reduceToNat] at ho9; rw [← Ny409.out] at ho9)); have HO411 := am (Kd.R_lower ho9 (below_size bl)); replace HB := am (below_step bl hb); clear hb ho9) | ((with_reducible refine gate_builtin (b := .append) (xs := #[.tmp 9, .tmp 10]) rfl ?_); at_builtin; refine Kd.R_append_rows k114 (w0 := w) w.heap.size rfl (.tmp 9) (.tmp 10) 26 114 (.agg #[(.string ⟨#[]⟩), (.string ⟨#[]⟩)]) 32 rfl Tryd.underlying26 info114 rfl (by decide) (by omega) v410 y409 l0 _ _ _ (fun _ => True) (fun _ => False) rfl rfl ?aO ?aR (fun _ _ h => h) (fun _ h => h.elim) ?aF ?aB ?aS ?aL ?_; (case aR => exact cb HR0); (case aB => exact bl); (case aF => exact (fun _ _ => trivial)); (case aO => exact (ro HO411)); (case aS => exact (below_size bl)); (case aL => have := LMc4.out; omega); intro v413 w10 ho hb hg hat; rw [← Ny412.out] at ho; have n0_ := am (hb); have n1_ := am (ho); clear HB; clear HO411; have HB := n0_; have HO414 := n1_; clear n0_ n1_; clear ho hb hg hat) | ((with_reducible refine gate_callee (f := 162) rfl ?_); refine goesL_ (some 14) rfl rfl Tryd.func162 (by kernel_rfl) rfl #[.slice A0 l0.length c0, .string a1] rfl ma ?_; (with_reducible refine (spec_l2At.calls k _ _ l0 a1 t415 _ ?side1 ?side2 A5.out).mono ?_); (case side1 => exact cb HR0); (case side2 => exact HC0.out); rintro e w' ⟨rfl, ⟨nd, rfl⟩⟩; refine ⟨_, rfl, ?_⟩) | ((with_reducible refine gate_builtin (b := .append) (xs := #[.tmp 17, .tmp 21]) rfl ?_); at_builtin; refine Kd.R_append k114 (w0 := w) w.heap.size rfl (.tmp 17) (.tmp 21) 26 114 (.agg #[(.string ⟨#[]⟩), (.string ⟨#[]⟩)]) 32 rfl Tryd.underlying26 info114 rfl (by decide) (by omega) v413 y412 (⟨a1, a2⟩ : S114) [.string a1, .string a2] (fun _ => True) (fun _ => False) rfl rfl ?aP (fun _ hk => hk.elim) ?aF ?aO ?aB ?aS ?aL ?_; (case aP => exact k114_mkM _ _ _ (⟨a1, a2⟩ : S114)); (case aB => exact bl); (case aF => exact (fun _ _ => trivial)); (case aO => exact (ro HO414)); (case aS => exact (below_size bl)); (case aL => have := LMc7.out; omega); intro v417 w11 ho hb hg hat; rw [← Ny416.out] at ho; have n0_ := am (hb); have n1_ := am (ho); clear HB; clear HO414; have HB := n0_; have HO418 := n1_; clear n0_ n1_; clear ho hb hg hat))
    go_ret
    exact ⟨_, rf, by (with_reducible repeat (first | apply Kd.R_alloc | apply Kd.R_drewN | apply Kd.R_drew)); exact HO418.out, bl⟩
   ·rw [if_neg c7] at H
    exact absurd H (by simp)
  ·rw [if_neg c6] at H
   have c6b0 : decide (t415 < 0) = false := decide_eq_false c6
   clear c6
   by_cases c12 : 0 ≤ t415
   ·rw [if_pos c12] at H
    have c12b0 : decide (0 ≤ t415) = true := decide_eq_true c12
    clear c12
    by_cases c13 : t415 < (y412.length : Int)
    ·rw [if_pos c13] at H
     have c13b0 : decide (t415 < (y412.length : Int)) = true := decide_eq_true c13
     clear c13
     obtain ⟨y419, hy419⟩ : ∃ y_ : List (S114), y_ = (y412.set (t415 : Int).toNat (⟨(rd_T114 y412 t415).f0, a2⟩ : S114)) := ⟨_, rfl⟩
     replace H : (some y419) = some r := by first | (rw [hy419]; with_reducible exact H) | (have H2_ := (Option.bind_some _ _).symm.trans H; rw [hy419]; with_reducible exact H2_) | (have H2_ := (Option.bind_some _ _).symm.trans H; with_reducible exact H2_) | with_reducible exact H | (rw [hy419]; exact H) | exact H
     have Ny419 := am hy419
     clear hy419
     obtain rfl := Option.some.inj H
     go_enter Tryd.func114, Tryd.ntmps114
     go_wp2_with (first | ((with_reducible refine gate_dst (N := 9) rfl ?_); refine Kd.R_lit k114 _ 114 ?hg (N := 9) ?hd (xs := ([] : List (S114))) (inner := []) (ok := fun _ => True) (okp := fun _ => True) ?hr ?hp (fun _ hk => hk) trivial (Below.refl _ _) (Nat.le_refl _) (by simp) ?_; (case hd => rfl); (case hg => rfl); (case hr => first | (go_simp; done) | (go_simp; rfl)); (case hp => exact (Reps.none _ _)); intro v410 w15 ho16 hb hg_ hnew_; clear hg_ hnew_; (first | rw [← Ny409.out] at ho16 | (simp only [Int.reduceToNat] at ho16; rw [← Ny409.out] at ho16)); have HO411 := am (Kd.R_lower ho16 (below_size bl)); replace HB := am (below_step bl hb); clear hb ho16) | ((with_reducible refine gate_builtin (b := .append) (xs := #[.tmp 9, .tmp 10]) rfl ?_); at_builtin; refine Kd.R_append_rows k114 (w0 := w) w.heap.size rfl (.tmp 9) (.tmp 10) 26 114 (.agg #[(.string ⟨#[]⟩), (.string ⟨#[]⟩)]) 32 rfl Tryd.underlying26 info114 rfl (by decide) (by omega) v410 y409 l0 _ _ _ (fun _ => True) (fun _ => False) rfl rfl ?aO ?aR (fun _ _ h => h) (fun _ h => h.elim) ?aF ?aB ?aS ?aL ?_; (case aR => exact cb HR0); (case aB => exact bl); (case aF => exact (fun _ _ => trivial)); (case aO => exact (ro HO411)); (case aS => exact (below_size bl)); (case aL => have := LMc4.out; omega); intro v413 w17 ho hb hg hat; rw [← Ny412.out] at ho; have n0_ := am (hb); have n1_ := am (ho); clear HB; clear HO411; have HB := n0_; have HO414 := n1_; clear n0_ n1_; clear ho hb hg hat) | ((with_reducible refine gate_callee (f := 162) rfl ?_); refine goesL_ (some 14) rfl rfl Tryd.func162 (by kernel_rfl) rfl #[.slice A0 l0.length c0, .string a1] rfl ma ?_; (with_reducible refine (spec_l2At.calls k _ _ l0 a1 t415 _ ?side1 ?side2 A5.out).mono ?_); (case side1 => exact cb HR0); (case side2 => exact HC0.out); rintro e w' ⟨rfl, ⟨nd, rfl⟩⟩; refine ⟨_, rfl, ?_⟩; (try (rw [drewN_self w17]; generalize hq_ : World.drewN w17 _ = w17; have n0_ : Aside0 (Kd.R k114 114 w17 w.heap.size (fun _ => True) v413 y412) := ⟨by rw [← hq_]; exact (ro HO414)⟩; have n1_ : Aside0 (Below w.heap.size w w17) := ⟨by rw [← hq_]; exact bl⟩; clear HO414 HB hq_; have HO414 := n0_; have HB := n1_; clear n0_ n1_)); have p14 : 0 ≤ (t415 : Int) := od; have q14 : (t415 : Int) < ((y412.length : Int) : Int) := od; obtain ⟨go14, co14, eo14, gb14, gl14, cl14, HG14⟩ := Kd.R_form HO414.out (by omega); (first | cases eo14 | (injection eo14 with ea_ en_ ec_; (first | subst ea_ | (injection ea_ with ea_; subst ea_)); subst ec_; clear en_)); have GB14 := am gb14; have GG14 := am HG14; clear gb14 gl14 HG14; obtain ⟨ce14, hcl14, hM14, hcc14, hfr14⟩ := Kd.R_elem HO414.out z114 (t415 : Int) p14 q14; obtain rfl := k114_openM hM14; have hx14_0 : w17.cell? ⟨go14, (t415 : Int).toNat * 2, none⟩ = some (.string ((rd_T114 y412 t415).f0)) := hcc14 0 _ rfl; have hx14_1 : w17.cell? ⟨go14, (t415 : Int).toNat * 2 + 1, none⟩ = some (.string ((rd_T114 y412 t415).f1)) := hcc14 1 _ rfl; have hf14_0 : w17.frozen? ⟨go14, (t415 : Int).toNat * 2, none⟩ = false := hfr14 0; have hf14_1 : w17.frozen? ⟨go14, (t415 : Int).toNat * 2 + 1, none⟩ = false := hfr14 1; clear hcl14 hcc14 hfr14 hM14; replace p14 := eq_true p14; replace q14 := eq_true q14; have HX18 := am (show Kd.R k114 114 w17 w.heap.size (fun _ => True) (.slice (some ⟨go14, 0, none⟩) y412.length co14) y412 from (ro HO414)); obtain ⟨ce18, hcl18, hM18, hcc18, hfr18⟩ := Kd.R_elem HX18.out z114 (t415 : Int) (od) (by have h_ : (t415 : Int) < ((y412.length : Int) : Int) := od; first | exact h_ | (have e_ := (Kd.R_reads' HO414.out).1; omega) | simpa using h_); obtain rfl := k114_openM hM18; have HP18 := Kd.R_seg HX18.out (t415 : Int) (od) (by have h_ : (t415 : Int) < ((y412.length : Int) : Int) := od; first | exact h_ | (have e_ := (Kd.R_reads' HO414.out).1; omega) | simpa using h_) (seg := [.string a2]) (j := 1) hcl18 hcc18 (show 2 ≤ 2 from by decide) (x' := (⟨(rd_T114 y412 t415).f0, a2⟩ : S114)) (k114_mkM _ _ _ (⟨(rd_T114 y412 t415).f0, a2⟩ : S114) ) (fun _ hk => hk); have hx18_1 := hcc18 1 _ rfl; (try simp only [show (k114).sz = 2 from rfl, Nat.mul_one, Nat.add_zero] at hx18_1); have hf18_1 := hfr18 1; (try simp only [show (k114).sz = 2 from rfl, Nat.mul_one, Nat.add_zero] at hf18_1); clear hcl18 hcc18 hfr18 hM18) | ((with_reducible refine gate_store (t := 9) (p := 27) rfl ?_); refine store_event (t := 9) (p := 27) (v := ?vo_w19) (w1 := (w17.setCell ⟨go14, (t415 : Int).toNat * 2 + 1, none⟩ (.string a2))) ?hg ?ho ?hn ?hr ?_; (case ho => rfl); (case hg => rfl); (case hn => rfl); (case hr => first | (go_simp; done) | (go_simp; rfl)); intro w19 hw; have hg : w17.grownBy w19 (some go14) := (by rw [hw]; exact HP18.2); have hp_ : Kd.R k114 114 w19 w.heap.size (fun _ => True) (.slice (some ⟨go14, 0, none⟩) y412.length co14) y419 := (by rw [hw, Ny419.out]; exact HP18.1); clear HP18; have n0_ := am (hp_); have n1_ := am ((by rw [hw]; exact below_set (HB.out) GB14.out : Below w.heap.size w w19)); clear HO414; clear HB; have HO414 := n0_; have HB := n1_; clear n0_ n1_; clear hg hw hp_))
     go_ret
     exact ⟨_, rf, by (with_reducible repeat (first | apply Kd.R_alloc | apply Kd.R_drewN | apply Kd.R_drew)); exact HO414.out, bl⟩
    ·rw [if_neg c13] at H
     exact absurd H (by simp)
   ·rw [if_neg c12] at H
    exact absurd H (by simp)
 ·rw [if_neg c4] at H
  exact absurd H (by simp)

end Go.Proofs.YtiinmfjbildclaaDoor.All
