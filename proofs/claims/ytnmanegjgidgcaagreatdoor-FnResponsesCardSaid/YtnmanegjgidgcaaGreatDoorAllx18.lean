-- Written by a program of this session (wip/tools/hprint.py) out of the translation. Lean checks it.
import Derived.Test.YtnmanegjgidgcaaGreatDoorAllx0
import Derived.Test.YtnmanegjgidgcaaGreatDoorAllx2
import Derived.Test.YtnmanegjgidgcaaGreatDoorAllx6
import Derived.Test.YtnmanegjgidgcaaGreatDoorAllx7
import Derived.Test.YtnmanegjgidgcaaGreatDoorAllx8
namespace Go.Proofs.YtnmanegjgidgcaaGreatDoor.All
open Go.RowKit Go.Proofs.YtnmanegjgidgcaaGreatDoorW.PrintWords Go.Proofs.YtnmanegjgidgcaaGreatDoorW.PrintLast Go.Proofs.YtnmanegjgidgcaaGreatDoorW.PrintMore
attribute [local go_sem] max2_int min2_int max_two min_two max_three min_three max_four min_four   -- for this text's walks alone
set_option linter.unusedVariables false
set_option linter.unusedSimpArgs false

/-! ### spec_Put: function 136 -/
def spec_Put.f (k : Nat) (l0 : List (S100)) (a1 : ByteArray) (a2 : ByteArray) : Option ((List (S100))) := (some (([] : List (S100)) : List (S100))).bind fun y804 => (if y804.length + l0.length < 4398046511104 then ((some (y804 ++ l0 : List (S100))).bind fun y807 => ((spec_l2At.f k l0 a1).bind fun t810 => (if t810 < 0 then (if y807.length < 4398046511104 then (some (y807 ++ [(⟨a1, a2⟩ : S100)])) else (none)) else (if 0 ≤ t810 then (if t810 < (y807.length : Int) then (some (y807.set (t810 : Int).toNat (⟨(rd_T100 y807 t810).f0, a2⟩ : S100))) else (none)) else (none))))) else (none))
theorem spec_Put.mono : ∀ a0 a1 a2 k, LeO (spec_Put.f k a0 a1 a2) (spec_Put.f (k + 1) a0 a1 a2) := by
 intro a0 a1 a2 k
 unfold spec_Put.f
 have m0 := @spec_l2At.mono
 exact mo
set_option maxHeartbeats 8000000 in
set_option maxRecDepth 100000 in
theorem spec_Put.calls (k : Nat) (A0 : Option Addr) (c0 : Nat) (l0 : List (S100)) (a1 : ByteArray) (a2 : ByteArray) (r : List (S100)) (w : World) (hr0 : Kd.C k100 w A0 l0.length l0) (hc0 : l0.length ≤ c0) (h : spec_Put.f k l0 a1 a2 = some r) :
  Calls Tryz.prog 136 #[.slice A0 l0.length c0, .string a1, .string a2] w fun e w' => ∃ v0_ : Value, e = .returned (v0_) ∧ Kd.R k100 100 w' w.heap.size (fun _ => True) v0_ r ∧ Below w.heap.size w w' := by
 have hu100 := Tryz.underlying100
 have HR0 := am hr0
 have HC0 := am hc0
 clear hr0 hc0
 have HB := am (Below.refl w.heap.size w)
 unfold spec_Put.f at h
 have H := h
 clear h
 obtain ⟨y804, hy804⟩ : ∃ y_ : List (S100), y_ = (([] : List (S100))) := ⟨_, rfl⟩
 replace H : (if y804.length + l0.length < 4398046511104 then ((some (y804 ++ l0 : List (S100))).bind fun y807 => ((spec_l2At.f k l0 a1).bind fun t810 => (if t810 < 0 then (if y807.length < 4398046511104 then (some (y807 ++ [(⟨a1, a2⟩ : S100)])) else (none)) else (if 0 ≤ t810 then (if t810 < (y807.length : Int) then (some (y807.set (t810 : Int).toNat (⟨(rd_T100 y807 t810).f0, a2⟩ : S100))) else (none)) else (none))))) else (none)) = some r := by first | (rw [hy804]; with_reducible exact H) | (have H2_ := (Option.bind_some _ _).symm.trans H; rw [hy804]; with_reducible exact H2_) | (have H2_ := (Option.bind_some _ _).symm.trans H; with_reducible exact H2_) | with_reducible exact H | (rw [hy804]; exact H) | exact H
 have Ny804 := am hy804
 clear hy804
 revert H
 refine ifn fun c4 H => ?_
 have LMc4 := am c4
 clear c4
 obtain ⟨y807, hy807⟩ : ∃ y_ : List (S100), y_ = (y804 ++ l0) := ⟨_, rfl⟩
 replace H : ((spec_l2At.f k l0 a1).bind fun t810 => (if t810 < 0 then (if y807.length < 4398046511104 then (some (y807 ++ [(⟨a1, a2⟩ : S100)])) else (none)) else (if 0 ≤ t810 then (if t810 < (y807.length : Int) then (some (y807.set (t810 : Int).toNat (⟨(rd_T100 y807 t810).f0, a2⟩ : S100))) else (none)) else (none)))) = some r := by first | (rw [hy807]; with_reducible exact H) | (have H2_ := (Option.bind_some _ _).symm.trans H; rw [hy807]; with_reducible exact H2_) | (have H2_ := (Option.bind_some _ _).symm.trans H; with_reducible exact H2_) | with_reducible exact H | (rw [hy807]; exact H) | exact H
 have Ny807 := am hy807
 clear hy807
 revert H
 refine ok1 fun t810 A5 H => ?_
 by_cases c6 : t810 < 0
 ·rw [if_pos c6] at H
  have c6b0 := decide_eq_true c6
  clear c6
  revert H
  refine ifn fun c7 H => ?_
  have LMc7 := am c7
  clear c7
  obtain ⟨y811, hy811⟩ : ∃ y_ : List (S100), y_ = (y807 ++ [(⟨a1, a2⟩ : S100)]) := ⟨_, rfl⟩
  replace H : (some y811) = some r := by first | (rw [hy811]; with_reducible exact H) | (have H2_ := (Option.bind_some _ _).symm.trans H; rw [hy811]; with_reducible exact H2_) | (have H2_ := (Option.bind_some _ _).symm.trans H; with_reducible exact H2_) | with_reducible exact H | (rw [hy811]; exact H) | exact H
  have Ny811 := am hy811
  clear hy811
  obtain rfl := Option.some.inj H
  go_enter Tryz.func136, Tryz.ntmps136
  go_wp2_with (first | ((with_reducible refine gate_dst (N := 9) rfl ?_); refine Kd.R_lit k100 _ 100 ?hg (N := 9) ?hd (xs := ([] : List (S100))) (inner := []) (ok := fun _ => True) (okp := fun _ => True) ?hr ?hp (fun _ hk => hk) trivial (Below.refl _ _) (Nat.le_refl _) (by simp) ?_; (case hd => rfl); (case hg => rfl); (case hr => first | (go_simp; done) | (go_simp; rfl)); (case hp => exact (Reps.none _ _)); intro v805 w8 ho9 hb hg_ hnew_; clear hg_ hnew_; (first | rw [← Ny804.out] at ho9 | (simp only [Int.reduceToNat] at ho9; rw [← Ny804.out] at ho9)); have HO806 := am (Kd.R_lower ho9 (below_size bl)); replace HB := am (below_step bl hb); clear hb ho9) | ((with_reducible refine gate_builtin (b := .append) (xs := #[.tmp 9, .tmp 10]) rfl ?_); at_builtin; refine Kd.R_append_rows k100 (w0 := w) w.heap.size rfl (.tmp 9) (.tmp 10) 38 100 (.agg #[(.string ⟨#[]⟩), (.string ⟨#[]⟩)]) 32 rfl Tryz.underlying38 info100 rfl (by decide) (by omega) v805 y804 l0 _ _ _ (fun _ => True) (fun _ => False) rfl rfl ?aO ?aR (fun _ _ h => h) (fun _ h => h.elim) ?aF ?aB ?aS ?aL ?_; (case aR => exact cb HR0); (case aB => exact bl); (case aF => exact (fun _ _ => trivial)); (case aO => exact (ro HO806)); (case aS => exact (below_size bl)); (case aL => have := LMc4.out; omega); intro v808 w10 ho hb hg hat; rw [← Ny807.out] at ho; have n0_ := am (hb); have n1_ := am (ho); clear HB; clear HO806; have HB := n0_; have HO809 := n1_; clear n0_ n1_; clear ho hb hg hat) | (refine gl 14 Tryz.func117 #[.slice A0 l0.length c0, .string a1] ?_; (with_reducible refine (spec_l2At.calls k _ _ l0 a1 t810 _ ?side1 ?side2 A5.out).mono ?_); (case side1 => exact cb HR0); (case side2 => exact HC0.out); rintro e w' ⟨rfl, ⟨nd, rfl⟩⟩; refine ⟨_, rfl, ?_⟩) | ((with_reducible refine gate_builtin (b := .append) (xs := #[.tmp 17, .tmp 21]) rfl ?_); at_builtin; refine Kd.R_append k100 (w0 := w) w.heap.size rfl (.tmp 17) (.tmp 21) 38 100 (.agg #[(.string ⟨#[]⟩), (.string ⟨#[]⟩)]) 32 rfl Tryz.underlying38 info100 rfl (by decide) (by omega) v808 y807 (⟨a1, a2⟩ : S100) [.string a1, .string a2] (fun _ => True) (fun _ => False) rfl rfl ?aP (fun _ hk => hk.elim) ?aF ?aO ?aB ?aS ?aL ?_; (case aP => exact k100_mkM _ _ _ (⟨a1, a2⟩ : S100)); (case aB => exact bl); (case aF => exact (fun _ _ => trivial)); (case aO => exact (ro HO809)); (case aS => exact (below_size bl)); (case aL => have := LMc7.out; omega); intro v812 w11 ho hb hg hat; rw [← Ny811.out] at ho; have n0_ := am (hb); have n1_ := am (ho); clear HB; clear HO809; have HB := n0_; have HO813 := n1_; clear n0_ n1_; clear ho hb hg hat))
  go_ret
  exact ⟨_, rf, by (with_reducible repeat (first | apply Kd.R_alloc | apply Kd.R_drewN | apply Kd.R_drew)); exact HO813.out, bl⟩
 rw [if_neg c6] at H
 have c6b0 := decide_eq_false c6
 clear c6
 revert H
 refine ifn fun c12 H => ?_
 have c12b0 := decide_eq_true c12
 clear c12
 revert H
 refine ifn fun c13 H => ?_
 have c13b0 := decide_eq_true c13
 clear c13
 obtain ⟨y814, hy814⟩ : ∃ y_ : List (S100), y_ = (y807.set (t810 : Int).toNat (⟨(rd_T100 y807 t810).f0, a2⟩ : S100)) := ⟨_, rfl⟩
 replace H : (some y814) = some r := by first | (rw [hy814]; with_reducible exact H) | (have H2_ := (Option.bind_some _ _).symm.trans H; rw [hy814]; with_reducible exact H2_) | (have H2_ := (Option.bind_some _ _).symm.trans H; with_reducible exact H2_) | with_reducible exact H | (rw [hy814]; exact H) | exact H
 have Ny814 := am hy814
 clear hy814
 obtain rfl := Option.some.inj H
 go_enter Tryz.func136, Tryz.ntmps136
 go_wp2_with (first | ((with_reducible refine gate_dst (N := 9) rfl ?_); refine Kd.R_lit k100 _ 100 ?hg (N := 9) ?hd (xs := ([] : List (S100))) (inner := []) (ok := fun _ => True) (okp := fun _ => True) ?hr ?hp (fun _ hk => hk) trivial (Below.refl _ _) (Nat.le_refl _) (by simp) ?_; (case hd => rfl); (case hg => rfl); (case hr => first | (go_simp; done) | (go_simp; rfl)); (case hp => exact (Reps.none _ _)); intro v805 w15 ho16 hb hg_ hnew_; clear hg_ hnew_; (first | rw [← Ny804.out] at ho16 | (simp only [Int.reduceToNat] at ho16; rw [← Ny804.out] at ho16)); have HO806 := am (Kd.R_lower ho16 (below_size bl)); replace HB := am (below_step bl hb); clear hb ho16) | ((with_reducible refine gate_builtin (b := .append) (xs := #[.tmp 9, .tmp 10]) rfl ?_); at_builtin; refine Kd.R_append_rows k100 (w0 := w) w.heap.size rfl (.tmp 9) (.tmp 10) 38 100 (.agg #[(.string ⟨#[]⟩), (.string ⟨#[]⟩)]) 32 rfl Tryz.underlying38 info100 rfl (by decide) (by omega) v805 y804 l0 _ _ _ (fun _ => True) (fun _ => False) rfl rfl ?aO ?aR (fun _ _ h => h) (fun _ h => h.elim) ?aF ?aB ?aS ?aL ?_; (case aR => exact cb HR0); (case aB => exact bl); (case aF => exact (fun _ _ => trivial)); (case aO => exact (ro HO806)); (case aS => exact (below_size bl)); (case aL => have := LMc4.out; omega); intro v808 w17 ho hb hg hat; rw [← Ny807.out] at ho; have n0_ := am (hb); have n1_ := am (ho); clear HB; clear HO806; have HB := n0_; have HO809 := n1_; clear n0_ n1_; clear ho hb hg hat) | (refine gl 14 Tryz.func117 #[.slice A0 l0.length c0, .string a1] ?_; (with_reducible refine (spec_l2At.calls k _ _ l0 a1 t810 _ ?side1 ?side2 A5.out).mono ?_); (case side1 => exact cb HR0); (case side2 => exact HC0.out); rintro e w' ⟨rfl, ⟨nd, rfl⟩⟩; refine ⟨_, rfl, ?_⟩; (try (rw [drewN_self w17]; generalize hq_ : World.drewN w17 _ = w17; have n0_ : Aside0 (Kd.R k100 100 w17 w.heap.size (fun _ => True) v808 y807) := ⟨by rw [← hq_]; exact (ro HO809)⟩; have n1_ : Aside0 (Below w.heap.size w w17) := ⟨by rw [← hq_]; exact bl⟩; clear HO809 HB hq_; have HO809 := n0_; have HB := n1_; clear n0_ n1_)); have p14 : 0 ≤ (t810 : Int) := od; have q14 : (t810 : Int) < ((y807.length : Int) : Int) := od; obtain ⟨go14, co14, eo14, gb14, gl14, cl14, HG14⟩ := Kd.R_form HO809.out (by omega); (first | cases eo14 | (injection eo14 with ea_ en_ ec_; (first | subst ea_ | (injection ea_ with ea_; subst ea_)); subst ec_; clear en_)); have GB14 := am gb14; have GG14 := am HG14; clear gb14 gl14 HG14; obtain ⟨ce14, hcl14, hM14, hcc14, hfr14⟩ := Kd.R_elem HO809.out z100 (t810 : Int) p14 q14; obtain rfl := k100_openM hM14; have hx14_0 : w17.cell? ⟨go14, (t810 : Int).toNat * 2, none⟩ = some (.string ((rd_T100 y807 t810).f0)) := hcc14 0 _ rfl; have hx14_1 : w17.cell? ⟨go14, (t810 : Int).toNat * 2 + 1, none⟩ = some (.string ((rd_T100 y807 t810).f1)) := hcc14 1 _ rfl; have hf14_0 : w17.frozen? ⟨go14, (t810 : Int).toNat * 2, none⟩ = false := hfr14 0; have hf14_1 : w17.frozen? ⟨go14, (t810 : Int).toNat * 2 + 1, none⟩ = false := hfr14 1; clear hcl14 hcc14 hfr14 hM14; replace p14 := eq_true p14; replace q14 := eq_true q14; have HX18 := am (show Kd.R k100 100 w17 w.heap.size (fun _ => True) (.slice (some ⟨go14, 0, none⟩) y807.length co14) y807 from (ro HO809)); obtain ⟨ce18, hcl18, hM18, hcc18, hfr18⟩ := Kd.R_elem HX18.out z100 (t810 : Int) (od) (by have h_ : (t810 : Int) < ((y807.length : Int) : Int) := od; first | exact h_ | (have e_ := (Kd.R_reads' HO809.out).1; omega) | simpa using h_); obtain rfl := k100_openM hM18; have HP18 := Kd.R_seg HX18.out (t810 : Int) (od) (by have h_ : (t810 : Int) < ((y807.length : Int) : Int) := od; first | exact h_ | (have e_ := (Kd.R_reads' HO809.out).1; omega) | simpa using h_) (seg := [.string a2]) (j := 1) hcl18 hcc18 (show 2 ≤ 2 from by decide) (x' := (⟨(rd_T100 y807 t810).f0, a2⟩ : S100)) (k100_mkM _ _ _ (⟨(rd_T100 y807 t810).f0, a2⟩ : S100) ) (fun _ hk => hk); have hx18_1 := hcc18 1 _ rfl; (try simp only [show (k100).sz = 2 from rfl, Nat.mul_one, Nat.add_zero] at hx18_1); have hf18_1 := hfr18 1; (try simp only [show (k100).sz = 2 from rfl, Nat.mul_one, Nat.add_zero] at hf18_1); clear hcl18 hcc18 hfr18 hM18) | ((with_reducible refine gate_store (t := 9) (p := 27) rfl ?_); refine store_event (t := 9) (p := 27) (v := ?vo_w19) (w1 := (w17.setCell ⟨go14, (t810 : Int).toNat * 2 + 1, none⟩ (.string a2))) ?hg ?ho ?hn ?hr ?_; (case ho => rfl); (case hg => rfl); (case hn => rfl); (case hr => first | (go_simp; done) | (go_simp; rfl)); intro w19 hw; have hg : w17.grownBy w19 (some go14) := (by rw [hw]; exact HP18.2); have hp_ : Kd.R k100 100 w19 w.heap.size (fun _ => True) (.slice (some ⟨go14, 0, none⟩) y807.length co14) y814 := (by rw [hw, Ny814.out]; exact HP18.1); clear HP18; have n0_ := am (hp_); have n1_ := am ((by rw [hw]; exact below_set (HB.out) GB14.out : Below w.heap.size w w19)); clear HO809; clear HB; have HO809 := n0_; have HB := n1_; clear n0_ n1_; clear hg hw hp_))
 go_ret
 exact ⟨_, rf, by (with_reducible repeat (first | apply Kd.R_alloc | apply Kd.R_drewN | apply Kd.R_drew)); exact HO809.out, bl⟩

/-! ### spec_l3DrawResp: function 97 -/
theorem u97HI0 {p : Prop} (h : p := by repeat (first | (with_reducible first | exact HI0.out | apply IsS122.alloc | apply IsS122.drewN | apply IsS122.drew | apply IsS122.set_1 | apply IsS122.set_2 | apply IsS122.far (p := ⟨gb815, _, none⟩) (hne := NB0_815.out) | apply IsS122.far (p := ⟨gb830, _, none⟩) (hne := NB0_830.out)) | exact HI0.out)) : p := h
theorem u97HK {p : Prop} (h : p := by repeat (first | (with_reducible first | exact HK.out | apply KeepBut.set_ | apply keep_drewN | apply keep_drew | apply keep_alloc | refine keep_far ?_ GW815.out _ | refine keep_far ?_ GW830.out _) | exact HK.out)) : p := h
theorem u97HB {p : Prop} (h : p := by repeat (first | (with_reducible first | exact HB.out | apply below_alloc | apply pw_below_drewN | apply below_drew1 | refine below_set ?_ (IsS122.ge HI0.out) | refine below_set ?_ GE815.out | refine below_set ?_ GE830.out) | exact HB.out)) : p := h
def spec_l3DrawResp.f (k : Nat) (s0_0 : List Int) (s0_1 : Int) (s0_2 : Int) : Option (Int × (List (S100)) × ByteArray × Int × Int) := (spec_l1PickInt.f s0_0 s0_1 s0_2 (([200, 200, 200, 200, 404, 500, 304] : List Int))).bind fun bt819 => ((spec_l2DrawRight.f k s0_0 bt819.2.1 bt819.2.2).bind fun bt822 => ((spec_l3DrawBody.f k s0_0 bt822.2.1 bt822.2.2).bind fun bt827 => ((spec_l1Once.f s0_0 bt827.2.1 bt827.2.2 2).bind fun bt831 => (if bt831.1 = true then ((spec_l1Pick.f s0_0 bt831.2.1 bt831.2.2 (([(⟨#[109, 97, 120, 45, 97, 103, 101, 61, 53]⟩ : ByteArray), (⟨#[109, 97, 120, 45, 97, 103, 101, 61, 50, 48]⟩ : ByteArray), (⟨#[109, 97, 120, 45, 97, 103, 101, 61, 57]⟩ : ByteArray)] : List ByteArray))).bind fun bt837 => ((spec_Put.f k bt822.1 (⟨#[99, 97, 99, 104, 101, 45, 99, 111, 110, 116, 114, 111, 108]⟩ : ByteArray) bt837.1).bind fun t840 => (some (bt819.1, t840, bt827.1, bt837.2.1, bt837.2.2)))) else (some (bt819.1, bt822.1, bt827.1, bt831.2.1, bt831.2.2))))))
theorem spec_l3DrawResp.mono : ∀ a0 a1 a2 k, LeO (spec_l3DrawResp.f k a0 a1 a2) (spec_l3DrawResp.f (k + 1) a0 a1 a2) := by
 intro a0 a1 a2 k
 unfold spec_l3DrawResp.f
 have m0 := @spec_Put.mono
 have m1 := @spec_l2DrawRight.mono
 have m2 := @spec_l3DrawBody.mono
 exact mo
def spec_l3DrawResp.T3 : Bool × List (List Nat × List Nat) := (true, [([], []), ([0], [0]), ([], []), ([], []), ([2, 3], [2, 3]), ([1, 4, 4], [1, 4]), ([0, 1, 2, 3, 4, 5], []), ([6, 5, 5, 0, 1, 2, 3, 4, 5], [5, 6])])
def spec_l3DrawResp.B3 : List Nat := [0, 1, 0, 0, 12, 31, 63, 127]
theorem spec_l3DrawResp.tab3 : rtab .any (opsOf Tryz.f97 3) = spec_l3DrawResp.T3 := by kernel_rfl
theorem spec_l3DrawResp.bits3 : waitsOk spec_l3DrawResp.T3.2 spec_l3DrawResp.B3 = true := by kernel_rfl
set_option maxHeartbeats 8000000 in
set_option maxRecDepth 100000 in
theorem spec_l3DrawResp.calls (k : Nat) (g : Nat) (s0_0 : List Int) (s0_1 : Int) (s0_2 : Int) (r1 : Int) (r2 : List (S100)) (r3 : ByteArray) (r4 : Int) (r5 : Int) (w0 w : World) (hI : IsS122 w0 w g s0_0 s0_1 s0_2) (hB : Below w0.heap.size w0 w) (h : spec_l3DrawResp.f k s0_0 s0_1 s0_2 = some (r1, r2, r3, r4, r5)) :
  Calls Tryz.prog 97 #[.pointer (some ⟨g, 0, none⟩)] w fun e w' => ∃ v1_ : Value, e = .returned (.agg #[.int .i64 r1, v1_, .string r3]) ∧ Kd.R k100 100 w' w.heap.size (fun _ => True) v1_ r2 ∧ IsS122 w0 w' g s0_0 r4 r5 ∧ Below w0.heap.size w0 w' ∧ KeepBut w w' g none := by
 have hu48 := Tryz.underlying48
 have HI0 := am hI
 have HK := am (KeepBut.refl w g none)
 have HL := am hB.size
 clear hI
 have HW0 := am hB.size
 have HB := am hB
 clear hB
 unfold spec_l3DrawResp.f at h
 have H := h
 clear h
 obtain ⟨y816, hy816⟩ : ∃ y_ : List Int, y_ = (([200, 200, 200, 200, 404, 500, 304] : List Int)) := ⟨_, rfl⟩
 replace H : ((spec_l1PickInt.f s0_0 s0_1 s0_2 y816).bind fun bt819 => ((spec_l2DrawRight.f k s0_0 bt819.2.1 bt819.2.2).bind fun bt822 => ((spec_l3DrawBody.f k s0_0 bt822.2.1 bt822.2.2).bind fun bt827 => ((spec_l1Once.f s0_0 bt827.2.1 bt827.2.2 2).bind fun bt831 => (if bt831.1 = true then ((spec_l1Pick.f s0_0 bt831.2.1 bt831.2.2 (([(⟨#[109, 97, 120, 45, 97, 103, 101, 61, 53]⟩ : ByteArray), (⟨#[109, 97, 120, 45, 97, 103, 101, 61, 50, 48]⟩ : ByteArray), (⟨#[109, 97, 120, 45, 97, 103, 101, 61, 57]⟩ : ByteArray)] : List ByteArray))).bind fun bt837 => ((spec_Put.f k bt822.1 (⟨#[99, 97, 99, 104, 101, 45, 99, 111, 110, 116, 114, 111, 108]⟩ : ByteArray) bt837.1).bind fun t840 => (some (bt819.1, t840, bt827.1, bt837.2.1, bt837.2.2)))) else (some (bt819.1, bt822.1, bt827.1, bt831.2.1, bt831.2.2))))))) = some (r1, r2, r3, r4, r5) := by first | (rw [hy816]; with_reducible exact H) | (have H2_ := (Option.bind_some _ _).symm.trans H; rw [hy816]; with_reducible exact H2_) | (have H2_ := (Option.bind_some _ _).symm.trans H; with_reducible exact H2_) | with_reducible exact H | (rw [hy816]; exact H) | exact H
 have Ny816 := am hy816
 clear hy816
 revert H
 refine ok3 fun t819 t820 t821 A2 H => ?_
 (try dsimp only at H)
 revert H
 refine ok3 fun t822 t825 t826 A3 H => ?_
 (try dsimp only at H)
 revert H
 refine ok3 fun t827 t828 t829 A4 H => ?_
 (try dsimp only at H)
 revert H
 refine ok3 fun t831 t832 t833 A5 H => ?_
 (try dsimp only at H)
 by_cases c6 : t831 = true
 rotate_left
 ·replace c6 := Bool.eq_false_iff.mpr c6
  subst c6
  rw [if_neg (show ¬ (false = true) by decide)] at H
  simp only [Option.some.injEq, Prod.mk.injEq] at H
  obtain ⟨rfl, rfl, rfl, rfl, rfl⟩ := H
  go_enter Tryz.func97, Tryz.ntmps97
  go_wp2_with (first | (refine bx 2 #[.int .i64 0, .slice none 0 0, .string (⟨#[]⟩ : ByteArray)] 48 ?_; intro gb815 hg w33 hbox hb; have n0_ := am (IsS122.below u97HI0 hb); have n1_ := am (KeepBut.trans u97HK (KeepBut.of_below hb g none) (.inl rfl)); have n2_ := am (below_step u97HB hb); have n3_ := am (hbox); have n4_ := am ((by rw [hg]; exact (keep_size (w := w) (g := g) (row := none) u97HK) : w.heap.size ≤ gb815)); have n5_ := am ((Nat.le_trans HW0.out (by rw [hg]; exact (keep_size (w := w) (g := g) (row := none) u97HK) : w.heap.size ≤ gb815) : w0.heap.size ≤ gb815)); have n6_ := am ((by rw [hg]; exact Nat.ne_of_lt (IsS122.lt (show IsS122 w0 _ g s0_0 s0_1 s0_2 from u97HI0)) : g ≠ gb815)); have n7_ := am ((by rw [hg]; exact Nat.ne_of_gt (IsS122.lt (show IsS122 w0 _ g s0_0 s0_1 s0_2 from u97HI0)) : gb815 ≠ g)); clear HI0; clear HK; clear HB; have HI0 := n0_; have HK := n1_; have HB := n2_; have BK815 := n3_; have GW815 := n4_; have GE815 := n5_; have NB0_815 := n6_; have NB815_0 := n7_; clear n0_ n1_ n2_ n3_ n4_ n5_ n6_ n7_; clear hb hbox hg) | ((with_reducible refine gate_dst (N := 5) rfl ?_); refine Kd.R_lit (Kd.int .i64) _ 3 ?hg (N := 5) ?hd (xs := ([200, 200, 200, 200, 404, 500, 304] : List Int)) (inner := [.int .i64 200, .int .i64 200, .int .i64 200, .int .i64 200, .int .i64 404, .int .i64 500, .int .i64 304]) (ok := fun _ => True) (okp := fun _ => True) ?hr ?hp (fun _ hk => hk) trivial (Below.refl _ _) (Nat.le_refl _) (by simp) ?_; (case hd => rfl); (case hg => rfl); (case hr => first | (go_simp; done) | (go_simp; rfl)); (case hp => exact rp); intro v817 w34 ho35 hb hg_ hnew_; clear hg_ hnew_; (first | rw [← Ny816.out] at ho35 | (simp only [Int.reduceToNat] at ho35; rw [← Ny816.out] at ho35)); have HO818 := am (Kd.R_lower ho35 (keep_size (w := w) (g := g) (row := none) u97HK)); replace BK815 := kb BK815 hb; replace HK := am (KeepBut.trans u97HK (KeepBut.of_below hb g none) (.inl rfl)); replace HB := am (below_step u97HB hb); replace HI0 := am (IsS122.below u97HI0 hb); clear hb ho35; obtain ⟨Ao36, co36, eo36⟩ := Kd.R_slice HO818.out; subst eo36) | (refine gl 6 Tryz.func116 #[.pointer (some ⟨g, 0, none⟩), .slice Ao36 y816.length co36] ?_; (with_reducible refine (spec_l1PickInt.calls g s0_0 s0_1 s0_2 _ _ y816 t819 t820 t821 w0 _ ?side1 ?side2 ?side3 ?side4 ?side5 A2.out).mono ?_); (case side1 => exact u97HI0); (case side2 => exact u97HB); (case side3 => exact rc HO818); (case side4 => exact (Kd.R_reads' HO818.out).2.1); (case side5 => exact far_slice (IsS122.own_ne HI0.out HO818.out (by decide))); rintro e w37 ⟨rfl, hi, hb, hk⟩; refine ⟨_, rfl, ?_⟩; replace BK815 := kp BK815 hk NB815_0; replace HO818 := am (Kd.R_mono (Kd.R_keep (IsS122.apart (show IsS122 w0 _ g s0_0 s0_1 s0_2 from u97HI0) (ro HO818) (by decide)) hk (fun _ h => h.2)) (fun _ h => h.1)); replace HK := am (KeepBut.trans u97HK hk (.inl rfl)); replace HB := am (hb); replace HI0 := am (hi); clear hb hk hi) | (refine gl 8 Tryz.func135 #[.pointer (some ⟨g, 0, none⟩)] ?_; (with_reducible refine (spec_l2DrawRight.calls k g s0_0 t820 t821 t822 t825 t826 w0 _ ?side1 ?side2 A3.out).mono ?_); (case side1 => exact u97HI0); (case side2 => exact u97HB); rintro e w38 ⟨v823, rfl, ho0, hi, hb, hk⟩; refine ⟨_, rfl, ?_⟩; replace BK815 := kp BK815 hk NB815_0; replace HO818 := am (Kd.R_mono (Kd.R_keep (IsS122.apart (show IsS122 w0 _ g s0_0 t820 t821 from u97HI0) (ro HO818) (by decide)) hk (fun _ h => h.2)) (fun _ h => h.1)); have HO824 := am (Kd.R_lower ho0 (keep_size (w := w) (g := g) (row := none) u97HK)); replace HK := am (KeepBut.trans u97HK hk (.inl rfl)); replace HB := am (hb); replace HI0 := am (hi); clear hb hk hi ho0) | (refine gl 10 Tryz.func118 #[.pointer (some ⟨g, 0, none⟩)] ?_; (with_reducible refine (spec_l3DrawBody.calls k g s0_0 t825 t826 t827 t828 t829 w0 _ ?side1 ?side2 A4.out).mono ?_); (case side1 => exact u97HI0); (case side2 => exact u97HB); rintro e w39 ⟨rfl, hi, hb, hk⟩; refine ⟨_, rfl, ?_⟩; replace BK815 := kp BK815 hk NB815_0; replace HO818 := am (Kd.R_mono (Kd.R_keep (IsS122.apart (show IsS122 w0 _ g s0_0 t825 t826 from u97HI0) (ro HO818) (by decide)) hk (fun _ h => h.2)) (fun _ h => h.1)); replace HO824 := am (Kd.R_mono (Kd.R_keep (IsS122.apart (show IsS122 w0 _ g s0_0 t825 t826 from u97HI0) (ro HO824) (by decide)) hk (fun _ h => h.2)) (fun _ h => h.1)); replace HK := am (KeepBut.trans u97HK hk (.inl rfl)); replace HB := am (hb); replace HI0 := am (hi); clear hb hk hi; obtain ⟨Ao40, co40, eo40⟩ := Kd.R_slice HO824.out; subst eo40) | (refine bx 3 #[.int .i64 0, .slice none 0 0, .string (⟨#[]⟩ : ByteArray)] 48 ?_; intro gb830 hg w41 hbox hb; have n0_ := am (Kd.R_below (ro HO818) hb); have n1_ := am (Kd.R_below (ro HO824) hb); have n2_ := am (IsS122.below u97HI0 hb); have n3_ := kb BK815 hb; have n4_ := am (KeepBut.trans u97HK (KeepBut.of_below hb g none) (.inl rfl)); have n5_ := am (below_step u97HB hb); have n6_ := am (hbox); have n7_ := am ((by rw [hg]; exact (keep_size (w := w) (g := g) (row := none) u97HK) : w.heap.size ≤ gb830)); have n8_ := am ((Nat.le_trans HW0.out (by rw [hg]; exact (keep_size (w := w) (g := g) (row := none) u97HK) : w.heap.size ≤ gb830) : w0.heap.size ≤ gb830)); have n9_ := am (nl hg BK815 : gb815 ≠ gb830); have n10_ := am (ng hg BK815 : gb830 ≠ gb815); have n11_ := am ((by rw [hg]; exact Nat.ne_of_lt (IsS122.lt (show IsS122 w0 _ g s0_0 t828 t829 from u97HI0)) : g ≠ gb830)); have n12_ := am ((by rw [hg]; exact Nat.ne_of_gt (IsS122.lt (show IsS122 w0 _ g s0_0 t828 t829 from u97HI0)) : gb830 ≠ g)); clear HO818; clear HO824; clear HI0; clear BK815; clear HK; clear HB; have HO818 := n0_; have HO824 := n1_; have HI0 := n2_; have BK815 := n3_; have HK := n4_; have HB := n5_; have BK830 := n6_; have GW830 := n7_; have GE830 := n8_; have NB815_830 := n9_; have NB830_815 := n10_; have NB0_830 := n11_; have NB830_0 := n12_; clear n0_ n1_ n2_ n3_ n4_ n5_ n6_ n7_ n8_ n9_ n10_ n11_ n12_; clear hb hbox hg; have hnb42 := NB830_815.out; have hnc42 := NB815_830.out; have hnb43 := NB830_0.out; have hnc43 := NB0_830.out; obtain ⟨z44_0, y44_0, z44_1, y44_1, z44_2, y44_2⟩ := cl3 BK830) | (refine gl 13 Tryz.func65 #[.pointer (some ⟨g, 0, none⟩), .int .i64 2] ?_; (with_reducible refine (spec_l1Once.calls g s0_0 t828 t829 2 false t832 t833 w0 _ ?side1 ?side2 A5.out).mono ?_); (case side1 => exact u97HI0); (case side2 => exact u97HB); rintro e w45 ⟨rfl, hi, hb, hk⟩; refine ⟨_, rfl, ?_⟩; have n0_ := am (KeepBut.blk hk (g' := gb815) (o := .cells #[.int .i64 0, .slice none 0 0, .string (⟨#[]⟩ : ByteArray)] 48 (0, 0)) (bg1 BK815 NB815_830) NB815_0.out (by simp)); have n1_ := am (Kd.R_mono (Kd.R_keep (IsS122.apart (show IsS122 w0 _ g s0_0 t828 t829 from u97HI0) (by (with_reducible repeat (first | apply Kd.R_alloc | apply Kd.R_drewN | apply Kd.R_drew)); exact (Kd.R_mono (Kd.R_far (p := ⟨gb830, 2, none⟩) (Kd.R_far (p := ⟨gb830, 1, none⟩) (Kd.R_far (p := ⟨gb830, 0, none⟩) (Kd.R_types HO818.out BK830.out (by decide)) (fun _ hk => hk.2) (.int .i64 t819)) (fun _ hk => hk.2) (.slice Ao40 t822.length co40)) (fun _ hk => hk.2) (.string t827)) (fun _ h_ => h_.1))) (by decide)) hk (fun _ h => h.2)) (fun _ h => h.1)); have n2_ := am (Kd.R_mono (Kd.R_keep (IsS122.apart (show IsS122 w0 _ g s0_0 t828 t829 from u97HI0) (by (with_reducible repeat (first | apply Kd.R_alloc | apply Kd.R_drewN | apply Kd.R_drew)); exact (Kd.R_mono (Kd.R_far (p := ⟨gb830, 2, none⟩) (Kd.R_far (p := ⟨gb830, 1, none⟩) (Kd.R_far (p := ⟨gb830, 0, none⟩) (Kd.R_types HO824.out BK830.out (by decide)) (fun _ hk => hk.2) (.int .i64 t819)) (fun _ hk => hk.2) (.slice Ao40 t822.length co40)) (fun _ hk => hk.2) (.string t827)) (fun _ h_ => h_.1))) (by decide)) hk (fun _ h => h.2)) (fun _ h => h.1)); have n3_ := am (KeepBut.blk hk (g' := gb830) (o := .cells #[.int .i64 t819, .slice Ao40 t822.length co40, .string t827] 48 (0, 0)) (pt0 BK830) NB830_0.out (by simp)); have n4_ := am (KeepBut.trans u97HK hk (.inl rfl)); have n5_ := am (hb); have n6_ := am (hi); clear BK815; clear HO818; clear HO824; clear BK830; clear HK; clear HB; clear HI0; have BK815 := n0_; have HO818 := n1_; have HO824 := n2_; have BK830 := n3_; have HK := n4_; have HB := n5_; have HI0 := n6_; clear n0_ n1_ n2_ n3_ n4_ n5_ n6_; clear hb hk hi; obtain ⟨z46_0, y46_0, z46_1, y46_1, z46_2, y46_2⟩ := cl3 BK830; have hnb47 := NB815_0.out; have hnc47 := NB0_815.out; obtain ⟨z48_0, y48_0, z48_1, y48_1, z48_2, y48_2⟩ := cl3 BK815))
  refine bodyPost_ret (results_cell_row rfl _ _ gb815 48 #[.int .i64 t819, .slice Ao40 t822.length co40, .string t827] (0, 0) _ rfl (pt0 BK815) Tryz.underlying48 rfl (by kernel_rfl)) rfl ?_
  exact ⟨_, rf, rg (Kd.R_types HO824.out BK815.out (by decide)), u97HI0, u97HB, u97HK⟩
 subst c6
 rw [if_pos rfl] at H
 obtain ⟨y834, hy834⟩ : ∃ y_ : List ByteArray, y_ = (([(⟨#[109, 97, 120, 45, 97, 103, 101, 61, 53]⟩ : ByteArray), (⟨#[109, 97, 120, 45, 97, 103, 101, 61, 50, 48]⟩ : ByteArray), (⟨#[109, 97, 120, 45, 97, 103, 101, 61, 57]⟩ : ByteArray)] : List ByteArray)) := ⟨_, rfl⟩
 replace H : ((spec_l1Pick.f s0_0 t832 t833 y834).bind fun bt837 => ((spec_Put.f k t822 (⟨#[99, 97, 99, 104, 101, 45, 99, 111, 110, 116, 114, 111, 108]⟩ : ByteArray) bt837.1).bind fun t840 => (some (t819, t840, t827, bt837.2.1, bt837.2.2)))) = some (r1, r2, r3, r4, r5) := by first | (rw [hy834]; with_reducible exact H) | (have H2_ := (Option.bind_some _ _).symm.trans H; rw [hy834]; with_reducible exact H2_) | (have H2_ := (Option.bind_some _ _).symm.trans H; with_reducible exact H2_) | with_reducible exact H | (rw [hy834]; exact H) | exact H
 have Ny834 := am hy834
 clear hy834
 revert H
 refine ok3 fun t837 t838 t839 A7 H => ?_
 (try dsimp only at H)
 revert H
 refine ok1 fun t840 A8 H => ?_
 simp only [Option.some.injEq, Prod.mk.injEq] at H
 obtain ⟨rfl, rfl, rfl, rfl, rfl⟩ := H
 go_enter Tryz.func97, Tryz.ntmps97
 try go_wp2_with (first | (refine bx 2 #[.int .i64 0, .slice none 0 0, .string (⟨#[]⟩ : ByteArray)] 48 ?_; intro gb815 hg w9 hbox hb; have n0_ := am (IsS122.below u97HI0 hb); have n1_ := am (KeepBut.trans u97HK (KeepBut.of_below hb g none) (.inl rfl)); have n2_ := am (below_step u97HB hb); have n3_ := am (hbox); have n4_ := am ((by rw [hg]; exact (keep_size (w := w) (g := g) (row := none) u97HK) : w.heap.size ≤ gb815)); have n5_ := am ((Nat.le_trans HW0.out (by rw [hg]; exact (keep_size (w := w) (g := g) (row := none) u97HK) : w.heap.size ≤ gb815) : w0.heap.size ≤ gb815)); have n6_ := am ((by rw [hg]; exact Nat.ne_of_lt (IsS122.lt (show IsS122 w0 _ g s0_0 s0_1 s0_2 from u97HI0)) : g ≠ gb815)); have n7_ := am ((by rw [hg]; exact Nat.ne_of_gt (IsS122.lt (show IsS122 w0 _ g s0_0 s0_1 s0_2 from u97HI0)) : gb815 ≠ g)); clear HI0; clear HK; clear HB; have HI0 := n0_; have HK := n1_; have HB := n2_; have BK815 := n3_; have GW815 := n4_; have GE815 := n5_; have NB0_815 := n6_; have NB815_0 := n7_; clear n0_ n1_ n2_ n3_ n4_ n5_ n6_ n7_; clear hb hbox hg) | ((with_reducible refine gate_dst (N := 5) rfl ?_); refine Kd.R_lit (Kd.int .i64) _ 3 ?hg (N := 5) ?hd (xs := ([200, 200, 200, 200, 404, 500, 304] : List Int)) (inner := [.int .i64 200, .int .i64 200, .int .i64 200, .int .i64 200, .int .i64 404, .int .i64 500, .int .i64 304]) (ok := fun _ => True) (okp := fun _ => True) ?hr ?hp (fun _ hk => hk) trivial (Below.refl _ _) (Nat.le_refl _) (by simp) ?_; (case hd => rfl); (case hg => rfl); (case hr => first | (go_simp; done) | (go_simp; rfl)); (case hp => exact rp); intro v817 w10 ho11 hb hg_ hnew_; clear hg_ hnew_; (first | rw [← Ny816.out] at ho11 | (simp only [Int.reduceToNat] at ho11; rw [← Ny816.out] at ho11)); have HO818 := am (Kd.R_lower ho11 (keep_size (w := w) (g := g) (row := none) u97HK)); replace BK815 := kb BK815 hb; replace HK := am (KeepBut.trans u97HK (KeepBut.of_below hb g none) (.inl rfl)); replace HB := am (below_step u97HB hb); replace HI0 := am (IsS122.below u97HI0 hb); clear hb ho11; obtain ⟨Ao12, co12, eo12⟩ := Kd.R_slice HO818.out; subst eo12) | (refine gl 6 Tryz.func116 #[.pointer (some ⟨g, 0, none⟩), .slice Ao12 y816.length co12] ?_; (with_reducible refine (spec_l1PickInt.calls g s0_0 s0_1 s0_2 _ _ y816 t819 t820 t821 w0 _ ?side1 ?side2 ?side3 ?side4 ?side5 A2.out).mono ?_); (case side1 => exact u97HI0); (case side2 => exact u97HB); (case side3 => exact rc HO818); (case side4 => exact (Kd.R_reads' HO818.out).2.1); (case side5 => exact far_slice (IsS122.own_ne HI0.out HO818.out (by decide))); rintro e w13 ⟨rfl, hi, hb, hk⟩; refine ⟨_, rfl, ?_⟩; replace BK815 := kp BK815 hk NB815_0; replace HO818 := am (Kd.R_mono (Kd.R_keep (IsS122.apart (show IsS122 w0 _ g s0_0 s0_1 s0_2 from u97HI0) (ro HO818) (by decide)) hk (fun _ h => h.2)) (fun _ h => h.1)); replace HK := am (KeepBut.trans u97HK hk (.inl rfl)); replace HB := am (hb); replace HI0 := am (hi); clear hb hk hi) | (refine gl 8 Tryz.func135 #[.pointer (some ⟨g, 0, none⟩)] ?_; (with_reducible refine (spec_l2DrawRight.calls k g s0_0 t820 t821 t822 t825 t826 w0 _ ?side1 ?side2 A3.out).mono ?_); (case side1 => exact u97HI0); (case side2 => exact u97HB); rintro e w14 ⟨v823, rfl, ho0, hi, hb, hk⟩; refine ⟨_, rfl, ?_⟩; replace BK815 := kp BK815 hk NB815_0; replace HO818 := am (Kd.R_mono (Kd.R_keep (IsS122.apart (show IsS122 w0 _ g s0_0 t820 t821 from u97HI0) (ro HO818) (by decide)) hk (fun _ h => h.2)) (fun _ h => h.1)); have HO824 := am (Kd.R_lower ho0 (keep_size (w := w) (g := g) (row := none) u97HK)); replace HK := am (KeepBut.trans u97HK hk (.inl rfl)); replace HB := am (hb); replace HI0 := am (hi); clear hb hk hi ho0) | (refine gl 10 Tryz.func118 #[.pointer (some ⟨g, 0, none⟩)] ?_; (with_reducible refine (spec_l3DrawBody.calls k g s0_0 t825 t826 t827 t828 t829 w0 _ ?side1 ?side2 A4.out).mono ?_); (case side1 => exact u97HI0); (case side2 => exact u97HB); rintro e w15 ⟨rfl, hi, hb, hk⟩; refine ⟨_, rfl, ?_⟩; replace BK815 := kp BK815 hk NB815_0; replace HO818 := am (Kd.R_mono (Kd.R_keep (IsS122.apart (show IsS122 w0 _ g s0_0 t825 t826 from u97HI0) (ro HO818) (by decide)) hk (fun _ h => h.2)) (fun _ h => h.1)); replace HO824 := am (Kd.R_mono (Kd.R_keep (IsS122.apart (show IsS122 w0 _ g s0_0 t825 t826 from u97HI0) (ro HO824) (by decide)) hk (fun _ h => h.2)) (fun _ h => h.1)); replace HK := am (KeepBut.trans u97HK hk (.inl rfl)); replace HB := am (hb); replace HI0 := am (hi); clear hb hk hi; obtain ⟨Ao16, co16, eo16⟩ := Kd.R_slice HO824.out; subst eo16) | (refine bx 3 #[.int .i64 0, .slice none 0 0, .string (⟨#[]⟩ : ByteArray)] 48 ?_; intro gb830 hg w17 hbox hb; have n0_ := am (Kd.R_below (ro HO818) hb); have n1_ := am (Kd.R_below (ro HO824) hb); have n2_ := am (IsS122.below u97HI0 hb); have n3_ := kb BK815 hb; have n4_ := am (KeepBut.trans u97HK (KeepBut.of_below hb g none) (.inl rfl)); have n5_ := am (below_step u97HB hb); have n6_ := am (hbox); have n7_ := am ((by rw [hg]; exact (keep_size (w := w) (g := g) (row := none) u97HK) : w.heap.size ≤ gb830)); have n8_ := am ((Nat.le_trans HW0.out (by rw [hg]; exact (keep_size (w := w) (g := g) (row := none) u97HK) : w.heap.size ≤ gb830) : w0.heap.size ≤ gb830)); have n9_ := am (nl hg BK815 : gb815 ≠ gb830); have n10_ := am (ng hg BK815 : gb830 ≠ gb815); have n11_ := am ((by rw [hg]; exact Nat.ne_of_lt (IsS122.lt (show IsS122 w0 _ g s0_0 t828 t829 from u97HI0)) : g ≠ gb830)); have n12_ := am ((by rw [hg]; exact Nat.ne_of_gt (IsS122.lt (show IsS122 w0 _ g s0_0 t828 t829 from u97HI0)) : gb830 ≠ g)); clear HO818; clear HO824; clear HI0; clear BK815; clear HK; clear HB; have HO818 := n0_; have HO824 := n1_; have HI0 := n2_; have BK815 := n3_; have HK := n4_; have HB := n5_; have BK830 := n6_; have GW830 := n7_; have GE830 := n8_; have NB815_830 := n9_; have NB830_815 := n10_; have NB0_830 := n11_; have NB830_0 := n12_; clear n0_ n1_ n2_ n3_ n4_ n5_ n6_ n7_ n8_ n9_ n10_ n11_ n12_; clear hb hbox hg; have hnb18 := NB830_815.out; have hnc18 := NB815_830.out; have hnb19 := NB830_0.out; have hnc19 := NB0_830.out; obtain ⟨z20_0, y20_0, z20_1, y20_1, z20_2, y20_2⟩ := cl3 BK830) | (refine gl 13 Tryz.func65 #[.pointer (some ⟨g, 0, none⟩), .int .i64 2] ?_; (with_reducible refine (spec_l1Once.calls g s0_0 t828 t829 2 true t832 t833 w0 _ ?side1 ?side2 A5.out).mono ?_); (case side1 => exact u97HI0); (case side2 => exact u97HB); rintro e w21 ⟨rfl, hi, hb, hk⟩; refine ⟨_, rfl, ?_⟩; have n0_ := am (KeepBut.blk hk (g' := gb815) (o := .cells #[.int .i64 0, .slice none 0 0, .string (⟨#[]⟩ : ByteArray)] 48 (0, 0)) (bg1 BK815 NB815_830) NB815_0.out (by simp)); have n1_ := am (Kd.R_mono (Kd.R_keep (IsS122.apart (show IsS122 w0 _ g s0_0 t828 t829 from u97HI0) (by (with_reducible repeat (first | apply Kd.R_alloc | apply Kd.R_drewN | apply Kd.R_drew)); exact (Kd.R_mono (Kd.R_far (p := ⟨gb830, 2, none⟩) (Kd.R_far (p := ⟨gb830, 1, none⟩) (Kd.R_far (p := ⟨gb830, 0, none⟩) (Kd.R_types HO818.out BK830.out (by decide)) (fun _ hk => hk.2) (.int .i64 t819)) (fun _ hk => hk.2) (.slice Ao16 t822.length co16)) (fun _ hk => hk.2) (.string t827)) (fun _ h_ => h_.1))) (by decide)) hk (fun _ h => h.2)) (fun _ h => h.1)); have n2_ := am (Kd.R_mono (Kd.R_keep (IsS122.apart (show IsS122 w0 _ g s0_0 t828 t829 from u97HI0) (by (with_reducible repeat (first | apply Kd.R_alloc | apply Kd.R_drewN | apply Kd.R_drew)); exact (Kd.R_mono (Kd.R_far (p := ⟨gb830, 2, none⟩) (Kd.R_far (p := ⟨gb830, 1, none⟩) (Kd.R_far (p := ⟨gb830, 0, none⟩) (Kd.R_types HO824.out BK830.out (by decide)) (fun _ hk => hk.2) (.int .i64 t819)) (fun _ hk => hk.2) (.slice Ao16 t822.length co16)) (fun _ hk => hk.2) (.string t827)) (fun _ h_ => h_.1))) (by decide)) hk (fun _ h => h.2)) (fun _ h => h.1)); have n3_ := am (KeepBut.blk hk (g' := gb830) (o := .cells #[.int .i64 t819, .slice Ao16 t822.length co16, .string t827] 48 (0, 0)) (pt0 BK830) NB830_0.out (by simp)); have n4_ := am (KeepBut.trans u97HK hk (.inl rfl)); have n5_ := am (hb); have n6_ := am (hi); clear BK815; clear HO818; clear HO824; clear BK830; clear HK; clear HB; clear HI0; have BK815 := n0_; have HO818 := n1_; have HO824 := n2_; have BK830 := n3_; have HK := n4_; have HB := n5_; have HI0 := n6_; clear n0_ n1_ n2_ n3_ n4_ n5_ n6_; clear hb hk hi))
 replace HO818 := am (Kd.R_drew HO818.out)
 replace HO824 := am (Kd.R_drew HO824.out)
 replace BK815 := am (blk_drew BK815.out)
 replace BK830 := am (blk_drew BK830.out)
 replace HI0 := am (IsS122.drew HI0.out)
 replace HK := am (keep_drew HK.out)
 replace HB := am (below_drew1 HB.out)
 refine start_ (n := 8) (S := fun w' => w'.cell? ⟨gb830, 0, none⟩ = some (.int .i64 t819) ∧ w'.cell? ⟨gb830, 1, none⟩ = some (.slice Ao16 t822.length co16) ∧ w'.cell? ⟨gb830, 2, none⟩ = some (.string t827)) (ds := [7]) ⟨br true [0, 8]⟩ (by kernel_rfl) rfl (by kernel_rfl) ⟨bc BK830, bc BK830, bc BK830⟩ (fun hHeld => ?_); refine with_tabW spec_l3DrawResp.tab3 spec_l3DrawResp.bits3 (fun HT_ HW_ => ?_)
 generalize w21.drew = w22 at HO818 HO824 BK815 BK830 HI0 HK HB hHeld ⊢
 refine pu 0 14 [1, 7] ?_
 refine pu 2 16 [1, 1, 1, 5] ?_
 refine tk 1 15 [3, 5] ?_
 refine one_ (i := 3) (N := some 17) #[true, true, true, true, false, false, false, false] rfl rfl (one_of HT_.out (by kernel_rfl)) (by decide) (fun K hK => ?_)
 refine Kd.R_lit_step Kd.string _ 9 ?hg (N := 17) ?hd (xs := ([(⟨#[109, 97, 120, 45, 97, 103, 101, 61, 53]⟩ : ByteArray), (⟨#[109, 97, 120, 45, 97, 103, 101, 61, 50, 48]⟩ : ByteArray), (⟨#[109, 97, 120, 45, 97, 103, 101, 61, 57]⟩ : ByteArray)] : List ByteArray)) (inner := [.string (⟨#[109, 97, 120, 45, 97, 103, 101, 61, 53]⟩ : ByteArray), .string (⟨#[109, 97, 120, 45, 97, 103, 101, 61, 50, 48]⟩ : ByteArray), .string (⟨#[109, 97, 120, 45, 97, 103, 101, 61, 57]⟩ : ByteArray)]) (ok := fun _ => True) (okp := fun _ => True) ?hr ?hp (fun _ hk => hk) trivial (Below.refl _ _) (Nat.le_refl _) (by simp) ?_; (case hd => rfl); (case hg => rfl); (case hr => first | (go_simp; done) | (go_simp; rfl)); (case hp => exact rp)
 intro v835 w23 ho24 hb hg_ hnew_
 clear hg_ hnew_
 (first | rw [← Ny834.out] at ho24 | (simp only [Int.reduceToNat] at ho24; rw [← Ny834.out] at ho24))
 replace HO818 := kr HO818 hb
 replace HO824 := kr HO824 hb
 have HO836 := am (Kd.R_lower ho24 (keep_size (w := w) (g := g) (row := none) u97HK))
 replace BK815 := kb BK815 hb
 replace BK830 := kb BK830 hb
 replace HK := am (KeepBut.trans u97HK (KeepBut.of_below hb g none) (.inl rfl))
 replace HB := am (below_step u97HB hb)
 replace HI0 := am (IsS122.below u97HI0 hb)
 clear hb ho24
 obtain ⟨Ao25, co25, eo25⟩ := Kd.R_slice HO836.out
 (first | subst eo25 | (injection eo25 with f1_ f2_ f3_; have f4_ := f1_.symm; have f5_ := f3_.symm; clear f1_ f2_ f3_; subst f4_; subst f5_))
 refine hK.out _ _ ⟨bc BK830, bc BK830, bc BK830⟩ (fun hHeld => ?_)
 clear hK K
 refine nm 17 ?_
 refine og 4 18 [5, 3] Tryz.func64 #[.pointer (some ⟨g, 0, none⟩), .slice Ao25 y834.length co25] (fun K hK => ?_)
 with_reducible refine (spec_l1Pick.calls g s0_0 t832 t833 _ _ y834 t837 t838 t839 w0 _ ?side1 ?side2 ?side3 ?side4 ?side5 A7.out).mono ?_
 (case side1 => exact u97HI0)
 (case side2 => exact u97HB)
 (case side3 => exact rc HO836)
 (case side4 => exact (Kd.R_reads' HO836.out).2.1)
 (case side5 => exact far_slice (IsS122.own_ne HI0.out HO836.out (by decide)))
 rintro e w26 ⟨rfl, hi, hb, hk⟩
 refine ⟨_, rfl, ?_⟩
 replace BK815 := kp BK815 hk NB815_0
 replace HO818 := am (Kd.R_mono (Kd.R_keep (IsS122.apart (show IsS122 w0 _ g s0_0 t832 t833 from u97HI0) (ro HO818) (by decide)) hk (fun _ h => h.2)) (fun _ h => h.1))
 replace HO824 := am (Kd.R_mono (Kd.R_keep (IsS122.apart (show IsS122 w0 _ g s0_0 t832 t833 from u97HI0) (ro HO824) (by decide)) hk (fun _ h => h.2)) (fun _ h => h.1))
 replace BK830 := kp BK830 hk NB830_0
 replace HO836 := am (Kd.R_mono (Kd.R_keep (IsS122.apart (show IsS122 w0 _ g s0_0 t832 t833 from u97HI0) (ro HO836) (by decide)) hk (fun _ h => h.2)) (fun _ h => h.1))
 replace HK := am (KeepBut.trans u97HK hk (.inl rfl))
 replace HB := am (hb)
 replace HI0 := am (hi)
 clear hb hk hi
 refine hK.out _ _ ⟨bc BK830, bc BK830, bc BK830⟩ (fun hHeld => ?_)
 clear hK K
 refine nm 18 ?_
 refine og 5 19 [6, 2] Tryz.func136 #[.slice Ao16 t822.length co16, .string (⟨#[99, 97, 99, 104, 101, 45, 99, 111, 110, 116, 114, 111, 108]⟩ : ByteArray), .string t837] (fun K hK => ?_)
 with_reducible refine (spec_Put.calls k _ _ t822 (⟨#[99, 97, 99, 104, 101, 45, 99, 111, 110, 116, 114, 111, 108]⟩ : ByteArray) t837 t840 _ ?side1 ?side2 A8.out).mono ?_
 (case side1 => exact rc HO824)
 (case side2 => exact (Kd.R_reads' HO824.out).2.1)
 rintro e w27 ⟨v841, rfl, ho0, hb⟩
 refine ⟨_, rfl, ?_⟩
 replace HO818 := kr HO818 hb
 replace HO836 := kr HO836 hb
 have HO842 := am (Kd.R_lower (Kd.R_new' ho0 (Kd.R_lt (ro HO824))) (keep_size (w := w) (g := g) (row := none) u97HK))
 replace HO824 := am (Kd.R_elder' (ro HO824) (Kd.R_base ho0) hb)
 replace BK815 := kb BK815 hb
 replace BK830 := kb BK830 hb
 replace HK := am (KeepBut.trans u97HK (KeepBut.of_below hb g none) (.inl rfl))
 replace HB := am (below_step u97HB hb)
 replace HI0 := am (IsS122.below u97HI0 hb)
 clear hb ho0
 obtain ⟨Ao28, co28, eo28⟩ := Kd.R_slice HO842.out
 (first | subst eo28 | (injection eo28 with f1_ f2_ f3_; have f4_ := f1_.symm; have f5_ := f3_.symm; clear f1_ f2_ f3_; subst f4_; subst f5_))
 refine hK.out _ _ ⟨bc BK830, bc BK830, bc BK830⟩ (fun hHeld => ?_)
 clear hK K
 refine nm 19 ?_
 refine pu 6 20 [7, 1] ?_
 refine last_ (i := 7) (N := none) #[true, true, true, true, true, true, true, true] rfl rfl (one_of HT_.out (by kernel_rfl)) (by decide) (fun K hK => ?_)
 have hs29 : w27.cell? ⟨gb830, 1, none⟩ = some (.slice Ao16 t822.length co16) := bc BK830
 have hfs29 := blk_frozen BK830.out 1
 have hns29_0 := NB815_830.out
 have hms29_0 := NB830_815.out
 refine skip_ (w1 := ?_) (by rfl) rfl ?_ ?_
 rotate_left
 ·go_simp
  rfl
 refine hK.out _ _ ?_
 clear hK K
 refine done_ (done_of HT_.out (by kernel_rfl)) ?_
 obtain ⟨z30_0, y30_0, z30_1, y30_1, z30_2, y30_2⟩ := cl3 BK830
 have hnb31 := NB815_0.out
 have hnc31 := NB0_815.out
 obtain ⟨z32_0, y32_0, z32_1, y32_1, z32_2, y32_2⟩ := cl3 BK815
 try go_wp2
 refine bodyPost_ret (results_cell_row rfl _ _ gb815 48 #[.int .i64 t819, .slice Ao28 t840.length co28, .string t827] (0, 0) _ rfl (pt1 BK815 NB815_830) Tryz.underlying48 rfl (by kernel_rfl)) rfl ?_
 exact ⟨_, rf, rg (Kd.R_types (Kd.R_types HO842.out BK830.out (by decide)) BK815.out (by decide)), u97HI0, u97HB, u97HK⟩

/-! ### spec_l3DrawBadResp: function 94 -/
theorem u94HI0 {p : Prop} (h : p := by repeat (first | (with_reducible first | exact HI0.out | apply IsS122.alloc | apply IsS122.drewN | apply IsS122.drew | apply IsS122.set_1 | apply IsS122.set_2 | apply IsS122.far (p := ⟨gb843, _, none⟩) (hne := NB0_843.out) | apply IsS122.far (p := ⟨gb851, _, none⟩) (hne := NB0_851.out)) | exact HI0.out)) : p := h
theorem u94HK {p : Prop} (h : p := by repeat (first | (with_reducible first | exact HK.out | apply KeepBut.set_ | apply keep_drewN | apply keep_drew | apply keep_alloc | refine keep_far ?_ GW843.out _ | refine keep_far ?_ GW851.out _) | exact HK.out)) : p := h
theorem u94HB {p : Prop} (h : p := by repeat (first | (with_reducible first | exact HB.out | apply below_alloc | apply pw_below_drewN | apply below_drew1 | refine below_set ?_ (IsS122.ge HI0.out) | refine below_set ?_ GE843.out | refine below_set ?_ GE851.out) | exact HB.out)) : p := h
def spec_l3DrawBadResp.l0 : Nat → List Int → Int → Int → Int → List (S100) → ByteArray → Option (Int × (List (S100)) × ByteArray × Int × Int)
 | 0, _, _, _, _, _, _ => none
 | k + 1, x1000, x1001, x1002, x852000, x852001, x852002 => (spec_l1Below.f x1000 x1001 x1002 2).bind fun bt866 => (if (x852002.size : Int) < (wrap64 (120 + bt866.1)) then (if x852002.size + 1 ≤ 9223372036854775807 then (spec_l3DrawBadResp.l0 k x1000 bt866.2.1 bt866.2.2 x852000 x852001 (x852002 ++ (⟨#[98]⟩ : ByteArray))) else (none)) else (some (x852000, x852001, x852002, bt866.2.1, bt866.2.2)))
def spec_l3DrawBadResp.f (k : Nat) (s0_0 : List Int) (s0_1 : Int) (s0_2 : Int) : Option (Int × (List (S100)) × ByteArray × Int × Int) := (spec_l3DrawResp.f k s0_0 s0_1 s0_2).bind fun bt844 => ((spec_l1Below.f s0_0 bt844.2.2.2.1 bt844.2.2.2.2 20).bind fun bt852 => (if bt852.1 = 0 then ((spec_l1PickInt.f s0_0 bt852.2.1 bt852.2.2 (([99, 100, 599, 600, (-1)] : List Int))).bind fun bt858 => (some (bt858.1, bt844.2.1, bt844.2.2.1, bt858.2.1, bt858.2.2))) else (if bt852.1 = 1 then ((spec_l2Draw.f k s0_0 bt852.2.1 bt852.2.2).bind fun bt861 => (some (bt844.1, bt861.1, bt844.2.2.1, bt861.2.1, bt861.2.2))) else (if bt852.1 = 2 then (spec_l3DrawBadResp.l0 k s0_0 bt852.2.1 bt852.2.2 bt844.1 bt844.2.1 bt844.2.2.1) else (some (bt844.1, bt844.2.1, bt844.2.2.1, bt852.2.1, bt852.2.2))))))
theorem spec_l3DrawBadResp.mono_l : ∀ k, (∀ y0 y1 y2 y3 y4 y5, LeO (spec_l3DrawBadResp.l0 k y0 y1 y2 y3 y4 y5) (spec_l3DrawBadResp.l0 (k + 1) y0 y1 y2 y3 y4 y5))
 | 0 => fun _ _ _ _ _ _ r h => by simp [spec_l3DrawBadResp.l0] at h
 | k + 1 => by
  have ih0 := spec_l3DrawBadResp.mono_l k
  ·intro y0 y1 y2 y3 y4 y5
   unfold spec_l3DrawBadResp.l0
   have m0 := @spec_l2Draw.mono
   have m1 := @spec_l3DrawResp.mono
   exact mo
theorem spec_l3DrawBadResp.mono : ∀ a0 a1 a2 k, LeO (spec_l3DrawBadResp.f k a0 a1 a2) (spec_l3DrawBadResp.f (k + 1) a0 a1 a2) := by
 intro a0 a1 a2 k
 have ih0 := spec_l3DrawBadResp.mono_l k
 unfold spec_l3DrawBadResp.f
 have m0 := @spec_l2Draw.mono
 have m1 := @spec_l3DrawResp.mono
 exact mo
set_option maxHeartbeats 8000000 in
set_option maxRecDepth 100000 in
theorem spec_l3DrawBadResp.calls (k : Nat) (g : Nat) (s0_0 : List Int) (s0_1 : Int) (s0_2 : Int) (r1 : Int) (r2 : List (S100)) (r3 : ByteArray) (r4 : Int) (r5 : Int) (w0 w : World) (hI : IsS122 w0 w g s0_0 s0_1 s0_2) (hB : Below w0.heap.size w0 w) (h : spec_l3DrawBadResp.f k s0_0 s0_1 s0_2 = some (r1, r2, r3, r4, r5)) :
  Calls Tryz.prog 94 #[.pointer (some ⟨g, 0, none⟩)] w fun e w' => ∃ v1_ : Value, e = .returned (.agg #[.int .i64 r1, v1_, .string r3]) ∧ Kd.R k100 100 w' w.heap.size (fun _ => True) v1_ r2 ∧ IsS122 w0 w' g s0_0 r4 r5 ∧ Below w0.heap.size w0 w' ∧ KeepBut w w' g none := by
 have hu48 := Tryz.underlying48
 have HI0 := am hI
 have HK := am (KeepBut.refl w g none)
 have HL := am hB.size
 clear hI
 have HW0 := am hB.size
 have HB := am hB
 clear hB
 unfold spec_l3DrawBadResp.f at h
 have H := h
 clear h
 revert H
 refine ok5 fun t844 t845 t848 t849 t850 A2 H => ?_
 (try dsimp only at H)
 revert H
 refine ok3 fun t852 t853 t854 A3 H => ?_
 (try dsimp only at H)
 by_cases c4 : t852 = 0
 ·rw [if_pos c4] at H
  have c4b0 : (t852 == 0) = true := beq_iff_eq.mpr c4
  have c4b1 : (t852 != 0) = false := bne_eq_false_iff_eq.mpr c4
  clear c4
  obtain ⟨y855, hy855⟩ : ∃ y_ : List Int, y_ = (([99, 100, 599, 600, (-1)] : List Int)) := ⟨_, rfl⟩
  replace H : ((spec_l1PickInt.f s0_0 t853 t854 y855).bind fun bt858 => (some (bt858.1, t845, t848, bt858.2.1, bt858.2.2))) = some (r1, r2, r3, r4, r5) := by first | (rw [hy855]; with_reducible exact H) | (have H2_ := (Option.bind_some _ _).symm.trans H; rw [hy855]; with_reducible exact H2_) | (have H2_ := (Option.bind_some _ _).symm.trans H; with_reducible exact H2_) | with_reducible exact H | (rw [hy855]; exact H) | exact H
  have Ny855 := am hy855
  clear hy855
  revert H
  refine ok3 fun t858 t859 t860 A5 H => ?_
  (try dsimp only at H)
  simp only [Option.some.injEq, Prod.mk.injEq] at H
  obtain ⟨rfl, rfl, rfl, rfl, rfl⟩ := H
  go_enter Tryz.func94, Tryz.ntmps94
  go_wp2_with (first | (refine bx 2 #[.int .i64 0, .slice none 0 0, .string (⟨#[]⟩ : ByteArray)] 48 ?_; intro gb843 hg w6 hbox hb; have n0_ := am (IsS122.below u94HI0 hb); have n1_ := am (KeepBut.trans u94HK (KeepBut.of_below hb g none) (.inl rfl)); have n2_ := am (below_step u94HB hb); have n3_ := am (hbox); have n4_ := am ((by rw [hg]; exact (keep_size (w := w) (g := g) (row := none) u94HK) : w.heap.size ≤ gb843)); have n5_ := am ((Nat.le_trans HW0.out (by rw [hg]; exact (keep_size (w := w) (g := g) (row := none) u94HK) : w.heap.size ≤ gb843) : w0.heap.size ≤ gb843)); have n6_ := am ((by rw [hg]; exact Nat.ne_of_lt (IsS122.lt (show IsS122 w0 _ g s0_0 s0_1 s0_2 from u94HI0)) : g ≠ gb843)); have n7_ := am ((by rw [hg]; exact Nat.ne_of_gt (IsS122.lt (show IsS122 w0 _ g s0_0 s0_1 s0_2 from u94HI0)) : gb843 ≠ g)); clear HI0; clear HK; clear HB; have HI0 := n0_; have HK := n1_; have HB := n2_; have BK843 := n3_; have GW843 := n4_; have GE843 := n5_; have NB0_843 := n6_; have NB843_0 := n7_; clear n0_ n1_ n2_ n3_ n4_ n5_ n6_ n7_; clear hb hbox hg) | (refine gl 5 Tryz.func97 #[.pointer (some ⟨g, 0, none⟩)] ?_; (with_reducible refine (spec_l3DrawResp.calls k g s0_0 s0_1 s0_2 t844 t845 t848 t849 t850 w0 _ ?side1 ?side2 A2.out).mono ?_); (case side1 => exact u94HI0); (case side2 => exact u94HB); rintro e w7 ⟨v846, rfl, ho0, hi, hb, hk⟩; refine ⟨_, rfl, ?_⟩; replace BK843 := kp BK843 hk NB843_0; have HO847 := am (Kd.R_lower ho0 (keep_size (w := w) (g := g) (row := none) u94HK)); replace HK := am (KeepBut.trans u94HK hk (.inl rfl)); replace HB := am (hb); replace HI0 := am (hi); clear hb hk hi ho0) | (refine bx 3 #[.int .i64 0, .slice none 0 0, .string (⟨#[]⟩ : ByteArray)] 48 ?_; intro gb851 hg w8 hbox hb; have n0_ := am (Kd.R_below (ro HO847) hb); have n1_ := am (IsS122.below u94HI0 hb); have n2_ := kb BK843 hb; have n3_ := am (KeepBut.trans u94HK (KeepBut.of_below hb g none) (.inl rfl)); have n4_ := am (below_step u94HB hb); have n5_ := am (hbox); have n6_ := am ((by rw [hg]; exact (keep_size (w := w) (g := g) (row := none) u94HK) : w.heap.size ≤ gb851)); have n7_ := am ((Nat.le_trans HW0.out (by rw [hg]; exact (keep_size (w := w) (g := g) (row := none) u94HK) : w.heap.size ≤ gb851) : w0.heap.size ≤ gb851)); have n8_ := am (nl hg BK843 : gb843 ≠ gb851); have n9_ := am (ng hg BK843 : gb851 ≠ gb843); have n10_ := am ((by rw [hg]; exact Nat.ne_of_lt (IsS122.lt (show IsS122 w0 _ g s0_0 t849 t850 from u94HI0)) : g ≠ gb851)); have n11_ := am ((by rw [hg]; exact Nat.ne_of_gt (IsS122.lt (show IsS122 w0 _ g s0_0 t849 t850 from u94HI0)) : gb851 ≠ g)); clear HO847; clear HI0; clear BK843; clear HK; clear HB; have HO847 := n0_; have HI0 := n1_; have BK843 := n2_; have HK := n3_; have HB := n4_; have BK851 := n5_; have GW851 := n6_; have GE851 := n7_; have NB843_851 := n8_; have NB851_843 := n9_; have NB0_851 := n10_; have NB851_0 := n11_; clear n0_ n1_ n2_ n3_ n4_ n5_ n6_ n7_ n8_ n9_ n10_ n11_; clear hb hbox hg; have hnb9 := NB851_843.out; have hnc9 := NB843_851.out; have hnb10 := NB851_0.out; have hnc10 := NB0_851.out; obtain ⟨z11_0, y11_0, z11_1, y11_1, z11_2, y11_2⟩ := cl3 BK851; obtain ⟨Ao12, co12, eo12⟩ := Kd.R_slice HO847.out; subst eo12) | (refine gl 7 Tryz.func62 #[.pointer (some ⟨g, 0, none⟩), .int .i64 20] ?_; (with_reducible refine (spec_l1Below.calls g s0_0 t849 t850 20 t852 t853 t854 w0 _ ?side1 ?side2 A3.out).mono ?_); (case side1 => exact u94HI0); (case side2 => exact u94HB); rintro e w13 ⟨rfl, hi, hb, hk⟩; refine ⟨_, rfl, ?_⟩; have n0_ := am (KeepBut.blk hk (g' := gb843) (o := .cells #[.int .i64 0, .slice none 0 0, .string (⟨#[]⟩ : ByteArray)] 48 (0, 0)) (bg1 BK843 NB843_851) NB843_0.out (by simp)); have n1_ := am (Kd.R_mono (Kd.R_keep (IsS122.apart (show IsS122 w0 _ g s0_0 t849 t850 from u94HI0) (by (with_reducible repeat (first | apply Kd.R_alloc | apply Kd.R_drewN | apply Kd.R_drew)); exact (Kd.R_mono (Kd.R_far (p := ⟨gb851, 2, none⟩) (Kd.R_far (p := ⟨gb851, 1, none⟩) (Kd.R_far (p := ⟨gb851, 0, none⟩) (Kd.R_types HO847.out BK851.out (by decide)) (fun _ hk => hk.2) (.int .i64 t844)) (fun _ hk => hk.2) (.slice Ao12 t845.length co12)) (fun _ hk => hk.2) (.string t848)) (fun _ h_ => h_.1))) (by decide)) hk (fun _ h => h.2)) (fun _ h => h.1)); have n2_ := am (KeepBut.blk hk (g' := gb851) (o := .cells #[.int .i64 t844, .slice Ao12 t845.length co12, .string t848] 48 (0, 0)) (pt0 BK851) NB851_0.out (by simp)); have n3_ := am (KeepBut.trans u94HK hk (.inl rfl)); have n4_ := am (hb); have n5_ := am (hi); clear BK843; clear HO847; clear BK851; clear HK; clear HB; clear HI0; have BK843 := n0_; have HO847 := n1_; have BK851 := n2_; have HK := n3_; have HB := n4_; have HI0 := n5_; clear n0_ n1_ n2_ n3_ n4_ n5_; clear hb hk hi) | ((with_reducible refine gate_dst (N := 11) rfl ?_); refine Kd.R_lit (Kd.int .i64) _ 3 ?hg (N := 11) ?hd (xs := ([99, 100, 599, 600, (-1)] : List Int)) (inner := [.int .i64 99, .int .i64 100, .int .i64 599, .int .i64 600, .int .i64 (-1)]) (ok := fun _ => True) (okp := fun _ => True) ?hr ?hp (fun _ hk => hk) trivial (Below.refl _ _) (Nat.le_refl _) (by simp) ?_; (case hd => rfl); (case hg => rfl); (case hr => first | (go_simp; done) | (go_simp; rfl)); (case hp => exact rp); intro v856 w14 ho15 hb hg_ hnew_; clear hg_ hnew_; (first | rw [← Ny855.out] at ho15 | (simp only [Int.reduceToNat] at ho15; rw [← Ny855.out] at ho15)); replace HO847 := kr HO847 hb; have HO857 := am (Kd.R_lower ho15 (keep_size (w := w) (g := g) (row := none) u94HK)); replace BK843 := kb BK843 hb; replace BK851 := kb BK851 hb; replace HK := am (KeepBut.trans u94HK (KeepBut.of_below hb g none) (.inl rfl)); replace HB := am (below_step u94HB hb); replace HI0 := am (IsS122.below u94HI0 hb); clear hb ho15; obtain ⟨Ao16, co16, eo16⟩ := Kd.R_slice HO857.out; subst eo16) | (refine gl 12 Tryz.func116 #[.pointer (some ⟨g, 0, none⟩), .slice Ao16 y855.length co16] ?_; (with_reducible refine (spec_l1PickInt.calls g s0_0 t853 t854 _ _ y855 t858 t859 t860 w0 _ ?side1 ?side2 ?side3 ?side4 ?side5 A5.out).mono ?_); (case side1 => exact u94HI0); (case side2 => exact u94HB); (case side3 => exact rc HO857); (case side4 => exact (Kd.R_reads' HO857.out).2.1); (case side5 => exact far_slice (IsS122.own_ne HI0.out HO857.out (by decide))); rintro e w17 ⟨rfl, hi, hb, hk⟩; refine ⟨_, rfl, ?_⟩; replace BK843 := kp BK843 hk NB843_0; replace HO847 := am (Kd.R_mono (Kd.R_keep (IsS122.apart (show IsS122 w0 _ g s0_0 t853 t854 from u94HI0) (ro HO847) (by decide)) hk (fun _ h => h.2)) (fun _ h => h.1)); replace BK851 := kp BK851 hk NB851_0; replace HO857 := am (Kd.R_mono (Kd.R_keep (IsS122.apart (show IsS122 w0 _ g s0_0 t853 t854 from u94HI0) (ro HO857) (by decide)) hk (fun _ h => h.2)) (fun _ h => h.1)); replace HK := am (KeepBut.trans u94HK hk (.inl rfl)); replace HB := am (hb); replace HI0 := am (hi); clear hb hk hi; obtain ⟨z18_0, y18_0, z18_1, y18_1, z18_2, y18_2⟩ := cl3 BK851; have hnb19 := NB843_0.out; have hnc19 := NB0_843.out; obtain ⟨z20_0, y20_0, z20_1, y20_1, z20_2, y20_2⟩ := cl3 BK843))
  refine bodyPost_ret (results_cell_row rfl _ _ gb843 48 #[.int .i64 t858, .slice Ao12 t845.length co12, .string t848] (0, 0) _ rfl (pt1 BK843 NB843_851) Tryz.underlying48 rfl (by kernel_rfl)) rfl ?_
  exact ⟨_, rf, rg (Kd.R_types (Kd.R_types HO847.out BK851.out (by decide)) BK843.out (by decide)), u94HI0, u94HB, u94HK⟩
 rw [if_neg c4] at H
 have c4b0 : (t852 == 0) = false := beq_eq_false_iff_ne.mpr c4
 have c4b1 : (t852 != 0) = true := bne_iff_ne.mpr c4
 by_cases c21 : t852 = 1
 ·rw [if_pos c21] at H
  have c21b0 : (t852 == 1) = true := beq_iff_eq.mpr c21
  have c21b1 : (t852 != 1) = false := bne_eq_false_iff_eq.mpr c21
  clear c21
  revert H
  refine ok3 fun t861 t864 t865 A22 H => ?_
  (try dsimp only at H)
  simp only [Option.some.injEq, Prod.mk.injEq] at H
  obtain ⟨rfl, rfl, rfl, rfl, rfl⟩ := H
  go_enter Tryz.func94, Tryz.ntmps94
  go_wp2_with (first | (refine bx 2 #[.int .i64 0, .slice none 0 0, .string (⟨#[]⟩ : ByteArray)] 48 ?_; intro gb843 hg w23 hbox hb; have n0_ := am (IsS122.below u94HI0 hb); have n1_ := am (KeepBut.trans u94HK (KeepBut.of_below hb g none) (.inl rfl)); have n2_ := am (below_step u94HB hb); have n3_ := am (hbox); have n4_ := am ((by rw [hg]; exact (keep_size (w := w) (g := g) (row := none) u94HK) : w.heap.size ≤ gb843)); have n5_ := am ((Nat.le_trans HW0.out (by rw [hg]; exact (keep_size (w := w) (g := g) (row := none) u94HK) : w.heap.size ≤ gb843) : w0.heap.size ≤ gb843)); have n6_ := am ((by rw [hg]; exact Nat.ne_of_lt (IsS122.lt (show IsS122 w0 _ g s0_0 s0_1 s0_2 from u94HI0)) : g ≠ gb843)); have n7_ := am ((by rw [hg]; exact Nat.ne_of_gt (IsS122.lt (show IsS122 w0 _ g s0_0 s0_1 s0_2 from u94HI0)) : gb843 ≠ g)); clear HI0; clear HK; clear HB; have HI0 := n0_; have HK := n1_; have HB := n2_; have BK843 := n3_; have GW843 := n4_; have GE843 := n5_; have NB0_843 := n6_; have NB843_0 := n7_; clear n0_ n1_ n2_ n3_ n4_ n5_ n6_ n7_; clear hb hbox hg) | (refine gl 5 Tryz.func97 #[.pointer (some ⟨g, 0, none⟩)] ?_; (with_reducible refine (spec_l3DrawResp.calls k g s0_0 s0_1 s0_2 t844 t845 t848 t849 t850 w0 _ ?side1 ?side2 A2.out).mono ?_); (case side1 => exact u94HI0); (case side2 => exact u94HB); rintro e w24 ⟨v846, rfl, ho0, hi, hb, hk⟩; refine ⟨_, rfl, ?_⟩; replace BK843 := kp BK843 hk NB843_0; have HO847 := am (Kd.R_lower ho0 (keep_size (w := w) (g := g) (row := none) u94HK)); replace HK := am (KeepBut.trans u94HK hk (.inl rfl)); replace HB := am (hb); replace HI0 := am (hi); clear hb hk hi ho0) | (refine bx 3 #[.int .i64 0, .slice none 0 0, .string (⟨#[]⟩ : ByteArray)] 48 ?_; intro gb851 hg w25 hbox hb; have n0_ := am (Kd.R_below (ro HO847) hb); have n1_ := am (IsS122.below u94HI0 hb); have n2_ := kb BK843 hb; have n3_ := am (KeepBut.trans u94HK (KeepBut.of_below hb g none) (.inl rfl)); have n4_ := am (below_step u94HB hb); have n5_ := am (hbox); have n6_ := am ((by rw [hg]; exact (keep_size (w := w) (g := g) (row := none) u94HK) : w.heap.size ≤ gb851)); have n7_ := am ((Nat.le_trans HW0.out (by rw [hg]; exact (keep_size (w := w) (g := g) (row := none) u94HK) : w.heap.size ≤ gb851) : w0.heap.size ≤ gb851)); have n8_ := am (nl hg BK843 : gb843 ≠ gb851); have n9_ := am (ng hg BK843 : gb851 ≠ gb843); have n10_ := am ((by rw [hg]; exact Nat.ne_of_lt (IsS122.lt (show IsS122 w0 _ g s0_0 t849 t850 from u94HI0)) : g ≠ gb851)); have n11_ := am ((by rw [hg]; exact Nat.ne_of_gt (IsS122.lt (show IsS122 w0 _ g s0_0 t849 t850 from u94HI0)) : gb851 ≠ g)); clear HO847; clear HI0; clear BK843; clear HK; clear HB; have HO847 := n0_; have HI0 := n1_; have BK843 := n2_; have HK := n3_; have HB := n4_; have BK851 := n5_; have GW851 := n6_; have GE851 := n7_; have NB843_851 := n8_; have NB851_843 := n9_; have NB0_851 := n10_; have NB851_0 := n11_; clear n0_ n1_ n2_ n3_ n4_ n5_ n6_ n7_ n8_ n9_ n10_ n11_; clear hb hbox hg; have hnb26 := NB851_843.out; have hnc26 := NB843_851.out; have hnb27 := NB851_0.out; have hnc27 := NB0_851.out; obtain ⟨z28_0, y28_0, z28_1, y28_1, z28_2, y28_2⟩ := cl3 BK851; obtain ⟨Ao29, co29, eo29⟩ := Kd.R_slice HO847.out; subst eo29) | (refine gl 7 Tryz.func62 #[.pointer (some ⟨g, 0, none⟩), .int .i64 20] ?_; (with_reducible refine (spec_l1Below.calls g s0_0 t849 t850 20 t852 t853 t854 w0 _ ?side1 ?side2 A3.out).mono ?_); (case side1 => exact u94HI0); (case side2 => exact u94HB); rintro e w30 ⟨rfl, hi, hb, hk⟩; refine ⟨_, rfl, ?_⟩; have n0_ := am (KeepBut.blk hk (g' := gb843) (o := .cells #[.int .i64 0, .slice none 0 0, .string (⟨#[]⟩ : ByteArray)] 48 (0, 0)) (bg1 BK843 NB843_851) NB843_0.out (by simp)); have n1_ := am (Kd.R_mono (Kd.R_keep (IsS122.apart (show IsS122 w0 _ g s0_0 t849 t850 from u94HI0) (by (with_reducible repeat (first | apply Kd.R_alloc | apply Kd.R_drewN | apply Kd.R_drew)); exact (Kd.R_mono (Kd.R_far (p := ⟨gb851, 2, none⟩) (Kd.R_far (p := ⟨gb851, 1, none⟩) (Kd.R_far (p := ⟨gb851, 0, none⟩) (Kd.R_types HO847.out BK851.out (by decide)) (fun _ hk => hk.2) (.int .i64 t844)) (fun _ hk => hk.2) (.slice Ao29 t845.length co29)) (fun _ hk => hk.2) (.string t848)) (fun _ h_ => h_.1))) (by decide)) hk (fun _ h => h.2)) (fun _ h => h.1)); have n2_ := am (KeepBut.blk hk (g' := gb851) (o := .cells #[.int .i64 t844, .slice Ao29 t845.length co29, .string t848] 48 (0, 0)) (pt0 BK851) NB851_0.out (by simp)); have n3_ := am (KeepBut.trans u94HK hk (.inl rfl)); have n4_ := am (hb); have n5_ := am (hi); clear BK843; clear HO847; clear BK851; clear HK; clear HB; clear HI0; have BK843 := n0_; have HO847 := n1_; have BK851 := n2_; have HK := n3_; have HB := n4_; have HI0 := n5_; clear n0_ n1_ n2_ n3_ n4_ n5_; clear hb hk hi) | (refine gl 17 Tryz.func124 #[.pointer (some ⟨g, 0, none⟩)] ?_; (with_reducible refine (spec_l2Draw.calls k g s0_0 t853 t854 t861 t864 t865 w0 _ ?side1 ?side2 A22.out).mono ?_); (case side1 => exact u94HI0); (case side2 => exact u94HB); rintro e w31 ⟨v862, rfl, ho0, hi, hb, hk⟩; refine ⟨_, rfl, ?_⟩; replace BK843 := kp BK843 hk NB843_0; replace BK851 := kp BK851 hk NB851_0; have HO863 := am (Kd.R_lower (Kd.R_new' ho0 (Kd.R_lt (ro HO847))) (keep_size (w := w) (g := g) (row := none) u94HK)); replace HO847 := am (Kd.R_mono (Kd.R_told (Kd.R_oldK (IsS122.apart (show IsS122 w0 _ g s0_0 t853 t854 from u94HI0) (ro HO847) (by decide)) hk) (Kd.R_base ho0)) (fun _ h_ => h_.1)); replace HK := am (KeepBut.trans u94HK hk (.inl rfl)); replace HB := am (hb); replace HI0 := am (hi); clear hb hk hi ho0; obtain ⟨Ao32, co32, eo32⟩ := Kd.R_slice HO863.out; subst eo32; obtain ⟨z33_0, y33_0, z33_1, y33_1, z33_2, y33_2⟩ := cl3 BK851; have hnb34 := NB843_0.out; have hnc34 := NB0_843.out; obtain ⟨z35_0, y35_0, z35_1, y35_1, z35_2, y35_2⟩ := cl3 BK843))
  refine bodyPost_ret (results_cell_row rfl _ _ gb843 48 #[.int .i64 t844, .slice Ao32 t861.length co32, .string t848] (0, 0) _ rfl (pt1 BK843 NB843_851) Tryz.underlying48 rfl (by kernel_rfl)) rfl ?_
  exact ⟨_, rf, rg (Kd.R_types (Kd.R_types HO863.out BK851.out (by decide)) BK843.out (by decide)), u94HI0, u94HB, u94HK⟩
 rw [if_neg c21] at H
 have c21b0 : (t852 == 1) = false := beq_eq_false_iff_ne.mpr c21
 have c21b1 : (t852 != 1) = true := bne_iff_ne.mpr c21
 by_cases c36 : t852 = 2
 rotate_left
 ·rw [if_neg c36] at H
  have c36b0 : (t852 == 2) = false := beq_eq_false_iff_ne.mpr c36
  have c36b1 : (t852 != 2) = true := bne_iff_ne.mpr c36
  simp only [Option.some.injEq, Prod.mk.injEq] at H
  obtain ⟨rfl, rfl, rfl, rfl, rfl⟩ := H
  go_enter Tryz.func94, Tryz.ntmps94
  go_wp2_with (first | (refine bx 2 #[.int .i64 0, .slice none 0 0, .string (⟨#[]⟩ : ByteArray)] 48 ?_; intro gb843 hg w60 hbox hb; have n0_ := am (IsS122.below u94HI0 hb); have n1_ := am (KeepBut.trans u94HK (KeepBut.of_below hb g none) (.inl rfl)); have n2_ := am (below_step u94HB hb); have n3_ := am (hbox); have n4_ := am ((by rw [hg]; exact (keep_size (w := w) (g := g) (row := none) u94HK) : w.heap.size ≤ gb843)); have n5_ := am ((Nat.le_trans HW0.out (by rw [hg]; exact (keep_size (w := w) (g := g) (row := none) u94HK) : w.heap.size ≤ gb843) : w0.heap.size ≤ gb843)); have n6_ := am ((by rw [hg]; exact Nat.ne_of_lt (IsS122.lt (show IsS122 w0 _ g s0_0 s0_1 s0_2 from u94HI0)) : g ≠ gb843)); have n7_ := am ((by rw [hg]; exact Nat.ne_of_gt (IsS122.lt (show IsS122 w0 _ g s0_0 s0_1 s0_2 from u94HI0)) : gb843 ≠ g)); clear HI0; clear HK; clear HB; have HI0 := n0_; have HK := n1_; have HB := n2_; have BK843 := n3_; have GW843 := n4_; have GE843 := n5_; have NB0_843 := n6_; have NB843_0 := n7_; clear n0_ n1_ n2_ n3_ n4_ n5_ n6_ n7_; clear hb hbox hg) | (refine gl 5 Tryz.func97 #[.pointer (some ⟨g, 0, none⟩)] ?_; (with_reducible refine (spec_l3DrawResp.calls k g s0_0 s0_1 s0_2 t844 t845 t848 t849 t850 w0 _ ?side1 ?side2 A2.out).mono ?_); (case side1 => exact u94HI0); (case side2 => exact u94HB); rintro e w61 ⟨v846, rfl, ho0, hi, hb, hk⟩; refine ⟨_, rfl, ?_⟩; replace BK843 := kp BK843 hk NB843_0; have HO847 := am (Kd.R_lower ho0 (keep_size (w := w) (g := g) (row := none) u94HK)); replace HK := am (KeepBut.trans u94HK hk (.inl rfl)); replace HB := am (hb); replace HI0 := am (hi); clear hb hk hi ho0) | (refine bx 3 #[.int .i64 0, .slice none 0 0, .string (⟨#[]⟩ : ByteArray)] 48 ?_; intro gb851 hg w62 hbox hb; have n0_ := am (Kd.R_below (ro HO847) hb); have n1_ := am (IsS122.below u94HI0 hb); have n2_ := kb BK843 hb; have n3_ := am (KeepBut.trans u94HK (KeepBut.of_below hb g none) (.inl rfl)); have n4_ := am (below_step u94HB hb); have n5_ := am (hbox); have n6_ := am ((by rw [hg]; exact (keep_size (w := w) (g := g) (row := none) u94HK) : w.heap.size ≤ gb851)); have n7_ := am ((Nat.le_trans HW0.out (by rw [hg]; exact (keep_size (w := w) (g := g) (row := none) u94HK) : w.heap.size ≤ gb851) : w0.heap.size ≤ gb851)); have n8_ := am (nl hg BK843 : gb843 ≠ gb851); have n9_ := am (ng hg BK843 : gb851 ≠ gb843); have n10_ := am ((by rw [hg]; exact Nat.ne_of_lt (IsS122.lt (show IsS122 w0 _ g s0_0 t849 t850 from u94HI0)) : g ≠ gb851)); have n11_ := am ((by rw [hg]; exact Nat.ne_of_gt (IsS122.lt (show IsS122 w0 _ g s0_0 t849 t850 from u94HI0)) : gb851 ≠ g)); clear HO847; clear HI0; clear BK843; clear HK; clear HB; have HO847 := n0_; have HI0 := n1_; have BK843 := n2_; have HK := n3_; have HB := n4_; have BK851 := n5_; have GW851 := n6_; have GE851 := n7_; have NB843_851 := n8_; have NB851_843 := n9_; have NB0_851 := n10_; have NB851_0 := n11_; clear n0_ n1_ n2_ n3_ n4_ n5_ n6_ n7_ n8_ n9_ n10_ n11_; clear hb hbox hg; have hnb63 := NB851_843.out; have hnc63 := NB843_851.out; have hnb64 := NB851_0.out; have hnc64 := NB0_851.out; obtain ⟨z65_0, y65_0, z65_1, y65_1, z65_2, y65_2⟩ := cl3 BK851; obtain ⟨Ao66, co66, eo66⟩ := Kd.R_slice HO847.out; subst eo66) | (refine gl 7 Tryz.func62 #[.pointer (some ⟨g, 0, none⟩), .int .i64 20] ?_; (with_reducible refine (spec_l1Below.calls g s0_0 t849 t850 20 t852 t853 t854 w0 _ ?side1 ?side2 A3.out).mono ?_); (case side1 => exact u94HI0); (case side2 => exact u94HB); rintro e w67 ⟨rfl, hi, hb, hk⟩; refine ⟨_, rfl, ?_⟩; have n0_ := am (KeepBut.blk hk (g' := gb843) (o := .cells #[.int .i64 0, .slice none 0 0, .string (⟨#[]⟩ : ByteArray)] 48 (0, 0)) (bg1 BK843 NB843_851) NB843_0.out (by simp)); have n1_ := am (Kd.R_mono (Kd.R_keep (IsS122.apart (show IsS122 w0 _ g s0_0 t849 t850 from u94HI0) (by (with_reducible repeat (first | apply Kd.R_alloc | apply Kd.R_drewN | apply Kd.R_drew)); exact (Kd.R_mono (Kd.R_far (p := ⟨gb851, 2, none⟩) (Kd.R_far (p := ⟨gb851, 1, none⟩) (Kd.R_far (p := ⟨gb851, 0, none⟩) (Kd.R_types HO847.out BK851.out (by decide)) (fun _ hk => hk.2) (.int .i64 t844)) (fun _ hk => hk.2) (.slice Ao66 t845.length co66)) (fun _ hk => hk.2) (.string t848)) (fun _ h_ => h_.1))) (by decide)) hk (fun _ h => h.2)) (fun _ h => h.1)); have n2_ := am (KeepBut.blk hk (g' := gb851) (o := .cells #[.int .i64 t844, .slice Ao66 t845.length co66, .string t848] 48 (0, 0)) (pt0 BK851) NB851_0.out (by simp)); have n3_ := am (KeepBut.trans u94HK hk (.inl rfl)); have n4_ := am (hb); have n5_ := am (hi); clear BK843; clear HO847; clear BK851; clear HK; clear HB; clear HI0; have BK843 := n0_; have HO847 := n1_; have BK851 := n2_; have HK := n3_; have HB := n4_; have HI0 := n5_; clear n0_ n1_ n2_ n3_ n4_ n5_; clear hb hk hi; obtain ⟨z68_0, y68_0, z68_1, y68_1, z68_2, y68_2⟩ := cl3 BK851; have hnb69 := NB843_0.out; have hnc69 := NB0_843.out; obtain ⟨z70_0, y70_0, z70_1, y70_1, z70_2, y70_2⟩ := cl3 BK843))
  refine bodyPost_ret (results_cell_row rfl _ _ gb843 48 #[.int .i64 t844, .slice Ao66 t845.length co66, .string t848] (0, 0) _ rfl (pt0 BK843) Tryz.underlying48 rfl (by kernel_rfl)) rfl ?_
  exact ⟨_, rf, rg (Kd.R_types HO847.out BK843.out (by decide)), u94HI0, u94HB, u94HK⟩
 rw [if_pos c36] at H
 have c36b0 : (t852 == 2) = true := beq_iff_eq.mpr c36
 have c36b1 : (t852 != 2) = false := bne_eq_false_iff_eq.mpr c36
 clear c36
 have H' := am H
 clear H
 go_enter Tryz.func94, Tryz.ntmps94
 go_wp2_with (first | (refine bx 2 #[.int .i64 0, .slice none 0 0, .string (⟨#[]⟩ : ByteArray)] 48 ?_; intro gb843 hg w37 hbox hb; have n0_ := am (IsS122.below u94HI0 hb); have n1_ := am (KeepBut.trans u94HK (KeepBut.of_below hb g none) (.inl rfl)); have n2_ := am (below_step u94HB hb); have n3_ := am (hbox); have n4_ := am ((by rw [hg]; exact (keep_size (w := w) (g := g) (row := none) u94HK) : w.heap.size ≤ gb843)); have n5_ := am ((Nat.le_trans HW0.out (by rw [hg]; exact (keep_size (w := w) (g := g) (row := none) u94HK) : w.heap.size ≤ gb843) : w0.heap.size ≤ gb843)); have n6_ := am ((by rw [hg]; exact Nat.ne_of_lt (IsS122.lt (show IsS122 w0 _ g s0_0 s0_1 s0_2 from u94HI0)) : g ≠ gb843)); have n7_ := am ((by rw [hg]; exact Nat.ne_of_gt (IsS122.lt (show IsS122 w0 _ g s0_0 s0_1 s0_2 from u94HI0)) : gb843 ≠ g)); clear HI0; clear HK; clear HB; have HI0 := n0_; have HK := n1_; have HB := n2_; have BK843 := n3_; have GW843 := n4_; have GE843 := n5_; have NB0_843 := n6_; have NB843_0 := n7_; clear n0_ n1_ n2_ n3_ n4_ n5_ n6_ n7_; clear hb hbox hg) | (refine gl 5 Tryz.func97 #[.pointer (some ⟨g, 0, none⟩)] ?_; (with_reducible refine (spec_l3DrawResp.calls k g s0_0 s0_1 s0_2 t844 t845 t848 t849 t850 w0 _ ?side1 ?side2 A2.out).mono ?_); (case side1 => exact u94HI0); (case side2 => exact u94HB); rintro e w38 ⟨v846, rfl, ho0, hi, hb, hk⟩; refine ⟨_, rfl, ?_⟩; replace BK843 := kp BK843 hk NB843_0; have HO847 := am (Kd.R_lower ho0 (keep_size (w := w) (g := g) (row := none) u94HK)); replace HK := am (KeepBut.trans u94HK hk (.inl rfl)); replace HB := am (hb); replace HI0 := am (hi); clear hb hk hi ho0) | (refine bx 3 #[.int .i64 0, .slice none 0 0, .string (⟨#[]⟩ : ByteArray)] 48 ?_; intro gb851 hg w39 hbox hb; have n0_ := am (Kd.R_below (ro HO847) hb); have n1_ := am (IsS122.below u94HI0 hb); have n2_ := kb BK843 hb; have n3_ := am (KeepBut.trans u94HK (KeepBut.of_below hb g none) (.inl rfl)); have n4_ := am (below_step u94HB hb); have n5_ := am (hbox); have n6_ := am ((by rw [hg]; exact (keep_size (w := w) (g := g) (row := none) u94HK) : w.heap.size ≤ gb851)); have n7_ := am ((Nat.le_trans HW0.out (by rw [hg]; exact (keep_size (w := w) (g := g) (row := none) u94HK) : w.heap.size ≤ gb851) : w0.heap.size ≤ gb851)); have n8_ := am (nl hg BK843 : gb843 ≠ gb851); have n9_ := am (ng hg BK843 : gb851 ≠ gb843); have n10_ := am ((by rw [hg]; exact Nat.ne_of_lt (IsS122.lt (show IsS122 w0 _ g s0_0 t849 t850 from u94HI0)) : g ≠ gb851)); have n11_ := am ((by rw [hg]; exact Nat.ne_of_gt (IsS122.lt (show IsS122 w0 _ g s0_0 t849 t850 from u94HI0)) : gb851 ≠ g)); clear HO847; clear HI0; clear BK843; clear HK; clear HB; have HO847 := n0_; have HI0 := n1_; have BK843 := n2_; have HK := n3_; have HB := n4_; have BK851 := n5_; have GW851 := n6_; have GE851 := n7_; have NB843_851 := n8_; have NB851_843 := n9_; have NB0_851 := n10_; have NB851_0 := n11_; clear n0_ n1_ n2_ n3_ n4_ n5_ n6_ n7_ n8_ n9_ n10_ n11_; clear hb hbox hg; have hnb40 := NB851_843.out; have hnc40 := NB843_851.out; have hnb41 := NB851_0.out; have hnc41 := NB0_851.out; obtain ⟨z42_0, y42_0, z42_1, y42_1, z42_2, y42_2⟩ := cl3 BK851; obtain ⟨Ao43, co43, eo43⟩ := Kd.R_slice HO847.out; subst eo43) | (refine gl 7 Tryz.func62 #[.pointer (some ⟨g, 0, none⟩), .int .i64 20] ?_; (with_reducible refine (spec_l1Below.calls g s0_0 t849 t850 20 t852 t853 t854 w0 _ ?side1 ?side2 A3.out).mono ?_); (case side1 => exact u94HI0); (case side2 => exact u94HB); rintro e w44 ⟨rfl, hi, hb, hk⟩; refine ⟨_, rfl, ?_⟩; have n0_ := am (KeepBut.blk hk (g' := gb843) (o := .cells #[.int .i64 0, .slice none 0 0, .string (⟨#[]⟩ : ByteArray)] 48 (0, 0)) (bg1 BK843 NB843_851) NB843_0.out (by simp)); have n1_ := am (Kd.R_mono (Kd.R_keep (IsS122.apart (show IsS122 w0 _ g s0_0 t849 t850 from u94HI0) (by (with_reducible repeat (first | apply Kd.R_alloc | apply Kd.R_drewN | apply Kd.R_drew)); exact (Kd.R_mono (Kd.R_far (p := ⟨gb851, 2, none⟩) (Kd.R_far (p := ⟨gb851, 1, none⟩) (Kd.R_far (p := ⟨gb851, 0, none⟩) (Kd.R_types HO847.out BK851.out (by decide)) (fun _ hk => hk.2) (.int .i64 t844)) (fun _ hk => hk.2) (.slice Ao43 t845.length co43)) (fun _ hk => hk.2) (.string t848)) (fun _ h_ => h_.1))) (by decide)) hk (fun _ h => h.2)) (fun _ h => h.1)); have n2_ := am (KeepBut.blk hk (g' := gb851) (o := .cells #[.int .i64 t844, .slice Ao43 t845.length co43, .string t848] 48 (0, 0)) (pt0 BK851) NB851_0.out (by simp)); have n3_ := am (KeepBut.trans u94HK hk (.inl rfl)); have n4_ := am (hb); have n5_ := am (hi); clear BK843; clear HO847; clear BK851; clear HK; clear HB; clear HI0; have BK843 := n0_; have HO847 := n1_; have BK851 := n2_; have HK := n3_; have HB := n4_; have HI0 := n5_; clear n0_ n1_ n2_ n3_ n4_ n5_; clear hb hk hi))
 (try simp only [Act.put, List.setIfInBounds_toArray, List.set_cons_zero, List.set_cons_succ])
 go_loopg [] k (fun kq w' => ∃ (x1001_1 : Int) (x1002_1 : Int) (x852002_1 : ByteArray), Aside0 (spec_l3DrawBadResp.l0 kq s0_0 x1001_1 x1002_1 t844 t845 x852002_1 = some (r1, r2, r3, r4, r5)) ∧ Aside0 (kq ≤ k) ∧ Aside0 (Kd.R k100 100 w' w.heap.size (fun _ => True) (.slice Ao43 t845.length co43) t845) ∧ Aside0 (w'.heap[gb843]? = some (.cells #[.int .i64 0, (.slice none 0 0), .string (⟨#[]⟩ : ByteArray)] 48 (0, 0))) ∧ Aside0 (w'.heap[gb851]? = some (.cells #[.int .i64 t844, (.slice Ao43 t845.length co43), .string x852002_1] 48 (0, 0))) ∧ Aside0 (IsS122 w0 w' g s0_0 x1001_1 x1002_1) ∧ Aside0 (KeepBut w w' g none) ∧ Aside0 (Below w0.heap.size w0 w'))
 case atStart => exact ⟨(t853), (t854), (t848), H', ⟨Nat.le_refl _⟩, ⟨by (with_reducible repeat (first | apply Kd.R_alloc | apply Kd.R_drewN | apply Kd.R_drew)); exact HO847.out⟩, ⟨by (with_reducible repeat (first | refine blk_drewN ?_ _ | refine blk_drew ?_ | refine blk_alloc ?_ _)); exact BK843.out⟩, ⟨by (with_reducible repeat (first | refine blk_drewN ?_ _ | refine blk_drew ?_ | refine blk_alloc ?_ _)); exact BK851.out⟩, ⟨u94HI0⟩, ⟨u94HK⟩, ⟨u94HB⟩⟩
 case round =>
  clear H'
  try clear c1
  try clear c2
  try clear p2
  try clear c3
  try clear c4
  try clear c4b0
  try clear c4b1
  try clear c6
  try clear c9
  try clear c10
  try clear c11
  try clear c12
  try clear c19
  try clear c21
  try clear c21b0
  try clear c21b1
  try clear c26
  try clear c27
  try clear c34
  try clear c36
  try clear c36b0
  try clear c36b1
  try clear c40
  try clear c41
  try clear z11_0
  try clear z11_1
  try clear z11_2
  try clear z18_0
  try clear z18_1
  try clear z18_2
  try clear z20_0
  try clear z20_1
  try clear z20_2
  try clear z28_0
  try clear z28_1
  try clear z28_2
  try clear z33_0
  try clear z33_1
  try clear z33_2
  try clear z35_0
  try clear z35_1
  try clear z35_2
  try clear z42_0
  try clear z42_1
  try clear z42_2
  try clear y11_0
  try clear y11_1
  try clear y11_2
  try clear y18_0
  try clear y18_1
  try clear y18_2
  try clear y20_0
  try clear y20_1
  try clear y20_2
  try clear y28_0
  try clear y28_1
  try clear y28_2
  try clear y33_0
  try clear y33_1
  try clear y33_2
  try clear y35_0
  try clear y35_1
  try clear y35_2
  try clear y42_0
  try clear y42_1
  try clear y42_2
  obtain ⟨x1001_1, x1002_1, x852002_1, HA, HK1, HO_852001, BK843, BK851, HI0, HK, HB⟩ := hrel
  cases gk with
  | zero => exact absurd HA.out (by simp [spec_l3DrawBadResp.l0])
  | succ k1 =>
   have H := HA.out
   clear HA
   simp only [spec_l3DrawBadResp.l0] at H
   revert H
   refine ok3 fun t866 t867 t868 A45 H => ?_
   (try dsimp only at H)
   by_cases c46 : (x852002_1.size : Int) < (wrap64 (120 + t866))
   rotate_left
   ·rw [if_neg c46] at H
    have c46b0 := decide_eq_false c46
    clear c46
    simp only [Option.some.injEq, Prod.mk.injEq] at H
    obtain ⟨rfl, rfl, rfl, rfl, rfl⟩ := H
    try go_wp2
    replace HO_852001 := am (Kd.R_drew HO_852001.out)
    replace BK843 := am (blk_drew BK843.out)
    replace BK851 := am (blk_drew BK851.out)
    replace HI0 := am (IsS122.drew HI0.out)
    replace HK := am (keep_drew HK.out)
    replace HB := am (below_drew1 HB.out)
    refine start_ (n := 7) (S := fun w' => w'.cell? ⟨gb851, 0, none⟩ = some (.int .i64 t844) ∧ w'.cell? ⟨gb851, 1, none⟩ = some (.slice Ao43 t845.length co43) ∧ w'.cell? ⟨gb851, 2, none⟩ = some (.string x852002_1)) (ds := []) ⟨br true [0, 7]⟩ (by kernel_rfl) rfl (by kernel_rfl) ⟨bc BK851, bc BK851, bc BK851⟩ (fun hHeld => ?_)
    generalize wr.drew = w53 at HO_852001 BK843 BK851 HI0 HK HB hHeld ⊢
    refine pu 0 21 [1, 6] ?_
    refine pu 3 24 [1, 2, 1, 3] ?_
    refine tk 1 22 [2, 1, 1, 3] ?_
    refine pu 2 23 [4, 3] ?_
    refine og 4 25 [5, 2] Tryz.func62 #[.pointer (some ⟨g, 0, none⟩), .int .i64 2] (fun K hK => ?_)
    with_reducible refine (spec_l1Below.calls g s0_0 x1001_1 x1002_1 2 t866 t867 t868 w0 _ ?side1 ?side2 A45.out).mono ?_
    (case side1 => exact u94HI0)
    (case side2 => exact u94HB)
    rintro e w54 ⟨rfl, hi, hb, hk⟩
    refine ⟨_, rfl, ?_⟩
    replace HO_852001 := am (Kd.R_mono (Kd.R_keep (IsS122.apart (show IsS122 w0 _ g s0_0 x1001_1 x1002_1 from u94HI0) (ro HO_852001) (by decide)) hk (fun _ h => h.2)) (fun _ h => h.1))
    replace BK843 := kp BK843 hk NB843_0
    replace BK851 := kp BK851 hk NB851_0
    replace HK := am (KeepBut.trans u94HK hk (.inl rfl))
    replace HB := am (hb)
    replace HI0 := am (hi)
    clear hb hk hi
    refine hK.out _ _ ⟨bc BK851, bc BK851, bc BK851⟩ (fun hHeld => ?_)
    clear hK K
    refine nm 25 ?_
    refine pu 5 26 [6, 1] ?_
    refine pu 6 27 [7] ?_
    refine done_ (by kernel_rfl) ?_
    have hnb55 := NB851_843.out
    have hnc55 := NB843_851.out
    have hnb56 := NB851_0.out
    have hnc56 := NB0_851.out
    obtain ⟨z57_0, y57_0, z57_1, y57_1, z57_2, y57_2⟩ := cl3 BK851
    have hnb58 := NB843_0.out
    have hnc58 := NB0_843.out
    obtain ⟨z59_0, y59_0, z59_1, y59_1, z59_2, y59_2⟩ := cl3 BK843
    try go_wp2
    refine bodyPost_ret (results_cell_row rfl _ _ gb843 48 #[.int .i64 t844, .slice Ao43 t845.length co43, .string x852002_1] (0, 0) _ rfl (pt0 BK843) Tryz.underlying48 rfl (by kernel_rfl)) rfl ?_
    exact ⟨_, rf, rg (Kd.R_types HO_852001.out BK843.out (by decide)), u94HI0, u94HB, u94HK⟩
   rw [if_pos c46] at H
   have c46b0 := decide_eq_true c46
   clear c46
   revert H
   refine ifn fun c47 H => ?_
   have c47b0 := eq_true c47
   have c47b1 := decide_eq_true c47
   try have c47b2 := eq_false (Nat.not_lt.2 c47)
   have H' := am H
   clear H
   try go_wp2
   replace HO_852001 := am (Kd.R_drew HO_852001.out)
   replace BK843 := am (blk_drew BK843.out)
   replace BK851 := am (blk_drew BK851.out)
   replace HI0 := am (IsS122.drew HI0.out)
   replace HK := am (keep_drew HK.out)
   replace HB := am (below_drew1 HB.out)
   refine start_ (n := 7) (S := fun w' => w'.cell? ⟨gb851, 0, none⟩ = some (.int .i64 t844) ∧ w'.cell? ⟨gb851, 1, none⟩ = some (.slice Ao43 t845.length co43) ∧ w'.cell? ⟨gb851, 2, none⟩ = some (.string x852002_1)) (ds := []) ⟨br true [0, 7]⟩ (by kernel_rfl) rfl (by kernel_rfl) ⟨bc BK851, bc BK851, bc BK851⟩ (fun hHeld => ?_)
   generalize wr.drew = w48 at HO_852001 BK843 BK851 HI0 HK HB hHeld ⊢
   refine pu 0 21 [1, 6] ?_
   refine pu 3 24 [1, 2, 1, 3] ?_
   refine tk 1 22 [2, 1, 1, 3] ?_
   refine pu 2 23 [4, 3] ?_
   refine og 4 25 [5, 2] Tryz.func62 #[.pointer (some ⟨g, 0, none⟩), .int .i64 2] (fun K hK => ?_)
   with_reducible refine (spec_l1Below.calls g s0_0 x1001_1 x1002_1 2 t866 t867 t868 w0 _ ?side1 ?side2 A45.out).mono ?_
   (case side1 => exact u94HI0)
   (case side2 => exact u94HB)
   rintro e w49 ⟨rfl, hi, hb, hk⟩
   refine ⟨_, rfl, ?_⟩
   replace HO_852001 := am (Kd.R_mono (Kd.R_keep (IsS122.apart (show IsS122 w0 _ g s0_0 x1001_1 x1002_1 from u94HI0) (ro HO_852001) (by decide)) hk (fun _ h => h.2)) (fun _ h => h.1))
   replace BK843 := kp BK843 hk NB843_0
   replace BK851 := kp BK851 hk NB851_0
   replace HK := am (KeepBut.trans u94HK hk (.inl rfl))
   replace HB := am (hb)
   replace HI0 := am (hi)
   clear hb hk hi
   refine hK.out _ _ ⟨bc BK851, bc BK851, bc BK851⟩ (fun hHeld => ?_)
   clear hK K
   refine nm 25 ?_
   refine pu 5 26 [6, 1] ?_
   refine pu 6 27 [7] ?_
   refine done_ (by kernel_rfl) ?_
   have hnb50 := NB851_843.out
   have hnc50 := NB843_851.out
   have hnb51 := NB851_0.out
   have hnc51 := NB0_851.out
   obtain ⟨z52_0, y52_0, z52_1, y52_1, z52_2, y52_2⟩ := cl3 BK851
   try go_wp2
   go_roundg k1
   case measure => have := HK1.out; omega
   case rel => exact ⟨(t867), (t868), (x852002_1 ++ (⟨#[98]⟩ : ByteArray)), H', ⟨by have := HK1.out; omega⟩, ⟨rg (Kd.R_types HO_852001.out BK851.out (by decide))⟩, ⟨by (with_reducible repeat (first | refine blk_drewN ?_ _ | refine blk_drew ?_ | refine blk_alloc ?_ _)); refine blk_far ?_ NB843_851.out _; (with_reducible repeat (first | refine blk_drewN ?_ _ | refine blk_drew ?_ | refine blk_alloc ?_ _)); exact BK843.out⟩, ⟨pt0 BK851⟩, ⟨u94HI0⟩, ⟨u94HK⟩, ⟨u94HB⟩⟩

end Go.Proofs.YtnmanegjgidgcaaGreatDoor.All
