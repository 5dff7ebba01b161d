-- Written by a program of this session (wip/tools/hprint.py) out of the translation. Lean checks it.
import Derived.Test.YtjlpjbkpmmpojaaGreatDoorKHitsAllx0
import Derived.Test.YtjlpjbkpmmpojaaGreatDoorKHitsAllx1
import Derived.Test.YtjlpjbkpmmpojaaGreatDoorKHitsAllx2
import Derived.Test.YtjlpjbkpmmpojaaGreatDoorKHitsAllx3
namespace Go.Proofs.YtjlpjbkpmmpojaaGreatDoor.All
open Go.RowKit Go.Proofs.YtjlpjbkpmmpojaaGreatDoorW.PrintWords Go.Proofs.YtjlpjbkpmmpojaaGreatDoorW.PrintLast Go.Proofs.YtjlpjbkpmmpojaaGreatDoorW.PrintMore
attribute [local go_sem] max2_int min2_int max_two min_two max_three min_three max_four min_four  -- for this text's walks alone
set_option linter.unusedVariables false
set_option linter.unusedSimpArgs false

/-! ### spec_l1Once: function 165 -/
theorem u165HI0 {p : Prop} (h : p := by repeat (first | (with_reducible first | exact HI0.out | apply IsS139.alloc | apply IsS139.drewN | apply IsS139.drew | apply IsS139.set_1 | apply IsS139.set_2) | exact HI0.out)) : p := h
theorem u165HB {p : Prop} (h : p := by repeat (first | (with_reducible first | exact HB.out | apply below_alloc | apply pw_below_drewN | apply below_drew1 | refine below_set ?_ (IsS139.ge HI0.out)) | exact HB.out)) : p := h
theorem u165HK {p : Prop} (h : p := by repeat (first | (with_reducible first | exact HK.out | apply KeepBut.set_ | apply keep_drewN | apply keep_drew | apply keep_alloc) | exact HK.out)) : p := h
def spec_l1Once.f (s0_0 : List Int) (s0_1 : Int) (s0_2 : Int) (a1 : Int) : Option (Bool × Int × Int) := (spec_l1Below.f s0_0 s0_1 s0_2 a1).bind fun bt128 => (some ((bt128.1 == 0), bt128.2.1, bt128.2.2))
set_option maxHeartbeats 8000000 in
set_option maxRecDepth 100000 in
theorem spec_l1Once.calls (g : Nat) (s0_0 : List Int) (s0_1 : Int) (s0_2 : Int) (a1 : Int) (r1 : Bool) (r2 : Int) (r3 : Int) (w0 w : World) (hI : IsS139 w0 w g s0_0 s0_1 s0_2) (hB : Below w0.heap.size w0 w) (h : spec_l1Once.f s0_0 s0_1 s0_2 a1 = some (r1, r2, r3)) :
  Calls Tryz.prog 165 #[.pointer (some ⟨g, 0, none⟩), .int .i64 a1] w fun e w' => e = .returned (.bool r1) ∧ IsS139 w0 w' g s0_0 r2 r3 ∧ Below w0.heap.size w0 w' ∧ KeepBut w w' g none := by
 have HI0 := am hI
 have HK := am (KeepBut.refl w g none)
 have HL := am hB.size
 clear hI
 have HW0 := am hB.size
 have HB := am hB
 clear hB
 unfold spec_l1Once.f at h
 have H := h
 clear h
 revert H
 refine ok3 fun t128 t129 t130 A3 H => ?_
 (try dsimp only at H)
 simp only [Option.some.injEq, Prod.mk.injEq] at H
 obtain ⟨rfl, rfl, rfl⟩ := H
 go_enter Tryz.func165, Tryz.ntmps165
 go_wp2_with ((with_reducible refine gw ?_); first | (refine gl 7 Tryz.func74 #[.pointer (some ⟨g, 0, none⟩), .int .i64 a1] ?_; (with_reducible refine (spec_l1Below.calls g s0_0 s0_1 s0_2 a1 t128 t129 t130 w0 _ ?side1 ?side2 A3.out).mono ?_); (case side1 => exact u165HI0); (case side2 => exact u165HB); rintro e w4 ⟨rfl, hi, hb, hk⟩; refine ⟨_, rfl, ?_⟩; replace HK := am (KeepBut.trans u165HK hk (.inl rfl)); replace HB := am (hb); replace HI0 := am (hi); clear hb hk hi))
 go_ret
 exact ⟨rf, u165HI0, u165HB, u165HK⟩

/-! ### spec_Put: function 103 -/
def spec_Put.f (k : Nat) (l0 : List (S116)) (a1 : ByteArray) (a2 : ByteArray) : Option ((List (S116))) := (some (([] : List (S116)) : List (S116))).bind fun y325 => (if y325.length + l0.length < 4398046511104 then ((some (y325 ++ l0 : List (S116))).bind fun y328 => ((spec_l2At.f k l0 a1).bind fun t331 => (if t331 < 0 then (if y328.length < 4398046511104 then (some (y328 ++ [(⟨a1, a2⟩ : S116)])) else (none)) else (if 0 ≤ t331 then (if t331 < (y328.length : Int) then (some (y328.set (t331 : Int).toNat (⟨(rd_T116 y328 t331).f0, a2⟩ : S116))) else (none)) else (none))))) else (none))
set_option maxHeartbeats 8000000 in
set_option maxRecDepth 100000 in
theorem spec_Put.calls (k : Nat) (A0 : Option Addr) (c0 : Nat) (l0 : List (S116)) (a1 : ByteArray) (a2 : ByteArray) (r : List (S116)) (w : World) (hr0 : Kd.C k116 w A0 l0.length l0) (hc0 : l0.length ≤ c0) (h : spec_Put.f k l0 a1 a2 = some r) :
  Calls Tryz.prog 103 #[.slice A0 l0.length c0, .string a1, .string a2] w fun e w' => ∃ v0_ : Value, e = .returned (v0_) ∧ Kd.R k116 116 w' w.heap.size (fun _ => True) v0_ r ∧ Below w.heap.size w w' := by
 have hu116 := Tryz.underlying116
 have HR0 := am hr0
 have HC0 := am hc0
 clear hr0 hc0
 have HB := am (Below.refl w.heap.size w)
 unfold spec_Put.f at h
 have H := h
 clear h
 obtain ⟨y325, hy325⟩ : ∃ y_ : List (S116), y_ = (([] : List (S116))) := ⟨_, rfl⟩
 replace H : (if y325.length + l0.length < 4398046511104 then ((some (y325 ++ l0 : List (S116))).bind fun y328 => ((spec_l2At.f k l0 a1).bind fun t331 => (if t331 < 0 then (if y328.length < 4398046511104 then (some (y328 ++ [(⟨a1, a2⟩ : S116)])) else (none)) else (if 0 ≤ t331 then (if t331 < (y328.length : Int) then (some (y328.set (t331 : Int).toNat (⟨(rd_T116 y328 t331).f0, a2⟩ : S116))) else (none)) else (none))))) else (none)) = some r := by first | (rw [hy325]; with_reducible exact H) | (have H2_ := (Option.bind_some _ _).symm.trans H; rw [hy325]; with_reducible exact H2_) | (have H2_ := (Option.bind_some _ _).symm.trans H; with_reducible exact H2_) | with_reducible exact H | (rw [hy325]; exact H) | exact H
 have Ny325 := am hy325
 clear hy325
 revert H
 refine ifn fun c4 H => ?_
 have LMc4 := am c4
 clear c4
 obtain ⟨y328, hy328⟩ : ∃ y_ : List (S116), y_ = (y325 ++ l0) := ⟨_, rfl⟩
 replace H : ((spec_l2At.f k l0 a1).bind fun t331 => (if t331 < 0 then (if y328.length < 4398046511104 then (some (y328 ++ [(⟨a1, a2⟩ : S116)])) else (none)) else (if 0 ≤ t331 then (if t331 < (y328.length : Int) then (some (y328.set (t331 : Int).toNat (⟨(rd_T116 y328 t331).f0, a2⟩ : S116))) else (none)) else (none)))) = some r := by first | (rw [hy328]; with_reducible exact H) | (have H2_ := (Option.bind_some _ _).symm.trans H; rw [hy328]; with_reducible exact H2_) | (have H2_ := (Option.bind_some _ _).symm.trans H; with_reducible exact H2_) | with_reducible exact H | (rw [hy328]; exact H) | exact H
 have Ny328 := am hy328
 clear hy328
 revert H
 refine ok1 fun t331 A5 H => ?_
 by_cases c6 : t331 < 0
 ·rw [if_pos c6] at H
  have c6b0 := decide_eq_true c6
  clear c6
  revert H
  refine ifn fun c7 H => ?_
  have LMc7 := am c7
  clear c7
  obtain ⟨y332, hy332⟩ : ∃ y_ : List (S116), y_ = (y328 ++ [(⟨a1, a2⟩ : S116)]) := ⟨_, rfl⟩
  replace H : (some y332) = some r := by first | (rw [hy332]; with_reducible exact H) | (have H2_ := (Option.bind_some _ _).symm.trans H; rw [hy332]; with_reducible exact H2_) | (have H2_ := (Option.bind_some _ _).symm.trans H; with_reducible exact H2_) | with_reducible exact H | (rw [hy332]; exact H) | exact H
  have Ny332 := am hy332
  clear hy332
  obtain rfl := Option.some.inj H
  go_enter Tryz.func103, Tryz.ntmps103
  go_wp2_with (first | ((with_reducible refine gate_dst (N := 9) rfl ?_); refine Kd.R_lit k116 _ 116 ?hg (N := 9) ?hd (xs := ([] : List (S116))) (inner := []) (ok := fun _ => True) (okp := fun _ => True) ?hr ?hp (fun _ hk => hk) trivial (Below.refl _ _) (Nat.le_refl _) (by simp) ?_; (case hd => rfl); (case hg => rfl); (case hr => first | (go_simp; done) | (go_simp; rfl)); (case hp => exact (Reps.none _ _)); intro v326 w8 ho9 hb hg_ hnew_; clear hg_ hnew_; (first | rw [← Ny325.out] at ho9 | (simp only [Int.reduceToNat] at ho9; rw [← Ny325.out] at ho9)); have HO327 := am (Kd.R_lower ho9 (below_size bl)); replace HB := am (below_step bl hb); clear hb ho9) | ((with_reducible refine gate_builtin (b := .append) (xs := #[.tmp 9, .tmp 10]) rfl ?_); at_builtin; refine Kd.R_append_rows k116 (w0 := w) w.heap.size rfl (.tmp 9) (.tmp 10) 27 116 (.agg #[(.string ⟨#[]⟩), (.string ⟨#[]⟩)]) 32 rfl Tryz.underlying27 info116 rfl (by decide) (by omega) v326 y325 l0 _ _ _ (fun _ => True) (fun _ => False) rfl rfl ?aO ?aR (fun _ _ h => h) (fun _ h => h.elim) ?aF ?aB ?aS ?aL ?_; (case aR => exact cb HR0); (case aB => exact bl); (case aF => exact (fun _ _ => trivial)); (case aO => exact (ro HO327)); (case aS => exact (below_size bl)); (case aL => have := LMc4.out; omega); intro v329 w10 ho hb hg hat; rw [← Ny328.out] at ho; have n0_ := am (hb); have n1_ := am (ho); clear HB; clear HO327; have HB := n0_; have HO330 := n1_; clear n0_ n1_; clear ho hb hg hat) | ((with_reducible refine gw ?_); first | (refine gl 14 Tryz.func137 #[.slice A0 l0.length c0, .string a1] ?_; (with_reducible refine (spec_l2At.calls k _ _ l0 a1 t331 _ ?side1 ?side2 A5.out).mono ?_); (case side1 => exact cb HR0); (case side2 => exact HC0.out); rintro e w' ⟨rfl, ⟨nd, rfl⟩⟩; refine ⟨_, rfl, ?_⟩)) | ((with_reducible refine gate_builtin (b := .append) (xs := #[.tmp 17, .tmp 21]) rfl ?_); at_builtin; refine Kd.R_append k116 (w0 := w) w.heap.size rfl (.tmp 17) (.tmp 21) 27 116 (.agg #[(.string ⟨#[]⟩), (.string ⟨#[]⟩)]) 32 rfl Tryz.underlying27 info116 rfl (by decide) (by omega) v329 y328 (⟨a1, a2⟩ : S116) [.string a1, .string a2] (fun _ => True) (fun _ => False) rfl rfl ?aP (fun _ hk => hk.elim) ?aF ?aO ?aB ?aS ?aL ?_; (case aP => exact k116_mkM _ _ _ (⟨a1, a2⟩ : S116)); (case aB => exact bl); (case aF => exact (fun _ _ => trivial)); (case aO => exact (ro HO330)); (case aS => exact (below_size bl)); (case aL => have := LMc7.out; omega); intro v333 w11 ho hb hg hat; rw [← Ny332.out] at ho; have n0_ := am (hb); have n1_ := am (ho); clear HB; clear HO330; have HB := n0_; have HO334 := n1_; clear n0_ n1_; clear ho hb hg hat))
  go_ret
  exact ⟨_, rf, by (with_reducible repeat (first | apply Kd.R_alloc | apply Kd.R_drewN | apply Kd.R_drew)); exact HO334.out, bl⟩
 rw [if_neg c6] at H
 have c6b0 := decide_eq_false c6
 clear c6
 revert H
 refine ifn fun c12 H => ?_
 have c12b0 := decide_eq_true c12
 clear c12
 revert H
 refine ifn fun c13 H => ?_
 have c13b0 := decide_eq_true c13
 clear c13
 obtain ⟨y335, hy335⟩ : ∃ y_ : List (S116), y_ = (y328.set (t331 : Int).toNat (⟨(rd_T116 y328 t331).f0, a2⟩ : S116)) := ⟨_, rfl⟩
 replace H : (some y335) = some r := by first | (rw [hy335]; with_reducible exact H) | (have H2_ := (Option.bind_some _ _).symm.trans H; rw [hy335]; with_reducible exact H2_) | (have H2_ := (Option.bind_some _ _).symm.trans H; with_reducible exact H2_) | with_reducible exact H | (rw [hy335]; exact H) | exact H
 have Ny335 := am hy335
 clear hy335
 obtain rfl := Option.some.inj H
 go_enter Tryz.func103, Tryz.ntmps103
 go_wp2_with (first | ((with_reducible refine gate_dst (N := 9) rfl ?_); refine Kd.R_lit k116 _ 116 ?hg (N := 9) ?hd (xs := ([] : List (S116))) (inner := []) (ok := fun _ => True) (okp := fun _ => True) ?hr ?hp (fun _ hk => hk) trivial (Below.refl _ _) (Nat.le_refl _) (by simp) ?_; (case hd => rfl); (case hg => rfl); (case hr => first | (go_simp; done) | (go_simp; rfl)); (case hp => exact (Reps.none _ _)); intro v326 w15 ho16 hb hg_ hnew_; clear hg_ hnew_; (first | rw [← Ny325.out] at ho16 | (simp only [Int.reduceToNat] at ho16; rw [← Ny325.out] at ho16)); have HO327 := am (Kd.R_lower ho16 (below_size bl)); replace HB := am (below_step bl hb); clear hb ho16) | ((with_reducible refine gate_builtin (b := .append) (xs := #[.tmp 9, .tmp 10]) rfl ?_); at_builtin; refine Kd.R_append_rows k116 (w0 := w) w.heap.size rfl (.tmp 9) (.tmp 10) 27 116 (.agg #[(.string ⟨#[]⟩), (.string ⟨#[]⟩)]) 32 rfl Tryz.underlying27 info116 rfl (by decide) (by omega) v326 y325 l0 _ _ _ (fun _ => True) (fun _ => False) rfl rfl ?aO ?aR (fun _ _ h => h) (fun _ h => h.elim) ?aF ?aB ?aS ?aL ?_; (case aR => exact cb HR0); (case aB => exact bl); (case aF => exact (fun _ _ => trivial)); (case aO => exact (ro HO327)); (case aS => exact (below_size bl)); (case aL => have := LMc4.out; omega); intro v329 w17 ho hb hg hat; rw [← Ny328.out] at ho; have n0_ := am (hb); have n1_ := am (ho); clear HB; clear HO327; have HB := n0_; have HO330 := n1_; clear n0_ n1_; clear ho hb hg hat) | ((with_reducible refine gw ?_); first | (refine gl 14 Tryz.func137 #[.slice A0 l0.length c0, .string a1] ?_; (with_reducible refine (spec_l2At.calls k _ _ l0 a1 t331 _ ?side1 ?side2 A5.out).mono ?_); (case side1 => exact cb HR0); (case side2 => exact HC0.out); rintro e w' ⟨rfl, ⟨nd, rfl⟩⟩; refine ⟨_, rfl, ?_⟩; (try (rw [drewN_self w17]; generalize hq_ : World.drewN w17 _ = w17; have n0_ : Aside0 (Kd.R k116 116 w17 w.heap.size (fun _ => True) v329 y328) := ⟨by rw [← hq_]; exact (ro HO330)⟩; have n1_ : Aside0 (Below w.heap.size w w17) := ⟨by rw [← hq_]; exact bl⟩; clear HO330 HB hq_; have HO330 := n0_; have HB := n1_; clear n0_ n1_)); have p14 : 0 ≤ (t331 : Int) := od; have q14 : (t331 : Int) < ((y328.length : Int) : Int) := od; obtain ⟨go14, co14, eo14, gb14, gl14, cl14, HG14⟩ := Kd.R_form HO330.out (by omega); (first | cases eo14 | (injection eo14 with ea_ en_ ec_; (first | subst ea_ | (injection ea_ with ea_; subst ea_)); subst ec_; clear en_)); have GB14 := am gb14; have GG14 := am HG14; clear gb14 gl14 HG14; obtain ⟨ce14, hcl14, hM14, hcc14, hfr14⟩ := Kd.R_elem HO330.out z116 (t331 : Int) p14 q14; obtain rfl := k116_openM hM14; have hx14_0 : w17.cell? ⟨go14, (t331 : Int).toNat * 2, none⟩ = some (.string ((rd_T116 y328 t331).f0)) := hcc14 0 _ rfl; have hx14_1 : w17.cell? ⟨go14, (t331 : Int).toNat * 2 + 1, none⟩ = some (.string ((rd_T116 y328 t331).f1)) := hcc14 1 _ rfl; have hf14_0 : w17.frozen? ⟨go14, (t331 : Int).toNat * 2, none⟩ = false := hfr14 0; have hf14_1 : w17.frozen? ⟨go14, (t331 : Int).toNat * 2 + 1, none⟩ = false := hfr14 1; clear hcl14 hcc14 hfr14 hM14; replace p14 := eq_true p14; replace q14 := eq_true q14; have HX18 := am (show Kd.R k116 116 w17 w.heap.size (fun _ => True) (.slice (some ⟨go14, 0, none⟩) y328.length co14) y328 from (ro HO330)); obtain ⟨ce18, hcl18, hM18, hcc18, hfr18⟩ := Kd.R_elem HX18.out z116 (t331 : Int) (od) (by have h_ : (t331 : Int) < ((y328.length : Int) : Int) := od; first | exact h_ | (have e_ := (Kd.R_reads' HO330.out).1; omega) | simpa using h_); obtain rfl := k116_openM hM18; have HP18 := Kd.R_seg HX18.out (t331 : Int) (od) (by have h_ : (t331 : Int) < ((y328.length : Int) : Int) := od; first | exact h_ | (have e_ := (Kd.R_reads' HO330.out).1; omega) | simpa using h_) (seg := [.string a2]) (j := 1) hcl18 hcc18 (show 2 ≤ 2 from by decide) (x' := (⟨(rd_T116 y328 t331).f0, a2⟩ : S116)) (k116_mkM _ _ _ (⟨(rd_T116 y328 t331).f0, a2⟩ : S116) ) (fun _ hk => hk); have hx18_1 := hcc18 1 _ rfl; (try simp only [show (k116).sz = 2 from rfl, Nat.mul_one, Nat.add_zero] at hx18_1); have hf18_1 := hfr18 1; (try simp only [show (k116).sz = 2 from rfl, Nat.mul_one, Nat.add_zero] at hf18_1); clear hcl18 hcc18 hfr18 hM18)) | ((with_reducible refine gate_store (t := 9) (p := 27) rfl ?_); refine store_event (t := 9) (p := 27) (v := ?vo_w19) (w1 := (w17.setCell ⟨go14, (t331 : Int).toNat * 2 + 1, none⟩ (.string a2))) ?hg ?ho ?hn ?hr ?_; (case ho => rfl); (case hg => rfl); (case hn => rfl); (case hr => first | (go_simp; done) | (go_simp; rfl)); intro w19 hw; have hg : w17.grownBy w19 (some go14) := (by rw [hw]; exact HP18.2); have hp_ : Kd.R k116 116 w19 w.heap.size (fun _ => True) (.slice (some ⟨go14, 0, none⟩) y328.length co14) y335 := (by rw [hw, Ny335.out]; exact HP18.1); clear HP18; have n0_ := am (hp_); have n1_ := am ((by rw [hw]; exact below_set (HB.out) GB14.out : Below w.heap.size w w19)); clear HO330; clear HB; have HO330 := n0_; have HB := n1_; clear n0_ n1_; clear hg hw hp_))
 go_ret
 exact ⟨_, rf, by (with_reducible repeat (first | apply Kd.R_alloc | apply Kd.R_drewN | apply Kd.R_drew)); exact HO330.out, bl⟩

/-! ### spec_l1DrawText: function 181 -/
theorem u181HK {p : Prop} (h : p := by repeat (first | (with_reducible first | exact HK.out | apply KeepBut.set_ | apply keep_drewN | apply keep_drew | apply keep_alloc) | exact HK.out)) : p := h
theorem u181HB {p : Prop} (h : p := by repeat (first | (with_reducible first | exact HB.out | apply below_alloc | apply pw_below_drewN | apply below_drew1 | refine below_set ?_ (IsS139.ge HI0.out)) | exact HB.out)) : p := h
theorem u181HI0 {p : Prop} (h : p := by repeat (first | (with_reducible first | exact HI0.out | apply IsS139.alloc | apply IsS139.drewN | apply IsS139.drew | apply IsS139.set_1 | apply IsS139.set_2) | exact HI0.out)) : p := h
def spec_l1DrawText.l0 : Nat → List Int → Int → List Int → Int → Int → Option (ByteArray × Int × Int)
 | 0, _, _, _, _, _ => none
 | k + 1, x3, x4, x1000, x1001, x1002 => (spec_l1Below.f x1000 x1001 x1002 14).bind fun bt339 => (if x4 < bt339.1 then ((spec_l1Pick.f x1000 bt339.2.1 bt339.2.2 (([(⟨#[32]⟩ : ByteArray), (⟨#[44]⟩ : ByteArray), (⟨#[97]⟩ : ByteArray), (⟨#[90]⟩ : ByteArray), (⟨#[55]⟩ : ByteArray), (⟨#[45]⟩ : ByteArray), (⟨#[61]⟩ : ByteArray), (⟨#[120]⟩ : ByteArray), (⟨#[58]⟩ : ByteArray), (⟨#[1]⟩ : ByteArray), (⟨#[64]⟩ : ByteArray), (⟨#[91]⟩ : ByteArray)] : List ByteArray))).bind fun bt345 => (if 0 < (bt345.1.size : Int) then (if x3.length < 140737488355328 then (spec_l1DrawText.l0 k (x3 ++ [bt bt345.1 0]) (wrap64 (x4 + 1)) x1000 bt345.2.1 bt345.2.2) else (none)) else (none))) else (some (strOfNums x3, bt339.2.1, bt339.2.2)))
def spec_l1DrawText.f (k : Nat) (s0_0 : List Int) (s0_1 : Int) (s0_2 : Int) : Option (ByteArray × Int × Int) := spec_l1DrawText.l0 k (([] : List Int)) 0 s0_0 s0_1 s0_2
set_option maxHeartbeats 8000000 in
set_option maxRecDepth 100000 in
theorem spec_l1DrawText.calls (k : Nat) (g : Nat) (s0_0 : List Int) (s0_1 : Int) (s0_2 : Int) (r1 : ByteArray) (r2 : Int) (r3 : Int) (w0 w : World) (hI : IsS139 w0 w g s0_0 s0_1 s0_2) (hB : Below w0.heap.size w0 w) (h : spec_l1DrawText.f k s0_0 s0_1 s0_2 = some (r1, r2, r3)) :
  Calls Tryz.prog 181 #[.pointer (some ⟨g, 0, none⟩)] w fun e w' => e = .returned (.string r1) ∧ IsS139 w0 w' g s0_0 r2 r3 ∧ Below w0.heap.size w0 w' ∧ KeepBut w w' g none := by
 have HI0 := am hI
 have HK := am (KeepBut.refl w g none)
 have HL := am hB.size
 clear hI
 have HW0 := am hB.size
 have HB := am hB
 clear hB
 unfold spec_l1DrawText.f at h
 have H := h
 clear h
 obtain ⟨y336, hy336⟩ : ∃ y_ : List Int, y_ = (([] : List Int)) := ⟨_, rfl⟩
 replace H : (spec_l1DrawText.l0 k y336 0 s0_0 s0_1 s0_2) = some (r1, r2, r3) := by first | (rw [hy336]; with_reducible exact H) | (have H2_ := (Option.bind_some _ _).symm.trans H; rw [hy336]; with_reducible exact H2_) | (have H2_ := (Option.bind_some _ _).symm.trans H; with_reducible exact H2_) | with_reducible exact H | (rw [hy336]; exact H) | exact H
 have Ny336 := am hy336
 clear hy336
 have H' := am H
 clear H
 go_enter Tryz.func181, Tryz.ntmps181
 go_wp2_with (first | ((with_reducible refine gate_dst (N := 5) rfl ?_); refine Kd.R_lit (Kd.int .u8) _ 5 ?hg (N := 5) ?hd (xs := ([] : List Int)) (inner := []) (ok := fun _ => True) (okp := fun _ => True) ?hr ?hp (fun _ hk => hk) trivial (Below.refl _ _) (Nat.le_refl _) (by simp) ?_; (case hd => rfl); (case hg => rfl); (case hr => first | (go_simp; done) | (go_simp; rfl)); (case hp => exact (Reps.none _ _)); intro v337 w2 ho3 hb hg_ hnew_; clear hg_ hnew_; (first | rw [← Ny336.out] at ho3 | (simp only [Int.reduceToNat] at ho3; rw [← Ny336.out] at ho3)); have HO338 := am (Kd.R_lower ho3 (keep_size (w := w) (g := g) (row := none) u181HK)); replace HK := am (KeepBut.trans u181HK (KeepBut.of_below hb g none) (.inl rfl)); replace HB := am (below_step u181HB hb); replace HI0 := am (IsS139.below u181HI0 hb); clear hb ho3))
 (try simp only [Act.put, List.setIfInBounds_toArray, List.set_cons_zero, List.set_cons_succ])
 go_loopg [3, 4] k (fun kq v3 v4 w' => ∃ (x3_1 : List Int) (x4_1 : Int) (x1001_1 : Int) (x1002_1 : Int), v4 = .int .i64 x4_1 ∧ Aside0 (spec_l1DrawText.l0 kq x3_1 x4_1 s0_0 x1001_1 x1002_1 = some (r1, r2, r3)) ∧ Aside0 (kq ≤ k) ∧ Aside0 (Kd.R (Kd.int .u8) 5 w' w.heap.size (fun _ => True) v3 x3_1) ∧ Aside0 (IsS139 w0 w' g s0_0 x1001_1 x1002_1) ∧ Aside0 (KeepBut w w' g none) ∧ Aside0 (Below w0.heap.size w0 w'))
 case atStart => exact ⟨(y336), (0), (s0_1), (s0_2), rs, H', ⟨Nat.le_refl _⟩, ⟨by (with_reducible repeat (first | apply Kd.R_alloc | apply Kd.R_drewN | apply Kd.R_drew)); exact HO338.out⟩, ⟨u181HI0⟩, ⟨u181HK⟩, ⟨u181HB⟩⟩
 case round =>
  clear H'
  try clear c1
  try clear p2
  obtain ⟨x3_1, x4_1, x1001_1, x1002_1, rfl, HA, HK1, HO_3, HI0, HK, HB⟩ := hrel
  cases gk with
  | zero => exact absurd HA.out (by simp [spec_l1DrawText.l0])
  | succ k1 =>
   have H := HA.out
   clear HA
   simp only [spec_l1DrawText.l0] at H
   revert H
   refine ok3 fun t339 t340 t341 A4 H => ?_
   (try dsimp only at H)
   by_cases c5 : x4_1 < t339
   rotate_left
   ·rw [if_neg c5] at H
    have c5b0 := decide_eq_false c5
    clear c5
    simp only [Option.some.injEq, Prod.mk.injEq] at H
    obtain ⟨rfl, rfl, rfl⟩ := H
    go_wp2_with ((with_reducible refine gw ?_); first | (refine gl 8 Tryz.func74 #[.pointer (some ⟨g, 0, none⟩), .int .i64 14] ?_; (with_reducible refine (spec_l1Below.calls g s0_0 x1001_1 x1002_1 14 t339 t340 t341 w0 _ ?side1 ?side2 A4.out).mono ?_); (case side1 => exact u181HI0); (case side2 => exact u181HB); rintro e w16 ⟨rfl, hi, hb, hk⟩; refine ⟨_, rfl, ?_⟩; replace HO_3 := am (Kd.R_mono (Kd.R_keep (IsS139.apart (show IsS139 w0 _ g s0_0 x1001_1 x1002_1 from u181HI0) (ro HO_3) (by decide)) hk (fun _ h => h.2)) (fun _ h => h.1)); replace HK := am (KeepBut.trans u181HK hk (.inl rfl)); replace HB := am (hb); replace HI0 := am (hi); clear hb hk hi; have hcv17 := own_string (P := Tryz.prog) Tryz.underlying22 Tryz.underlying5 Tryz.underlying9 (Kd.own_of_R HO_3.out)))
    go_ret
    exact ⟨rf, u181HI0, u181HB, u181HK⟩
   rw [if_pos c5] at H
   have c5b0 := decide_eq_true c5
   clear c5
   obtain ⟨y342, hy342⟩ : ∃ y_ : List ByteArray, y_ = (([(⟨#[32]⟩ : ByteArray), (⟨#[44]⟩ : ByteArray), (⟨#[97]⟩ : ByteArray), (⟨#[90]⟩ : ByteArray), (⟨#[55]⟩ : ByteArray), (⟨#[45]⟩ : ByteArray), (⟨#[61]⟩ : ByteArray), (⟨#[120]⟩ : ByteArray), (⟨#[58]⟩ : ByteArray), (⟨#[1]⟩ : ByteArray), (⟨#[64]⟩ : ByteArray), (⟨#[91]⟩ : ByteArray)] : List ByteArray)) := ⟨_, rfl⟩
   replace H : ((spec_l1Pick.f s0_0 t340 t341 y342).bind fun bt345 => (if 0 < (bt345.1.size : Int) then (if x3_1.length < 140737488355328 then (spec_l1DrawText.l0 k1 (x3_1 ++ [bt bt345.1 0]) (wrap64 (x4_1 + 1)) s0_0 bt345.2.1 bt345.2.2) else (none)) else (none))) = some (r1, r2, r3) := by first | (rw [hy342]; with_reducible exact H) | (have H2_ := (Option.bind_some _ _).symm.trans H; rw [hy342]; with_reducible exact H2_) | (have H2_ := (Option.bind_some _ _).symm.trans H; with_reducible exact H2_) | with_reducible exact H | (rw [hy342]; exact H) | exact H
   have Ny342 := am hy342
   clear hy342
   revert H
   refine ok3 fun t345 t346 t347 A6 H => ?_
   (try dsimp only at H)
   revert H
   refine ifn fun c7 H => ?_
   have c7b0 := decide_eq_true c7
   have c7b1 : decide (0 < t345.size) = true := decide_eq_true (by omega)
   clear c7
   revert H
   refine ifn fun c9 H => ?_
   have LMc9 := am c9
   clear c9
   obtain ⟨y348, hy348⟩ : ∃ y_ : List Int, y_ = (x3_1 ++ [bt t345 0]) := ⟨_, rfl⟩
   replace H : (spec_l1DrawText.l0 k1 y348 (wrap64 (x4_1 + 1)) s0_0 t346 t347) = some (r1, r2, r3) := by first | (rw [hy348]; with_reducible exact H) | (have H2_ := (Option.bind_some _ _).symm.trans H; rw [hy348]; with_reducible exact H2_) | (have H2_ := (Option.bind_some _ _).symm.trans H; with_reducible exact H2_) | with_reducible exact H | (rw [hy348]; exact H) | exact H
   have Ny348 := am hy348
   clear hy348
   have H' := am H
   clear H
   go_wp2_with (first | ((with_reducible refine gw ?_); refine gl 8 Tryz.func74 #[.pointer (some ⟨g, 0, none⟩), .int .i64 14] ?_; (with_reducible refine (spec_l1Below.calls g s0_0 x1001_1 x1002_1 14 t339 t340 t341 w0 _ ?side1 ?side2 A4.out).mono ?_); (case side1 => exact u181HI0); (case side2 => exact u181HB); rintro e w10 ⟨rfl, hi, hb, hk⟩; refine ⟨_, rfl, ?_⟩; replace HO_3 := am (Kd.R_mono (Kd.R_keep (IsS139.apart (show IsS139 w0 _ g s0_0 x1001_1 x1002_1 from u181HI0) (ro HO_3) (by decide)) hk (fun _ h => h.2)) (fun _ h => h.1)); replace HK := am (KeepBut.trans u181HK hk (.inl rfl)); replace HB := am (hb); replace HI0 := am (hi); clear hb hk hi) | ((with_reducible refine gate_dst (N := 14) rfl ?_); refine Kd.R_lit Kd.string _ 9 ?hg (N := 14) ?hd (xs := ([(⟨#[32]⟩ : ByteArray), (⟨#[44]⟩ : ByteArray), (⟨#[97]⟩ : ByteArray), (⟨#[90]⟩ : ByteArray), (⟨#[55]⟩ : ByteArray), (⟨#[45]⟩ : ByteArray), (⟨#[61]⟩ : ByteArray), (⟨#[120]⟩ : ByteArray), (⟨#[58]⟩ : ByteArray), (⟨#[1]⟩ : ByteArray), (⟨#[64]⟩ : ByteArray), (⟨#[91]⟩ : ByteArray)] : List ByteArray)) (inner := [.string (⟨#[32]⟩ : ByteArray), .string (⟨#[44]⟩ : ByteArray), .string (⟨#[97]⟩ : ByteArray), .string (⟨#[90]⟩ : ByteArray), .string (⟨#[55]⟩ : ByteArray), .string (⟨#[45]⟩ : ByteArray), .string (⟨#[61]⟩ : ByteArray), .string (⟨#[120]⟩ : ByteArray), .string (⟨#[58]⟩ : ByteArray), .string (⟨#[1]⟩ : ByteArray), .string (⟨#[64]⟩ : ByteArray), .string (⟨#[91]⟩ : ByteArray)]) (ok := fun _ => True) (okp := fun _ => True) ?hr ?hp (fun _ hk => hk) trivial (Below.refl _ _) (Nat.le_refl _) (by simp) ?_; (case hd => rfl); (case hg => rfl); (case hr => first | (go_simp; done) | (go_simp; rfl)); (case hp => exact rp); intro v343 w11 ho12 hb hg_ hnew_; clear hg_ hnew_; (first | rw [← Ny342.out] at ho12 | (simp only [Int.reduceToNat] at ho12; rw [← Ny342.out] at ho12)); replace HO_3 := kr HO_3 hb; have HO344 := am (Kd.R_lower ho12 (keep_size (w := w) (g := g) (row := none) u181HK)); replace HK := am (KeepBut.trans u181HK (KeepBut.of_below hb g none) (.inl rfl)); replace HB := am (below_step u181HB hb); replace HI0 := am (IsS139.below u181HI0 hb); clear hb ho12; obtain ⟨Ao13, co13, eo13⟩ := Kd.R_slice HO344.out; subst eo13) | ((with_reducible refine gw ?_); refine gl 15 Tryz.func84 #[.pointer (some ⟨g, 0, none⟩), .slice Ao13 y342.length co13] ?_; (with_reducible refine (spec_l1Pick.calls g s0_0 t340 t341 _ _ y342 t345 t346 t347 w0 _ ?side1 ?side2 ?side3 ?side4 ?side5 A6.out).mono ?_); (case side1 => exact u181HI0); (case side2 => exact u181HB); (case side3 => exact rc HO344); (case side4 => exact (Kd.R_reads' HO344.out).2.1); (case side5 => exact far_slice (IsS139.own_ne HI0.out HO344.out (by decide))); rintro e w14 ⟨rfl, hi, hb, hk⟩; refine ⟨_, rfl, ?_⟩; replace HO_3 := am (Kd.R_mono (Kd.R_keep (IsS139.apart (show IsS139 w0 _ g s0_0 t340 t341 from u181HI0) (ro HO_3) (by decide)) hk (fun _ h => h.2)) (fun _ h => h.1)); replace HO344 := am (Kd.R_mono (Kd.R_keep (IsS139.apart (show IsS139 w0 _ g s0_0 t340 t341 from u181HI0) (ro HO344) (by decide)) hk (fun _ h => h.2)) (fun _ h => h.1)); replace HK := am (KeepBut.trans u181HK hk (.inl rfl)); replace HB := am (hb); replace HI0 := am (hi); clear hb hk hi; have p8 : 0 ≤ (0 : Int) := (by omega); have q8 : 0 < t345.size := (by have : (0 : Int) < (t345.size : Int) := od; omega); have hx8 : ∀ h : 0 < t345.size, ((t345[0]'h).toNat : Int) = bt t345 0 := bt_at t345 0; clear p8; have qi8 : (0 < (t345.size : Int)) = True := eq_true (od); replace q8 := eq_true q8) | ((with_reducible refine gate_builtin (b := .append) (xs := #[.tmp 12, .tmp 17]) rfl ?_); at_builtin; refine Kd.R_append (Kd.int .u8) w.heap.size rfl (.tmp 12) (.tmp 17) 22 5 (.int .u8 0) 1 rfl Tryz.underlying22 info5 rfl (by decide) (by omega) u3 x3_1 (bt t345 0) [.int .u8 (bt t345 0)] (fun _ => True) (fun _ => False) rfl rfl ?aP (fun _ hk => hk.elim) ?aF ?aO (Below.refl _ _) ?aS ?aL ?_; (case aP => exact rfl); (case aF => exact (fun _ _ => trivial)); (case aO => exact (ro HO_3)); (case aS => exact (keep_size (w := w) (g := g) (row := none) u181HK)); (case aL => have := LMc9.out; omega); intro v349 w15 ho hb hg hat; rw [← Ny348.out] at ho; have n0_ := am (IsS139.grown u181HI0 hg (IsS139.own_ne HI0.out HO_3.out (by decide))); have n1_ := am (Kd.R_over' (ro HO344) (Kd.R_typed (ro HO_3)) (by decide) hg); have n2_ := am (below_weaken u181HB HL.out hb); have n3_ := am (KeepBut.trans u181HK (KeepBut.of_grown hg g) (Kd.R_base2 HO_3.out)); have n4_ := am (ho); clear HI0; clear HO344; clear HB; clear HK; clear HO_3; have HI0 := n0_; have HO344 := n1_; have HB := n2_; have HK := n3_; have HO350 := n4_; clear n0_ n1_ n2_ n3_ n4_; clear ho hb hg hat))
   go_roundg k1
   case measure => have := HK1.out; omega
   case rel => exact ⟨(y348), (wrap64 (x4_1 + 1)), (t346), (t347), rs, H', ⟨by have := HK1.out; omega⟩, ⟨by (with_reducible repeat (first | apply Kd.R_alloc | apply Kd.R_drewN | apply Kd.R_drew)); exact HO350.out⟩, ⟨u181HI0⟩, ⟨u181HK⟩, ⟨u181HB⟩⟩

/-! ### spec_l3DrawBody: function 164 -/
theorem u164HI0 {p : Prop} (h : p := by repeat (first | (with_reducible first | exact HI0.out | apply IsS139.alloc | apply IsS139.drewN | apply IsS139.drew | apply IsS139.set_1 | apply IsS139.set_2) | exact HI0.out)) : p := h
theorem u164HB {p : Prop} (h : p := by repeat (first | (with_reducible first | exact HB.out | apply below_alloc | apply pw_below_drewN | apply below_drew1 | refine below_set ?_ (IsS139.ge HI0.out)) | exact HB.out)) : p := h
theorem u164HK {p : Prop} (h : p := by repeat (first | (with_reducible first | exact HK.out | apply KeepBut.set_ | apply keep_drewN | apply keep_drew | apply keep_alloc) | exact HK.out)) : p := h
def spec_l3DrawBody.f (k : Nat) (s0_0 : List Int) (s0_1 : Int) (s0_2 : Int) : Option (ByteArray × Int × Int) := (spec_l1Once.f s0_0 s0_1 s0_2 2).bind fun bt351 => (if bt351.1 = true then ((spec_l1Pick.f s0_0 bt351.2.1 bt351.2.2 (([(⟨#[]⟩ : ByteArray), (⟨#[104, 101, 108, 108, 111]⟩ : ByteArray), (⟨#[13, 10, 13, 10]⟩ : ByteArray), (⟨#[97, 0, 98]⟩ : ByteArray), (⟨#[111, 110, 101, 32, 116, 119, 111]⟩ : ByteArray)] : List ByteArray))).bind fun bt357 => (some (bt357.1, bt357.2.1, bt357.2.2))) else ((spec_l1DrawText.f k s0_0 bt351.2.1 bt351.2.2).bind fun bt360 => (some (bt360.1, bt360.2.1, bt360.2.2))))
set_option maxHeartbeats 8000000 in
set_option maxRecDepth 100000 in
theorem spec_l3DrawBody.calls (k : Nat) (g : Nat) (s0_0 : List Int) (s0_1 : Int) (s0_2 : Int) (r1 : ByteArray) (r2 : Int) (r3 : Int) (w0 w : World) (hI : IsS139 w0 w g s0_0 s0_1 s0_2) (hB : Below w0.heap.size w0 w) (h : spec_l3DrawBody.f k s0_0 s0_1 s0_2 = some (r1, r2, r3)) :
  Calls Tryz.prog 164 #[.pointer (some ⟨g, 0, none⟩)] w fun e w' => e = .returned (.string r1) ∧ IsS139 w0 w' g s0_0 r2 r3 ∧ Below w0.heap.size w0 w' ∧ KeepBut w w' g none := by
 have HI0 := am hI
 have HK := am (KeepBut.refl w g none)
 have HL := am hB.size
 clear hI
 have HW0 := am hB.size
 have HB := am hB
 clear hB
 unfold spec_l3DrawBody.f at h
 have H := h
 clear h
 revert H
 refine ok3 fun t351 t352 t353 A2 H => ?_
 (try dsimp only at H)
 by_cases c3 : t351 = true
 rotate_left
 ·replace c3 := Bool.eq_false_iff.mpr c3
  subst c3
  rw [if_neg (show ¬ (false = true) by decide)] at H
  revert H
  refine ok3 fun t360 t361 t362 A10 H => ?_
  (try dsimp only at H)
  simp only [Option.some.injEq, Prod.mk.injEq] at H
  obtain ⟨rfl, rfl, rfl⟩ := H
  go_enter Tryz.func164, Tryz.ntmps164
  go_wp2_with ((with_reducible refine gw ?_); first | (refine gl 4 Tryz.func165 #[.pointer (some ⟨g, 0, none⟩), .int .i64 2] ?_; (with_reducible refine (spec_l1Once.calls g s0_0 s0_1 s0_2 2 false t352 t353 w0 _ ?side1 ?side2 A2.out).mono ?_); (case side1 => exact u164HI0); (case side2 => exact u164HB); rintro e w11 ⟨rfl, hi, hb, hk⟩; refine ⟨_, rfl, ?_⟩; replace HK := am (KeepBut.trans u164HK hk (.inl rfl)); replace HB := am (hb); replace HI0 := am (hi); clear hb hk hi) | (refine gl 9 Tryz.func181 #[.pointer (some ⟨g, 0, none⟩)] ?_; (with_reducible refine (spec_l1DrawText.calls k g s0_0 t352 t353 t360 t361 t362 w0 _ ?side1 ?side2 A10.out).mono ?_); (case side1 => exact u164HI0); (case side2 => exact u164HB); rintro e w12 ⟨rfl, hi, hb, hk⟩; refine ⟨_, rfl, ?_⟩; replace HK := am (KeepBut.trans u164HK hk (.inl rfl)); replace HB := am (hb); replace HI0 := am (hi); clear hb hk hi))
  go_ret
  exact ⟨rf, u164HI0, u164HB, u164HK⟩
 subst c3
 rw [if_pos rfl] at H
 obtain ⟨y354, hy354⟩ : ∃ y_ : List ByteArray, y_ = (([(⟨#[]⟩ : ByteArray), (⟨#[104, 101, 108, 108, 111]⟩ : ByteArray), (⟨#[13, 10, 13, 10]⟩ : ByteArray), (⟨#[97, 0, 98]⟩ : ByteArray), (⟨#[111, 110, 101, 32, 116, 119, 111]⟩ : ByteArray)] : List ByteArray)) := ⟨_, rfl⟩
 replace H : ((spec_l1Pick.f s0_0 t352 t353 y354).bind fun bt357 => (some (bt357.1, bt357.2.1, bt357.2.2))) = some (r1, r2, r3) := by first | (rw [hy354]; with_reducible exact H) | (have H2_ := (Option.bind_some _ _).symm.trans H; rw [hy354]; with_reducible exact H2_) | (have H2_ := (Option.bind_some _ _).symm.trans H; with_reducible exact H2_) | with_reducible exact H | (rw [hy354]; exact H) | exact H
 have Ny354 := am hy354
 clear hy354
 revert H
 refine ok3 fun t357 t358 t359 A4 H => ?_
 (try dsimp only at H)
 simp only [Option.some.injEq, Prod.mk.injEq] at H
 obtain ⟨rfl, rfl, rfl⟩ := H
 go_enter Tryz.func164, Tryz.ntmps164
 go_wp2_with (first | ((with_reducible refine gw ?_); refine gl 4 Tryz.func165 #[.pointer (some ⟨g, 0, none⟩), .int .i64 2] ?_; (with_reducible refine (spec_l1Once.calls g s0_0 s0_1 s0_2 2 true t352 t353 w0 _ ?side1 ?side2 A2.out).mono ?_); (case side1 => exact u164HI0); (case side2 => exact u164HB); rintro e w5 ⟨rfl, hi, hb, hk⟩; refine ⟨_, rfl, ?_⟩; replace HK := am (KeepBut.trans u164HK hk (.inl rfl)); replace HB := am (hb); replace HI0 := am (hi); clear hb hk hi) | ((with_reducible refine gate_dst (N := 6) rfl ?_); refine Kd.R_lit Kd.string _ 9 ?hg (N := 6) ?hd (xs := ([(⟨#[]⟩ : ByteArray), (⟨#[104, 101, 108, 108, 111]⟩ : ByteArray), (⟨#[13, 10, 13, 10]⟩ : ByteArray), (⟨#[97, 0, 98]⟩ : ByteArray), (⟨#[111, 110, 101, 32, 116, 119, 111]⟩ : ByteArray)] : List ByteArray)) (inner := [.string (⟨#[]⟩ : ByteArray), .string (⟨#[104, 101, 108, 108, 111]⟩ : ByteArray), .string (⟨#[13, 10, 13, 10]⟩ : ByteArray), .string (⟨#[97, 0, 98]⟩ : ByteArray), .string (⟨#[111, 110, 101, 32, 116, 119, 111]⟩ : ByteArray)]) (ok := fun _ => True) (okp := fun _ => True) ?hr ?hp (fun _ hk => hk) trivial (Below.refl _ _) (Nat.le_refl _) (by simp) ?_; (case hd => rfl); (case hg => rfl); (case hr => first | (go_simp; done) | (go_simp; rfl)); (case hp => exact rp); intro v355 w6 ho7 hb hg_ hnew_; clear hg_ hnew_; (first | rw [← Ny354.out] at ho7 | (simp only [Int.reduceToNat] at ho7; rw [← Ny354.out] at ho7)); have HO356 := am (Kd.R_lower ho7 (keep_size (w := w) (g := g) (row := none) u164HK)); replace HK := am (KeepBut.trans u164HK (KeepBut.of_below hb g none) (.inl rfl)); replace HB := am (below_step u164HB hb); replace HI0 := am (IsS139.below u164HI0 hb); clear hb ho7; obtain ⟨Ao8, co8, eo8⟩ := Kd.R_slice HO356.out; subst eo8) | ((with_reducible refine gw ?_); refine gl 7 Tryz.func84 #[.pointer (some ⟨g, 0, none⟩), .slice Ao8 y354.length co8] ?_; (with_reducible refine (spec_l1Pick.calls g s0_0 t352 t353 _ _ y354 t357 t358 t359 w0 _ ?side1 ?side2 ?side3 ?side4 ?side5 A4.out).mono ?_); (case side1 => exact u164HI0); (case side2 => exact u164HB); (case side3 => exact rc HO356); (case side4 => exact (Kd.R_reads' HO356.out).2.1); (case side5 => exact far_slice (IsS139.own_ne HI0.out HO356.out (by decide))); rintro e w9 ⟨rfl, hi, hb, hk⟩; refine ⟨_, rfl, ?_⟩; replace HO356 := am (Kd.R_mono (Kd.R_keep (IsS139.apart (show IsS139 w0 _ g s0_0 t352 t353 from u164HI0) (ro HO356) (by decide)) hk (fun _ h => h.2)) (fun _ h => h.1)); replace HK := am (KeepBut.trans u164HK hk (.inl rfl)); replace HB := am (hb); replace HI0 := am (hi); clear hb hk hi))
 go_ret
 exact ⟨rf, u164HI0, u164HB, u164HK⟩

/-! ### spec_l3DrawResp: function 124 -/
theorem u124HI0 {p : Prop} (h : p := by repeat (first | (with_reducible first | exact HI0.out | apply IsS139.alloc | apply IsS139.drewN | apply IsS139.drew | apply IsS139.set_1 | apply IsS139.set_2 | apply IsS139.far (p := ⟨gb363, _, none⟩) (hne := NB0_363.out) | apply IsS139.far (p := ⟨gb378, _, none⟩) (hne := NB0_378.out)) | exact HI0.out)) : p := h
theorem u124HK {p : Prop} (h : p := by repeat (first | (with_reducible first | exact HK.out | apply KeepBut.set_ | apply keep_drewN | apply keep_drew | apply keep_alloc | refine keep_far ?_ GW363.out _ | refine keep_far ?_ GW378.out _) | exact HK.out)) : p := h
theorem u124HB {p : Prop} (h : p := by repeat (first | (with_reducible first | exact HB.out | apply below_alloc | apply pw_below_drewN | apply below_drew1 | refine below_set ?_ (IsS139.ge HI0.out) | refine below_set ?_ GE363.out | refine below_set ?_ GE378.out) | exact HB.out)) : p := h
def spec_l3DrawResp.f (k : Nat) (s0_0 : List Int) (s0_1 : Int) (s0_2 : Int) : Option (Int × (List (S116)) × ByteArray × Int × Int) := (spec_l1PickInt.f s0_0 s0_1 s0_2 (([200, 200, 200, 200, 404, 500, 304] : List Int))).bind fun bt367 => ((spec_l2DrawRight.f k s0_0 bt367.2.1 bt367.2.2).bind fun bt370 => ((spec_l3DrawBody.f k s0_0 bt370.2.1 bt370.2.2).bind fun bt375 => ((spec_l1Once.f s0_0 bt375.2.1 bt375.2.2 2).bind fun bt379 => (if bt379.1 = true then ((spec_l1Pick.f s0_0 bt379.2.1 bt379.2.2 (([(⟨#[109, 97, 120, 45, 97, 103, 101, 61, 53]⟩ : ByteArray), (⟨#[109, 97, 120, 45, 97, 103, 101, 61, 50, 48]⟩ : ByteArray), (⟨#[109, 97, 120, 45, 97, 103, 101, 61, 57]⟩ : ByteArray)] : List ByteArray))).bind fun bt385 => ((spec_Put.f k bt370.1 (⟨#[99, 97, 99, 104, 101, 45, 99, 111, 110, 116, 114, 111, 108]⟩ : ByteArray) bt385.1).bind fun t388 => (some (bt367.1, t388, bt375.1, bt385.2.1, bt385.2.2)))) else (some (bt367.1, bt370.1, bt375.1, bt379.2.1, bt379.2.2))))))
def spec_l3DrawResp.T3 : Bool × List (List Nat × List Nat) := (true, [([], []), ([0], [0]), ([], []), ([], []), ([2, 3], [2, 3]), ([1, 4, 4], [1, 4]), ([0, 1, 2, 3, 4, 5], []), ([6, 5, 5, 0, 1, 2, 3, 4, 5], [5, 6])])
def spec_l3DrawResp.B3 : List Nat := [0, 1, 0, 0, 12, 31, 63, 127]
theorem spec_l3DrawResp.tab3 : rtab .any (opsOf Tryz.f124 3) = spec_l3DrawResp.T3 := by kernel_rfl
theorem spec_l3DrawResp.bits3 : waitsOk spec_l3DrawResp.T3.2 spec_l3DrawResp.B3 = true := by kernel_rfl
set_option maxHeartbeats 8000000 in
set_option maxRecDepth 100000 in
theorem spec_l3DrawResp.calls (k : Nat) (g : Nat) (s0_0 : List Int) (s0_1 : Int) (s0_2 : Int) (r1 : Int) (r2 : List (S116)) (r3 : ByteArray) (r4 : Int) (r5 : Int) (w0 w : World) (hI : IsS139 w0 w g s0_0 s0_1 s0_2) (hB : Below w0.heap.size w0 w) (h : spec_l3DrawResp.f k s0_0 s0_1 s0_2 = some (r1, r2, r3, r4, r5)) :
  Calls Tryz.prog 124 #[.pointer (some ⟨g, 0, none⟩)] w fun e w' => ∃ v1_ : Value, e = .returned (.agg #[.int .i64 r1, v1_, .string r3]) ∧ Kd.R k116 116 w' w.heap.size (fun _ => True) v1_ r2 ∧ IsS139 w0 w' g s0_0 r4 r5 ∧ Below w0.heap.size w0 w' ∧ KeepBut w w' g none := by
 have hu29 := Tryz.underlying29
 have HI0 := am hI
 have HK := am (KeepBut.refl w g none)
 have HL := am hB.size
 clear hI
 have HW0 := am hB.size
 have HB := am hB
 clear hB
 unfold spec_l3DrawResp.f at h
 have H := h
 clear h
 obtain ⟨y364, hy364⟩ : ∃ y_ : List Int, y_ = (([200, 200, 200, 200, 404, 500, 304] : List Int)) := ⟨_, rfl⟩
 replace H : ((spec_l1PickInt.f s0_0 s0_1 s0_2 y364).bind fun bt367 => ((spec_l2DrawRight.f k s0_0 bt367.2.1 bt367.2.2).bind fun bt370 => ((spec_l3DrawBody.f k s0_0 bt370.2.1 bt370.2.2).bind fun bt375 => ((spec_l1Once.f s0_0 bt375.2.1 bt375.2.2 2).bind fun bt379 => (if bt379.1 = true then ((spec_l1Pick.f s0_0 bt379.2.1 bt379.2.2 (([(⟨#[109, 97, 120, 45, 97, 103, 101, 61, 53]⟩ : ByteArray), (⟨#[109, 97, 120, 45, 97, 103, 101, 61, 50, 48]⟩ : ByteArray), (⟨#[109, 97, 120, 45, 97, 103, 101, 61, 57]⟩ : ByteArray)] : List ByteArray))).bind fun bt385 => ((spec_Put.f k bt370.1 (⟨#[99, 97, 99, 104, 101, 45, 99, 111, 110, 116, 114, 111, 108]⟩ : ByteArray) bt385.1).bind fun t388 => (some (bt367.1, t388, bt375.1, bt385.2.1, bt385.2.2)))) else (some (bt367.1, bt370.1, bt375.1, bt379.2.1, bt379.2.2))))))) = some (r1, r2, r3, r4, r5) := by first | (rw [hy364]; with_reducible exact H) | (have H2_ := (Option.bind_some _ _).symm.trans H; rw [hy364]; with_reducible exact H2_) | (have H2_ := (Option.bind_some _ _).symm.trans H; with_reducible exact H2_) | with_reducible exact H | (rw [hy364]; exact H) | exact H
 have Ny364 := am hy364
 clear hy364
 revert H
 refine ok3 fun t367 t368 t369 A2 H => ?_
 (try dsimp only at H)
 revert H
 refine ok3 fun t370 t373 t374 A3 H => ?_
 (try dsimp only at H)
 revert H
 refine ok3 fun t375 t376 t377 A4 H => ?_
 (try dsimp only at H)
 revert H
 refine ok3 fun t379 t380 t381 A5 H => ?_
 (try dsimp only at H)
 have HH6 := am H
 clear H
 go_enter Tryz.func124, Tryz.ntmps124
 go_upto_if 13 with (first | ((with_reducible refine gw ?_); refine bx 2 #[.int .i64 0, .slice none 0 0, .string (⟨#[]⟩ : ByteArray)] 29 ?_; intro gb363 hg w7 hbox hb; have n0_ := am (IsS139.below u124HI0 hb); have n1_ := am (KeepBut.trans u124HK (KeepBut.of_below hb g none) (.inl rfl)); have n2_ := am (below_step u124HB hb); have n3_ := am (hbox); have n4_ := am ((by rw [hg]; exact (keep_size (w := w) (g := g) (row := none) u124HK) : w.heap.size ≤ gb363)); have n5_ := am ((Nat.le_trans HW0.out (by rw [hg]; exact (keep_size (w := w) (g := g) (row := none) u124HK) : w.heap.size ≤ gb363) : w0.heap.size ≤ gb363)); have n6_ := am ((by rw [hg]; exact Nat.ne_of_lt (IsS139.lt (show IsS139 w0 _ g s0_0 s0_1 s0_2 from u124HI0)) : g ≠ gb363)); have n7_ := am ((by rw [hg]; exact Nat.ne_of_gt (IsS139.lt (show IsS139 w0 _ g s0_0 s0_1 s0_2 from u124HI0)) : gb363 ≠ g)); clear HI0; clear HK; clear HB; have HI0 := n0_; have HK := n1_; have HB := n2_; have BK363 := n3_; have GW363 := n4_; have GE363 := n5_; have NB0_363 := n6_; have NB363_0 := n7_; clear n0_ n1_ n2_ n3_ n4_ n5_ n6_ n7_; clear hb hbox hg) | ((with_reducible refine gate_dst (N := 5) rfl ?_); refine Kd.R_lit (Kd.int .i64) _ 3 ?hg (N := 5) ?hd (xs := ([200, 200, 200, 200, 404, 500, 304] : List Int)) (inner := [.int .i64 200, .int .i64 200, .int .i64 200, .int .i64 200, .int .i64 404, .int .i64 500, .int .i64 304]) (ok := fun _ => True) (okp := fun _ => True) ?hr ?hp (fun _ hk => hk) trivial (Below.refl _ _) (Nat.le_refl _) (by simp) ?_; (case hd => rfl); (case hg => rfl); (case hr => first | (go_simp; done) | (go_simp; rfl)); (case hp => exact rp); intro v365 w8 ho9 hb hg_ hnew_; clear hg_ hnew_; (first | rw [← Ny364.out] at ho9 | (simp only [Int.reduceToNat] at ho9; rw [← Ny364.out] at ho9)); have HO366 := am (Kd.R_lower ho9 (keep_size (w := w) (g := g) (row := none) u124HK)); replace BK363 := kb BK363 hb; replace HK := am (KeepBut.trans u124HK (KeepBut.of_below hb g none) (.inl rfl)); replace HB := am (below_step u124HB hb); replace HI0 := am (IsS139.below u124HI0 hb); clear hb ho9; obtain ⟨Ao10, co10, eo10⟩ := Kd.R_slice HO366.out; subst eo10) | ((with_reducible refine gw ?_); refine gl 6 Tryz.func75 #[.pointer (some ⟨g, 0, none⟩), .slice Ao10 y364.length co10] ?_; (with_reducible refine (spec_l1PickInt.calls g s0_0 s0_1 s0_2 _ _ y364 t367 t368 t369 w0 _ ?side1 ?side2 ?side3 ?side4 ?side5 A2.out).mono ?_); (case side1 => exact u124HI0); (case side2 => exact u124HB); (case side3 => exact rc HO366); (case side4 => exact (Kd.R_reads' HO366.out).2.1); (case side5 => exact far_slice (IsS139.own_ne HI0.out HO366.out (by decide))); rintro e w11 ⟨rfl, hi, hb, hk⟩; refine ⟨_, rfl, ?_⟩; replace BK363 := kp BK363 hk NB363_0; replace HO366 := am (Kd.R_mono (Kd.R_keep (IsS139.apart (show IsS139 w0 _ g s0_0 s0_1 s0_2 from u124HI0) (ro HO366) (by decide)) hk (fun _ h => h.2)) (fun _ h => h.1)); replace HK := am (KeepBut.trans u124HK hk (.inl rfl)); replace HB := am (hb); replace HI0 := am (hi); clear hb hk hi) | ((with_reducible refine gw ?_); refine gl 8 Tryz.func145 #[.pointer (some ⟨g, 0, none⟩)] ?_; (with_reducible refine (spec_l2DrawRight.calls k g s0_0 t368 t369 t370 t373 t374 w0 _ ?side1 ?side2 A3.out).mono ?_); (case side1 => exact u124HI0); (case side2 => exact u124HB); rintro e w12 ⟨v371, rfl, ho0, hi, hb, hk⟩; refine ⟨_, rfl, ?_⟩; replace BK363 := kp BK363 hk NB363_0; replace HO366 := am (Kd.R_mono (Kd.R_keep (IsS139.apart (show IsS139 w0 _ g s0_0 t368 t369 from u124HI0) (ro HO366) (by decide)) hk (fun _ h => h.2)) (fun _ h => h.1)); have HO372 := am (Kd.R_lower ho0 (keep_size (w := w) (g := g) (row := none) u124HK)); replace HK := am (KeepBut.trans u124HK hk (.inl rfl)); replace HB := am (hb); replace HI0 := am (hi); clear hb hk hi ho0) | ((with_reducible refine gw ?_); refine gl 10 Tryz.func164 #[.pointer (some ⟨g, 0, none⟩)] ?_; (with_reducible refine (spec_l3DrawBody.calls k g s0_0 t373 t374 t375 t376 t377 w0 _ ?side1 ?side2 A4.out).mono ?_); (case side1 => exact u124HI0); (case side2 => exact u124HB); rintro e w13 ⟨rfl, hi, hb, hk⟩; refine ⟨_, rfl, ?_⟩; replace BK363 := kp BK363 hk NB363_0; replace HO366 := am (Kd.R_mono (Kd.R_keep (IsS139.apart (show IsS139 w0 _ g s0_0 t373 t374 from u124HI0) (ro HO366) (by decide)) hk (fun _ h => h.2)) (fun _ h => h.1)); replace HO372 := am (Kd.R_mono (Kd.R_keep (IsS139.apart (show IsS139 w0 _ g s0_0 t373 t374 from u124HI0) (ro HO372) (by decide)) hk (fun _ h => h.2)) (fun _ h => h.1)); replace HK := am (KeepBut.trans u124HK hk (.inl rfl)); replace HB := am (hb); replace HI0 := am (hi); clear hb hk hi; obtain ⟨Ao14, co14, eo14⟩ := Kd.R_slice HO372.out; subst eo14) | ((with_reducible refine gw ?_); refine bx 3 #[.int .i64 0, .slice none 0 0, .string (⟨#[]⟩ : ByteArray)] 29 ?_; intro gb378 hg w15 hbox hb; have n0_ := am (Kd.R_below (ro HO366) hb); have n1_ := am (Kd.R_below (ro HO372) hb); have n2_ := am (IsS139.below u124HI0 hb); have n3_ := kb BK363 hb; have n4_ := am (KeepBut.trans u124HK (KeepBut.of_below hb g none) (.inl rfl)); have n5_ := am (below_step u124HB hb); have n6_ := am (hbox); have n7_ := am ((by rw [hg]; exact (keep_size (w := w) (g := g) (row := none) u124HK) : w.heap.size ≤ gb378)); have n8_ := am ((Nat.le_trans HW0.out (by rw [hg]; exact (keep_size (w := w) (g := g) (row := none) u124HK) : w.heap.size ≤ gb378) : w0.heap.size ≤ gb378)); have n9_ := am (nl hg BK363 : gb363 ≠ gb378); have n10_ := am (ng hg BK363 : gb378 ≠ gb363); have n11_ := am ((by rw [hg]; exact Nat.ne_of_lt (IsS139.lt (show IsS139 w0 _ g s0_0 t376 t377 from u124HI0)) : g ≠ gb378)); have n12_ := am ((by rw [hg]; exact Nat.ne_of_gt (IsS139.lt (show IsS139 w0 _ g s0_0 t376 t377 from u124HI0)) : gb378 ≠ g)); clear HO366; clear HO372; clear HI0; clear BK363; clear HK; clear HB; have HO366 := n0_; have HO372 := n1_; have HI0 := n2_; have BK363 := n3_; have HK := n4_; have HB := n5_; have BK378 := n6_; have GW378 := n7_; have GE378 := n8_; have NB363_378 := n9_; have NB378_363 := n10_; have NB0_378 := n11_; have NB378_0 := n12_; clear n0_ n1_ n2_ n3_ n4_ n5_ n6_ n7_ n8_ n9_ n10_ n11_ n12_; clear hb hbox hg; have hnb16 := NB378_363.out; have hnc16 := NB363_378.out; have hnb17 := NB378_0.out; have hnc17 := NB0_378.out; obtain ⟨z18_0, y18_0, z18_1, y18_1, z18_2, y18_2⟩ := cl3 BK378) | ((with_reducible refine gw ?_); refine gl 13 Tryz.func165 #[.pointer (some ⟨g, 0, none⟩), .int .i64 2] ?_; (with_reducible refine (spec_l1Once.calls g s0_0 t376 t377 2 t379 t380 t381 w0 _ ?side1 ?side2 A5.out).mono ?_); (case side1 => exact u124HI0); (case side2 => exact u124HB); rintro e w19 ⟨rfl, hi, hb, hk⟩; refine ⟨_, rfl, ?_⟩; replace BK363 := am (KeepBut.blk hk (g' := gb363) (o := .cells #[.int .i64 0, .slice none 0 0, .string (⟨#[]⟩ : ByteArray)] 29 (0, 0)) (bg1 BK363 NB363_378) NB363_0.out (by simp)); replace HO366 := am (Kd.R_mono (Kd.R_keep (IsS139.apart (show IsS139 w0 _ g s0_0 t376 t377 from u124HI0) (rj (Kd.R_types HO366.out BK378.out (by decide)) (fun _ h_ => h_.1)) (by decide)) hk (fun _ h => h.2)) (fun _ h => h.1)); replace HO372 := am (Kd.R_mono (Kd.R_keep (IsS139.apart (show IsS139 w0 _ g s0_0 t376 t377 from u124HI0) (rj (Kd.R_types HO372.out BK378.out (by decide)) (fun _ h_ => h_.1)) (by decide)) hk (fun _ h => h.2)) (fun _ h => h.1)); replace BK378 := am (KeepBut.blk hk (g' := gb378) (o := .cells #[.int .i64 t367, .slice Ao14 t370.length co14, .string t375] 29 (0, 0)) (pt0 BK378) NB378_0.out (by simp)); replace HK := am (KeepBut.trans u124HK hk (.inl rfl)); replace HB := am (hb); replace HI0 := am (hi); clear hb hk hi))
 have H := HH6.out
 clear HH6
 by_cases c20 : t379 = true
 rotate_left
 ·replace c20 := Bool.eq_false_iff.mpr c20
  subst c20
  rw [if_neg (show ¬ (false = true) by decide)] at H
  simp only [Option.some.injEq, Prod.mk.injEq] at H
  obtain ⟨rfl, rfl, rfl, rfl, rfl⟩ := H
  have hnb36 := NB378_363.out
  have hnc36 := NB363_378.out
  have hnb37 := NB378_0.out
  have hnc37 := NB0_378.out
  obtain ⟨z38_0, y38_0, z38_1, y38_1, z38_2, y38_2⟩ := cl3 BK378
  have hnb39 := NB363_0.out
  have hnc39 := NB0_363.out
  obtain ⟨z40_0, y40_0, z40_1, y40_1, z40_2, y40_2⟩ := cl3 BK363
  go_wp2
  refine bodyPost_ret (results_cell_row rfl _ _ gb363 29 #[.int .i64 t367, .slice Ao14 t370.length co14, .string t375] (0, 0) _ rfl (pt0 BK363) Tryz.underlying29 rfl (by kernel_rfl)) rfl ?_
  exact ⟨_, rf, rj (Kd.R_types HO372.out BK363.out (by decide)) (fun _ hk => trivial), u124HI0, u124HB, u124HK⟩
 subst c20
 rw [if_pos rfl] at H
 obtain ⟨y382, hy382⟩ : ∃ y_ : List ByteArray, y_ = (([(⟨#[109, 97, 120, 45, 97, 103, 101, 61, 53]⟩ : ByteArray), (⟨#[109, 97, 120, 45, 97, 103, 101, 61, 50, 48]⟩ : ByteArray), (⟨#[109, 97, 120, 45, 97, 103, 101, 61, 57]⟩ : ByteArray)] : List ByteArray)) := ⟨_, rfl⟩
 replace H : ((spec_l1Pick.f s0_0 t380 t381 y382).bind fun bt385 => ((spec_Put.f k t370 (⟨#[99, 97, 99, 104, 101, 45, 99, 111, 110, 116, 114, 111, 108]⟩ : ByteArray) bt385.1).bind fun t388 => (some (t367, t388, t375, bt385.2.1, bt385.2.2)))) = some (r1, r2, r3, r4, r5) := by first | (rw [hy382]; with_reducible exact H) | (have H2_ := (Option.bind_some _ _).symm.trans H; rw [hy382]; with_reducible exact H2_) | (have H2_ := (Option.bind_some _ _).symm.trans H; with_reducible exact H2_) | with_reducible exact H | (rw [hy382]; exact H) | exact H
 have Ny382 := am hy382
 clear hy382
 revert H
 refine ok3 fun t385 t386 t387 A21 H => ?_
 (try dsimp only at H)
 revert H
 refine ok1 fun t388 A22 H => ?_
 simp only [Option.some.injEq, Prod.mk.injEq] at H
 obtain ⟨rfl, rfl, rfl, rfl, rfl⟩ := H
 try go_wp2
 replace HO366 := am (Kd.R_drew HO366.out)
 replace HO372 := am (Kd.R_drew HO372.out)
 replace BK363 := am (blk_drew BK363.out)
 replace BK378 := am (blk_drew BK378.out)
 replace HI0 := am (IsS139.drew HI0.out)
 replace HK := am (keep_drew HK.out)
 replace HB := am (below_drew1 HB.out)
 refine start_ (n := 8) (S := fun w' => w'.cell? ⟨gb378, 0, none⟩ = some (.int .i64 t367) ∧ w'.cell? ⟨gb378, 1, none⟩ = some (.slice Ao14 t370.length co14) ∧ w'.cell? ⟨gb378, 2, none⟩ = some (.string t375)) (ds := [7]) ⟨br true [0, 8]⟩ (by kernel_rfl) rfl (by kernel_rfl) ⟨bc BK378, bc BK378, bc BK378⟩ (fun hHeld => ?_); refine with_tabW spec_l3DrawResp.tab3 spec_l3DrawResp.bits3 (fun HT_ HW_ => ?_)
 generalize w19.drew = w23 at HO366 HO372 BK363 BK378 HI0 HK HB hHeld ⊢
 refine pu 0 14 [1, 7] ?_
 refine pu 2 16 [1, 1, 1, 5] ?_
 refine tk 1 15 [3, 5] ?_
 refine one_ (i := 3) (N := some 17) #[true, true, true, true, false, false, false, false] rfl rfl (one_of HT_.out (by kernel_rfl)) (by decide) (fun K hK => ?_)
 refine Kd.R_lit_step Kd.string _ 9 ?hg (N := 17) ?hd (xs := ([(⟨#[109, 97, 120, 45, 97, 103, 101, 61, 53]⟩ : ByteArray), (⟨#[109, 97, 120, 45, 97, 103, 101, 61, 50, 48]⟩ : ByteArray), (⟨#[109, 97, 120, 45, 97, 103, 101, 61, 57]⟩ : ByteArray)] : List ByteArray)) (inner := [.string (⟨#[109, 97, 120, 45, 97, 103, 101, 61, 53]⟩ : ByteArray), .string (⟨#[109, 97, 120, 45, 97, 103, 101, 61, 50, 48]⟩ : ByteArray), .string (⟨#[109, 97, 120, 45, 97, 103, 101, 61, 57]⟩ : ByteArray)]) (ok := fun _ => True) (okp := fun _ => True) ?hr ?hp (fun _ hk => hk) trivial (Below.refl _ _) (Nat.le_refl _) (by simp) ?_; (case hd => rfl); (case hg => rfl); (case hr => first | (go_simp; done) | (go_simp; rfl)); (case hp => exact rp)
 intro v383 w24 ho25 hb hg_ hnew_
 clear hg_ hnew_
 (first | rw [← Ny382.out] at ho25 | (simp only [Int.reduceToNat] at ho25; rw [← Ny382.out] at ho25))
 replace HO366 := kr HO366 hb
 replace HO372 := kr HO372 hb
 have HO384 := am (Kd.R_lower ho25 (keep_size (w := w) (g := g) (row := none) u124HK))
 replace BK363 := kb BK363 hb
 replace BK378 := kb BK378 hb
 replace HK := am (KeepBut.trans u124HK (KeepBut.of_below hb g none) (.inl rfl))
 replace HB := am (below_step u124HB hb)
 replace HI0 := am (IsS139.below u124HI0 hb)
 clear hb ho25
 obtain ⟨Ao26, co26, eo26⟩ := Kd.R_slice HO384.out
 (first | subst eo26 | (injection eo26 with f1_ f2_ f3_; have f4_ := f1_.symm; have f5_ := f3_.symm; clear f1_ f2_ f3_; subst f4_; subst f5_))
 refine hK.out _ _ ⟨bc BK378, bc BK378, bc BK378⟩ (fun hHeld => ?_)
 clear hK K
 refine nm 17 ?_
 refine og 4 18 [5, 3] Tryz.func84 #[.pointer (some ⟨g, 0, none⟩), .slice Ao26 y382.length co26] (fun K hK => ?_)
 with_reducible refine (spec_l1Pick.calls g s0_0 t380 t381 _ _ y382 t385 t386 t387 w0 _ ?side1 ?side2 ?side3 ?side4 ?side5 A21.out).mono ?_
 (case side1 => exact u124HI0)
 (case side2 => exact u124HB)
 (case side3 => exact rc HO384)
 (case side4 => exact (Kd.R_reads' HO384.out).2.1)
 (case side5 => exact far_slice (IsS139.own_ne HI0.out HO384.out (by decide)))
 rintro e w27 ⟨rfl, hi, hb, hk⟩
 refine ⟨_, rfl, ?_⟩
 replace BK363 := kp BK363 hk NB363_0
 replace HO366 := am (Kd.R_mono (Kd.R_keep (IsS139.apart (show IsS139 w0 _ g s0_0 t380 t381 from u124HI0) (ro HO366) (by decide)) hk (fun _ h => h.2)) (fun _ h => h.1))
 replace HO372 := am (Kd.R_mono (Kd.R_keep (IsS139.apart (show IsS139 w0 _ g s0_0 t380 t381 from u124HI0) (ro HO372) (by decide)) hk (fun _ h => h.2)) (fun _ h => h.1))
 replace BK378 := kp BK378 hk NB378_0
 replace HO384 := am (Kd.R_mono (Kd.R_keep (IsS139.apart (show IsS139 w0 _ g s0_0 t380 t381 from u124HI0) (ro HO384) (by decide)) hk (fun _ h => h.2)) (fun _ h => h.1))
 replace HK := am (KeepBut.trans u124HK hk (.inl rfl))
 replace HB := am (hb)
 replace HI0 := am (hi)
 clear hb hk hi
 refine hK.out _ _ ⟨bc BK378, bc BK378, bc BK378⟩ (fun hHeld => ?_)
 clear hK K
 refine nm 18 ?_
 refine og 5 19 [6, 2] Tryz.func103 #[.slice Ao14 t370.length co14, .string (⟨#[99, 97, 99, 104, 101, 45, 99, 111, 110, 116, 114, 111, 108]⟩ : ByteArray), .string t385] (fun K hK => ?_)
 with_reducible refine (spec_Put.calls k _ _ t370 (⟨#[99, 97, 99, 104, 101, 45, 99, 111, 110, 116, 114, 111, 108]⟩ : ByteArray) t385 t388 _ ?side1 ?side2 A22.out).mono ?_
 (case side1 => exact rc HO372)
 (case side2 => exact (Kd.R_reads' HO372.out).2.1)
 rintro e w28 ⟨v389, rfl, ho0, hb⟩
 refine ⟨_, rfl, ?_⟩
 replace HO366 := kr HO366 hb
 replace HO384 := kr HO384 hb
 have HO390 := am (Kd.R_lower (Kd.R_new' ho0 (Kd.R_lt (ro HO372))) (keep_size (w := w) (g := g) (row := none) u124HK))
 replace HO372 := am (Kd.R_elder' (ro HO372) (Kd.R_base ho0) hb)
 replace BK363 := kb BK363 hb
 replace BK378 := kb BK378 hb
 replace HK := am (KeepBut.trans u124HK (KeepBut.of_below hb g none) (.inl rfl))
 replace HB := am (below_step u124HB hb)
 replace HI0 := am (IsS139.below u124HI0 hb)
 clear hb ho0
 obtain ⟨Ao29, co29, eo29⟩ := Kd.R_slice HO390.out
 (first | subst eo29 | (injection eo29 with f1_ f2_ f3_; have f4_ := f1_.symm; have f5_ := f3_.symm; clear f1_ f2_ f3_; subst f4_; subst f5_))
 refine hK.out _ _ ⟨bc BK378, bc BK378, bc BK378⟩ (fun hHeld => ?_)
 clear hK K
 refine nm 19 ?_
 refine pu 6 20 [7, 1] ?_
 refine last_ (i := 7) (N := none) #[true, true, true, true, true, true, true, true] rfl rfl (one_of HT_.out (by kernel_rfl)) (by decide) (fun K hK => ?_)
 have hs30 : w28.cell? ⟨gb378, 1, none⟩ = some (.slice Ao14 t370.length co14) := bc BK378
 have hfs30 := blk_frozen BK378.out 1
 have hns30_0 := NB363_378.out
 have hms30_0 := NB378_363.out
 refine skip_ (w1 := ?_) (by rfl) rfl ?_ ?_
 rotate_left
 ·go_simp
  rfl
 refine hK.out _ _ ?_
 clear hK K
 refine done_ (done_of HT_.out (by kernel_rfl)) ?_
 have hnb31 := NB378_363.out
 have hnc31 := NB363_378.out
 have hnb32 := NB378_0.out
 have hnc32 := NB0_378.out
 obtain ⟨z33_0, y33_0, z33_1, y33_1, z33_2, y33_2⟩ := cl3 BK378
 have hnb34 := NB363_0.out
 have hnc34 := NB0_363.out
 obtain ⟨z35_0, y35_0, z35_1, y35_1, z35_2, y35_2⟩ := cl3 BK363
 try go_wp2
 refine bodyPost_ret (results_cell_row rfl _ _ gb363 29 #[.int .i64 t367, .slice Ao29 t388.length co29, .string t375] (0, 0) _ rfl (pt1 BK363 NB363_378) Tryz.underlying29 rfl (by kernel_rfl)) rfl ?_
 exact ⟨_, rf, rj (Kd.R_types (Kd.R_types HO390.out BK378.out (by decide)) BK363.out (by decide)) (fun _ hk => trivial), u124HI0, u124HB, u124HK⟩

/-! ### spec_l3DrawBadResp: function 96 -/
theorem u96HI0 {p : Prop} (h : p := by repeat (first | (with_reducible first | exact HI0.out | apply IsS139.alloc | apply IsS139.drewN | apply IsS139.drew | apply IsS139.set_1 | apply IsS139.set_2 | apply IsS139.far (p := ⟨gb391, _, none⟩) (hne := NB0_391.out) | apply IsS139.far (p := ⟨gb399, _, none⟩) (hne := NB0_399.out)) | exact HI0.out)) : p := h
theorem u96HK {p : Prop} (h : p := by repeat (first | (with_reducible first | exact HK.out | apply KeepBut.set_ | apply keep_drewN | apply keep_drew | apply keep_alloc | refine keep_far ?_ GW391.out _ | refine keep_far ?_ GW399.out _) | exact HK.out)) : p := h
theorem u96HB {p : Prop} (h : p := by repeat (first | (with_reducible first | exact HB.out | apply below_alloc | apply pw_below_drewN | apply below_drew1 | refine below_set ?_ (IsS139.ge HI0.out) | refine below_set ?_ GE391.out | refine below_set ?_ GE399.out) | exact HB.out)) : p := h
def spec_l3DrawBadResp.l0 : Nat → List Int → Int → Int → Int → List (S116) → ByteArray → Option (Int × (List (S116)) × ByteArray × Int × Int)
 | 0, _, _, _, _, _, _ => none
 | k + 1, x1000, x1001, x1002, x400000, x400001, x400002 => (spec_l1Below.f x1000 x1001 x1002 2).bind fun bt414 => (if (x400002.size : Int) < (wrap64 (120 + bt414.1)) then (if x400002.size + 1 ≤ 9223372036854775807 then (spec_l3DrawBadResp.l0 k x1000 bt414.2.1 bt414.2.2 x400000 x400001 (x400002 ++ (⟨#[98]⟩ : ByteArray))) else (none)) else (some (x400000, x400001, x400002, bt414.2.1, bt414.2.2)))
def spec_l3DrawBadResp.f (k : Nat) (s0_0 : List Int) (s0_1 : Int) (s0_2 : Int) : Option (Int × (List (S116)) × ByteArray × Int × Int) := (spec_l3DrawResp.f k s0_0 s0_1 s0_2).bind fun bt392 => ((spec_l1Below.f s0_0 bt392.2.2.2.1 bt392.2.2.2.2 20).bind fun bt400 => (if bt400.1 = 0 then ((spec_l1PickInt.f s0_0 bt400.2.1 bt400.2.2 (([99, 100, 599, 600, (-1)] : List Int))).bind fun bt406 => (some (bt406.1, bt392.2.1, bt392.2.2.1, bt406.2.1, bt406.2.2))) else (if bt400.1 = 1 then ((spec_l2Draw.f k s0_0 bt400.2.1 bt400.2.2).bind fun bt409 => (some (bt392.1, bt409.1, bt392.2.2.1, bt409.2.1, bt409.2.2))) else (if bt400.1 = 2 then (spec_l3DrawBadResp.l0 k s0_0 bt400.2.1 bt400.2.2 bt392.1 bt392.2.1 bt392.2.2.1) else (some (bt392.1, bt392.2.1, bt392.2.2.1, bt400.2.1, bt400.2.2))))))
set_option maxHeartbeats 8000000 in
set_option maxRecDepth 100000 in
theorem spec_l3DrawBadResp.calls (k : Nat) (g : Nat) (s0_0 : List Int) (s0_1 : Int) (s0_2 : Int) (r1 : Int) (r2 : List (S116)) (r3 : ByteArray) (r4 : Int) (r5 : Int) (w0 w : World) (hI : IsS139 w0 w g s0_0 s0_1 s0_2) (hB : Below w0.heap.size w0 w) (h : spec_l3DrawBadResp.f k s0_0 s0_1 s0_2 = some (r1, r2, r3, r4, r5)) :
  Calls Tryz.prog 96 #[.pointer (some ⟨g, 0, none⟩)] w fun e w' => ∃ v1_ : Value, e = .returned (.agg #[.int .i64 r1, v1_, .string r3]) ∧ Kd.R k116 116 w' w.heap.size (fun _ => True) v1_ r2 ∧ IsS139 w0 w' g s0_0 r4 r5 ∧ Below w0.heap.size w0 w' ∧ KeepBut w w' g none := by
 have hu29 := Tryz.underlying29
 have HI0 := am hI
 have HK := am (KeepBut.refl w g none)
 have HL := am hB.size
 clear hI
 have HW0 := am hB.size
 have HB := am hB
 clear hB
 unfold spec_l3DrawBadResp.f at h
 have H := h
 clear h
 revert H
 refine ok5 fun t392 t393 t396 t397 t398 A2 H => ?_
 (try dsimp only at H)
 revert H
 refine ok3 fun t400 t401 t402 A3 H => ?_
 (try dsimp only at H)
 have HH4 := am H
 clear H
 go_enter Tryz.func96, Tryz.ntmps96
 go_upto_if 8 with ((with_reducible refine gw ?_); first | (refine bx 2 #[.int .i64 0, .slice none 0 0, .string (⟨#[]⟩ : ByteArray)] 29 ?_; intro gb391 hg w5 hbox hb; have n0_ := am (IsS139.below u96HI0 hb); have n1_ := am (KeepBut.trans u96HK (KeepBut.of_below hb g none) (.inl rfl)); have n2_ := am (below_step u96HB hb); have n3_ := am (hbox); have n4_ := am ((by rw [hg]; exact (keep_size (w := w) (g := g) (row := none) u96HK) : w.heap.size ≤ gb391)); have n5_ := am ((Nat.le_trans HW0.out (by rw [hg]; exact (keep_size (w := w) (g := g) (row := none) u96HK) : w.heap.size ≤ gb391) : w0.heap.size ≤ gb391)); have n6_ := am ((by rw [hg]; exact Nat.ne_of_lt (IsS139.lt (show IsS139 w0 _ g s0_0 s0_1 s0_2 from u96HI0)) : g ≠ gb391)); have n7_ := am ((by rw [hg]; exact Nat.ne_of_gt (IsS139.lt (show IsS139 w0 _ g s0_0 s0_1 s0_2 from u96HI0)) : gb391 ≠ g)); clear HI0; clear HK; clear HB; have HI0 := n0_; have HK := n1_; have HB := n2_; have BK391 := n3_; have GW391 := n4_; have GE391 := n5_; have NB0_391 := n6_; have NB391_0 := n7_; clear n0_ n1_ n2_ n3_ n4_ n5_ n6_ n7_; clear hb hbox hg) | (refine gl 5 Tryz.func124 #[.pointer (some ⟨g, 0, none⟩)] ?_; (with_reducible refine (spec_l3DrawResp.calls k g s0_0 s0_1 s0_2 t392 t393 t396 t397 t398 w0 _ ?side1 ?side2 A2.out).mono ?_); (case side1 => exact u96HI0); (case side2 => exact u96HB); rintro e w6 ⟨v394, rfl, ho0, hi, hb, hk⟩; refine ⟨_, rfl, ?_⟩; replace BK391 := kp BK391 hk NB391_0; have HO395 := am (Kd.R_lower ho0 (keep_size (w := w) (g := g) (row := none) u96HK)); replace HK := am (KeepBut.trans u96HK hk (.inl rfl)); replace HB := am (hb); replace HI0 := am (hi); clear hb hk hi ho0) | (refine bx 3 #[.int .i64 0, .slice none 0 0, .string (⟨#[]⟩ : ByteArray)] 29 ?_; intro gb399 hg w7 hbox hb; have n0_ := am (Kd.R_below (ro HO395) hb); have n1_ := am (IsS139.below u96HI0 hb); have n2_ := kb BK391 hb; have n3_ := am (KeepBut.trans u96HK (KeepBut.of_below hb g none) (.inl rfl)); have n4_ := am (below_step u96HB hb); have n5_ := am (hbox); have n6_ := am ((by rw [hg]; exact (keep_size (w := w) (g := g) (row := none) u96HK) : w.heap.size ≤ gb399)); have n7_ := am ((Nat.le_trans HW0.out (by rw [hg]; exact (keep_size (w := w) (g := g) (row := none) u96HK) : w.heap.size ≤ gb399) : w0.heap.size ≤ gb399)); have n8_ := am (nl hg BK391 : gb391 ≠ gb399); have n9_ := am (ng hg BK391 : gb399 ≠ gb391); have n10_ := am ((by rw [hg]; exact Nat.ne_of_lt (IsS139.lt (show IsS139 w0 _ g s0_0 t397 t398 from u96HI0)) : g ≠ gb399)); have n11_ := am ((by rw [hg]; exact Nat.ne_of_gt (IsS139.lt (show IsS139 w0 _ g s0_0 t397 t398 from u96HI0)) : gb399 ≠ g)); clear HO395; clear HI0; clear BK391; clear HK; clear HB; have HO395 := n0_; have HI0 := n1_; have BK391 := n2_; have HK := n3_; have HB := n4_; have BK399 := n5_; have GW399 := n6_; have GE399 := n7_; have NB391_399 := n8_; have NB399_391 := n9_; have NB0_399 := n10_; have NB399_0 := n11_; clear n0_ n1_ n2_ n3_ n4_ n5_ n6_ n7_ n8_ n9_ n10_ n11_; clear hb hbox hg; have hnb8 := NB399_391.out; have hnc8 := NB391_399.out; have hnb9 := NB399_0.out; have hnc9 := NB0_399.out; obtain ⟨z10_0, y10_0, z10_1, y10_1, z10_2, y10_2⟩ := cl3 BK399; obtain ⟨Ao11, co11, eo11⟩ := Kd.R_slice HO395.out; subst eo11) | (refine gl 7 Tryz.func74 #[.pointer (some ⟨g, 0, none⟩), .int .i64 20] ?_; (with_reducible refine (spec_l1Below.calls g s0_0 t397 t398 20 t400 t401 t402 w0 _ ?side1 ?side2 A3.out).mono ?_); (case side1 => exact u96HI0); (case side2 => exact u96HB); rintro e w12 ⟨rfl, hi, hb, hk⟩; refine ⟨_, rfl, ?_⟩; replace BK391 := am (KeepBut.blk hk (g' := gb391) (o := .cells #[.int .i64 0, .slice none 0 0, .string (⟨#[]⟩ : ByteArray)] 29 (0, 0)) (bg1 BK391 NB391_399) NB391_0.out (by simp)); replace HO395 := am (Kd.R_mono (Kd.R_keep (IsS139.apart (show IsS139 w0 _ g s0_0 t397 t398 from u96HI0) (rj (Kd.R_types HO395.out BK399.out (by decide)) (fun _ h_ => h_.1)) (by decide)) hk (fun _ h => h.2)) (fun _ h => h.1)); replace BK399 := am (KeepBut.blk hk (g' := gb399) (o := .cells #[.int .i64 t392, .slice Ao11 t393.length co11, .string t396] 29 (0, 0)) (pt0 BK399) NB399_0.out (by simp)); replace HK := am (KeepBut.trans u96HK hk (.inl rfl)); replace HB := am (hb); replace HI0 := am (hi); clear hb hk hi))
 have H := HH4.out
 clear HH4
 by_cases c13 : t400 = 0
 ·rw [if_pos c13] at H
  have c13b0 : (t400 == 0) = true := beq_iff_eq.mpr c13
  have c13b1 : (t400 != 0) = false := bne_eq_false_iff_eq.mpr c13
  clear c13
  (first | rw [c13b0] | (simp only [i64_w, i32_w]; rw [c13b0]) | skip)
  obtain ⟨y403, hy403⟩ : ∃ y_ : List Int, y_ = (([99, 100, 599, 600, (-1)] : List Int)) := ⟨_, rfl⟩
  replace H : ((spec_l1PickInt.f s0_0 t401 t402 y403).bind fun bt406 => (some (bt406.1, t393, t396, bt406.2.1, bt406.2.2))) = some (r1, r2, r3, r4, r5) := by first | (rw [hy403]; with_reducible exact H) | (have H2_ := (Option.bind_some _ _).symm.trans H; rw [hy403]; with_reducible exact H2_) | (have H2_ := (Option.bind_some _ _).symm.trans H; with_reducible exact H2_) | with_reducible exact H | (rw [hy403]; exact H) | exact H
  have Ny403 := am hy403
  clear hy403
  revert H
  refine ok3 fun t406 t407 t408 A14 H => ?_
  (try dsimp only at H)
  simp only [Option.some.injEq, Prod.mk.injEq] at H
  obtain ⟨rfl, rfl, rfl, rfl, rfl⟩ := H
  go_wp2_with (first | ((with_reducible refine gate_dst (N := 11) rfl ?_); refine Kd.R_lit (Kd.int .i64) _ 3 ?hg (N := 11) ?hd (xs := ([99, 100, 599, 600, (-1)] : List Int)) (inner := [.int .i64 99, .int .i64 100, .int .i64 599, .int .i64 600, .int .i64 (-1)]) (ok := fun _ => True) (okp := fun _ => True) ?hr ?hp (fun _ hk => hk) trivial (Below.refl _ _) (Nat.le_refl _) (by simp) ?_; (case hd => rfl); (case hg => rfl); (case hr => first | (go_simp; done) | (go_simp; rfl)); (case hp => exact rp); intro v404 w15 ho16 hb hg_ hnew_; clear hg_ hnew_; (first | rw [← Ny403.out] at ho16 | (simp only [Int.reduceToNat] at ho16; rw [← Ny403.out] at ho16)); replace HO395 := kr HO395 hb; have HO405 := am (Kd.R_lower ho16 (keep_size (w := w) (g := g) (row := none) u96HK)); replace BK391 := kb BK391 hb; replace BK399 := kb BK399 hb; replace HK := am (KeepBut.trans u96HK (KeepBut.of_below hb g none) (.inl rfl)); replace HB := am (below_step u96HB hb); replace HI0 := am (IsS139.below u96HI0 hb); clear hb ho16; obtain ⟨Ao17, co17, eo17⟩ := Kd.R_slice HO405.out; subst eo17) | ((with_reducible refine gw ?_); first | (refine gl 12 Tryz.func75 #[.pointer (some ⟨g, 0, none⟩), .slice Ao17 y403.length co17] ?_; (with_reducible refine (spec_l1PickInt.calls g s0_0 t401 t402 _ _ y403 t406 t407 t408 w0 _ ?side1 ?side2 ?side3 ?side4 ?side5 A14.out).mono ?_); (case side1 => exact u96HI0); (case side2 => exact u96HB); (case side3 => exact rc HO405); (case side4 => exact (Kd.R_reads' HO405.out).2.1); (case side5 => exact far_slice (IsS139.own_ne HI0.out HO405.out (by decide))); rintro e w18 ⟨rfl, hi, hb, hk⟩; refine ⟨_, rfl, ?_⟩; replace BK391 := kp BK391 hk NB391_0; replace HO395 := am (Kd.R_mono (Kd.R_keep (IsS139.apart (show IsS139 w0 _ g s0_0 t401 t402 from u96HI0) (ro HO395) (by decide)) hk (fun _ h => h.2)) (fun _ h => h.1)); replace BK399 := kp BK399 hk NB399_0; replace HO405 := am (Kd.R_mono (Kd.R_keep (IsS139.apart (show IsS139 w0 _ g s0_0 t401 t402 from u96HI0) (ro HO405) (by decide)) hk (fun _ h => h.2)) (fun _ h => h.1)); replace HK := am (KeepBut.trans u96HK hk (.inl rfl)); replace HB := am (hb); replace HI0 := am (hi); clear hb hk hi; have hnb19 := NB399_391.out; have hnc19 := NB391_399.out; have hnb20 := NB399_0.out; have hnc20 := NB0_399.out; obtain ⟨z21_0, y21_0, z21_1, y21_1, z21_2, y21_2⟩ := cl3 BK399; have hnb22 := NB391_0.out; have hnc22 := NB0_391.out; obtain ⟨z23_0, y23_0, z23_1, y23_1, z23_2, y23_2⟩ := cl3 BK391)))
  refine bodyPost_ret (results_cell_row rfl _ _ gb391 29 #[.int .i64 t406, .slice Ao11 t393.length co11, .string t396] (0, 0) _ rfl (pt1 BK391 NB391_399) Tryz.underlying29 rfl (by kernel_rfl)) rfl ?_
  exact ⟨_, rf, rj (Kd.R_types (Kd.R_types HO395.out BK399.out (by decide)) BK391.out (by decide)) (fun _ hk => trivial), u96HI0, u96HB, u96HK⟩
 rw [if_neg c13] at H
 have c13b0 : (t400 == 0) = false := beq_eq_false_iff_ne.mpr c13
 have c13b1 : (t400 != 0) = true := bne_iff_ne.mpr c13
 (first | rw [c13b0] | (simp only [i64_w, i32_w]; rw [c13b0]) | skip)
 by_cases c24 : t400 = 1
 ·rw [if_pos c24] at H
  have c24b0 : (t400 == 1) = true := beq_iff_eq.mpr c24
  have c24b1 : (t400 != 1) = false := bne_eq_false_iff_eq.mpr c24
  clear c24
  revert H
  refine ok3 fun t409 t412 t413 A25 H => ?_
  (try dsimp only at H)
  simp only [Option.some.injEq, Prod.mk.injEq] at H
  obtain ⟨rfl, rfl, rfl, rfl, rfl⟩ := H
  go_wp2_with ((with_reducible refine gw ?_); first | (refine gl 17 Tryz.func85 #[.pointer (some ⟨g, 0, none⟩)] ?_; (with_reducible refine (spec_l2Draw.calls k g s0_0 t401 t402 t409 t412 t413 w0 _ ?side1 ?side2 A25.out).mono ?_); (case side1 => exact u96HI0); (case side2 => exact u96HB); rintro e w26 ⟨v410, rfl, ho0, hi, hb, hk⟩; refine ⟨_, rfl, ?_⟩; replace BK391 := kp BK391 hk NB391_0; replace BK399 := kp BK399 hk NB399_0; have HO411 := am (Kd.R_lower (Kd.R_new' ho0 (Kd.R_lt (ro HO395))) (keep_size (w := w) (g := g) (row := none) u96HK)); replace HO395 := am (Kd.R_mono (Kd.R_told (Kd.R_oldK (IsS139.apart (show IsS139 w0 _ g s0_0 t401 t402 from u96HI0) (ro HO395) (by decide)) hk) (Kd.R_base ho0)) (fun _ h_ => h_.1)); replace HK := am (KeepBut.trans u96HK hk (.inl rfl)); replace HB := am (hb); replace HI0 := am (hi); clear hb hk hi ho0; obtain ⟨Ao27, co27, eo27⟩ := Kd.R_slice HO411.out; subst eo27; have hnb28 := NB399_391.out; have hnc28 := NB391_399.out; have hnb29 := NB399_0.out; have hnc29 := NB0_399.out; obtain ⟨z30_0, y30_0, z30_1, y30_1, z30_2, y30_2⟩ := cl3 BK399; have hnb31 := NB391_0.out; have hnc31 := NB0_391.out; obtain ⟨z32_0, y32_0, z32_1, y32_1, z32_2, y32_2⟩ := cl3 BK391))
  refine bodyPost_ret (results_cell_row rfl _ _ gb391 29 #[.int .i64 t392, .slice Ao27 t409.length co27, .string t396] (0, 0) _ rfl (pt1 BK391 NB391_399) Tryz.underlying29 rfl (by kernel_rfl)) rfl ?_
  exact ⟨_, rf, rj (Kd.R_types (Kd.R_types HO411.out BK399.out (by decide)) BK391.out (by decide)) (fun _ hk => trivial), u96HI0, u96HB, u96HK⟩
 rw [if_neg c24] at H
 have c24b0 : (t400 == 1) = false := beq_eq_false_iff_ne.mpr c24
 have c24b1 : (t400 != 1) = true := bne_iff_ne.mpr c24
 by_cases c33 : t400 = 2
 rotate_left
 ·rw [if_neg c33] at H
  have c33b0 : (t400 == 2) = false := beq_eq_false_iff_ne.mpr c33
  have c33b1 : (t400 != 2) = true := bne_iff_ne.mpr c33
  simp only [Option.some.injEq, Prod.mk.injEq] at H
  obtain ⟨rfl, rfl, rfl, rfl, rfl⟩ := H
  have hnb48 := NB399_391.out
  have hnc48 := NB391_399.out
  have hnb49 := NB399_0.out
  have hnc49 := NB0_399.out
  obtain ⟨z50_0, y50_0, z50_1, y50_1, z50_2, y50_2⟩ := cl3 BK399
  have hnb51 := NB391_0.out
  have hnc51 := NB0_391.out
  obtain ⟨z52_0, y52_0, z52_1, y52_1, z52_2, y52_2⟩ := cl3 BK391
  go_wp2
  refine bodyPost_ret (results_cell_row rfl _ _ gb391 29 #[.int .i64 t392, .slice Ao11 t393.length co11, .string t396] (0, 0) _ rfl (pt0 BK391) Tryz.underlying29 rfl (by kernel_rfl)) rfl ?_
  exact ⟨_, rf, rj (Kd.R_types HO395.out BK391.out (by decide)) (fun _ hk => trivial), u96HI0, u96HB, u96HK⟩
 rw [if_pos c33] at H
 have c33b0 : (t400 == 2) = true := beq_iff_eq.mpr c33
 have c33b1 : (t400 != 2) = false := bne_eq_false_iff_eq.mpr c33
 clear c33
 have H' := am H
 clear H
 go_wp2
 (try simp only [Act.put, List.setIfInBounds_toArray, List.set_cons_zero, List.set_cons_succ])
 go_loopg [] k (fun kq w' => ∃ (x1001_1 : Int) (x1002_1 : Int) (x400002_1 : ByteArray), Aside0 (spec_l3DrawBadResp.l0 kq s0_0 x1001_1 x1002_1 t392 t393 x400002_1 = some (r1, r2, r3, r4, r5)) ∧ Aside0 (kq ≤ k) ∧ Aside0 (Kd.R k116 116 w' w.heap.size (fun _ => True) (.slice Ao11 t393.length co11) t393) ∧ Aside0 (w'.heap[gb391]? = some (.cells #[.int .i64 0, (.slice none 0 0), .string (⟨#[]⟩ : ByteArray)] 29 (0, 0))) ∧ Aside0 (w'.heap[gb399]? = some (.cells #[.int .i64 t392, (.slice Ao11 t393.length co11), .string x400002_1] 29 (0, 0))) ∧ Aside0 (IsS139 w0 w' g s0_0 x1001_1 x1002_1) ∧ Aside0 (KeepBut w w' g none) ∧ Aside0 (Below w0.heap.size w0 w'))
 case atStart => exact ⟨(t401), (t402), (t396), H', ⟨Nat.le_refl _⟩, ⟨by (with_reducible repeat (first | apply Kd.R_alloc | apply Kd.R_drewN | apply Kd.R_drew)); exact HO395.out⟩, ⟨by (with_reducible repeat (first | refine blk_drewN ?_ _ | refine blk_drew ?_ | refine blk_alloc ?_ _)); exact BK391.out⟩, ⟨by (with_reducible repeat (first | refine blk_drewN ?_ _ | refine blk_drew ?_ | refine blk_alloc ?_ _)); exact BK399.out⟩, ⟨u96HI0⟩, ⟨u96HK⟩, ⟨u96HB⟩⟩
 case round =>
  clear H'
  try clear c1
  try clear c2
  try clear p2
  try clear c3
  try clear c7
  try clear c8
  try clear c9
  try clear c12
  try clear c13
  try clear c13b0
  try clear c13b1
  try clear c19
  try clear c20
  try clear c22
  try clear c24
  try clear c24b0
  try clear c24b1
  try clear c28
  try clear c29
  try clear c31
  try clear c33
  try clear c33b0
  try clear c33b1
  try clear z10_0
  try clear z10_1
  try clear z10_2
  try clear z21_0
  try clear z21_1
  try clear z21_2
  try clear z23_0
  try clear z23_1
  try clear z23_2
  try clear z30_0
  try clear z30_1
  try clear z30_2
  try clear z32_0
  try clear z32_1
  try clear z32_2
  try clear y10_0
  try clear y10_1
  try clear y10_2
  try clear y21_0
  try clear y21_1
  try clear y21_2
  try clear y23_0
  try clear y23_1
  try clear y23_2
  try clear y30_0
  try clear y30_1
  try clear y30_2
  try clear y32_0
  try clear y32_1
  try clear y32_2
  obtain ⟨x1001_1, x1002_1, x400002_1, HA, HK1, HO_400001, BK391, BK399, HI0, HK, HB⟩ := hrel
  cases gk with
  | zero => exact absurd HA.out (by simp [spec_l3DrawBadResp.l0])
  | succ k1 =>
   have H := HA.out
   clear HA
   simp only [spec_l3DrawBadResp.l0] at H
   revert H
   refine ok3 fun t414 t415 t416 A34 H => ?_
   (try dsimp only at H)
   have HH35 := am H
   clear H
   try go_wp2
   replace HO_400001 := am (Kd.R_drew HO_400001.out)
   replace BK391 := am (blk_drew BK391.out)
   replace BK399 := am (blk_drew BK399.out)
   replace HI0 := am (IsS139.drew HI0.out)
   replace HK := am (keep_drew HK.out)
   replace HB := am (below_drew1 HB.out)
   refine start_ (n := 7) (S := fun w' => w'.cell? ⟨gb399, 0, none⟩ = some (.int .i64 t392) ∧ w'.cell? ⟨gb399, 1, none⟩ = some (.slice Ao11 t393.length co11) ∧ w'.cell? ⟨gb399, 2, none⟩ = some (.string x400002_1)) (ds := []) ⟨br true [0, 7]⟩ (by kernel_rfl) rfl (by kernel_rfl) ⟨bc BK399, bc BK399, bc BK399⟩ (fun hHeld => ?_)
   generalize wr.drew = w36 at HO_400001 BK391 BK399 HI0 HK HB hHeld ⊢
   refine pu 0 21 [1, 6] ?_
   refine pu 3 24 [1, 2, 1, 3] ?_
   refine tk 1 22 [2, 1, 1, 3] ?_
   refine pu 2 23 [4, 3] ?_
   refine og 4 25 [5, 2] Tryz.func74 #[.pointer (some ⟨g, 0, none⟩), .int .i64 2] (fun K hK => ?_)
   with_reducible refine (spec_l1Below.calls g s0_0 x1001_1 x1002_1 2 t414 t415 t416 w0 _ ?side1 ?side2 A34.out).mono ?_
   (case side1 => exact u96HI0)
   (case side2 => exact u96HB)
   rintro e w37 ⟨rfl, hi, hb, hk⟩
   refine ⟨_, rfl, ?_⟩
   replace HO_400001 := am (Kd.R_mono (Kd.R_keep (IsS139.apart (show IsS139 w0 _ g s0_0 x1001_1 x1002_1 from u96HI0) (ro HO_400001) (by decide)) hk (fun _ h => h.2)) (fun _ h => h.1))
   replace BK391 := kp BK391 hk NB391_0
   replace BK399 := kp BK399 hk NB399_0
   replace HK := am (KeepBut.trans u96HK hk (.inl rfl))
   replace HB := am (hb)
   replace HI0 := am (hi)
   clear hb hk hi
   refine hK.out _ _ ⟨bc BK399, bc BK399, bc BK399⟩ (fun hHeld => ?_)
   clear hK K
   refine nm 25 ?_
   refine pu 5 26 [6, 1] ?_
   refine pu 6 27 [7] ?_
   refine done_ (by kernel_rfl) ?_
   go_upto_if 27 with (fail)
   have H := HH35.out
   clear HH35
   by_cases c38 : (x400002_1.size : Int) < (wrap64 (120 + t414))
   rotate_left
   ·rw [if_neg c38] at H
    have c38b0 := decide_eq_false c38
    clear c38
    (first | rw [c38b0] | (simp only [i64_w, i32_w]; rw [c38b0]) | skip)
    simp only [Option.some.injEq, Prod.mk.injEq] at H
    obtain ⟨rfl, rfl, rfl, rfl, rfl⟩ := H
    have hnb43 := NB399_391.out
    have hnc43 := NB391_399.out
    have hnb44 := NB399_0.out
    have hnc44 := NB0_399.out
    obtain ⟨z45_0, y45_0, z45_1, y45_1, z45_2, y45_2⟩ := cl3 BK399
    have hnb46 := NB391_0.out
    have hnc46 := NB0_391.out
    obtain ⟨z47_0, y47_0, z47_1, y47_1, z47_2, y47_2⟩ := cl3 BK391
    go_wp2
    refine bodyPost_ret (results_cell_row rfl _ _ gb391 29 #[.int .i64 t392, .slice Ao11 t393.length co11, .string x400002_1] (0, 0) _ rfl (pt0 BK391) Tryz.underlying29 rfl (by kernel_rfl)) rfl ?_
    exact ⟨_, rf, rj (Kd.R_types HO_400001.out BK391.out (by decide)) (fun _ hk => trivial), u96HI0, u96HB, u96HK⟩
   rw [if_pos c38] at H
   have c38b0 := decide_eq_true c38
   clear c38
   (first | rw [c38b0] | (simp only [i64_w, i32_w]; rw [c38b0]) | skip)
   revert H
   refine ifn fun c39 H => ?_
   have c39b0 := eq_true c39
   have c39b1 := decide_eq_true c39
   try have c39b2 := eq_false (Nat.not_lt.2 c39)
   have H' := am H
   clear H
   have hnb40 := NB399_391.out
   have hnc40 := NB391_399.out
   have hnb41 := NB399_0.out
   have hnc41 := NB0_399.out
   obtain ⟨z42_0, y42_0, z42_1, y42_1, z42_2, y42_2⟩ := cl3 BK399
   go_wp2
   go_roundg k1
   case measure => have := HK1.out; omega
   case rel => exact ⟨(t415), (t416), (x400002_1 ++ (⟨#[98]⟩ : ByteArray)), H', ⟨by have := HK1.out; omega⟩, ⟨rj (Kd.R_types HO_400001.out BK399.out (by decide)) (fun _ hk => trivial)⟩, ⟨by (with_reducible repeat (first | refine blk_drewN ?_ _ | refine blk_drew ?_ | refine blk_alloc ?_ _)); refine blk_far ?_ NB391_399.out _; (with_reducible repeat (first | refine blk_drewN ?_ _ | refine blk_drew ?_ | refine blk_alloc ?_ _)); exact BK391.out⟩, ⟨pt0 BK399⟩, ⟨u96HI0⟩, ⟨u96HK⟩, ⟨u96HB⟩⟩

end Go.Proofs.YtjlpjbkpmmpojaaGreatDoor.All
