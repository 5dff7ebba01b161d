import Derived.Test.YtjlpjbkpmmpojaaGreatDoorKO17
namespace Go.Proofs.YtjlpjbkpmmpojaaGreatDoor.All
open Go.RowKit Go.Proofs.YtjlpjbkpmmpojaaGreatDoorW.PrintWords Go.Proofs.YtjlpjbkpmmpojaaGreatDoorW.PrintLast Go.Proofs.YtjlpjbkpmmpojaaGreatDoorW.PrintMore
set_option maxHeartbeats 8000000
set_option maxRecDepth 100000
attribute [local go_sem] min2_int min_two
set_option linter.unusedVariables false
set_option linter.unusedSimpArgs false
theorem u165HI0 {p : Prop} (h : p := by repeat (first | (with_reducible first | exact HI0.out | apply IsS139.alloc | apply IsS139.drewN | apply IsS139.drew | apply IsS139.set_1 | apply IsS139.set_2) | exact HI0.out)) : p := h
theorem u165HB {p : Prop} (h : p := by repeat (first | (with_reducible first | exact HB.out | apply below_alloc | apply pw_below_drewN | apply below_drew1 | refine below_set ?_ (IsS139.ge HI0.out)) | exact HB.out)) : p := h
theorem u165HK {p : Prop} (h : p := by repeat (first | (with_reducible first | exact HK.out | apply KeepBut.set_ | apply keep_drewN | apply keep_drew | apply keep_alloc) | exact HK.out)) : p := h
def spec_l1Once.f (s0_0 : List Int) (s0_1 : Int) (s0_2 : Int) (a1 : Int) : Option (Bool × Int × Int) := (spec_l1Below.f s0_0 s0_1 s0_2 a1).bind fun bt5 => (some ((bt5.1 == 0), bt5.2.1, bt5.2.2))
theorem spec_l1Once.calls (g : Nat) (s0_0 : List Int) (s0_1 : Int) (s0_2 : Int) (a1 : Int) (r1 : Bool) (r2 : Int) (r3 : Int) (w0 w : World) (hI : IsS139 w0 w g s0_0 s0_1 s0_2) (hB : Below w0.heap.size w0 w) (h : spec_l1Once.f s0_0 s0_1 s0_2 a1 = some (r1, r2, r3)) :
  Calls Tryz.prog 165 #[.pointer (some ⟨g, 0, none⟩), .int .i64 a1] w fun e w' => e = .returned (.bool r1) ∧ IsS139 w0 w' g s0_0 r2 r3 ∧ Below w0.heap.size w0 w' ∧ KeepBut w w' g none := by
 have HI0 := am hI
 have HK := am (KeepBut.refl w g none)
 have HL := am hB.size
 clear hI
 have HW0 := am hB.size
 have HB := am hB
 clear hB
 unfold spec_l1Once.f at h
 have H := h
 clear h
 revert H
 refine ok3 fun t5 t6 t7 A3 H => ?_
 (try dsimp only at H)
 simp only [Option.some.injEq, Prod.mk.injEq] at H
 obtain ⟨rfl, rfl, rfl⟩ := H
 go_enter Tryz.func165, Tryz.ntmps165
 go_wp2_with ((with_reducible refine gw ?_); first | (refine gl 7 Tryz.func74 #[.pointer (some ⟨g, 0, none⟩), .int .i64 a1] ?_; refine (spec_l1Below.calls g s0_0 s0_1 s0_2 a1 t5 t6 t7 w0 _ u165HI0 u165HB A3.out).mono ?_; rintro e w4 ⟨rfl, hi, hb, hk⟩; refine ⟨_, rfl, ?_⟩; replace HK := am (KeepBut.trans u165HK hk (.inl rfl)); replace HB := am (hb); replace HI0 := am (hi); clear hb hk hi))
 go_ret
 exact ⟨rf, u165HI0, u165HB, u165HK⟩
def spec_Put.f (k : Nat) (l0 : List (S116)) (a1 : ByteArray) (a2 : ByteArray) : Option ((List (S116))) := (some (([] : List (S116)) : List (S116))).bind fun y325 => (if y325.length + l0.length < 4398046511104 then ((some (y325 ++ l0 : List (S116))).bind fun y328 => ((spec_l2At.f k l0 a1).bind fun t331 => (if t331 < 0 then (if y328.length < 4398046511104 then (some (y328 ++ [(⟨a1, a2⟩ : S116)])) else (none)) else (if 0 ≤ t331 then (if t331 < (y328.length : Int) then (some (y328.set (t331 : Int).toNat (⟨(rd_T116 y328 t331).f0, a2⟩ : S116))) else (none)) else (none))))) else (none))
theorem spec_Put.calls (k : Nat) (A0 : Option Addr) (c0 : Nat) (l0 : List (S116)) (a1 : ByteArray) (a2 : ByteArray) (r : List (S116)) (w : World) (hr0 : Kd.C k116 w A0 l0.length l0) (hc0 : l0.length ≤ c0) (h : spec_Put.f k l0 a1 a2 = some r) :
  Calls Tryz.prog 103 #[.slice A0 l0.length c0, .string a1, .string a2] w fun e w' => ∃ v0_ : Value, e = .returned (v0_) ∧ Kd.R k116 116 w' w.heap.size (fun _ => True) v0_ r ∧ Below w.heap.size w w' := by
 have hu116 := Tryz.underlying116
 have HR0 := am hr0
 have HC0 := am hc0
 clear hr0 hc0
 have HB := am (Below.refl w.heap.size w)
 unfold spec_Put.f at h
 have H := h
 clear h
 obtain ⟨y325, hy325⟩ : ∃ y_ : List (S116), y_ = (([] : List (S116))) := ⟨_, rfl⟩
 replace H : (if y325.length + l0.length < 4398046511104 then ((some (y325 ++ l0 : List (S116))).bind fun y328 => ((spec_l2At.f k l0 a1).bind fun t331 => (if t331 < 0 then (if y328.length < 4398046511104 then (some (y328 ++ [(⟨a1, a2⟩ : S116)])) else (none)) else (if 0 ≤ t331 then (if t331 < (y328.length : Int) then (some (y328.set (t331 : Int).toNat (⟨(rd_T116 y328 t331).f0, a2⟩ : S116))) else (none)) else (none))))) else (none)) = some r := by first | (rw [hy325]; with_reducible exact H) | (have H2_ := (Option.bind_some _ _).symm.trans H; rw [hy325]; with_reducible exact H2_) | (have H2_ := (Option.bind_some _ _).symm.trans H; with_reducible exact H2_) | with_reducible exact H | (rw [hy325]; exact H) | exact H
 have Ny325 := am hy325
 clear hy325
 revert H
 refine ifn fun c4 H => ?_
 have LMc4 := am c4
 clear c4
 obtain ⟨y328, hy328⟩ : ∃ y_ : List (S116), y_ = (y325 ++ l0) := ⟨_, rfl⟩
 replace H : ((spec_l2At.f k l0 a1).bind fun t331 => (if t331 < 0 then (if y328.length < 4398046511104 then (some (y328 ++ [(⟨a1, a2⟩ : S116)])) else (none)) else (if 0 ≤ t331 then (if t331 < (y328.length : Int) then (some (y328.set (t331 : Int).toNat (⟨(rd_T116 y328 t331).f0, a2⟩ : S116))) else (none)) else (none)))) = some r := by first | (rw [hy328]; with_reducible exact H) | (have H2_ := (Option.bind_some _ _).symm.trans H; rw [hy328]; with_reducible exact H2_) | (have H2_ := (Option.bind_some _ _).symm.trans H; with_reducible exact H2_) | with_reducible exact H | (rw [hy328]; exact H) | exact H
 have Ny328 := am hy328
 clear hy328
 revert H
 refine ok1 fun t331 A5 H => ?_
 by_cases c6 : t331 < 0
 ·rw [if_pos c6] at H
  have c6b0 := decide_eq_true c6
  clear c6
  revert H
  refine ifn fun c7 H => ?_
  have LMc7 := am c7
  clear c7
  obtain ⟨y332, hy332⟩ : ∃ y_ : List (S116), y_ = (y328 ++ [(⟨a1, a2⟩ : S116)]) := ⟨_, rfl⟩
  replace H : (some y332) = some r := by first | (rw [hy332]; with_reducible exact H) | (have H2_ := (Option.bind_some _ _).symm.trans H; rw [hy332]; with_reducible exact H2_) | (have H2_ := (Option.bind_some _ _).symm.trans H; with_reducible exact H2_) | with_reducible exact H | (rw [hy332]; exact H) | exact H
  have Ny332 := am hy332
  clear hy332
  obtain rfl := Option.some.inj H
  go_enter Tryz.func103, Tryz.ntmps103
  go_wp2_with (first | ((with_reducible refine gate_dst (N := 9) rfl ?_); refine Kd.R_lit k116 _ 116 ?hg (N := 9) ?hd (xs := ([] : List (S116))) (inner := []) (ok := fun _ => True) (okp := fun _ => True) ?hr ?hp (fun _ hk => hk) trivial (Below.refl _ _) (Nat.le_refl _) (by simp) ?_; (case hd => rfl); (case hg => rfl); (case hr => first | (go_simp; done) | (go_simp; rfl)); (case hp => exact (Reps.none _ _)); intro v326 w8 ho9 hb hg_ hnew_; clear hg_ hnew_; (first | rw [← Ny325.out] at ho9 | (simp only [Int.reduceToNat] at ho9; rw [← Ny325.out] at ho9)); have HO327 := am (Kd.R_lower ho9 (below_size bl)); replace HB := am (below_step bl hb); clear hb ho9) | ((with_reducible refine gate_builtin (b := .append) (xs := #[.tmp 9, .tmp 10]) rfl ?_); at_builtin; refine Kd.R_append_rows k116 (w0 := w) w.heap.size rfl (.tmp 9) (.tmp 10) 27 116 (.agg #[(.string ⟨#[]⟩), (.string ⟨#[]⟩)]) 32 rfl Tryz.underlying27 info116 rfl (by decide) (by omega) v326 y325 l0 _ _ _ (fun _ => True) (fun _ => False) rfl rfl ?aO ?aR (fun _ _ h => h) (fun _ h => h.elim) ?aF ?aB ?aS ?aL ?_; (case aR => exact cb HR0); (case aB => exact bl); (case aF => exact (fun _ _ => trivial)); (case aO => exact (ro HO327)); (case aS => exact (below_size bl)); (case aL => have := LMc4.out; omega); intro v329 w10 ho hb hg hat; rw [← Ny328.out] at ho; have n0_ := am (hb); have n1_ := am (ho); clear HB; clear HO327; have HB := n0_; have HO330 := n1_; clear n0_ n1_; clear ho hb hg hat) | ((with_reducible refine gw ?_); first | (refine gl 14 Tryz.func137 #[.slice A0 l0.length c0, .string a1] ?_; (with_reducible refine (spec_l2At.calls k _ _ l0 a1 t331 _ ?side1 ?side2 A5.out).mono ?_); (case side1 => exact cb HR0); (case side2 => exact HC0.out); rintro e w' ⟨rfl, ⟨nd, rfl⟩⟩; refine ⟨_, rfl, ?_⟩)) | ((with_reducible refine gate_builtin (b := .append) (xs := #[.tmp 17, .tmp 21]) rfl ?_); at_builtin; refine Kd.R_append k116 (w0 := w) w.heap.size rfl (.tmp 17) (.tmp 21) 27 116 (.agg #[(.string ⟨#[]⟩), (.string ⟨#[]⟩)]) 32 rfl Tryz.underlying27 info116 rfl (by decide) (by omega) v329 y328 (⟨a1, a2⟩ : S116) [.string a1, .string a2] (fun _ => True) (fun _ => False) rfl rfl ?aP (fun _ hk => hk.elim) ?aF ?aO ?aB ?aS ?aL ?_; (case aP => exact k116_mkM _ _ _ (⟨a1, a2⟩ : S116)); (case aB => exact bl); (case aF => exact (fun _ _ => trivial)); (case aO => exact (ro HO330)); (case aS => exact (below_size bl)); (case aL => have := LMc7.out; omega); intro v333 w11 ho hb hg hat; rw [← Ny332.out] at ho; have n0_ := am (hb); have n1_ := am (ho); clear HB; clear HO330; have HB := n0_; have HO334 := n1_; clear n0_ n1_; clear ho hb hg hat))
  go_ret
  exact ⟨_, rf, by (with_reducible repeat (first | apply Kd.R_alloc | apply Kd.R_drewN | apply Kd.R_drew)); exact HO334.out, bl⟩
 rw [if_neg c6] at H
 have c6b0 := decide_eq_false c6
 clear c6
 revert H
 refine ifn fun c12 H => ?_
 have c12b0 := decide_eq_true c12
 clear c12
 revert H
 refine ifn fun c13 H => ?_
 have c13b0 := decide_eq_true c13
 clear c13
 obtain ⟨y335, hy335⟩ : ∃ y_ : List (S116), y_ = (y328.set (t331 : Int).toNat (⟨(rd_T116 y328 t331).f0, a2⟩ : S116)) := ⟨_, rfl⟩
 replace H : (some y335) = some r := by first | (rw [hy335]; with_reducible exact H) | (have H2_ := (Option.bind_some _ _).symm.trans H; rw [hy335]; with_reducible exact H2_) | (have H2_ := (Option.bind_some _ _).symm.trans H; with_reducible exact H2_) | with_reducible exact H | (rw [hy335]; exact H) | exact H
 have Ny335 := am hy335
 clear hy335
 obtain rfl := Option.some.inj H
 go_enter Tryz.func103, Tryz.ntmps103
 go_wp2_with (first | ((with_reducible refine gate_dst (N := 9) rfl ?_); refine Kd.R_lit k116 _ 116 ?hg (N := 9) ?hd (xs := ([] : List (S116))) (inner := []) (ok := fun _ => True) (okp := fun _ => True) ?hr ?hp (fun _ hk => hk) trivial (Below.refl _ _) (Nat.le_refl _) (by simp) ?_; (case hd => rfl); (case hg => rfl); (case hr => first | (go_simp; done) | (go_simp; rfl)); (case hp => exact (Reps.none _ _)); intro v326 w15 ho16 hb hg_ hnew_; clear hg_ hnew_; (first | rw [← Ny325.out] at ho16 | (simp only [Int.reduceToNat] at ho16; rw [← Ny325.out] at ho16)); have HO327 := am (Kd.R_lower ho16 (below_size bl)); replace HB := am (below_step bl hb); clear hb ho16) | ((with_reducible refine gate_builtin (b := .append) (xs := #[.tmp 9, .tmp 10]) rfl ?_); at_builtin; refine Kd.R_append_rows k116 (w0 := w) w.heap.size rfl (.tmp 9) (.tmp 10) 27 116 (.agg #[(.string ⟨#[]⟩), (.string ⟨#[]⟩)]) 32 rfl Tryz.underlying27 info116 rfl (by decide) (by omega) v326 y325 l0 _ _ _ (fun _ => True) (fun _ => False) rfl rfl ?aO ?aR (fun _ _ h => h) (fun _ h => h.elim) ?aF ?aB ?aS ?aL ?_; (case aR => exact cb HR0); (case aB => exact bl); (case aF => exact (fun _ _ => trivial)); (case aO => exact (ro HO327)); (case aS => exact (below_size bl)); (case aL => have := LMc4.out; omega); intro v329 w17 ho hb hg hat; rw [← Ny328.out] at ho; have n0_ := am (hb); have n1_ := am (ho); clear HB; clear HO327; have HB := n0_; have HO330 := n1_; clear n0_ n1_; clear ho hb hg hat) | ((with_reducible refine gw ?_); first | (refine gl 14 Tryz.func137 #[.slice A0 l0.length c0, .string a1] ?_; (with_reducible refine (spec_l2At.calls k _ _ l0 a1 t331 _ ?side1 ?side2 A5.out).mono ?_); (case side1 => exact cb HR0); (case side2 => exact HC0.out); rintro e w' ⟨rfl, ⟨nd, rfl⟩⟩; refine ⟨_, rfl, ?_⟩; (try (rw [drewN_self w17]; generalize hq_ : World.drewN w17 _ = w17; have n0_ : Aside0 (Kd.R k116 116 w17 w.heap.size (fun _ => True) v329 y328) := ⟨by rw [← hq_]; exact (ro HO330)⟩; have n1_ : Aside0 (Below w.heap.size w w17) := ⟨by rw [← hq_]; exact bl⟩; clear HO330 HB hq_; have HO330 := n0_; have HB := n1_; clear n0_ n1_)); have p14 : 0 ≤ (t331 : Int) := od; have q14 : (t331 : Int) < ((y328.length : Int) : Int) := od; obtain ⟨go14, co14, eo14, gb14, gl14, cl14, HG14⟩ := Kd.R_form HO330.out (by omega); (first | cases eo14 | (injection eo14 with ea_ en_ ec_; (first | subst ea_ | (injection ea_ with ea_; subst ea_)); subst ec_; clear en_)); have GB14 := am gb14; have GG14 := am HG14; clear gb14 gl14 HG14; obtain ⟨ce14, hcl14, hM14, hcc14, hfr14⟩ := Kd.R_elem HO330.out z116 (t331 : Int) p14 q14; obtain rfl := k116_openM hM14; have hx14_0 : w17.cell? ⟨go14, (t331 : Int).toNat * 2, none⟩ = some (.string ((rd_T116 y328 t331).f0)) := hcc14 0 _ rfl; have hx14_1 : w17.cell? ⟨go14, (t331 : Int).toNat * 2 + 1, none⟩ = some (.string ((rd_T116 y328 t331).f1)) := hcc14 1 _ rfl; have hf14_0 : w17.frozen? ⟨go14, (t331 : Int).toNat * 2, none⟩ = false := hfr14 0; have hf14_1 : w17.frozen? ⟨go14, (t331 : Int).toNat * 2 + 1, none⟩ = false := hfr14 1; clear hcl14 hcc14 hfr14 hM14; replace p14 := eq_true p14; replace q14 := eq_true q14; have HX18 := am (show Kd.R k116 116 w17 w.heap.size (fun _ => True) (.slice (some ⟨go14, 0, none⟩) y328.length co14) y328 from (ro HO330)); obtain ⟨ce18, hcl18, hM18, hcc18, hfr18⟩ := Kd.R_elem HX18.out z116 (t331 : Int) (od) (by have h_ : (t331 : Int) < ((y328.length : Int) : Int) := od; first | exact h_ | (have e_ := (Kd.R_reads' HO330.out).1; omega) | simpa using h_); obtain rfl := k116_openM hM18; have HP18 := Kd.R_seg HX18.out (t331 : Int) (od) (by have h_ : (t331 : Int) < ((y328.length : Int) : Int) := od; first | exact h_ | (have e_ := (Kd.R_reads' HO330.out).1; omega) | simpa using h_) (seg := [.string a2]) (j := 1) hcl18 hcc18 (show 2 ≤ 2 from by decide) (x' := (⟨(rd_T116 y328 t331).f0, a2⟩ : S116)) (k116_mkM _ _ _ (⟨(rd_T116 y328 t331).f0, a2⟩ : S116) ) (fun _ hk => hk); have hx18_1 := hcc18 1 _ rfl; (try simp only [show (k116).sz = 2 from rfl, Nat.mul_one, Nat.add_zero] at hx18_1); have hf18_1 := hfr18 1; (try simp only [show (k116).sz = 2 from rfl, Nat.mul_one, Nat.add_zero] at hf18_1); clear hcl18 hcc18 hfr18 hM18)) | ((with_reducible refine gate_store (t := 9) (p := 27) rfl ?_); refine store_event (t := 9) (p := 27) (v := ?vo_w19) (w1 := (w17.setCell ⟨go14, (t331 : Int).toNat * 2 + 1, none⟩ (.string a2))) ?hg ?ho ?hn ?hr ?_; (case ho => rfl); (case hg => rfl); (case hn => rfl); (case hr => first | (go_simp; done) | (go_simp; rfl)); intro w19 hw; have hg : w17.grownBy w19 (some go14) := (by rw [hw]; exact HP18.2); have hp_ : Kd.R k116 116 w19 w.heap.size (fun _ => True) (.slice (some ⟨go14, 0, none⟩) y328.length co14) y335 := (by rw [hw, Ny335.out]; exact HP18.1); clear HP18; have n0_ := am (hp_); have n1_ := am ((by rw [hw]; exact below_set (HB.out) GB14.out : Below w.heap.size w w19)); clear HO330; clear HB; have HO330 := n0_; have HB := n1_; clear n0_ n1_; clear hg hw hp_))
 go_ret
 exact ⟨_, rf, by (with_reducible repeat (first | apply Kd.R_alloc | apply Kd.R_drewN | apply Kd.R_drew)); exact HO330.out, bl⟩
theorem u181HK {p : Prop} (h : p := by repeat (first | (with_reducible first | exact HK.out | apply KeepBut.set_ | apply keep_drewN | apply keep_drew | apply keep_alloc) | exact HK.out)) : p := h
theorem u181HB {p : Prop} (h : p := by repeat (first | (with_reducible first | exact HB.out | apply below_alloc | apply pw_below_drewN | apply below_drew1 | refine below_set ?_ (IsS139.ge HI0.out)) | exact HB.out)) : p := h
theorem u181HI0 {p : Prop} (h : p := by repeat (first | (with_reducible first | exact HI0.out | apply IsS139.alloc | apply IsS139.drewN | apply IsS139.drew | apply IsS139.set_1 | apply IsS139.set_2) | exact HI0.out)) : p := h
def spec_l1DrawText.l0 : Nat → List Int → Int → List Int → Int → Int → Option (ByteArray × Int × Int)
 | 0, _, _, _, _, _ => none
 | k + 1, x3, x4, x29, x20, x21 => (spec_l1Below.f x29 x20 x21 14).bind fun bt23 => (if x4 < bt23.1 then ((spec_l1Pick.f x29 bt23.2.1 bt23.2.2 (([(⟨#[32]⟩ : ByteArray), (⟨#[44]⟩ : ByteArray), (⟨#[97]⟩ : ByteArray), (⟨#[90]⟩ : ByteArray), (⟨#[55]⟩ : ByteArray), (⟨#[45]⟩ : ByteArray), (⟨#[61]⟩ : ByteArray), (⟨#[120]⟩ : ByteArray), (⟨#[58]⟩ : ByteArray), (⟨#[1]⟩ : ByteArray), (⟨#[64]⟩ : ByteArray), (⟨#[91]⟩ : ByteArray)] : List ByteArray))).bind fun bt18 => (if 0 < (bt18.1.size : Int) then (if x3.length < 140737488355328 then (spec_l1DrawText.l0 k (x3 ++ [bt bt18.1 0]) (wrap64 (x4 + 1)) x29 bt18.2.1 bt18.2.2) else (none)) else (none))) else (some (strOfNums x3, bt23.2.1, bt23.2.2)))
def spec_l1DrawText.f (k : Nat) (s0_0 : List Int) (s0_1 : Int) (s0_2 : Int) : Option (ByteArray × Int × Int) := spec_l1DrawText.l0 k (([] : List Int)) 0 s0_0 s0_1 s0_2
theorem spec_l1DrawText.calls (k : Nat) (g : Nat) (s0_0 : List Int) (s0_1 : Int) (s0_2 : Int) (r1 : ByteArray) (r2 : Int) (r3 : Int) (w0 w : World) (hI : IsS139 w0 w g s0_0 s0_1 s0_2) (hB : Below w0.heap.size w0 w) (h : spec_l1DrawText.f k s0_0 s0_1 s0_2 = some (r1, r2, r3)) :
  Calls Tryz.prog 181 #[.pointer (some ⟨g, 0, none⟩)] w fun e w' => e = .returned (.string r1) ∧ IsS139 w0 w' g s0_0 r2 r3 ∧ Below w0.heap.size w0 w' ∧ KeepBut w w' g none := by
 have HI0 := am hI
 have HK := am (KeepBut.refl w g none)
 have HL := am hB.size
 clear hI
 have HW0 := am hB.size
 have HB := am hB
 clear hB
 unfold spec_l1DrawText.f at h
 have H := h
 clear h
 obtain ⟨y26, hy26⟩ : ∃ y_, y_ = (([] : List Int)) := ⟨_, rfl⟩
 (try with_reducible replace H := bs_ H)
 rw [← hy26] at H
 have Ny26 := am hy26
 clear hy26
 have H' := am H
 clear H
 go_enter Tryz.func181, Tryz.ntmps181
 go_wp2_with (first | ((with_reducible refine gate_dst (N := 5) rfl ?_); refine Kd.R_lit (Kd.int .u8) _ 5 ?hg (N := 5) ?hd (xs := ([] : List Int)) (inner := []) (ok := fun _ => True) (okp := fun _ => True) ?hr ?hp (fun _ hk => hk) trivial (Below.refl _ _) (Nat.le_refl _) (by simp) ?_; (case hd => rfl); (case hg => rfl); (case hr => first | (go_simp; done) | (go_simp; rfl)); (case hp => exact (Reps.none _ _)); intro v34 w2 ho3 hb hg_ hnew_; clear hg_ hnew_; (first | rw [← Ny26.out] at ho3 | (simp only [Int.reduceToNat] at ho3; rw [← Ny26.out] at ho3)); have HO32 := am (Kd.R_lower ho3 (keep_size (w := w) (g := g) (row := none) u181HK)); replace HK := am (KeepBut.trans u181HK (KeepBut.of_below hb g none) (.inl rfl)); replace HB := am (below_step u181HB hb); replace HI0 := am (IsS139.below u181HI0 hb); clear hb ho3))
 (try simp only [Act.put, List.setIfInBounds_toArray, List.set_cons_zero, List.set_cons_succ])
 go_loopg [3, 4] k (fun kq v3 v4 w' => ∃ (x3_1 : List Int) (x4_1 : Int) (x20_1 : Int) (x21_1 : Int), v4 = .int .i64 x4_1 ∧ Aside0 (spec_l1DrawText.l0 kq x3_1 x4_1 s0_0 x20_1 x21_1 = some (r1, r2, r3)) ∧ Aside0 (kq ≤ k) ∧ Aside0 (Kd.R (Kd.int .u8) 5 w' w.heap.size (fun _ => True) v3 x3_1) ∧ Aside0 (IsS139 w0 w' g s0_0 x20_1 x21_1) ∧ Aside0 (KeepBut w w' g none) ∧ Aside0 (Below w0.heap.size w0 w'))
 case atStart => exact ⟨(y26), (0), (s0_1), (s0_2), rs, H', ⟨Nat.le_refl _⟩, ⟨ro HO32⟩, ⟨u181HI0⟩, ⟨u181HK⟩, ⟨u181HB⟩⟩
 case round =>
  clear H'
  obtain ⟨x3_1, x4_1, x20_1, x21_1, rfl, HA, HK1, HO_3, HI0, HK, HB⟩ := hrel
  cases gk with
  | zero => exact absurd HA.out (by simp [spec_l1DrawText.l0])
  | succ k1 =>
   have H := HA.out
   clear HA
   simp only [spec_l1DrawText.l0] at H
   revert H
   refine ok3 fun t23 t27 t28 A4 H => ?_
   (try dsimp only at H)
   by_cases c5 : x4_1 < t23
   rotate_left
   ·rw [if_neg c5] at H
    have c5b0 := decide_eq_false c5
    clear c5
    simp only [Option.some.injEq, Prod.mk.injEq] at H
    obtain ⟨rfl, rfl, rfl⟩ := H
    go_wp2_with ((with_reducible refine gw ?_); first | (refine gl 8 Tryz.func74 #[.pointer (some ⟨g, 0, none⟩), .int .i64 14] ?_; refine (spec_l1Below.calls g s0_0 x20_1 x21_1 14 t23 t27 t28 w0 _ u181HI0 u181HB A4.out).mono ?_; rintro e w16 ⟨rfl, hi, hb, hk⟩; refine ⟨_, rfl, ?_⟩; replace HO_3 := am (Kd.R_mono (Kd.R_keep (IsS139.apart (show IsS139 w0 _ g s0_0 x20_1 x21_1 from u181HI0) (ro HO_3) (by decide)) hk (fun _ h => h.2)) (fun _ h => h.1)); replace HK := am (KeepBut.trans u181HK hk (.inl rfl)); replace HB := am (hb); replace HI0 := am (hi); clear hb hk hi; have hcv17 := own_string (P := Tryz.prog) Tryz.underlying22 Tryz.underlying5 Tryz.underlying9 (Kd.own_of_R HO_3.out)))
    go_ret
    exact ⟨rf, u181HI0, u181HB, u181HK⟩
   rw [if_pos c5] at H
   have c5b0 := decide_eq_true c5
   clear c5
   obtain ⟨y24, hy24⟩ : ∃ y_, y_ = (([(⟨#[32]⟩ : ByteArray), (⟨#[44]⟩ : ByteArray), (⟨#[97]⟩ : ByteArray), (⟨#[90]⟩ : ByteArray), (⟨#[55]⟩ : ByteArray), (⟨#[45]⟩ : ByteArray), (⟨#[61]⟩ : ByteArray), (⟨#[120]⟩ : ByteArray), (⟨#[58]⟩ : ByteArray), (⟨#[1]⟩ : ByteArray), (⟨#[64]⟩ : ByteArray), (⟨#[91]⟩ : ByteArray)] : List ByteArray)) := ⟨_, rfl⟩
   (try with_reducible replace H := bs_ H)
   rw [← hy24] at H
   have Ny24 := am hy24
   clear hy24
   revert H
   refine ok3 fun t18 t30 t31 A6 H => ?_
   (try dsimp only at H)
   revert H
   refine ifn fun c7 H => ?_
   have c7b0 := decide_eq_true c7
   have c7b1 : decide (0 < t18.size) = true := decide_eq_true (by omega)
   clear c7
   revert H
   refine ifn fun c9 H => ?_
   have LMc9 := am c9
   clear c9
   obtain ⟨y19, hy19⟩ : ∃ y_ : List Int, y_ = (x3_1 ++ [bt t18 0]) := ⟨_, rfl⟩
   replace H : (spec_l1DrawText.l0 k1 y19 (wrap64 (x4_1 + 1)) s0_0 t30 t31) = some (r1, r2, r3) := by first | (rw [hy19]; with_reducible exact H) | (have H2_ := (Option.bind_some _ _).symm.trans H; rw [hy19]; with_reducible exact H2_) | (have H2_ := (Option.bind_some _ _).symm.trans H; with_reducible exact H2_) | with_reducible exact H | (rw [hy19]; exact H) | exact H
   have Ny19 := am hy19
   clear hy19
   have H' := am H
   clear H
   go_wp2_with (first | ((with_reducible refine gw ?_); refine gl 8 Tryz.func74 #[.pointer (some ⟨g, 0, none⟩), .int .i64 14] ?_; refine (spec_l1Below.calls g s0_0 x20_1 x21_1 14 t23 t27 t28 w0 _ u181HI0 u181HB A4.out).mono ?_; rintro e w10 ⟨rfl, hi, hb, hk⟩; refine ⟨_, rfl, ?_⟩; replace HO_3 := am (Kd.R_mono (Kd.R_keep (IsS139.apart (show IsS139 w0 _ g s0_0 x20_1 x21_1 from u181HI0) (ro HO_3) (by decide)) hk (fun _ h => h.2)) (fun _ h => h.1)); replace HK := am (KeepBut.trans u181HK hk (.inl rfl)); replace HB := am (hb); replace HI0 := am (hi); clear hb hk hi) | ((with_reducible refine gate_dst (N := 14) rfl ?_); refine rl Kd.string 9 14 ([(⟨#[32]⟩ : ByteArray), (⟨#[44]⟩ : ByteArray), (⟨#[97]⟩ : ByteArray), (⟨#[90]⟩ : ByteArray), (⟨#[55]⟩ : ByteArray), (⟨#[45]⟩ : ByteArray), (⟨#[61]⟩ : ByteArray), (⟨#[120]⟩ : ByteArray), (⟨#[58]⟩ : ByteArray), (⟨#[1]⟩ : ByteArray), (⟨#[64]⟩ : ByteArray), (⟨#[91]⟩ : ByteArray)] : List ByteArray) [.string (⟨#[32]⟩ : ByteArray), .string (⟨#[44]⟩ : ByteArray), .string (⟨#[97]⟩ : ByteArray), .string (⟨#[90]⟩ : ByteArray), .string (⟨#[55]⟩ : ByteArray), .string (⟨#[45]⟩ : ByteArray), .string (⟨#[61]⟩ : ByteArray), .string (⟨#[120]⟩ : ByteArray), .string (⟨#[58]⟩ : ByteArray), .string (⟨#[1]⟩ : ByteArray), .string (⟨#[64]⟩ : ByteArray), .string (⟨#[91]⟩ : ByteArray)] ?_; intro v35 w11 ho12 hb; (first | rw [← Ny24.out] at ho12 | (simp only [Int.reduceToNat] at ho12; rw [← Ny24.out] at ho12)); replace HO_3 := kr HO_3 hb; have HO25 := am (Kd.R_lower ho12 (keep_size (w := w) (g := g) (row := none) u181HK)); replace HK := am (KeepBut.trans u181HK (KeepBut.of_below hb g none) (.inl rfl)); replace HB := am (below_step u181HB hb); replace HI0 := am (IsS139.below u181HI0 hb); clear hb ho12; obtain ⟨Ao13, co13, eo13⟩ := Kd.R_slice HO25.out; subst eo13) | ((with_reducible refine gw ?_); refine gl 15 Tryz.func84 #[.pointer (some ⟨g, 0, none⟩), .slice Ao13 y24.length co13] ?_; refine (spec_l1Pick.calls g s0_0 t27 t28 _ _ y24 t18 t30 t31 w0 _ u181HI0 u181HB (rc HO25) ((Kd.R_reads' HO25.out).2.1) (far_slice (IsS139.own_ne HI0.out HO25.out (by decide))) A6.out).mono ?_; rintro e w14 ⟨rfl, hi, hb, hk⟩; refine ⟨_, rfl, ?_⟩; replace HO_3 := am (Kd.R_mono (Kd.R_keep (IsS139.apart (show IsS139 w0 _ g s0_0 t27 t28 from u181HI0) (ro HO_3) (by decide)) hk (fun _ h => h.2)) (fun _ h => h.1)); replace HO25 := am (Kd.R_mono (Kd.R_keep (IsS139.apart (show IsS139 w0 _ g s0_0 t27 t28 from u181HI0) (ro HO25) (by decide)) hk (fun _ h => h.2)) (fun _ h => h.1)); replace HK := am (KeepBut.trans u181HK hk (.inl rfl)); replace HB := am (hb); replace HI0 := am (hi); clear hb hk hi; have p8 : 0 ≤ (0 : Int) := (by omega); have q8 : 0 < t18.size := (by have : (0 : Int) < (t18.size : Int) := od; omega); have hx8 : ∀ h : 0 < t18.size, ((t18[0]'h).toNat : Int) = bt t18 0 := bt_at t18 0; clear p8; have qi8 : (0 < (t18.size : Int)) = True := eq_true (od); replace q8 := eq_true q8) | ((with_reducible refine gate_builtin (b := .append) (xs := #[.tmp 12, .tmp 17]) rfl ?_); at_builtin; refine Kd.R_append (Kd.int .u8) w.heap.size rfl (.tmp 12) (.tmp 17) 22 5 (.int .u8 0) 1 rfl Tryz.underlying22 info5 rfl (by decide) (by omega) u3 x3_1 (bt t18 0) [.int .u8 (bt t18 0)] (fun _ => True) (fun _ => False) rfl rfl ?aP (fun _ hk => hk.elim) ?aF ?aO (Below.refl _ _) ?aS ?aL ?_; (case aP => exact rfl); (case aF => exact (fun _ _ => trivial)); (case aO => exact (ro HO_3)); (case aS => exact (keep_size (w := w) (g := g) (row := none) u181HK)); (case aL => have := LMc9.out; omega); intro v36 w15 ho hb hg hat; rw [← Ny19.out] at ho; have n0_ := am (IsS139.grown u181HI0 hg (IsS139.own_ne HI0.out HO_3.out (by decide))); have n1_ := am (Kd.R_over' (ro HO25) (Kd.R_typed (ro HO_3)) (by decide) hg); have n2_ := am (below_weaken u181HB HL.out hb); have n3_ := am (KeepBut.trans u181HK (KeepBut.of_grown hg g) (Kd.R_base2 HO_3.out)); have n4_ := am (ho); clear HI0; clear HO25; clear HB; clear HK; clear HO_3; have HI0 := n0_; have HO25 := n1_; have HB := n2_; have HK := n3_; have HO33 := n4_; clear n0_ n1_ n2_ n3_ n4_; clear ho hb hg hat))
   go_roundg k1
   case measure => have := HK1.out; omega
   case rel => exact ⟨(y19), (wrap64 (x4_1 + 1)), (t30), (t31), rs, H', ⟨by have := HK1.out; omega⟩, ⟨ro HO33⟩, ⟨u181HI0⟩, ⟨u181HK⟩, ⟨u181HB⟩⟩
theorem u164HI0 {p : Prop} (h : p := by repeat (first | (with_reducible first | exact HI0.out | apply IsS139.alloc | apply IsS139.drewN | apply IsS139.drew | apply IsS139.set_1 | apply IsS139.set_2) | exact HI0.out)) : p := h
theorem u164HB {p : Prop} (h : p := by repeat (first | (with_reducible first | exact HB.out | apply below_alloc | apply pw_below_drewN | apply below_drew1 | refine below_set ?_ (IsS139.ge HI0.out)) | exact HB.out)) : p := h
theorem u164HK {p : Prop} (h : p := by repeat (first | (with_reducible first | exact HK.out | apply KeepBut.set_ | apply keep_drewN | apply keep_drew | apply keep_alloc) | exact HK.out)) : p := h
def spec_l3DrawBody.f (k : Nat) (s0_0 : List Int) (s0_1 : Int) (s0_2 : Int) : Option (ByteArray × Int × Int) := (spec_l1Once.f s0_0 s0_1 s0_2 2).bind fun bt14 => (if bt14.1 = true then ((spec_l1Pick.f s0_0 bt14.2.1 bt14.2.2 (([(⟨#[]⟩ : ByteArray), (⟨#[104, 101, 108, 108, 111]⟩ : ByteArray), (⟨#[13, 10, 13, 10]⟩ : ByteArray), (⟨#[97, 0, 98]⟩ : ByteArray), (⟨#[111, 110, 101, 32, 116, 119, 111]⟩ : ByteArray)] : List ByteArray))).bind fun bt16 => (some (bt16.1, bt16.2.1, bt16.2.2))) else ((spec_l1DrawText.f k s0_0 bt14.2.1 bt14.2.2).bind fun bt17 => (some (bt17.1, bt17.2.1, bt17.2.2))))
theorem spec_l3DrawBody.calls (k : Nat) (g : Nat) (s0_0 : List Int) (s0_1 : Int) (s0_2 : Int) (r1 : ByteArray) (r2 : Int) (r3 : Int) (w0 w : World) (hI : IsS139 w0 w g s0_0 s0_1 s0_2) (hB : Below w0.heap.size w0 w) (h : spec_l3DrawBody.f k s0_0 s0_1 s0_2 = some (r1, r2, r3)) :
  Calls Tryz.prog 164 #[.pointer (some ⟨g, 0, none⟩)] w fun e w' => e = .returned (.string r1) ∧ IsS139 w0 w' g s0_0 r2 r3 ∧ Below w0.heap.size w0 w' ∧ KeepBut w w' g none := by
 have HI0 := am hI
 have HK := am (KeepBut.refl w g none)
 have HL := am hB.size
 clear hI
 have HW0 := am hB.size
 have HB := am hB
 clear hB
 unfold spec_l3DrawBody.f at h
 have H := h
 clear h
 revert H
 refine ok3 fun t14 t18 t19 A2 H => ?_
 (try dsimp only at H)
 by_cases c3 : t14 = true
 rotate_left
 ·replace c3 := nb_ c3
  subst c3
  rw [if_neg ff_] at H
  revert H
  refine ok3 fun t17 t20 t21 A10 H => ?_
  (try dsimp only at H)
  simp only [Option.some.injEq, Prod.mk.injEq] at H
  obtain ⟨rfl, rfl, rfl⟩ := H
  go_enter Tryz.func164, Tryz.ntmps164
  go_wp2_with ((with_reducible refine gw ?_); first | (refine gl 4 Tryz.func165 #[.pointer (some ⟨g, 0, none⟩), .int .i64 2] ?_; refine (spec_l1Once.calls g s0_0 s0_1 s0_2 2 false t18 t19 w0 _ u164HI0 u164HB A2.out).mono ?_; rintro e w11 ⟨rfl, hi, hb, hk⟩; refine ⟨_, rfl, ?_⟩; replace HK := am (KeepBut.trans u164HK hk (.inl rfl)); replace HB := am (hb); replace HI0 := am (hi); clear hb hk hi) | (refine gl 9 Tryz.func181 #[.pointer (some ⟨g, 0, none⟩)] ?_; refine (spec_l1DrawText.calls k g s0_0 t18 t19 t17 t20 t21 w0 _ u164HI0 u164HB A10.out).mono ?_; rintro e w12 ⟨rfl, hi, hb, hk⟩; refine ⟨_, rfl, ?_⟩; replace HK := am (KeepBut.trans u164HK hk (.inl rfl)); replace HB := am (hb); replace HI0 := am (hi); clear hb hk hi))
  go_ret
  exact ⟨rf, u164HI0, u164HB, u164HK⟩
 subst c3
 rw [if_pos rfl] at H
 obtain ⟨y13, hy13⟩ : ∃ y_, y_ = (([(⟨#[]⟩ : ByteArray), (⟨#[104, 101, 108, 108, 111]⟩ : ByteArray), (⟨#[13, 10, 13, 10]⟩ : ByteArray), (⟨#[97, 0, 98]⟩ : ByteArray), (⟨#[111, 110, 101, 32, 116, 119, 111]⟩ : ByteArray)] : List ByteArray)) := ⟨_, rfl⟩
 (try with_reducible replace H := bs_ H)
 rw [← hy13] at H
 have Ny13 := am hy13
 clear hy13
 revert H
 refine ok3 fun t16 t22 t23 A4 H => ?_
 (try dsimp only at H)
 simp only [Option.some.injEq, Prod.mk.injEq] at H
 obtain ⟨rfl, rfl, rfl⟩ := H
 go_enter Tryz.func164, Tryz.ntmps164
 go_wp2_with (first | ((with_reducible refine gw ?_); refine gl 4 Tryz.func165 #[.pointer (some ⟨g, 0, none⟩), .int .i64 2] ?_; refine (spec_l1Once.calls g s0_0 s0_1 s0_2 2 true t18 t19 w0 _ u164HI0 u164HB A2.out).mono ?_; rintro e w5 ⟨rfl, hi, hb, hk⟩; refine ⟨_, rfl, ?_⟩; replace HK := am (KeepBut.trans u164HK hk (.inl rfl)); replace HB := am (hb); replace HI0 := am (hi); clear hb hk hi) | ((with_reducible refine gate_dst (N := 6) rfl ?_); refine rl Kd.string 9 6 ([(⟨#[]⟩ : ByteArray), (⟨#[104, 101, 108, 108, 111]⟩ : ByteArray), (⟨#[13, 10, 13, 10]⟩ : ByteArray), (⟨#[97, 0, 98]⟩ : ByteArray), (⟨#[111, 110, 101, 32, 116, 119, 111]⟩ : ByteArray)] : List ByteArray) [.string (⟨#[]⟩ : ByteArray), .string (⟨#[104, 101, 108, 108, 111]⟩ : ByteArray), .string (⟨#[13, 10, 13, 10]⟩ : ByteArray), .string (⟨#[97, 0, 98]⟩ : ByteArray), .string (⟨#[111, 110, 101, 32, 116, 119, 111]⟩ : ByteArray)] ?_; intro v24 w6 ho7 hb; (first | rw [← Ny13.out] at ho7 | (simp only [Int.reduceToNat] at ho7; rw [← Ny13.out] at ho7)); have HO15 := am (Kd.R_lower ho7 (keep_size (w := w) (g := g) (row := none) u164HK)); replace HK := am (KeepBut.trans u164HK (KeepBut.of_below hb g none) (.inl rfl)); replace HB := am (below_step u164HB hb); replace HI0 := am (IsS139.below u164HI0 hb); clear hb ho7; obtain ⟨Ao8, co8, eo8⟩ := Kd.R_slice HO15.out; subst eo8) | ((with_reducible refine gw ?_); refine gl 7 Tryz.func84 #[.pointer (some ⟨g, 0, none⟩), .slice Ao8 y13.length co8] ?_; refine (spec_l1Pick.calls g s0_0 t18 t19 _ _ y13 t16 t22 t23 w0 _ u164HI0 u164HB (rc HO15) ((Kd.R_reads' HO15.out).2.1) (far_slice (IsS139.own_ne HI0.out HO15.out (by decide))) A4.out).mono ?_; rintro e w9 ⟨rfl, hi, hb, hk⟩; refine ⟨_, rfl, ?_⟩; replace HO15 := am (Kd.R_mono (Kd.R_keep (IsS139.apart (show IsS139 w0 _ g s0_0 t18 t19 from u164HI0) (ro HO15) (by decide)) hk (fun _ h => h.2)) (fun _ h => h.1)); replace HK := am (KeepBut.trans u164HK hk (.inl rfl)); replace HB := am (hb); replace HI0 := am (hi); clear hb hk hi))
 go_ret
 exact ⟨rf, u164HI0, u164HB, u164HK⟩
theorem u124HI0 {p : Prop} (h : p := by repeat (first | (with_reducible first | exact HI0.out | apply IsS139.alloc | apply IsS139.drewN | apply IsS139.drew | apply IsS139.set_1 | apply IsS139.set_2 | apply IsS139.far (p := ⟨gb33, _, none⟩) (hne := NB0_33.out) | apply IsS139.far (p := ⟨gb18, _, none⟩) (hne := NB0_18.out)) | exact HI0.out)) : p := h
theorem u124HK {p : Prop} (h : p := by repeat (first | (with_reducible first | exact HK.out | apply KeepBut.set_ | apply keep_drewN | apply keep_drew | apply keep_alloc | refine keep_far ?_ GW33.out _ | refine keep_far ?_ GW18.out _) | exact HK.out)) : p := h
theorem u124HB {p : Prop} (h : p := by repeat (first | (with_reducible first | exact HB.out | apply below_alloc | apply pw_below_drewN | apply below_drew1 | refine below_set ?_ (IsS139.ge HI0.out) | refine below_set ?_ GE33.out | refine below_set ?_ GE18.out) | exact HB.out)) : p := h
def spec_l3DrawResp.f (k : Nat) (s0_0 : List Int) (s0_1 : Int) (s0_2 : Int) : Option (Int × (List (S116)) × ByteArray × Int × Int) := (spec_l1PickInt.f s0_0 s0_1 s0_2 (([200, 200, 200, 200, 404, 500, 304] : List Int))).bind fun bt41 => ((spec_l2DrawRight.f k s0_0 bt41.2.1 bt41.2.2).bind fun bt40 => ((spec_l3DrawBody.f k s0_0 bt40.2.1 bt40.2.2).bind fun bt42 => ((spec_l1Once.f s0_0 bt42.2.1 bt42.2.2 2).bind fun bt45 => (if bt45.1 = true then ((spec_l1Pick.f s0_0 bt45.2.1 bt45.2.2 (([(⟨#[109, 97, 120, 45, 97, 103, 101, 61, 53]⟩ : ByteArray), (⟨#[109, 97, 120, 45, 97, 103, 101, 61, 50, 48]⟩ : ByteArray), (⟨#[109, 97, 120, 45, 97, 103, 101, 61, 57]⟩ : ByteArray)] : List ByteArray))).bind fun bt47 => ((spec_Put.f k bt40.1 (⟨#[99, 97, 99, 104, 101, 45, 99, 111, 110, 116, 114, 111, 108]⟩ : ByteArray) bt47.1).bind fun t52 => (some (bt41.1, t52, bt42.1, bt47.2.1, bt47.2.2)))) else (some (bt41.1, bt40.1, bt42.1, bt45.2.1, bt45.2.2))))))
def spec_l3DrawResp.T3 : Bool × List (List Nat × List Nat) := (true, [([], []), ([0], [0]), ([], []), ([], []), ([2, 3], [2, 3]), ([1, 4, 4], [1, 4]), ([0, 1, 2, 3, 4, 5], []), ([6, 5, 5, 0, 1, 2, 3, 4, 5], [5, 6])])
def spec_l3DrawResp.B3 : List Nat := [0, 1, 0, 0, 12, 31, 63, 127]
theorem spec_l3DrawResp.tab3 : rtab .any (opsOf Tryz.f124 3) = spec_l3DrawResp.T3 := by kernel_rfl
theorem spec_l3DrawResp.bits3 : waitsOk spec_l3DrawResp.T3.2 spec_l3DrawResp.B3 = true := by kernel_rfl
theorem spec_l3DrawResp.calls (k : Nat) (g : Nat) (s0_0 : List Int) (s0_1 : Int) (s0_2 : Int) (r1 : Int) (r2 : List (S116)) (r3 : ByteArray) (r4 : Int) (r5 : Int) (w0 w : World) (hI : IsS139 w0 w g s0_0 s0_1 s0_2) (hB : Below w0.heap.size w0 w) (h : spec_l3DrawResp.f k s0_0 s0_1 s0_2 = some (r1, r2, r3, r4, r5)) :
  Calls Tryz.prog 124 #[.pointer (some ⟨g, 0, none⟩)] w fun e w' => ∃ v1_ : Value, e = .returned (.agg #[.int .i64 r1, v1_, .string r3]) ∧ Kd.R k116 116 w' w.heap.size (fun _ => True) v1_ r2 ∧ IsS139 w0 w' g s0_0 r4 r5 ∧ Below w0.heap.size w0 w' ∧ KeepBut w w' g none := by
 have hu29 := Tryz.underlying29
 have HI0 := am hI
 have HK := am (KeepBut.refl w g none)
 have HL := am hB.size
 clear hI
 have HW0 := am hB.size
 have HB := am hB
 clear hB
 unfold spec_l3DrawResp.f at h
 have H := h
 clear h
 obtain ⟨y43, hy43⟩ : ∃ y_, y_ = (([200, 200, 200, 200, 404, 500, 304] : List Int)) := ⟨_, rfl⟩
 (try with_reducible replace H := bs_ H)
 rw [← hy43] at H
 have Ny43 := am hy43
 clear hy43
 revert H
 refine ok3 fun t41 t55 t56 A2 H => ?_
 (try dsimp only at H)
 revert H
 refine ok3 fun t40 t53 t54 A3 H => ?_
 (try dsimp only at H)
 revert H
 refine ok3 fun t42 t48 t49 A4 H => ?_
 (try dsimp only at H)
 revert H
 refine ok3 fun t45 t50 t51 A5 H => ?_
 (try dsimp only at H)
 have HH6 := am H
 clear H
 go_enter Tryz.func124, Tryz.ntmps124
 go_upto_if 13 with (first | ((with_reducible refine gw ?_); refine bx 2 #[.int .i64 0, .slice none 0 0, .string (⟨#[]⟩ : ByteArray)] 29 ?_; intro gb33 hg w7 hbox hb; replace HB := am (below_step u124HB hb); have BK33 := am (hbox); have GW33 := am (hs hg (keep_size (w := w) (g := g) (row := none) u124HK)); have GE33 := am (Nat.le_trans HW0.out (hs hg (keep_size (w := w) (g := g) (row := none) u124HK))); replace HK := am (KeepBut.trans u124HK (KeepBut.of_below hb g none) (.inl rfl)); have NB0_33 := am (hl hg (IsS139.lt (show IsS139 w0 _ g s0_0 s0_1 s0_2 from u124HI0))); have NB33_0 := am (hh hg (IsS139.lt (show IsS139 w0 _ g s0_0 s0_1 s0_2 from u124HI0))); replace HI0 := am (IsS139.below u124HI0 hb); clear hb hbox hg) | ((with_reducible refine gate_dst (N := 5) rfl ?_); refine rl (Kd.int .i64) 3 5 ([200, 200, 200, 200, 404, 500, 304] : List Int) [.int .i64 200, .int .i64 200, .int .i64 200, .int .i64 200, .int .i64 404, .int .i64 500, .int .i64 304] ?_; intro v60 w8 ho9 hb; (first | rw [← Ny43.out] at ho9 | (simp only [Int.reduceToNat] at ho9; rw [← Ny43.out] at ho9)); have HO35 := am (Kd.R_lower ho9 (keep_size (w := w) (g := g) (row := none) u124HK)); replace BK33 := kb BK33 hb; replace HK := am (KeepBut.trans u124HK (KeepBut.of_below hb g none) (.inl rfl)); replace HB := am (below_step u124HB hb); replace HI0 := am (IsS139.below u124HI0 hb); clear hb ho9; obtain ⟨Ao10, co10, eo10⟩ := Kd.R_slice HO35.out; subst eo10) | ((with_reducible refine gw ?_); refine gl 6 Tryz.func75 #[.pointer (some ⟨g, 0, none⟩), .slice Ao10 y43.length co10] ?_; refine (spec_l1PickInt.calls g s0_0 s0_1 s0_2 _ _ y43 t41 t55 t56 w0 _ u124HI0 u124HB (rc HO35) ((Kd.R_reads' HO35.out).2.1) (far_slice (IsS139.own_ne HI0.out HO35.out (by decide))) A2.out).mono ?_; rintro e w11 ⟨rfl, hi, hb, hk⟩; refine ⟨_, rfl, ?_⟩; replace BK33 := kp BK33 hk NB33_0; replace HO35 := am (Kd.R_mono (Kd.R_keep (IsS139.apart (show IsS139 w0 _ g s0_0 s0_1 s0_2 from u124HI0) (ro HO35) (by decide)) hk (fun _ h => h.2)) (fun _ h => h.1)); replace HK := am (KeepBut.trans u124HK hk (.inl rfl)); replace HB := am (hb); replace HI0 := am (hi); clear hb hk hi) | ((with_reducible refine gw ?_); refine gl 8 Tryz.func145 #[.pointer (some ⟨g, 0, none⟩)] ?_; refine (spec_l2DrawRight.calls k g s0_0 t55 t56 t40 t53 t54 w0 _ u124HI0 u124HB A3.out).mono ?_; rintro e w12 ⟨v61, rfl, ho0, hi, hb, hk⟩; refine ⟨_, rfl, ?_⟩; replace BK33 := kp BK33 hk NB33_0; replace HO35 := am (Kd.R_mono (Kd.R_keep (IsS139.apart (show IsS139 w0 _ g s0_0 t55 t56 from u124HI0) (ro HO35) (by decide)) hk (fun _ h => h.2)) (fun _ h => h.1)); have HO38 := am (Kd.R_lower ho0 (keep_size (w := w) (g := g) (row := none) u124HK)); replace HK := am (KeepBut.trans u124HK hk (.inl rfl)); replace HB := am (hb); replace HI0 := am (hi); clear hb hk hi ho0) | ((with_reducible refine gw ?_); refine gl 10 Tryz.func164 #[.pointer (some ⟨g, 0, none⟩)] ?_; refine (spec_l3DrawBody.calls k g s0_0 t53 t54 t42 t48 t49 w0 _ u124HI0 u124HB A4.out).mono ?_; rintro e w13 ⟨rfl, hi, hb, hk⟩; refine ⟨_, rfl, ?_⟩; replace BK33 := kp BK33 hk NB33_0; replace HO35 := am (Kd.R_mono (Kd.R_keep (IsS139.apart (show IsS139 w0 _ g s0_0 t53 t54 from u124HI0) (ro HO35) (by decide)) hk (fun _ h => h.2)) (fun _ h => h.1)); replace HO38 := am (Kd.R_mono (Kd.R_keep (IsS139.apart (show IsS139 w0 _ g s0_0 t53 t54 from u124HI0) (ro HO38) (by decide)) hk (fun _ h => h.2)) (fun _ h => h.1)); replace HK := am (KeepBut.trans u124HK hk (.inl rfl)); replace HB := am (hb); replace HI0 := am (hi); clear hb hk hi; obtain ⟨Ao14, co14, eo14⟩ := Kd.R_slice HO38.out; subst eo14) | ((with_reducible refine gw ?_); refine bx 3 #[.int .i64 0, .slice none 0 0, .string (⟨#[]⟩ : ByteArray)] 29 ?_; intro gb18 hg w15 hbox hb; replace HO35 := am (Kd.R_below (ro HO35) hb); replace HO38 := am (Kd.R_below (ro HO38) hb); replace HB := am (below_step u124HB hb); have BK18 := am (hbox); have GW18 := am (hs hg (keep_size (w := w) (g := g) (row := none) u124HK)); have GE18 := am (Nat.le_trans HW0.out (hs hg (keep_size (w := w) (g := g) (row := none) u124HK))); replace HK := am (KeepBut.trans u124HK (KeepBut.of_below hb g none) (.inl rfl)); have NB33_18 := am (nl hg BK33 : gb33 ≠ gb18); have NB18_33 := am (ng hg BK33 : gb18 ≠ gb33); replace BK33 := kb BK33 hb; have NB0_18 := am (hl hg (IsS139.lt (show IsS139 w0 _ g s0_0 t48 t49 from u124HI0))); have NB18_0 := am (hh hg (IsS139.lt (show IsS139 w0 _ g s0_0 t48 t49 from u124HI0))); replace HI0 := am (IsS139.below u124HI0 hb); clear hb hbox hg; have hnb16 := NB18_33.out; have hnc16 := NB33_18.out; have hnb17 := NB18_0.out; have hnc17 := NB0_18.out; obtain ⟨_, _, _, _, _, _⟩ := cl3 BK18) | ((with_reducible refine gw ?_); refine gl 13 Tryz.func165 #[.pointer (some ⟨g, 0, none⟩), .int .i64 2] ?_; refine (spec_l1Once.calls g s0_0 t48 t49 2 t45 t50 t51 w0 _ u124HI0 u124HB A5.out).mono ?_; rintro e w19 ⟨rfl, hi, hb, hk⟩; refine ⟨_, rfl, ?_⟩; replace BK33 := am (KeepBut.blk hk (g' := gb33) (o := .cells #[.int .i64 0, .slice none 0 0, .string (⟨#[]⟩ : ByteArray)] 29 (0, 0)) (bg1 BK33 NB33_18) NB33_0.out (by simp)); replace HO35 := am (Kd.R_mono (Kd.R_keep (IsS139.apart (show IsS139 w0 _ g s0_0 t48 t49 from u124HI0) (rj (Kd.R_types HO35.out BK18.out (by decide)) (fun _ h_ => h_.1)) (by decide)) hk (fun _ h => h.2)) (fun _ h => h.1)); replace HO38 := am (Kd.R_mono (Kd.R_keep (IsS139.apart (show IsS139 w0 _ g s0_0 t48 t49 from u124HI0) (rj (Kd.R_types HO38.out BK18.out (by decide)) (fun _ h_ => h_.1)) (by decide)) hk (fun _ h => h.2)) (fun _ h => h.1)); replace BK18 := am (KeepBut.blk hk (g' := gb18) (o := .cells #[.int .i64 t41, .slice Ao14 t40.length co14, .string t42] 29 (0, 0)) (pt0 BK18) NB18_0.out (by simp)); replace HK := am (KeepBut.trans u124HK hk (.inl rfl)); replace HB := am (hb); replace HI0 := am (hi); clear hb hk hi))
 have H := HH6.out
 clear HH6
 by_cases c20 : t45 = true
 rotate_left
 ·replace c20 := nb_ c20
  subst c20
  rw [if_neg ff_] at H
  simp only [Option.some.injEq, Prod.mk.injEq] at H
  obtain ⟨rfl, rfl, rfl, rfl, rfl⟩ := H
  have hnb36 := NB18_33.out
  have hnc36 := NB33_18.out
  have hnb37 := NB18_0.out
  have hnc37 := NB0_18.out
  obtain ⟨_, _, _, _, _, _⟩ := cl3 BK18
  have hnb39 := NB33_0.out
  have hnc39 := NB0_33.out
  obtain ⟨_, _, _, _, _, _⟩ := cl3 BK33
  go_wp2
  refine bodyPost_ret (results_cell_row rfl _ _ gb33 29 #[.int .i64 t41, .slice Ao14 t40.length co14, .string t42] (0, 0) _ rfl (pt0 BK33) Tryz.underlying29 rfl (by kernel_rfl)) rfl ?_
  exact ⟨_, rf, rj (Kd.R_types HO38.out BK33.out (by decide)) (fun _ hk => trivial), u124HI0, u124HB, u124HK⟩
 subst c20
 rw [if_pos rfl] at H
 obtain ⟨y44, hy44⟩ : ∃ y_, y_ = (([(⟨#[109, 97, 120, 45, 97, 103, 101, 61, 53]⟩ : ByteArray), (⟨#[109, 97, 120, 45, 97, 103, 101, 61, 50, 48]⟩ : ByteArray), (⟨#[109, 97, 120, 45, 97, 103, 101, 61, 57]⟩ : ByteArray)] : List ByteArray)) := ⟨_, rfl⟩
 (try with_reducible replace H := bs_ H)
 rw [← hy44] at H
 have Ny44 := am hy44
 clear hy44
 revert H
 refine ok3 fun t47 t58 t59 A21 H => ?_
 (try dsimp only at H)
 revert H
 refine ok1 fun t52 A22 H => ?_
 simp only [Option.some.injEq, Prod.mk.injEq] at H
 obtain ⟨rfl, rfl, rfl, rfl, rfl⟩ := H
 try go_wp2
 replace HO35 := am (Kd.R_drew HO35.out)
 replace HO38 := am (Kd.R_drew HO38.out)
 replace BK33 := am (blk_drew BK33.out)
 replace BK18 := am (blk_drew BK18.out)
 replace HI0 := am (IsS139.drew HI0.out)
 replace HK := am (keep_drew HK.out)
 replace HB := am (below_drew1 HB.out)
 refine start_ (n := 8) (S := fun w' => w'.cell? ⟨gb18, 0, none⟩ = some (.int .i64 t41) ∧ w'.cell? ⟨gb18, 1, none⟩ = some (.slice Ao14 t40.length co14) ∧ w'.cell? ⟨gb18, 2, none⟩ = some (.string t42)) (ds := [7]) ⟨br true [0, 8]⟩ (by kernel_rfl) rfl (by kernel_rfl) ⟨bc BK18, bc BK18, bc BK18⟩ (fun hHeld => ?_); refine with_tabW spec_l3DrawResp.tab3 spec_l3DrawResp.bits3 (fun HT_ HW_ => ?_)
 generalize w19.drew = w23 at HO35 HO38 BK33 BK18 HI0 HK HB hHeld ⊢
 refine pu 0 14 [1, 7] ?_
 refine pu 2 16 [1, 1, 1, 5] ?_
 refine tk 1 15 [3, 5] ?_
 refine one_ (i := 3) (N := some 17) #[true, true, true, true, false, false, false, false] rfl rfl (one_of HT_.out (by kernel_rfl)) (by decide) (fun K hK => ?_)
 refine Kd.R_lit_step Kd.string _ 9 ?hg (N := 17) ?hd (xs := ([(⟨#[109, 97, 120, 45, 97, 103, 101, 61, 53]⟩ : ByteArray), (⟨#[109, 97, 120, 45, 97, 103, 101, 61, 50, 48]⟩ : ByteArray), (⟨#[109, 97, 120, 45, 97, 103, 101, 61, 57]⟩ : ByteArray)] : List ByteArray)) (inner := [.string (⟨#[109, 97, 120, 45, 97, 103, 101, 61, 53]⟩ : ByteArray), .string (⟨#[109, 97, 120, 45, 97, 103, 101, 61, 50, 48]⟩ : ByteArray), .string (⟨#[109, 97, 120, 45, 97, 103, 101, 61, 57]⟩ : ByteArray)]) (ok := fun _ => True) (okp := fun _ => True) ?hr ?hp (fun _ hk => hk) trivial (Below.refl _ _) (Nat.le_refl _) (by simp) ?_; (case hd => rfl); (case hg => rfl); (case hr => first | (go_simp; done) | (go_simp; rfl)); (case hp => exact rp)
 intro v62 w24 ho25 hb hg_ hnew_
 clear hg_ hnew_
 (first | rw [← Ny44.out] at ho25 | (simp only [Int.reduceToNat] at ho25; rw [← Ny44.out] at ho25))
 replace HO35 := kr HO35 hb
 replace HO38 := kr HO38 hb
 have HO46 := am (Kd.R_lower ho25 (keep_size (w := w) (g := g) (row := none) u124HK))
 replace BK33 := kb BK33 hb
 replace BK18 := kb BK18 hb
 replace HK := am (KeepBut.trans u124HK (KeepBut.of_below hb g none) (.inl rfl))
 replace HB := am (below_step u124HB hb)
 replace HI0 := am (IsS139.below u124HI0 hb)
 clear hb ho25
 obtain ⟨Ao26, co26, eo26⟩ := Kd.R_slice HO46.out
 (first | subst eo26 | (injection eo26 with f1_ f2_ f3_; have f4_ := f1_.symm; have f5_ := f3_.symm; clear f1_ f2_ f3_; subst f4_; subst f5_))
 refine hK.out _ _ ⟨bc BK18, bc BK18, bc BK18⟩ (fun hHeld => ?_)
 clear hK K
 refine nm 17 ?_
 refine og 4 18 [5, 3] Tryz.func84 #[.pointer (some ⟨g, 0, none⟩), .slice Ao26 y44.length co26] (fun K hK => ?_)
 refine (spec_l1Pick.calls g s0_0 t50 t51 _ _ y44 t47 t58 t59 w0 _ u124HI0 u124HB (rc HO46) ((Kd.R_reads' HO46.out).2.1) (far_slice (IsS139.own_ne HI0.out HO46.out (by decide))) A21.out).mono ?_
 rintro e w27 ⟨rfl, hi, hb, hk⟩
 refine ⟨_, rfl, ?_⟩
 replace BK33 := kp BK33 hk NB33_0
 replace HO35 := am (Kd.R_mono (Kd.R_keep (IsS139.apart (show IsS139 w0 _ g s0_0 t50 t51 from u124HI0) (ro HO35) (by decide)) hk (fun _ h => h.2)) (fun _ h => h.1))
 replace HO38 := am (Kd.R_mono (Kd.R_keep (IsS139.apart (show IsS139 w0 _ g s0_0 t50 t51 from u124HI0) (ro HO38) (by decide)) hk (fun _ h => h.2)) (fun _ h => h.1))
 replace BK18 := kp BK18 hk NB18_0
 replace HO46 := am (Kd.R_mono (Kd.R_keep (IsS139.apart (show IsS139 w0 _ g s0_0 t50 t51 from u124HI0) (ro HO46) (by decide)) hk (fun _ h => h.2)) (fun _ h => h.1))
 replace HK := am (KeepBut.trans u124HK hk (.inl rfl))
 replace HB := am (hb)
 replace HI0 := am (hi)
 clear hb hk hi
 refine hK.out _ _ ⟨bc BK18, bc BK18, bc BK18⟩ (fun hHeld => ?_)
 clear hK K
 refine nm 18 ?_
 refine og 5 19 [6, 2] Tryz.func103 #[.slice Ao14 t40.length co14, .string (⟨#[99, 97, 99, 104, 101, 45, 99, 111, 110, 116, 114, 111, 108]⟩ : ByteArray), .string t47] (fun K hK => ?_)
 refine (spec_Put.calls k _ _ t40 (⟨#[99, 97, 99, 104, 101, 45, 99, 111, 110, 116, 114, 111, 108]⟩ : ByteArray) t47 t52 _ (rc HO38) ((Kd.R_reads' HO38.out).2.1) A22.out).mono ?_
 rintro e w28 ⟨v63, rfl, ho0, hb⟩
 refine ⟨_, rfl, ?_⟩
 replace HO35 := kr HO35 hb
 replace HO46 := kr HO46 hb
 have HO57 := am (Kd.R_lower (Kd.R_new' ho0 (Kd.R_lt (ro HO38))) (keep_size (w := w) (g := g) (row := none) u124HK))
 replace HO38 := am (Kd.R_elder' (ro HO38) (Kd.R_base ho0) hb)
 replace BK33 := kb BK33 hb
 replace BK18 := kb BK18 hb
 replace HK := am (KeepBut.trans u124HK (KeepBut.of_below hb g none) (.inl rfl))
 replace HB := am (below_step u124HB hb)
 replace HI0 := am (IsS139.below u124HI0 hb)
 clear hb ho0
 obtain ⟨Ao29, co29, eo29⟩ := Kd.R_slice HO57.out
 (first | subst eo29 | (injection eo29 with f1_ f2_ f3_; have f4_ := f1_.symm; have f5_ := f3_.symm; clear f1_ f2_ f3_; subst f4_; subst f5_))
 refine hK.out _ _ ⟨bc BK18, bc BK18, bc BK18⟩ (fun hHeld => ?_)
 clear hK K
 refine nm 19 ?_
 refine pu 6 20 [7, 1] ?_
 refine last_ (i := 7) (N := none) #[true, true, true, true, true, true, true, true] rfl rfl (one_of HT_.out (by kernel_rfl)) (by decide) (fun K hK => ?_)
 have hs30 : w28.cell? ⟨gb18, 1, none⟩ = some (.slice Ao14 t40.length co14) := bc BK18
 have hfs30 := blk_frozen BK18.out 1
 have hns30_0 := NB33_18.out
 have hms30_0 := NB18_33.out
 refine skip_ (w1 := ?_) (by rfl) rfl ?_ ?_
 rotate_left
 ·go_simp
  rfl
 refine hK.out _ _ ?_
 clear hK K
 refine done_ (done_of HT_.out (by kernel_rfl)) ?_
 have hnb31 := NB18_33.out
 have hnc31 := NB33_18.out
 have hnb32 := NB18_0.out
 have hnc32 := NB0_18.out
 obtain ⟨_, _, _, _, _, _⟩ := cl3 BK18
 have hnb34 := NB33_0.out
 have hnc34 := NB0_33.out
 obtain ⟨_, _, _, _, _, _⟩ := cl3 BK33
 try go_wp2
 refine bodyPost_ret (results_cell_row rfl _ _ gb33 29 #[.int .i64 t41, .slice Ao29 t52.length co29, .string t42] (0, 0) _ rfl (pt1 BK33 NB33_18) Tryz.underlying29 rfl (by kernel_rfl)) rfl ?_
 exact ⟨_, rf, rj (Kd.R_types (Kd.R_types HO57.out BK18.out (by decide)) BK33.out (by decide)) (fun _ hk => trivial), u124HI0, u124HB, u124HK⟩
theorem u96HI0 {p : Prop} (h : p := by repeat (first | (with_reducible first | exact HI0.out | apply IsS139.alloc | apply IsS139.drewN | apply IsS139.drew | apply IsS139.set_1 | apply IsS139.set_2 | apply IsS139.far (p := ⟨gb10, _, none⟩) (hne := NB0_10.out) | apply IsS139.far (p := ⟨gb21, _, none⟩) (hne := NB0_21.out)) | exact HI0.out)) : p := h
theorem u96HK {p : Prop} (h : p := by repeat (first | (with_reducible first | exact HK.out | apply KeepBut.set_ | apply keep_drewN | apply keep_drew | apply keep_alloc | refine keep_far ?_ GW10.out _ | refine keep_far ?_ GW21.out _) | exact HK.out)) : p := h
theorem u96HB {p : Prop} (h : p := by repeat (first | (with_reducible first | exact HB.out | apply below_alloc | apply pw_below_drewN | apply below_drew1 | refine below_set ?_ (IsS139.ge HI0.out) | refine below_set ?_ GE10.out | refine below_set ?_ GE21.out) | exact HB.out)) : p := h
def spec_l3DrawBadResp.l0 : Nat → List Int → Int → Int → Int → List (S116) → ByteArray → Option (Int × (List (S116)) × ByteArray × Int × Int)
 | 0, _, _, _, _, _, _ => none
 | k + 1, x63, x53, x54, x65, x66, x45 => (spec_l1Below.f x63 x53 x54 2).bind fun bt52 => (if (x45.size : Int) < (wrap64 (120 + bt52.1)) then (if x45.size + 1 ≤ 9223372036854775807 then (spec_l3DrawBadResp.l0 k x63 bt52.2.1 bt52.2.2 x65 x66 (x45 ++ (⟨#[98]⟩ : ByteArray))) else (none)) else (some (x65, x66, x45, bt52.2.1, bt52.2.2)))
def spec_l3DrawBadResp.f (k : Nat) (s0_0 : List Int) (s0_1 : Int) (s0_2 : Int) : Option (Int × (List (S116)) × ByteArray × Int × Int) := (spec_l3DrawResp.f k s0_0 s0_1 s0_2).bind fun bt23 => ((spec_l1Below.f s0_0 bt23.2.2.2.1 bt23.2.2.2.2 20).bind fun bt30 => (if bt30.1 = 0 then ((spec_l1PickInt.f s0_0 bt30.2.1 bt30.2.2 (([99, 100, 599, 600, (-1)] : List Int))).bind fun bt57 => (some (bt57.1, bt23.2.1, bt23.2.2.1, bt57.2.1, bt57.2.2))) else (if bt30.1 = 1 then ((spec_l2Draw.f k s0_0 bt30.2.1 bt30.2.2).bind fun bt58 => (some (bt23.1, bt58.1, bt23.2.2.1, bt58.2.1, bt58.2.2))) else (if bt30.1 = 2 then (spec_l3DrawBadResp.l0 k s0_0 bt30.2.1 bt30.2.2 bt23.1 bt23.2.1 bt23.2.2.1) else (some (bt23.1, bt23.2.1, bt23.2.2.1, bt30.2.1, bt30.2.2))))))
theorem spec_l3DrawBadResp.calls (k : Nat) (g : Nat) (s0_0 : List Int) (s0_1 : Int) (s0_2 : Int) (r1 : Int) (r2 : List (S116)) (r3 : ByteArray) (r4 : Int) (r5 : Int) (w0 w : World) (hI : IsS139 w0 w g s0_0 s0_1 s0_2) (hB : Below w0.heap.size w0 w) (h : spec_l3DrawBadResp.f k s0_0 s0_1 s0_2 = some (r1, r2, r3, r4, r5)) :
  Calls Tryz.prog 96 #[.pointer (some ⟨g, 0, none⟩)] w fun e w' => ∃ v1_ : Value, e = .returned (.agg #[.int .i64 r1, v1_, .string r3]) ∧ Kd.R k116 116 w' w.heap.size (fun _ => True) v1_ r2 ∧ IsS139 w0 w' g s0_0 r4 r5 ∧ Below w0.heap.size w0 w' ∧ KeepBut w w' g none := by
 have hu29 := Tryz.underlying29
 have HI0 := am hI
 have HK := am (KeepBut.refl w g none)
 have HL := am hB.size
 clear hI
 have HW0 := am hB.size
 have HB := am hB
 clear hB
 unfold spec_l3DrawBadResp.f at h
 have H := h
 clear h
 revert H
 refine ok5 fun t23 t47 t59 t61 t62 A2 H => ?_
 (try dsimp only at H)
 revert H
 refine ok3 fun t30 t55 t56 A3 H => ?_
 (try dsimp only at H)
 have HH4 := am H
 clear H
 go_enter Tryz.func96, Tryz.ntmps96
 go_upto_if 8 with ((with_reducible refine gw ?_); first | (refine bx 2 #[.int .i64 0, .slice none 0 0, .string (⟨#[]⟩ : ByteArray)] 29 ?_; intro gb10 hg w5 hbox hb; replace HB := am (below_step u96HB hb); have BK10 := am (hbox); have GW10 := am (hs hg (keep_size (w := w) (g := g) (row := none) u96HK)); have GE10 := am (Nat.le_trans HW0.out (hs hg (keep_size (w := w) (g := g) (row := none) u96HK))); replace HK := am (KeepBut.trans u96HK (KeepBut.of_below hb g none) (.inl rfl)); have NB0_10 := am (hl hg (IsS139.lt (show IsS139 w0 _ g s0_0 s0_1 s0_2 from u96HI0))); have NB10_0 := am (hh hg (IsS139.lt (show IsS139 w0 _ g s0_0 s0_1 s0_2 from u96HI0))); replace HI0 := am (IsS139.below u96HI0 hb); clear hb hbox hg) | (refine gl 5 Tryz.func124 #[.pointer (some ⟨g, 0, none⟩)] ?_; refine (spec_l3DrawResp.calls k g s0_0 s0_1 s0_2 t23 t47 t59 t61 t62 w0 _ u96HI0 u96HB A2.out).mono ?_; rintro e w6 ⟨v76, rfl, ho0, hi, hb, hk⟩; refine ⟨_, rfl, ?_⟩; replace BK10 := kp BK10 hk NB10_0; have HO42 := am (Kd.R_lower ho0 (keep_size (w := w) (g := g) (row := none) u96HK)); replace HK := am (KeepBut.trans u96HK hk (.inl rfl)); replace HB := am (hb); replace HI0 := am (hi); clear hb hk hi ho0) | (refine bx 3 #[.int .i64 0, .slice none 0 0, .string (⟨#[]⟩ : ByteArray)] 29 ?_; intro gb21 hg w7 hbox hb; replace HO42 := am (Kd.R_below (ro HO42) hb); replace HB := am (below_step u96HB hb); have BK21 := am (hbox); have GW21 := am (hs hg (keep_size (w := w) (g := g) (row := none) u96HK)); have GE21 := am (Nat.le_trans HW0.out (hs hg (keep_size (w := w) (g := g) (row := none) u96HK))); replace HK := am (KeepBut.trans u96HK (KeepBut.of_below hb g none) (.inl rfl)); have NB10_21 := am (nl hg BK10 : gb10 ≠ gb21); have NB21_10 := am (ng hg BK10 : gb21 ≠ gb10); replace BK10 := kb BK10 hb; have NB0_21 := am (hl hg (IsS139.lt (show IsS139 w0 _ g s0_0 t61 t62 from u96HI0))); have NB21_0 := am (hh hg (IsS139.lt (show IsS139 w0 _ g s0_0 t61 t62 from u96HI0))); replace HI0 := am (IsS139.below u96HI0 hb); clear hb hbox hg; have hnb8 := NB21_10.out; have hnc8 := NB10_21.out; have hnb9 := NB21_0.out; have hnc9 := NB0_21.out; obtain ⟨_, _, _, _, _, _⟩ := cl3 BK21; obtain ⟨Ao11, co11, eo11⟩ := Kd.R_slice HO42.out; subst eo11) | (refine gl 7 Tryz.func74 #[.pointer (some ⟨g, 0, none⟩), .int .i64 20] ?_; refine (spec_l1Below.calls g s0_0 t61 t62 20 t30 t55 t56 w0 _ u96HI0 u96HB A3.out).mono ?_; rintro e w12 ⟨rfl, hi, hb, hk⟩; refine ⟨_, rfl, ?_⟩; replace BK10 := am (KeepBut.blk hk (g' := gb10) (o := .cells #[.int .i64 0, .slice none 0 0, .string (⟨#[]⟩ : ByteArray)] 29 (0, 0)) (bg1 BK10 NB10_21) NB10_0.out (by simp)); replace HO42 := am (Kd.R_mono (Kd.R_keep (IsS139.apart (show IsS139 w0 _ g s0_0 t61 t62 from u96HI0) (rj (Kd.R_types HO42.out BK21.out (by decide)) (fun _ h_ => h_.1)) (by decide)) hk (fun _ h => h.2)) (fun _ h => h.1)); replace BK21 := am (KeepBut.blk hk (g' := gb21) (o := .cells #[.int .i64 t23, .slice Ao11 t47.length co11, .string t59] 29 (0, 0)) (pt0 BK21) NB21_0.out (by simp)); replace HK := am (KeepBut.trans u96HK hk (.inl rfl)); replace HB := am (hb); replace HI0 := am (hi); clear hb hk hi))
 have H := HH4.out
 clear HH4
 by_cases c13 : t30 = 0
 ·rw [if_pos c13] at H
  have c13b0 := eqt c13
  have c13b1 := nef c13
  clear c13
  (first | rw [c13b0] | (simp only [i64_w, i32_w]; rw [c13b0]) | skip)
  obtain ⟨y50, hy50⟩ : ∃ y_, y_ = (([99, 100, 599, 600, (-1)] : List Int)) := ⟨_, rfl⟩
  (try with_reducible replace H := bs_ H)
  rw [← hy50] at H
  have Ny50 := am hy50
  clear hy50
  revert H
  refine ok3 fun t57 t70 t71 A14 H => ?_
  (try dsimp only at H)
  simp only [Option.some.injEq, Prod.mk.injEq] at H
  obtain ⟨rfl, rfl, rfl, rfl, rfl⟩ := H
  go_wp2_with (first | ((with_reducible refine gate_dst (N := 11) rfl ?_); refine rl (Kd.int .i64) 3 11 ([99, 100, 599, 600, (-1)] : List Int) [.int .i64 99, .int .i64 100, .int .i64 599, .int .i64 600, .int .i64 (-1)] ?_; intro v77 w15 ho16 hb; (first | rw [← Ny50.out] at ho16 | (simp only [Int.reduceToNat] at ho16; rw [← Ny50.out] at ho16)); replace HO42 := kr HO42 hb; have HO60 := am (Kd.R_lower ho16 (keep_size (w := w) (g := g) (row := none) u96HK)); replace BK10 := kb BK10 hb; replace BK21 := kb BK21 hb; replace HK := am (KeepBut.trans u96HK (KeepBut.of_below hb g none) (.inl rfl)); replace HB := am (below_step u96HB hb); replace HI0 := am (IsS139.below u96HI0 hb); clear hb ho16; obtain ⟨Ao17, co17, eo17⟩ := Kd.R_slice HO60.out; subst eo17) | ((with_reducible refine gw ?_); first | (refine gl 12 Tryz.func75 #[.pointer (some ⟨g, 0, none⟩), .slice Ao17 y50.length co17] ?_; refine (spec_l1PickInt.calls g s0_0 t55 t56 _ _ y50 t57 t70 t71 w0 _ u96HI0 u96HB (rc HO60) ((Kd.R_reads' HO60.out).2.1) (far_slice (IsS139.own_ne HI0.out HO60.out (by decide))) A14.out).mono ?_; rintro e w18 ⟨rfl, hi, hb, hk⟩; refine ⟨_, rfl, ?_⟩; replace BK10 := kp BK10 hk NB10_0; replace HO42 := am (Kd.R_mono (Kd.R_keep (IsS139.apart (show IsS139 w0 _ g s0_0 t55 t56 from u96HI0) (ro HO42) (by decide)) hk (fun _ h => h.2)) (fun _ h => h.1)); replace BK21 := kp BK21 hk NB21_0; replace HO60 := am (Kd.R_mono (Kd.R_keep (IsS139.apart (show IsS139 w0 _ g s0_0 t55 t56 from u96HI0) (ro HO60) (by decide)) hk (fun _ h => h.2)) (fun _ h => h.1)); replace HK := am (KeepBut.trans u96HK hk (.inl rfl)); replace HB := am (hb); replace HI0 := am (hi); clear hb hk hi; have hnb19 := NB21_10.out; have hnc19 := NB10_21.out; have hnb20 := NB21_0.out; have hnc20 := NB0_21.out; obtain ⟨_, _, _, _, _, _⟩ := cl3 BK21; have hnb22 := NB10_0.out; have hnc22 := NB0_10.out; obtain ⟨_, _, _, _, _, _⟩ := cl3 BK10)))
  refine bodyPost_ret (results_cell_row rfl _ _ gb10 29 #[.int .i64 t57, .slice Ao11 t47.length co11, .string t59] (0, 0) _ rfl (pt1 BK10 NB10_21) Tryz.underlying29 rfl (by kernel_rfl)) rfl ?_
  exact ⟨_, rf, rj (Kd.R_types (Kd.R_types HO42.out BK21.out (by decide)) BK10.out (by decide)) (fun _ hk => trivial), u96HI0, u96HB, u96HK⟩
 rw [if_neg c13] at H
 have c13b0 := eqf c13
 have c13b1 := net c13
 (first | rw [c13b0] | (simp only [i64_w, i32_w]; rw [c13b0]) | skip)
 by_cases c24 : t30 = 1
 ·rw [if_pos c24] at H
  have c24b0 := eqt c24
  have c24b1 := nef c24
  clear c24
  revert H
  refine ok3 fun t58 t72 t73 A25 H => ?_
  (try dsimp only at H)
  simp only [Option.some.injEq, Prod.mk.injEq] at H
  obtain ⟨rfl, rfl, rfl, rfl, rfl⟩ := H
  go_wp2_with ((with_reducible refine gw ?_); first | (refine gl 17 Tryz.func85 #[.pointer (some ⟨g, 0, none⟩)] ?_; refine (spec_l2Draw.calls k g s0_0 t55 t56 t58 t72 t73 w0 _ u96HI0 u96HB A25.out).mono ?_; rintro e w26 ⟨v78, rfl, ho0, hi, hb, hk⟩; refine ⟨_, rfl, ?_⟩; replace BK10 := kp BK10 hk NB10_0; replace BK21 := kp BK21 hk NB21_0; have HO67 := am (Kd.R_lower (Kd.R_new' ho0 (Kd.R_lt (ro HO42))) (keep_size (w := w) (g := g) (row := none) u96HK)); replace HO42 := am (Kd.R_mono (Kd.R_told (Kd.R_oldK (IsS139.apart (show IsS139 w0 _ g s0_0 t55 t56 from u96HI0) (ro HO42) (by decide)) hk) (Kd.R_base ho0)) (fun _ h_ => h_.1)); replace HK := am (KeepBut.trans u96HK hk (.inl rfl)); replace HB := am (hb); replace HI0 := am (hi); clear hb hk hi ho0; obtain ⟨Ao27, co27, eo27⟩ := Kd.R_slice HO67.out; subst eo27; have hnb28 := NB21_10.out; have hnc28 := NB10_21.out; have hnb29 := NB21_0.out; have hnc29 := NB0_21.out; obtain ⟨_, _, _, _, _, _⟩ := cl3 BK21; have hnb31 := NB10_0.out; have hnc31 := NB0_10.out; obtain ⟨_, _, _, _, _, _⟩ := cl3 BK10))
  refine bodyPost_ret (results_cell_row rfl _ _ gb10 29 #[.int .i64 t23, .slice Ao27 t58.length co27, .string t59] (0, 0) _ rfl (pt1 BK10 NB10_21) Tryz.underlying29 rfl (by kernel_rfl)) rfl ?_
  exact ⟨_, rf, rj (Kd.R_types (Kd.R_types HO67.out BK21.out (by decide)) BK10.out (by decide)) (fun _ hk => trivial), u96HI0, u96HB, u96HK⟩
 rw [if_neg c24] at H
 have c24b0 := eqf c24
 have c24b1 := net c24
 by_cases c33 : t30 = 2
 rotate_left
 ·rw [if_neg c33] at H
  have c33b0 := eqf c33
  have c33b1 := net c33
  simp only [Option.some.injEq, Prod.mk.injEq] at H
  obtain ⟨rfl, rfl, rfl, rfl, rfl⟩ := H
  have hnb48 := NB21_10.out
  have hnc48 := NB10_21.out
  have hnb49 := NB21_0.out
  have hnc49 := NB0_21.out
  obtain ⟨_, _, _, _, _, _⟩ := cl3 BK21
  have hnb51 := NB10_0.out
  have hnc51 := NB0_10.out
  obtain ⟨_, _, _, _, _, _⟩ := cl3 BK10
  go_wp2
  refine bodyPost_ret (results_cell_row rfl _ _ gb10 29 #[.int .i64 t23, .slice Ao11 t47.length co11, .string t59] (0, 0) _ rfl (pt0 BK10) Tryz.underlying29 rfl (by kernel_rfl)) rfl ?_
  exact ⟨_, rf, rj (Kd.R_types HO42.out BK10.out (by decide)) (fun _ hk => trivial), u96HI0, u96HB, u96HK⟩
 rw [if_pos c33] at H
 have c33b0 := eqt c33
 have c33b1 := nef c33
 clear c33
 have H' := am H
 clear H
 go_wp2
 (try simp only [Act.put, List.setIfInBounds_toArray, List.set_cons_zero, List.set_cons_succ])
 go_loopg [] k (fun kq w' => ∃ (x53_1 : Int) (x54_1 : Int) (x45_1 : ByteArray), Aside0 (spec_l3DrawBadResp.l0 kq s0_0 x53_1 x54_1 t23 t47 x45_1 = some (r1, r2, r3, r4, r5)) ∧ Aside0 (kq ≤ k) ∧ Aside0 (Kd.R k116 116 w' w.heap.size (fun _ => True) (.slice Ao11 t47.length co11) t47) ∧ Aside0 (w'.heap[gb10]? = some (.cells #[.int .i64 0, (.slice none 0 0), .string (⟨#[]⟩ : ByteArray)] 29 (0, 0))) ∧ Aside0 (w'.heap[gb21]? = some (.cells #[.int .i64 t23, (.slice Ao11 t47.length co11), .string x45_1] 29 (0, 0))) ∧ Aside0 (IsS139 w0 w' g s0_0 x53_1 x54_1) ∧ Aside0 (KeepBut w w' g none) ∧ Aside0 (Below w0.heap.size w0 w'))
 case atStart => exact ⟨(t55), (t56), (t59), H', ⟨Nat.le_refl _⟩, ⟨ro HO42⟩, ⟨bk BK10⟩, ⟨bk BK21⟩, ⟨u96HI0⟩, ⟨u96HK⟩, ⟨u96HB⟩⟩
 case round =>
  clear H'
  obtain ⟨x53_1, x54_1, x45_1, HA, HK1, HO_400001, BK10, BK21, HI0, HK, HB⟩ := hrel
  cases gk with
  | zero => exact absurd HA.out (by simp [spec_l3DrawBadResp.l0])
  | succ k1 =>
   have H := HA.out
   clear HA
   simp only [spec_l3DrawBadResp.l0] at H
   revert H
   refine ok3 fun t52 t68 t69 A34 H => ?_
   (try dsimp only at H)
   have HH35 := am H
   clear H
   try go_wp2
   replace HO_400001 := am (Kd.R_drew HO_400001.out)
   replace BK10 := am (blk_drew BK10.out)
   replace BK21 := am (blk_drew BK21.out)
   replace HI0 := am (IsS139.drew HI0.out)
   replace HK := am (keep_drew HK.out)
   replace HB := am (below_drew1 HB.out)
   refine start_ (n := 7) (S := fun w' => w'.cell? ⟨gb21, 0, none⟩ = some (.int .i64 t23) ∧ w'.cell? ⟨gb21, 1, none⟩ = some (.slice Ao11 t47.length co11) ∧ w'.cell? ⟨gb21, 2, none⟩ = some (.string x45_1)) (ds := []) ⟨br true [0, 7]⟩ (by kernel_rfl) rfl (by kernel_rfl) ⟨bc BK21, bc BK21, bc BK21⟩ (fun hHeld => ?_)
   generalize wr.drew = w36 at HO_400001 BK10 BK21 HI0 HK HB hHeld ⊢
   refine pu 0 21 [1, 6] ?_
   refine pu 3 24 [1, 2, 1, 3] ?_
   refine tk 1 22 [2, 1, 1, 3] ?_
   refine pu 2 23 [4, 3] ?_
   refine og 4 25 [5, 2] Tryz.func74 #[.pointer (some ⟨g, 0, none⟩), .int .i64 2] (fun K hK => ?_)
   refine (spec_l1Below.calls g s0_0 x53_1 x54_1 2 t52 t68 t69 w0 _ u96HI0 u96HB A34.out).mono ?_
   rintro e w37 ⟨rfl, hi, hb, hk⟩
   refine ⟨_, rfl, ?_⟩
   replace HO_400001 := am (Kd.R_mono (Kd.R_keep (IsS139.apart (show IsS139 w0 _ g s0_0 x53_1 x54_1 from u96HI0) (ro HO_400001) (by decide)) hk (fun _ h => h.2)) (fun _ h => h.1))
   replace BK10 := kp BK10 hk NB10_0
   replace BK21 := kp BK21 hk NB21_0
   replace HK := am (KeepBut.trans u96HK hk (.inl rfl))
   replace HB := am (hb)
   replace HI0 := am (hi)
   clear hb hk hi
   refine hK.out _ _ ⟨bc BK21, bc BK21, bc BK21⟩ (fun hHeld => ?_)
   clear hK K
   refine nm 25 ?_
   refine pu 5 26 [6, 1] ?_
   refine pu 6 27 [7] ?_
   refine done_ (by kernel_rfl) ?_
   go_upto_if 27 with (fail)
   have H := HH35.out
   clear HH35
   by_cases c38 : (x45_1.size : Int) < (wrap64 (120 + t52))
   rotate_left
   ·rw [if_neg c38] at H
    have c38b0 := decide_eq_false c38
    clear c38
    (first | rw [c38b0] | (simp only [i64_w, i32_w]; rw [c38b0]) | skip)
    simp only [Option.some.injEq, Prod.mk.injEq] at H
    obtain ⟨rfl, rfl, rfl, rfl, rfl⟩ := H
    have hnb43 := NB21_10.out
    have hnc43 := NB10_21.out
    have hnb44 := NB21_0.out
    have hnc44 := NB0_21.out
    obtain ⟨_, _, _, _, _, _⟩ := cl3 BK21
    have hnb46 := NB10_0.out
    have hnc46 := NB0_10.out
    obtain ⟨_, _, _, _, _, _⟩ := cl3 BK10
    go_wp2
    refine bodyPost_ret (results_cell_row rfl _ _ gb10 29 #[.int .i64 t23, .slice Ao11 t47.length co11, .string x45_1] (0, 0) _ rfl (pt0 BK10) Tryz.underlying29 rfl (by kernel_rfl)) rfl ?_
    exact ⟨_, rf, rj (Kd.R_types HO_400001.out BK10.out (by decide)) (fun _ hk => trivial), u96HI0, u96HB, u96HK⟩
   rw [if_pos c38] at H
   have c38b0 := decide_eq_true c38
   clear c38
   (first | rw [c38b0] | (simp only [i64_w, i32_w]; rw [c38b0]) | skip)
   revert H
   refine ifn fun c39 H => ?_
   have c39b0 := eq_true c39
   have c39b1 := decide_eq_true c39
   try have c39b2 := eq_false (Nat.not_lt.2 c39)
   have H' := am H
   clear H
   have hnb40 := NB21_10.out
   have hnc40 := NB10_21.out
   have hnb41 := NB21_0.out
   have hnc41 := NB0_21.out
   obtain ⟨_, _, _, _, _, _⟩ := cl3 BK21
   go_wp2
   go_roundg k1
   case measure => have := HK1.out; omega
   case rel => exact ⟨(t68), (t69), (x45_1 ++ (⟨#[98]⟩ : ByteArray)), H', ⟨by have := HK1.out; omega⟩, ⟨rj (Kd.R_types HO_400001.out BK21.out (by decide)) (fun _ hk => trivial)⟩, ⟨bg1 BK10 NB10_21⟩, ⟨pt0 BK21⟩, ⟨u96HI0⟩, ⟨u96HK⟩, ⟨u96HB⟩⟩
end Go.Proofs.YtjlpjbkpmmpojaaGreatDoor.All
