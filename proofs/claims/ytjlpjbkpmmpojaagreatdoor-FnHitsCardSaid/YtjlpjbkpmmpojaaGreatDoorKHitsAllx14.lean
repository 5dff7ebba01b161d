-- Written by a program of this session (wip/tools/hprint.py) out of the translation. Lean checks it.
import Derived.Test.YtjlpjbkpmmpojaaGreatDoorKHitsAllx0
import Derived.Test.YtjlpjbkpmmpojaaGreatDoorKHitsAllx1
import Derived.Test.YtjlpjbkpmmpojaaGreatDoorKHitsAllx8
import Derived.Test.YtjlpjbkpmmpojaaGreatDoorKHitsAllx11
import Derived.Test.YtjlpjbkpmmpojaaGreatDoorKHitsAllx12
import Derived.Test.YtjlpjbkpmmpojaaGreatDoorKHitsAllx13
namespace Go.Proofs.YtjlpjbkpmmpojaaGreatDoor.All
open Go.RowKit Go.Proofs.YtjlpjbkpmmpojaaGreatDoorW.PrintWords Go.Proofs.YtjlpjbkpmmpojaaGreatDoorW.PrintLast Go.Proofs.YtjlpjbkpmmpojaaGreatDoorW.PrintMore
attribute [local go_sem] max2_int min2_int max_two min_two max_three min_three max_four min_four  -- for this text's walks alone
set_option linter.unusedVariables false
set_option linter.unusedSimpArgs false

/-! ### spec_ValuesOf: function 117 -/
theorem u117HB {p : Prop} (h : p := by repeat (first | (with_reducible first | exact HB.out | apply below_alloc | apply pw_below_drewN | apply below_drew1) | exact HB.out)) : p := h
def spec_ValuesOf.l0 : Nat → List ByteArray → List (S116) → List ByteArray → Int → Option (List ByteArray)
 | 0, _, _, _, _ => none
 | k + 1, x0, x1, x5, x6 => if x6 < (x0.length : Int) then (if 0 ≤ x6 then ((spec_Get.f k x1 (rdOf ByteArray.empty x0 x6)).bind fun bt538 => (if bt538.2 = true then (if x5.length < 8796093022208 then (spec_ValuesOf.l0 k x0 x1 (x5 ++ [bt538.1]) (wrap64 (x6 + 1))) else (none)) else (if x5.length < 8796093022208 then (spec_ValuesOf.l0 k x0 x1 (x5 ++ [(⟨#[45]⟩ : ByteArray)]) (wrap64 (x6 + 1))) else (none)))) else (none)) else (some x5)
def spec_ValuesOf.f (k : Nat) (l0 : List ByteArray) (l1 : List (S116)) : Option (List ByteArray) := spec_ValuesOf.l0 k l0 l1 (([] : List ByteArray)) 0
set_option maxHeartbeats 8000000 in
set_option maxRecDepth 100000 in
theorem spec_ValuesOf.calls (k : Nat) (A0 : Option Addr) (c0 : Nat) (l0 : List ByteArray) (A1 : Option Addr) (c1 : Nat) (l1 : List (S116)) (r : List ByteArray) (w : World) (hr0 : Kd.C Kd.string w A0 l0.length l0) (hc0 : l0.length ≤ c0) (hr1 : Kd.C k116 w A1 l1.length l1) (hc1 : l1.length ≤ c1) (h : spec_ValuesOf.f k l0 l1 = some r) :
  Calls Tryz.prog 117 #[.slice A0 l0.length c0, .slice A1 l1.length c1] w fun e w' => ∃ v0_ : Value, e = .returned (v0_) ∧ Kd.R Kd.string 9 w' w.heap.size (fun _ => True) v0_ r ∧ Below w.heap.size w w' := by
 have HR0 := am hr0
 have HC0 := am hc0
 clear hr0 hc0
 have HR1 := am hr1
 have HC1 := am hc1
 clear hr1 hc1
 have HB := am (Below.refl w.heap.size w)
 unfold spec_ValuesOf.f at h
 have H := h
 clear h
 obtain ⟨y534, hy534⟩ : ∃ y_ : List ByteArray, y_ = (([] : List ByteArray)) := ⟨_, rfl⟩
 replace H : (spec_ValuesOf.l0 k l0 l1 y534 0) = some r := by first | (rw [hy534]; with_reducible exact H) | (have H2_ := (Option.bind_some _ _).symm.trans H; rw [hy534]; with_reducible exact H2_) | (have H2_ := (Option.bind_some _ _).symm.trans H; with_reducible exact H2_) | with_reducible exact H | (rw [hy534]; exact H) | exact H
 have Ny534 := am hy534
 clear hy534
 have H' := am H
 clear H
 go_enter Tryz.func117, Tryz.ntmps117
 go_wp2_with (first | ((with_reducible refine gate_dst (N := 9) rfl ?_); refine Kd.R_lit Kd.string _ 9 ?hg (N := 9) ?hd (xs := ([] : List ByteArray)) (inner := []) (ok := fun _ => True) (okp := fun _ => True) ?hr ?hp (fun _ hk => hk) trivial (Below.refl _ _) (Nat.le_refl _) (by simp) ?_; (case hd => rfl); (case hg => rfl); (case hr => first | (go_simp; done) | (go_simp; rfl)); (case hp => exact (Reps.none _ _)); intro v535 w3 ho4 hb hg_ hnew_; clear hg_ hnew_; (first | rw [← Ny534.out] at ho4 | (simp only [Int.reduceToNat] at ho4; rw [← Ny534.out] at ho4)); have HO536 := am (Kd.R_lower ho4 (below_size bl)); replace HB := am (below_step bl hb); clear hb ho4))
 (try simp only [Act.put, List.setIfInBounds_toArray, List.set_cons_zero, List.set_cons_succ])
 go_loopg [5, 6] k (fun kq v5 v6 w' => ∃ (x5_1 : List ByteArray) (x6_1 : Int), v6 = .int .i64 x6_1 ∧ Aside0 (spec_ValuesOf.l0 kq l0 l1 x5_1 x6_1 = some r) ∧ Aside0 (kq ≤ k) ∧ Aside0 (Kd.R Kd.string 9 w' w.heap.size (fun _ => True) v5 x5_1) ∧ Aside0 (Below w.heap.size w w'))
 case atStart => exact ⟨(y534), (0), rs, H', ⟨Nat.le_refl _⟩, ⟨by (with_reducible repeat (first | apply Kd.R_alloc | apply Kd.R_drewN | apply Kd.R_drew)); exact HO536.out⟩, ⟨u117HB⟩⟩
 case round =>
  clear H'
  try clear c1
  try clear p2
  obtain ⟨x5_1, x6_1, rfl, HA, HK1, HO_5, HB⟩ := hrel
  cases gk with
  | zero => exact absurd HA.out (by simp [spec_ValuesOf.l0])
  | succ k1 =>
   have H := HA.out
   clear HA
   simp only [spec_ValuesOf.l0] at H
   by_cases c5 : x6_1 < (l0.length : Int)
   rotate_left
   ·rw [if_neg c5] at H
    have c5b0 := decide_eq_false c5
    clear c5
    obtain rfl := Option.some.inj H
    go_wp2
    go_ret
    exact ⟨_, rf, by (with_reducible repeat (first | apply Kd.R_alloc | apply Kd.R_drewN | apply Kd.R_drew)); exact HO_5.out, bl⟩
   rw [if_pos c5] at H
   have c5b0 := decide_eq_true c5
   clear c5
   revert H
   refine ifn fun c6 H => ?_
   have c6b0 := decide_eq_true c6
   clear c6
   revert H
   refine ok2 fun t538 t539 A7 H => ?_
   (try dsimp only at H)
   by_cases c8 : t539 = true
   ·subst c8
    rw [if_pos rfl] at H
    revert H
    refine ifn fun c9 H => ?_
    have LMc9 := am c9
    clear c9
    obtain ⟨y540, hy540⟩ : ∃ y_ : List ByteArray, y_ = (x5_1 ++ [t538]) := ⟨_, rfl⟩
    replace H : (spec_ValuesOf.l0 k1 l0 l1 y540 (wrap64 (x6_1 + 1))) = some r := by first | (rw [hy540]; with_reducible exact H) | (have H2_ := (Option.bind_some _ _).symm.trans H; rw [hy540]; with_reducible exact H2_) | (have H2_ := (Option.bind_some _ _).symm.trans H; with_reducible exact H2_) | with_reducible exact H | (rw [hy540]; exact H) | exact H
    have Ny540 := am hy540
    clear hy540
    have H' := am H
    clear H
    have p537 : 0 ≤ (x6_1 : Int) := od
    have q537 : x6_1 < (l0.length : Int) := od
    obtain ⟨ad537, e537, hx537_0⟩ := Kd.at_string HR0.out x6_1 p537 q537
    cases e537
    replace hx537_0 := hcw hx537_0
    replace p537 := eq_true p537
    replace q537 := eq_true q537
    go_wp2_with (first | ((with_reducible refine gw ?_); first | (refine gl 22 Tryz.func66 #[.slice A1 l1.length c1, .string (rdOf ByteArray.empty l0 x6_1)] ?_; (with_reducible refine (spec_Get.calls k1 _ _ l1 (rdOf ByteArray.empty l0 x6_1) t538 true _ ?side1 ?side2 A7.out).mono ?_); (case side1 => exact cb HR1); (case side2 => exact HC1.out); rintro e w' ⟨rfl, ⟨nd, rfl⟩⟩; refine ⟨_, rfl, ?_⟩)) | ((with_reducible refine gate_builtin (b := .append) (xs := #[.tmp 27, .tmp 29]) rfl ?_); at_builtin; refine Kd.R_append Kd.string (w0 := w) w.heap.size rfl (.tmp 27) (.tmp 29) 26 9 (.string ⟨#[]⟩) 16 rfl Tryz.underlying26 info9 rfl (by decide) (by omega) u5 x5_1 t538 [.string t538] (fun _ => True) (fun _ => False) rfl rfl ?aP (fun _ hk => hk.elim) ?aF ?aO ?aB ?aS ?aL ?_; (case aP => exact rfl); (case aB => exact bl); (case aF => exact (fun _ _ => trivial)); (case aO => exact (ro HO_5)); (case aS => exact (below_size bl)); (case aL => have := LMc9.out; omega); intro v541 w10 ho hb hg hat; rw [← Ny540.out] at ho; have n0_ := am (hb); have n1_ := am (ho); clear HB; clear HO_5; have HB := n0_; have HO542 := n1_; clear n0_ n1_; clear ho hb hg hat))
    go_roundg k1
    case measure => have := HK1.out; omega
    case rel => exact ⟨(y540), (wrap64 (x6_1 + 1)), rs, H', ⟨by have := HK1.out; omega⟩, ⟨by (with_reducible repeat (first | apply Kd.R_alloc | apply Kd.R_drewN | apply Kd.R_drew)); exact HO542.out⟩, ⟨u117HB⟩⟩
   replace c8 := Bool.eq_false_iff.mpr c8
   subst c8
   rw [if_neg (show ¬ (false = true) by decide)] at H
   revert H
   refine ifn fun c11 H => ?_
   have LMc11 := am c11
   clear c11
   obtain ⟨y543, hy543⟩ : ∃ y_ : List ByteArray, y_ = (x5_1 ++ [(⟨#[45]⟩ : ByteArray)]) := ⟨_, rfl⟩
   replace H : (spec_ValuesOf.l0 k1 l0 l1 y543 (wrap64 (x6_1 + 1))) = some r := by first | (rw [hy543]; with_reducible exact H) | (have H2_ := (Option.bind_some _ _).symm.trans H; rw [hy543]; with_reducible exact H2_) | (have H2_ := (Option.bind_some _ _).symm.trans H; with_reducible exact H2_) | with_reducible exact H | (rw [hy543]; exact H) | exact H
   have Ny543 := am hy543
   clear hy543
   have H' := am H
   clear H
   have p537 : 0 ≤ (x6_1 : Int) := od
   have q537 : x6_1 < (l0.length : Int) := od
   obtain ⟨ad537, e537, hx537_0⟩ := Kd.at_string HR0.out x6_1 p537 q537
   cases e537
   replace hx537_0 := hcw hx537_0
   replace p537 := eq_true p537
   replace q537 := eq_true q537
   go_wp2_with (first | ((with_reducible refine gw ?_); first | (refine gl 22 Tryz.func66 #[.slice A1 l1.length c1, .string (rdOf ByteArray.empty l0 x6_1)] ?_; (with_reducible refine (spec_Get.calls k1 _ _ l1 (rdOf ByteArray.empty l0 x6_1) t538 false _ ?side1 ?side2 A7.out).mono ?_); (case side1 => exact cb HR1); (case side2 => exact HC1.out); rintro e w' ⟨rfl, ⟨nd, rfl⟩⟩; refine ⟨_, rfl, ?_⟩)) | ((with_reducible refine gate_builtin (b := .append) (xs := #[.tmp 27, .tmp 29]) rfl ?_); at_builtin; refine Kd.R_append Kd.string (w0 := w) w.heap.size rfl (.tmp 27) (.tmp 29) 26 9 (.string ⟨#[]⟩) 16 rfl Tryz.underlying26 info9 rfl (by decide) (by omega) u5 x5_1 (⟨#[45]⟩ : ByteArray) [.string (⟨#[45]⟩ : ByteArray)] (fun _ => True) (fun _ => False) rfl rfl ?aP (fun _ hk => hk.elim) ?aF ?aO ?aB ?aS ?aL ?_; (case aP => exact rfl); (case aB => exact bl); (case aF => exact (fun _ _ => trivial)); (case aO => exact (ro HO_5)); (case aS => exact (below_size bl)); (case aL => have := LMc11.out; omega); intro v544 w12 ho hb hg hat; rw [← Ny543.out] at ho; have n0_ := am (hb); have n1_ := am (ho); clear HB; clear HO_5; have HB := n0_; have HO545 := n1_; clear n0_ n1_; clear ho hb hg hat))
   go_roundg k1
   case measure => have := HK1.out; omega
   case rel => exact ⟨(y543), (wrap64 (x6_1 + 1)), rs, H', ⟨by have := HK1.out; omega⟩, ⟨by (with_reducible repeat (first | apply Kd.R_alloc | apply Kd.R_drewN | apply Kd.R_drew)); exact HO545.out⟩, ⟨u117HB⟩⟩

/-! ### spec_ObjOf: function 44 -/
def spec_ObjOf.f (k : Nat) (a0_0 : Int) (a0_1 : ByteArray) (l0_2 : List (S116)) (a0_3 : ByteArray) (a1_0 : Int) (l1_1 : List (S116)) (a1_2 : ByteArray) (a2 : Int) : Option (ByteArray × List ByteArray × List ByteArray × Int × (List (S116)) × ByteArray × Int × Bool) := (spec_MayKeep.f k a0_0 a0_1 l0_2 a0_3 a1_0 l1_1 a1_2).bind fun t549 => (if t549 = true then ((spec_VaryOf.f k l1_1).bind fun t550 => ((spec_ValuesOf.f k t550 l0_2).bind fun t553 => ((spec_l9Resp.f a1_0 l1_1 a1_2).bind fun bt556 => ((spec_ObjOk.f k a0_1 t550 t553 bt556.1 bt556.2.1 bt556.2.2 a2).bind fun t562 => (if t562 = true then (some (a0_1, t550, t553, bt556.1, bt556.2.1, bt556.2.2, a2, true)) else (some ((⟨#[]⟩ : ByteArray), ([] : List ByteArray), ([] : List ByteArray), 0, ([] : List (S116)), (⟨#[]⟩ : ByteArray), 0, false))))))) else (some ((⟨#[]⟩ : ByteArray), ([] : List ByteArray), ([] : List ByteArray), 0, ([] : List (S116)), (⟨#[]⟩ : ByteArray), 0, false)))
def spec_ObjOf.T4 : Bool × List (List Nat × List Nat) := (true, [([], []), ([0], [0]), ([], []), ([], []), ([], []), ([4], [4]), ([3, 5], [3, 5]), ([], []), ([7, 6], [7]), ([], []), ([1, 2, 6, 8, 9], [1, 2, 6, 8, 9]), ([], []), ([11, 10, 8, 0, 1, 2, 3, 4, 5, 6, 7, 8, 9, 10, 11], [10, 11])])
def spec_ObjOf.B4 : List Nat := [0, 1, 0, 0, 0, 16, 56, 0, 248, 0, 1023, 0, 4095]
theorem spec_ObjOf.tab4 : rtab .any (opsOf Tryz.f44 4) = spec_ObjOf.T4 := by kernel_rfl
theorem spec_ObjOf.bits4 : waitsOk spec_ObjOf.T4.2 spec_ObjOf.B4 = true := by kernel_rfl
set_option maxHeartbeats 8000000 in
set_option maxRecDepth 100000 in
theorem spec_ObjOf.calls (k : Nat) (a0_0 : Int) (a0_1 : ByteArray) (A0_2 : Option Addr) (c0_2 : Nat) (l0_2 : List (S116)) (a0_3 : ByteArray) (a1_0 : Int) (A1_1 : Option Addr) (c1_1 : Nat) (l1_1 : List (S116)) (a1_2 : ByteArray) (a2 : Int) (r1 : ByteArray) (r2 : List ByteArray) (r3 : List ByteArray) (r4 : Int) (r5 : List (S116)) (r6 : ByteArray) (r7 : Int) (r8 : Bool) (w : World) (hr0_2 : Kd.C k116 w A0_2 l0_2.length l0_2) (hc0_2 : l0_2.length ≤ c0_2) (hr1_1 : Kd.C k116 w A1_1 l1_1.length l1_1) (hc1_1 : l1_1.length ≤ c1_1) (h : spec_ObjOf.f k a0_0 a0_1 l0_2 a0_3 a1_0 l1_1 a1_2 a2 = some (r1, r2, r3, r4, r5, r6, r7, r8)) :
  Calls Tryz.prog 44 #[.agg #[.int .i64 a0_0, .string a0_1, .slice A0_2 l0_2.length c0_2, .string a0_3], .agg #[.int .i64 a1_0, .slice A1_1 l1_1.length c1_1, .string a1_2], .int .i64 a2] w fun e w' => ∃ v1_ v2_ v4_ : Value, e = .returned (.tuple #[.agg #[.string r1, v1_, v2_, .int .i64 r4, v4_, .string r6, .int .i64 r7], .bool r8]) ∧ Kd.R Kd.string 9 w' w.heap.size (fun k_ => some k_ ≠ (v2_ : Value).ownBlock) v1_ r2 ∧ Kd.R Kd.string 9 w' w.heap.size (fun k_ => some k_ ≠ (v1_ : Value).ownBlock) v2_ r3 ∧ Kd.R k116 116 w' w.heap.size (fun _ => True) v4_ r5 ∧ Below w.heap.size w w' := by
 have hu50 := Tryz.underlying50
 have hu29 := Tryz.underlying29
 have hu31 := Tryz.underlying31
 have HR0_2 := am hr0_2
 have HC0_2 := am hc0_2
 clear hr0_2 hc0_2
 have HR1_1 := am hr1_1
 have HC1_1 := am hc1_1
 clear hr1_1 hc1_1
 have HB := am (Below.refl w.heap.size w)
 unfold spec_ObjOf.f at h
 have H := h
 clear h
 revert H
 refine ok1 fun t549 A4 H => ?_
 have HH5 := am H
 clear H
 go_enter Tryz.func44, Tryz.ntmps44
 go_upto_if 13 with ((with_reducible refine gw ?_); first | (refine bx 3 #[.int .i64 a0_0, .string a0_1, .slice A0_2 l0_2.length c0_2, .string a0_3] 50 ?_; intro gb546 hg w6 hbox hb; have BK546 := am (hbox); have GW546 := am (sz hg : w.heap.size ≤ gb546); have GE546 := am (sz hg : w.heap.size ≤ gb546); replace HB := am (below_step bl hb); clear hb hbox hg) | (refine bx 4 #[.int .i64 a1_0, .slice A1_1 l1_1.length c1_1, .string a1_2] 29 ?_; intro gb547 hg w7 hbox hb; have BK547 := am (hbox); have GW547 := am (sz hg : w.heap.size ≤ gb547); have GE547 := am (sz hg : w.heap.size ≤ gb547); replace HB := am (below_step bl hb); have NB546_547 := am (nl hg BK546 : gb546 ≠ gb547); have NB547_546 := am (ng hg BK546 : gb547 ≠ gb546); replace BK546 := kb BK546 hb; clear hb hbox hg) | (refine bx 6 #[.string (⟨#[]⟩ : ByteArray), .slice none 0 0, .slice none 0 0, .int .i64 0, .slice none 0 0, .string (⟨#[]⟩ : ByteArray), .int .i64 0] 31 ?_; intro gb548 hg w8 hbox hb; have BK548 := am (hbox); have GW548 := am (sz hg : w.heap.size ≤ gb548); have GE548 := am (sz hg : w.heap.size ≤ gb548); replace HB := am (below_step bl hb); have NB546_548 := am (nl hg BK546 : gb546 ≠ gb548); have NB548_546 := am (ng hg BK546 : gb548 ≠ gb546); replace BK546 := kb BK546 hb; have NB547_548 := am (nl hg BK547 : gb547 ≠ gb548); have NB548_547 := am (ng hg BK547 : gb548 ≠ gb547); replace BK547 := kb BK547 hb; clear hb hbox hg; have hnb9 := NB546_547.out; have hnc9 := NB547_546.out; have hnb10 := NB546_548.out; have hnc10 := NB548_546.out; obtain ⟨z11_0, y11_0, z11_1, y11_1, z11_2, y11_2, z11_3, y11_3⟩ := cl4 BK546; have hnb12 := NB547_548.out; have hnc12 := NB548_547.out; obtain ⟨z13_0, y13_0, z13_1, y13_1, z13_2, y13_2⟩ := cl3 BK547) | (refine gl 12 Tryz.func30 #[.agg #[.int .i64 a0_0, .string a0_1, .slice A0_2 l0_2.length c0_2, .string a0_3], .agg #[.int .i64 a1_0, .slice A1_1 l1_1.length c1_1, .string a1_2]] ?_; (with_reducible refine (spec_MayKeep.calls k a0_0 a0_1 _ _ l0_2 a0_3 a1_0 _ _ l1_1 a1_2 t549 _ ?side1 ?side2 ?side3 ?side4 A4.out).mono ?_); (case side1 => exact cb HR0_2); (case side2 => exact HC0_2.out); (case side3 => exact cb HR1_1); (case side4 => exact HC1_1.out); rintro e w14 ⟨rfl, hb⟩; refine ⟨_, rfl, ?_⟩; replace BK546 := kb BK546 hb; replace BK547 := kb BK547 hb; replace BK548 := kb BK548 hb; replace HB := am (below_step bl hb); clear hb))
 have H := HH5.out
 clear HH5
 by_cases c15 : t549 = true
 rotate_left
 ·replace c15 := Bool.eq_false_iff.mpr c15
  subst c15
  rw [if_neg (show ¬ (false = true) by decide)] at H
  simp only [Option.some.injEq, Prod.mk.injEq] at H
  obtain ⟨rfl, rfl, rfl, rfl, rfl, rfl, rfl, rfl⟩ := H
  have hnb59 := NB548_546.out
  have hnc59 := NB546_548.out
  have hnb60 := NB548_547.out
  have hnc60 := NB547_548.out
  obtain ⟨z61_0, y61_0, z61_1, y61_1, z61_2, y61_2, z61_3, y61_3, z61_4, y61_4, z61_5, y61_5, z61_6, y61_6⟩ := cl7 BK548
  go_wp2
  refine bodyPost_ret (results_ct rfl _ _ gb548 31 #[.string (⟨#[]⟩ : ByteArray), .slice none 0 0, .slice none 0 0, .int .i64 0, .slice none 0 0, .string (⟨#[]⟩ : ByteArray), .int .i64 0] (0, 0) _ rfl (pt0 BK548) Tryz.underlying31 rfl (by kernel_rfl)) rfl ?_
  exact ⟨_, _, _, rf, by first | exact Kd.R_nil _ _ _ _ _ | exact Kd.N_nil _ _ _ _ _ | exact Kd.V_nil _ _ _ _ _ | exact Kd.Q_nil _ _ _ _ _ | exact Kd.S_nil _ _ _ _ _, by first | exact Kd.R_nil _ _ _ _ _ | exact Kd.N_nil _ _ _ _ _ | exact Kd.V_nil _ _ _ _ _ | exact Kd.Q_nil _ _ _ _ _ | exact Kd.S_nil _ _ _ _ _, by first | exact Kd.R_nil _ _ _ _ _ | exact Kd.N_nil _ _ _ _ _ | exact Kd.V_nil _ _ _ _ _ | exact Kd.Q_nil _ _ _ _ _ | exact Kd.S_nil _ _ _ _ _, bl⟩
 subst c15
 rw [if_pos rfl] at H
 revert H
 refine ok1 fun t550 A16 H => ?_
 revert H
 refine ok1 fun t553 A17 H => ?_
 revert H
 refine ok3 fun t556 t557 t560 A18 H => ?_
 (try dsimp only at H)
 revert H
 refine ok1 fun t562 A19 H => ?_
 have HH20 := am H
 clear H
 have hnb21 := NB547_546.out
 have hnc21 := NB546_547.out
 have hnb22 := NB547_548.out
 have hnc22 := NB548_547.out
 obtain ⟨z23_0, y23_0, z23_1, y23_1, z23_2, y23_2⟩ := cl3 BK547
 try go_wp2_with ((with_reducible refine gw ?_); first | (refine gl 17 Tryz.func94 #[.slice A1_1 l1_1.length c1_1] ?_; (with_reducible refine (spec_VaryOf.calls k _ _ l1_1 t550 _ ?side1 ?side2 A16.out).mono ?_); (case side1 => exact cb HR1_1); (case side2 => exact HC1_1.out); rintro e w24 ⟨v551, rfl, ho0, hb⟩; refine ⟨_, rfl, ?_⟩; have HO552 := am (Kd.R_lower ho0 (below_size bl)); replace BK546 := kb BK546 hb; replace BK547 := kb BK547 hb; replace BK548 := kb BK548 hb; replace HB := am (below_step bl hb); clear hb ho0; obtain ⟨Ao25, co25, eo25⟩ := Kd.R_slice HO552.out; subst eo25))
 replace HO552 := am (Kd.R_drew HO552.out)
 replace BK546 := am (blk_drew BK546.out)
 replace BK547 := am (blk_drew BK547.out)
 replace BK548 := am (blk_drew BK548.out)
 replace HB := am (below_drew1 HB.out)
 refine start_ (n := 13) (S := fun w' => w'.cell? ⟨gb546, 0, none⟩ = some (.int .i64 a0_0) ∧ w'.cell? ⟨gb546, 1, none⟩ = some (.string a0_1) ∧ w'.cell? ⟨gb546, 2, none⟩ = some (.slice A0_2 l0_2.length c0_2) ∧ w'.cell? ⟨gb546, 3, none⟩ = some (.string a0_3) ∧ w'.cell? ⟨gb547, 0, none⟩ = some (.int .i64 a1_0) ∧ w'.cell? ⟨gb547, 1, none⟩ = some (.slice A1_1 l1_1.length c1_1) ∧ w'.cell? ⟨gb547, 2, none⟩ = some (.string a1_2)) (ds := []) ⟨br true [0, 13]⟩ (by kernel_rfl) rfl (by kernel_rfl) ⟨bc BK546, bc BK546, bc BK546, bc BK546, bc BK547, bc BK547, bc BK547⟩ (fun hHeld => ?_); refine with_tabW spec_ObjOf.tab4 spec_ObjOf.bits4 (fun HT_ HW_ => ?_)
 generalize w24.drew = w26 at HO552 BK546 BK547 BK548 HB hHeld ⊢
 refine pu 0 18 [1, 12] ?_
 refine pu 2 20 [1, 1, 1, 10] ?_
 refine pu 3 21 [1, 1, 2, 9] ?_
 refine pu 4 22 [1, 1, 3, 8] ?_
 refine pu 9 27 [1, 1, 3, 4, 1, 3] ?_
 refine tk 1 19 [5, 4, 1, 3] ?_
 refine tk 5 23 [6, 3, 1, 3] ?_
 refine tk 7 25 [6, 1, 1, 1, 1, 3] ?_
 refine join_ (σ := Value × Value × Nat) 1 #[true, true, true, true, true, true, true, true, true, true, true, true, false] (fun s_ => [(24, s_.1), (26, .agg #[.int .i64 t556, s_.2.1, .string t560]), (9, .pointer (some ⟨s_.2.2, 0, none⟩)), (28, .agg #[.string a0_1, .slice Ao25 t550.length co25, s_.1, .int .i64 t556, s_.2.1, .string t560, .int .i64 a2])]) (fun s_ w' => (w'.cell? ⟨gb546, 0, none⟩ = some (.int .i64 a0_0) ∧ w'.cell? ⟨gb546, 1, none⟩ = some (.string a0_1) ∧ w'.cell? ⟨gb546, 2, none⟩ = some (.slice A0_2 l0_2.length c0_2) ∧ w'.cell? ⟨gb546, 3, none⟩ = some (.string a0_3) ∧ w'.cell? ⟨gb547, 0, none⟩ = some (.int .i64 a1_0) ∧ w'.cell? ⟨gb547, 1, none⟩ = some (.slice A1_1 l1_1.length c1_1) ∧ w'.cell? ⟨gb547, 2, none⟩ = some (.string a1_2)) ∧ (Kd.R Kd.string 9 w' w.heap.size (fun k_ => some k_ ≠ (s_.1 : Value).ownBlock) (.slice Ao25 t550.length co25) t550) ∧ (Kd.R Kd.string 9 w' w.heap.size (fun k_ => some k_ ≠ (.slice Ao25 t550.length co25 : Value).ownBlock) s_.1 t553) ∧ (Kd.R k116 116 w' w.heap.size (fun _ => True) s_.2.1 t557) ∧ (w'.heap[gb546]? = some (.cells #[.int .i64 a0_0, .string a0_1, .slice A0_2 l0_2.length c0_2, .string a0_3] 50 (0, 0))) ∧ (w'.heap[gb547]? = some (.cells #[.int .i64 a1_0, .slice A1_1 l1_1.length c1_1, .string a1_2] 29 (0, 0))) ∧ (w'.heap[gb548]? = some (.cells #[.string (⟨#[]⟩ : ByteArray), .slice none 0 0, .slice none 0 0, .int .i64 0, .slice none 0 0, .string (⟨#[]⟩ : ByteArray), .int .i64 0] 31 (0, 0))) ∧ (w'.heap[s_.2.2]? = some (.cells #[.string (⟨#[]⟩ : ByteArray), .slice none 0 0, .slice none 0 0, .int .i64 0, .slice none 0 0, .string (⟨#[]⟩ : ByteArray), .int .i64 0] 31 (0, 0))) ∧ (w.heap.size ≤ s_.2.2) ∧ (w.heap.size ≤ s_.2.2) ∧ (gb546 ≠ s_.2.2) ∧ (s_.2.2 ≠ gb546) ∧ (gb547 ≠ s_.2.2) ∧ (s_.2.2 ≠ gb547) ∧ (gb548 ≠ s_.2.2) ∧ (s_.2.2 ≠ gb548) ∧ (Below w.heap.size w w')) ?_ ?_
 rotate_left
 ·intro hCont
  refine two_ (i := 6) (j := 11) (Ni := some 24) (Nj := some 9) #[true, true, true, true, true, true, true, true, false, true, false, false, false] #[true, true, true, true, true, true, false, true, false, true, false, true, false] rfl rfl rfl rfl (two_of HT_.out (by kernel_rfl)) (by decide) (by decide) (fun K hK => ?_) (fun K hK => ?_)
  ·skip
   refine goes_ Tryz.func117 (by kernel_rfl) rfl #[.slice Ao25 t550.length co25, .slice A0_2 l0_2.length c0_2] (by rfl) rfl rfl ma ?_
   with_reducible refine (spec_ValuesOf.calls k _ _ t550 _ _ l0_2 t553 _ ?side1 ?side2 ?side3 ?side4 A17.out).mono ?_
   (case side1 => exact rc HO552)
   (case side2 => exact (Kd.R_reads' HO552.out).2.1)
   (case side3 => exact cb HR0_2)
   (case side4 => exact HC0_2.out)
   rintro e w27 ⟨v554, rfl, ho0, hb⟩
   refine ⟨_, rfl, ?_⟩
   have HO555 := am (Kd.R_lower (Kd.R_new' ho0 (Kd.R_lt (ro HO552))) (below_size bl))
   replace HO552 := am (Kd.R_elder' (ro HO552) (Kd.R_base ho0) hb)
   replace BK546 := kb BK546 hb
   replace BK547 := kb BK547 hb
   replace BK548 := kb BK548 hb
   replace HB := am (below_step bl hb)
   clear hb ho0
   refine hK.out _ _ ⟨bc BK546, bc BK546, bc BK546, bc BK546, bc BK547, bc BK547, bc BK547⟩ (fun hHeld => ?_)
   clear hK K
   refine nm 24 ?_
   refine two_ (i := 8) (j := 11) (Ni := some 26) (Nj := some 9) #[true, true, true, true, true, true, true, true, true, true, false, false, false] #[true, true, true, true, true, true, true, true, false, true, false, true, false] rfl rfl rfl rfl (two_of HT_.out (by kernel_rfl)) (by decide) (by decide) (fun K hK => ?_) (fun K hK => ?_)
   ·skip
    refine goes_ Tryz.func102 (by kernel_rfl) rfl #[.agg #[.int .i64 a1_0, .slice A1_1 l1_1.length c1_1, .string a1_2]] (by rfl) rfl rfl ma ?_
    with_reducible refine (spec_l9Resp.calls a1_0 _ _ l1_1 a1_2 t556 t557 t560 _ ?side1 ?side2 A18.out).mono ?_
    (case side1 => exact cb HR1_1)
    (case side2 => exact HC1_1.out)
    rintro e w28 ⟨v558, rfl, ho0, hb⟩
    refine ⟨_, rfl, ?_⟩
    replace HO552 := kr HO552 hb
    replace HO555 := kr HO555 hb
    have HO559 := am (Kd.R_lower ho0 (below_size bl))
    replace BK546 := kb BK546 hb
    replace BK547 := kb BK547 hb
    replace BK548 := kb BK548 hb
    replace HB := am (below_step bl hb)
    clear hb ho0
    obtain ⟨Ao29, co29, eo29⟩ := Kd.R_slice HO559.out
    (first | subst eo29 | (injection eo29 with f1_ f2_ f3_; have f4_ := f1_.symm; have f5_ := f3_.symm; clear f1_ f2_ f3_; subst f4_; subst f5_))
    obtain ⟨Ao30, co30, eo30⟩ := Kd.R_slice HO555.out
    (first | subst eo30 | (injection eo30 with f1_ f2_ f3_; have f4_ := f1_.symm; have f5_ := f3_.symm; clear f1_ f2_ f3_; subst f4_; subst f5_))
    refine hK.out _ _ ⟨bc BK546, bc BK546, bc BK546, bc BK546, bc BK547, bc BK547, bc BK547⟩ (fun hHeld => ?_)
    clear hK K
    refine nm 26 ?_
    refine pu 10 28 [11, 2] ?_
    refine one_ (i := 11) (N := some 9) #[true, true, true, true, true, true, true, true, true, true, true, true, false] rfl rfl (one_of HT_.out (by kernel_rfl)) (by decide) (fun K hK => ?_)
    refine box_step ?hg (N := 9) ?hd (cs := #[.string (⟨#[]⟩ : ByteArray), .slice none 0 0, .slice none 0 0, .int .i64 0, .slice none 0 0, .string (⟨#[]⟩ : ByteArray), .int .i64 0]) (t := 31) ?hr ?_; (case hd => rfl); (case hg => rfl); (case hr => first | (go_simp; done) | (go_simp; rfl))
    intro gb561 hg w31 hbox hb
    replace HO552 := am (Kd.R_below (ro HO552) hb)
    replace HO555 := am (Kd.R_below (ro HO555) hb)
    replace HO559 := am (Kd.R_below (ro HO559) hb)
    have BK561 := am (hbox)
    have GW561 := am (sz hg : w.heap.size ≤ gb561)
    have GE561 := am (sz hg : w.heap.size ≤ gb561)
    replace HB := am (below_step bl hb)
    have NB546_561 := am (nl hg BK546 : gb546 ≠ gb561)
    have NB561_546 := am (ng hg BK546 : gb561 ≠ gb546)
    replace BK546 := kb BK546 hb
    have NB547_561 := am (nl hg BK547 : gb547 ≠ gb561)
    have NB561_547 := am (ng hg BK547 : gb561 ≠ gb547)
    replace BK547 := kb BK547 hb
    have NB548_561 := am (nl hg BK548 : gb548 ≠ gb561)
    have NB561_548 := am (ng hg BK548 : gb561 ≠ gb548)
    replace BK548 := kb BK548 hb
    clear hb hbox hg
    refine hK.out _ _ ⟨bc BK546, bc BK546, bc BK546, bc BK546, bc BK547, bc BK547, bc BK547⟩ (fun hHeld => ?_)
    clear hK K
    refine nm 9 ?_
    exact norm_ (by simp only [putAll, Act.put, List.setIfInBounds_toArray, List.set_cons_zero, List.set_cons_succ]) (hCont (.slice Ao30 t553.length co30, .slice Ao29 t557.length co29, gb561) _ ⟨hHeld, (by (with_reducible repeat (first | apply Kd.R_alloc | apply Kd.R_drewN | apply Kd.R_drew)); exact Kd.R_mono HO552.out (fun _ hk => hk.2)), (by (with_reducible repeat (first | apply Kd.R_alloc | apply Kd.R_drewN | apply Kd.R_drew)); exact Kd.R_mono HO555.out (fun _ hk => hk.2)), (ro HO559), (bk BK546), (bk BK547), (bk BK548), (bk BK561), GW561.out, GE561.out, NB546_561.out, NB561_546.out, NB547_561.out, NB561_547.out, NB548_561.out, NB561_548.out, bl⟩)
   ·skip
    refine box_step ?hg (N := 9) ?hd (cs := #[.string (⟨#[]⟩ : ByteArray), .slice none 0 0, .slice none 0 0, .int .i64 0, .slice none 0 0, .string (⟨#[]⟩ : ByteArray), .int .i64 0]) (t := 31) ?hr ?_; (case hd => rfl); (case hg => rfl); (case hr => first | (go_simp; done) | (go_simp; rfl))
    intro gb561 hg w28 hbox hb
    replace HO552 := am (Kd.R_below (ro HO552) hb)
    replace HO555 := am (Kd.R_below (ro HO555) hb)
    have BK561 := am (hbox)
    have GW561 := am (sz hg : w.heap.size ≤ gb561)
    have GE561 := am (sz hg : w.heap.size ≤ gb561)
    replace HB := am (below_step bl hb)
    have NB546_561 := am (nl hg BK546 : gb546 ≠ gb561)
    have NB561_546 := am (ng hg BK546 : gb561 ≠ gb546)
    replace BK546 := kb BK546 hb
    have NB547_561 := am (nl hg BK547 : gb547 ≠ gb561)
    have NB561_547 := am (ng hg BK547 : gb561 ≠ gb547)
    replace BK547 := kb BK547 hb
    have NB548_561 := am (nl hg BK548 : gb548 ≠ gb561)
    have NB561_548 := am (ng hg BK548 : gb561 ≠ gb548)
    replace BK548 := kb BK548 hb
    clear hb hbox hg
    refine hK.out _ _ ⟨bc BK546, bc BK546, bc BK546, bc BK546, bc BK547, bc BK547, bc BK547⟩ (fun hHeld => ?_)
    clear hK K
    refine nm 9 ?_
    refine og 8 26 [10, 1, 1, 1] Tryz.func102 #[.agg #[.int .i64 a1_0, .slice A1_1 l1_1.length c1_1, .string a1_2]] (fun K hK => ?_)
    with_reducible refine (spec_l9Resp.calls a1_0 _ _ l1_1 a1_2 t556 t557 t560 _ ?side1 ?side2 A18.out).mono ?_
    (case side1 => exact cb HR1_1)
    (case side2 => exact HC1_1.out)
    rintro e w29 ⟨v558, rfl, ho0, hb⟩
    refine ⟨_, rfl, ?_⟩
    replace HO552 := kr HO552 hb
    replace HO555 := kr HO555 hb
    have HO559 := am (Kd.R_lower ho0 (below_size bl))
    replace BK546 := kb BK546 hb
    replace BK547 := kb BK547 hb
    replace BK548 := kb BK548 hb
    replace BK561 := kb BK561 hb
    replace HB := am (below_step bl hb)
    clear hb ho0
    obtain ⟨Ao30, co30, eo30⟩ := Kd.R_slice HO559.out
    (first | subst eo30 | (injection eo30 with f1_ f2_ f3_; have f4_ := f1_.symm; have f5_ := f3_.symm; clear f1_ f2_ f3_; subst f4_; subst f5_))
    obtain ⟨Ao31, co31, eo31⟩ := Kd.R_slice HO555.out
    (first | subst eo31 | (injection eo31 with f1_ f2_ f3_; have f4_ := f1_.symm; have f5_ := f3_.symm; clear f1_ f2_ f3_; subst f4_; subst f5_))
    refine hK.out _ _ ⟨bc BK546, bc BK546, bc BK546, bc BK546, bc BK547, bc BK547, bc BK547⟩ (fun hHeld => ?_)
    clear hK K
    refine nm 26 ?_
    refine pu 10 28 [12, 1] ?_
    exact norm_ (by simp only [putAll, Act.put, List.setIfInBounds_toArray, List.set_cons_zero, List.set_cons_succ]) (hCont (.slice Ao31 t553.length co31, .slice Ao30 t557.length co30, gb561) _ ⟨hHeld, (by (with_reducible repeat (first | apply Kd.R_alloc | apply Kd.R_drewN | apply Kd.R_drew)); exact Kd.R_mono HO552.out (fun _ hk => hk.2)), (by (with_reducible repeat (first | apply Kd.R_alloc | apply Kd.R_drewN | apply Kd.R_drew)); exact Kd.R_mono HO555.out (fun _ hk => hk.2)), (ro HO559), (bk BK546), (bk BK547), (bk BK548), (bk BK561), GW561.out, GE561.out, NB546_561.out, NB561_546.out, NB547_561.out, NB561_547.out, NB548_561.out, NB561_548.out, bl⟩)
  ·skip
   refine box_step ?hg (N := 9) ?hd (cs := #[.string (⟨#[]⟩ : ByteArray), .slice none 0 0, .slice none 0 0, .int .i64 0, .slice none 0 0, .string (⟨#[]⟩ : ByteArray), .int .i64 0]) (t := 31) ?hr ?_; (case hd => rfl); (case hg => rfl); (case hr => first | (go_simp; done) | (go_simp; rfl))
   intro gb561 hg w27 hbox hb
   replace HO552 := am (Kd.R_below (ro HO552) hb)
   have BK561 := am (hbox)
   have GW561 := am (sz hg : w.heap.size ≤ gb561)
   have GE561 := am (sz hg : w.heap.size ≤ gb561)
   replace HB := am (below_step bl hb)
   have NB546_561 := am (nl hg BK546 : gb546 ≠ gb561)
   have NB561_546 := am (ng hg BK546 : gb561 ≠ gb546)
   replace BK546 := kb BK546 hb
   have NB547_561 := am (nl hg BK547 : gb547 ≠ gb561)
   have NB561_547 := am (ng hg BK547 : gb561 ≠ gb547)
   replace BK547 := kb BK547 hb
   have NB548_561 := am (nl hg BK548 : gb548 ≠ gb561)
   have NB561_548 := am (ng hg BK548 : gb561 ≠ gb548)
   replace BK548 := kb BK548 hb
   clear hb hbox hg
   refine hK.out _ _ ⟨bc BK546, bc BK546, bc BK546, bc BK546, bc BK547, bc BK547, bc BK547⟩ (fun hHeld => ?_)
   clear hK K
   refine nm 9 ?_
   refine og 6 24 [8, 1, 1, 1, 1, 1] Tryz.func117 #[.slice Ao25 t550.length co25, .slice A0_2 l0_2.length c0_2] (fun K hK => ?_)
   with_reducible refine (spec_ValuesOf.calls k _ _ t550 _ _ l0_2 t553 _ ?side1 ?side2 ?side3 ?side4 A17.out).mono ?_
   (case side1 => exact rc HO552)
   (case side2 => exact (Kd.R_reads' HO552.out).2.1)
   (case side3 => exact cb HR0_2)
   (case side4 => exact HC0_2.out)
   rintro e w28 ⟨v554, rfl, ho0, hb⟩
   refine ⟨_, rfl, ?_⟩
   have HO555 := am (Kd.R_lower (Kd.R_new' ho0 (Kd.R_lt (ro HO552))) (below_size bl))
   replace HO552 := am (Kd.R_elder' (ro HO552) (Kd.R_base ho0) hb)
   replace BK546 := kb BK546 hb
   replace BK547 := kb BK547 hb
   replace BK548 := kb BK548 hb
   replace BK561 := kb BK561 hb
   replace HB := am (below_step bl hb)
   clear hb ho0
   refine hK.out _ _ ⟨bc BK546, bc BK546, bc BK546, bc BK546, bc BK547, bc BK547, bc BK547⟩ (fun hHeld => ?_)
   clear hK K
   refine nm 24 ?_
   refine og 8 26 [10, 1, 1, 1] Tryz.func102 #[.agg #[.int .i64 a1_0, .slice A1_1 l1_1.length c1_1, .string a1_2]] (fun K hK => ?_)
   with_reducible refine (spec_l9Resp.calls a1_0 _ _ l1_1 a1_2 t556 t557 t560 _ ?side1 ?side2 A18.out).mono ?_
   (case side1 => exact cb HR1_1)
   (case side2 => exact HC1_1.out)
   rintro e w29 ⟨v558, rfl, ho0, hb⟩
   refine ⟨_, rfl, ?_⟩
   replace HO552 := kr HO552 hb
   replace HO555 := kr HO555 hb
   have HO559 := am (Kd.R_lower ho0 (below_size bl))
   replace BK546 := kb BK546 hb
   replace BK547 := kb BK547 hb
   replace BK548 := kb BK548 hb
   replace BK561 := kb BK561 hb
   replace HB := am (below_step bl hb)
   clear hb ho0
   obtain ⟨Ao30, co30, eo30⟩ := Kd.R_slice HO559.out
   (first | subst eo30 | (injection eo30 with f1_ f2_ f3_; have f4_ := f1_.symm; have f5_ := f3_.symm; clear f1_ f2_ f3_; subst f4_; subst f5_))
   obtain ⟨Ao31, co31, eo31⟩ := Kd.R_slice HO555.out
   (first | subst eo31 | (injection eo31 with f1_ f2_ f3_; have f4_ := f1_.symm; have f5_ := f3_.symm; clear f1_ f2_ f3_; subst f4_; subst f5_))
   refine hK.out _ _ ⟨bc BK546, bc BK546, bc BK546, bc BK546, bc BK547, bc BK547, bc BK547⟩ (fun hHeld => ?_)
   clear hK K
   refine nm 26 ?_
   refine pu 10 28 [12, 1] ?_
   exact norm_ (by simp only [putAll, Act.put, List.setIfInBounds_toArray, List.set_cons_zero, List.set_cons_succ]) (hCont (.slice Ao31 t553.length co31, .slice Ao30 t557.length co30, gb561) _ ⟨hHeld, (by (with_reducible repeat (first | apply Kd.R_alloc | apply Kd.R_drewN | apply Kd.R_drew)); exact Kd.R_mono HO552.out (fun _ hk => hk.2)), (by (with_reducible repeat (first | apply Kd.R_alloc | apply Kd.R_drewN | apply Kd.R_drew)); exact Kd.R_mono HO555.out (fun _ hk => hk.2)), (ro HO559), (bk BK546), (bk BK547), (bk BK548), (bk BK561), GW561.out, GE561.out, NB546_561.out, NB561_546.out, NB547_561.out, NB561_547.out, NB548_561.out, NB561_548.out, bl⟩)
 rintro ⟨v554, v558, gb561⟩ w32 ⟨hS_, h0_, h1_, h2_, h3_, h4_, h5_, h6_, h7_, h8_, h9_, h10_, h11_, h12_, h13_, h14_, h15_⟩
 have n0_ : Aside0 (Kd.R Kd.string 9 w32 w.heap.size (fun k_ => some k_ ≠ (v554 : Value).ownBlock) (.slice Ao25 t550.length co25) t550) := ⟨h0_⟩
 have n1_ : Aside0 (Kd.R Kd.string 9 w32 w.heap.size (fun k_ => some k_ ≠ (.slice Ao25 t550.length co25 : Value).ownBlock) v554 t553) := ⟨h1_⟩
 have n2_ : Aside0 (Kd.R k116 116 w32 w.heap.size (fun _ => True) v558 t557) := ⟨h2_⟩
 have n3_ : Aside0 (w32.heap[gb546]? = some (.cells #[.int .i64 a0_0, .string a0_1, .slice A0_2 l0_2.length c0_2, .string a0_3] 50 (0, 0))) := ⟨h3_⟩
 have n4_ : Aside0 (w32.heap[gb547]? = some (.cells #[.int .i64 a1_0, .slice A1_1 l1_1.length c1_1, .string a1_2] 29 (0, 0))) := ⟨h4_⟩
 have n5_ : Aside0 (w32.heap[gb548]? = some (.cells #[.string (⟨#[]⟩ : ByteArray), .slice none 0 0, .slice none 0 0, .int .i64 0, .slice none 0 0, .string (⟨#[]⟩ : ByteArray), .int .i64 0] 31 (0, 0))) := ⟨h5_⟩
 have n6_ : Aside0 (w32.heap[gb561]? = some (.cells #[.string (⟨#[]⟩ : ByteArray), .slice none 0 0, .slice none 0 0, .int .i64 0, .slice none 0 0, .string (⟨#[]⟩ : ByteArray), .int .i64 0] 31 (0, 0))) := ⟨h6_⟩
 have n7_ : Aside0 (w.heap.size ≤ gb561) := ⟨h7_⟩
 have n8_ : Aside0 (w.heap.size ≤ gb561) := ⟨h8_⟩
 have n9_ : Aside0 (gb546 ≠ gb561) := ⟨h9_⟩
 have n10_ : Aside0 (gb561 ≠ gb546) := ⟨h10_⟩
 have n11_ : Aside0 (gb547 ≠ gb561) := ⟨h11_⟩
 have n12_ : Aside0 (gb561 ≠ gb547) := ⟨h12_⟩
 have n13_ : Aside0 (gb548 ≠ gb561) := ⟨h13_⟩
 have n14_ : Aside0 (gb561 ≠ gb548) := ⟨h14_⟩
 have n15_ : Aside0 (Below w.heap.size w w32) := ⟨h15_⟩
 clear HO552
 clear BK546
 clear BK547
 clear BK548
 clear HB
 clear h0_ h1_ h2_ h3_ h4_ h5_ h6_ h7_ h8_ h9_ h10_ h11_ h12_ h13_ h14_ h15_
 have HO552 := n0_
 have HO555 := n1_
 have HO559 := n2_
 have BK546 := n3_
 have BK547 := n4_
 have BK548 := n5_
 have BK561 := n6_
 have GW561 := n7_
 have GE561 := n8_
 have NB546_561 := n9_
 have NB561_546 := n10_
 have NB547_561 := n11_
 have NB561_547 := n12_
 have NB548_561 := n13_
 have NB561_548 := n14_
 have HB := n15_
 clear n0_ n1_ n2_ n3_ n4_ n5_ n6_ n7_ n8_ n9_ n10_ n11_ n12_ n13_ n14_ n15_
 have hHeld : w32.cell? ⟨gb546, 0, none⟩ = some (.int .i64 a0_0) ∧ w32.cell? ⟨gb546, 1, none⟩ = some (.string a0_1) ∧ w32.cell? ⟨gb546, 2, none⟩ = some (.slice A0_2 l0_2.length c0_2) ∧ w32.cell? ⟨gb546, 3, none⟩ = some (.string a0_3) ∧ w32.cell? ⟨gb547, 0, none⟩ = some (.int .i64 a1_0) ∧ w32.cell? ⟨gb547, 1, none⟩ = some (.slice A1_1 l1_1.length c1_1) ∧ w32.cell? ⟨gb547, 2, none⟩ = some (.string a1_2) := hS_
 obtain ⟨Ao33, co33, eo33⟩ := Kd.R_slice HO559.out
 (first | subst eo33 | (injection eo33 with f1_ f2_ f3_; have f4_ := f1_.symm; have f5_ := f3_.symm; clear f1_ f2_ f3_; subst f4_; subst f5_))
 obtain ⟨Ao34, co34, eo34⟩ := Kd.R_slice HO555.out
 (first | subst eo34 | (injection eo34 with f1_ f2_ f3_; have f4_ := f1_.symm; have f5_ := f3_.symm; clear f1_ f2_ f3_; subst f4_; subst f5_))
 refine norm_ (a' := ?_) ?_ ?_
 rotate_left
 ·simp only [putAll, Act.put, List.setIfInBounds_toArray, List.set_cons_zero, List.set_cons_succ]
  rfl
 refine one_ (i := 12) (N := none) #[true, true, true, true, true, true, true, true, true, true, true, true, true] rfl rfl (one_of HT_.out (by kernel_rfl)) (by decide) (fun K hK => ?_)
 have hs35 : w32.cell? ⟨gb561, 0, none⟩ = some (.string (⟨#[]⟩ : ByteArray)) := bc BK561
 have hfs35 := blk_frozen BK561.out 0
 have hns35_0 := NB546_561.out
 have hns35_1 := NB547_561.out
 have hns35_2 := NB548_561.out
 have hms35_0 := NB561_546.out
 have hms35_1 := NB561_547.out
 have hms35_2 := NB561_548.out
 have hs36 : w32.cell? ⟨gb561, 1, none⟩ = some (.slice none 0 0) := bc BK561
 have hfs36 := blk_frozen BK561.out 1
 have hns36_0 := NB546_561.out
 have hns36_1 := NB547_561.out
 have hns36_2 := NB548_561.out
 have hms36_0 := NB561_546.out
 have hms36_1 := NB561_547.out
 have hms36_2 := NB561_548.out
 have hs37 : w32.cell? ⟨gb561, 2, none⟩ = some (.slice none 0 0) := bc BK561
 have hfs37 := blk_frozen BK561.out 2
 have hns37_0 := NB546_561.out
 have hns37_1 := NB547_561.out
 have hns37_2 := NB548_561.out
 have hms37_0 := NB561_546.out
 have hms37_1 := NB561_547.out
 have hms37_2 := NB561_548.out
 have hs38 : w32.cell? ⟨gb561, 3, none⟩ = some (.int .i64 0) := bc BK561
 have hfs38 := blk_frozen BK561.out 3
 have hns38_0 := NB546_561.out
 have hns38_1 := NB547_561.out
 have hns38_2 := NB548_561.out
 have hms38_0 := NB561_546.out
 have hms38_1 := NB561_547.out
 have hms38_2 := NB561_548.out
 have hs39 : w32.cell? ⟨gb561, 4, none⟩ = some (.slice none 0 0) := bc BK561
 have hfs39 := blk_frozen BK561.out 4
 have hns39_0 := NB546_561.out
 have hns39_1 := NB547_561.out
 have hns39_2 := NB548_561.out
 have hms39_0 := NB561_546.out
 have hms39_1 := NB561_547.out
 have hms39_2 := NB561_548.out
 have hs40 : w32.cell? ⟨gb561, 5, none⟩ = some (.string (⟨#[]⟩ : ByteArray)) := bc BK561
 have hfs40 := blk_frozen BK561.out 5
 have hns40_0 := NB546_561.out
 have hns40_1 := NB547_561.out
 have hns40_2 := NB548_561.out
 have hms40_0 := NB561_546.out
 have hms40_1 := NB561_547.out
 have hms40_2 := NB561_548.out
 have hs41 : w32.cell? ⟨gb561, 6, none⟩ = some (.int .i64 0) := bc BK561
 have hfs41 := blk_frozen BK561.out 6
 have hns41_0 := NB546_561.out
 have hns41_1 := NB547_561.out
 have hns41_2 := NB548_561.out
 have hms41_0 := NB561_546.out
 have hms41_1 := NB561_547.out
 have hms41_2 := NB561_548.out
 refine skip_ (w1 := ?_) (by rfl) rfl ?_ ?_
 rotate_left
 ·go_simp
  rfl
 refine hK.out _ _ ⟨((cell_far (p := ⟨gb561, _, none⟩) NB546_561.out _).trans (((cell_far (p := ⟨gb561, _, none⟩) NB546_561.out _).trans (((cell_far (p := ⟨gb561, _, none⟩) NB546_561.out _).trans (((cell_far (p := ⟨gb561, _, none⟩) NB546_561.out _).trans (((cell_far (p := ⟨gb561, _, none⟩) NB546_561.out _).trans (((cell_far (p := ⟨gb561, _, none⟩) NB546_561.out _).trans (((cell_far (p := ⟨gb561, _, none⟩) NB546_561.out _).trans (hHeld.1)))))))))))))), ((cell_far (p := ⟨gb561, _, none⟩) NB546_561.out _).trans (((cell_far (p := ⟨gb561, _, none⟩) NB546_561.out _).trans (((cell_far (p := ⟨gb561, _, none⟩) NB546_561.out _).trans (((cell_far (p := ⟨gb561, _, none⟩) NB546_561.out _).trans (((cell_far (p := ⟨gb561, _, none⟩) NB546_561.out _).trans (((cell_far (p := ⟨gb561, _, none⟩) NB546_561.out _).trans (((cell_far (p := ⟨gb561, _, none⟩) NB546_561.out _).trans (hHeld.2.1)))))))))))))), ((cell_far (p := ⟨gb561, _, none⟩) NB546_561.out _).trans (((cell_far (p := ⟨gb561, _, none⟩) NB546_561.out _).trans (((cell_far (p := ⟨gb561, _, none⟩) NB546_561.out _).trans (((cell_far (p := ⟨gb561, _, none⟩) NB546_561.out _).trans (((cell_far (p := ⟨gb561, _, none⟩) NB546_561.out _).trans (((cell_far (p := ⟨gb561, _, none⟩) NB546_561.out _).trans (((cell_far (p := ⟨gb561, _, none⟩) NB546_561.out _).trans (hHeld.2.2.1)))))))))))))), ((cell_far (p := ⟨gb561, _, none⟩) NB546_561.out _).trans (((cell_far (p := ⟨gb561, _, none⟩) NB546_561.out _).trans (((cell_far (p := ⟨gb561, _, none⟩) NB546_561.out _).trans (((cell_far (p := ⟨gb561, _, none⟩) NB546_561.out _).trans (((cell_far (p := ⟨gb561, _, none⟩) NB546_561.out _).trans (((cell_far (p := ⟨gb561, _, none⟩) NB546_561.out _).trans (((cell_far (p := ⟨gb561, _, none⟩) NB546_561.out _).trans (hHeld.2.2.2.1)))))))))))))), ((cell_far (p := ⟨gb561, _, none⟩) NB547_561.out _).trans (((cell_far (p := ⟨gb561, _, none⟩) NB547_561.out _).trans (((cell_far (p := ⟨gb561, _, none⟩) NB547_561.out _).trans (((cell_far (p := ⟨gb561, _, none⟩) NB547_561.out _).trans (((cell_far (p := ⟨gb561, _, none⟩) NB547_561.out _).trans (((cell_far (p := ⟨gb561, _, none⟩) NB547_561.out _).trans (((cell_far (p := ⟨gb561, _, none⟩) NB547_561.out _).trans (hHeld.2.2.2.2.1)))))))))))))), ((cell_far (p := ⟨gb561, _, none⟩) NB547_561.out _).trans (((cell_far (p := ⟨gb561, _, none⟩) NB547_561.out _).trans (((cell_far (p := ⟨gb561, _, none⟩) NB547_561.out _).trans (((cell_far (p := ⟨gb561, _, none⟩) NB547_561.out _).trans (((cell_far (p := ⟨gb561, _, none⟩) NB547_561.out _).trans (((cell_far (p := ⟨gb561, _, none⟩) NB547_561.out _).trans (((cell_far (p := ⟨gb561, _, none⟩) NB547_561.out _).trans (hHeld.2.2.2.2.2.1)))))))))))))), ((cell_far (p := ⟨gb561, _, none⟩) NB547_561.out _).trans (((cell_far (p := ⟨gb561, _, none⟩) NB547_561.out _).trans (((cell_far (p := ⟨gb561, _, none⟩) NB547_561.out _).trans (((cell_far (p := ⟨gb561, _, none⟩) NB547_561.out _).trans (((cell_far (p := ⟨gb561, _, none⟩) NB547_561.out _).trans (((cell_far (p := ⟨gb561, _, none⟩) NB547_561.out _).trans (((cell_far (p := ⟨gb561, _, none⟩) NB547_561.out _).trans (hHeld.2.2.2.2.2.2))))))))))))))⟩ (fun hHeld => ?_)
 clear hK K
 refine done_ (done_of HT_.out (by kernel_rfl)) ?_
 have hnb42 := NB561_546.out
 have hnc42 := NB546_561.out
 have hnb43 := NB561_547.out
 have hnc43 := NB547_561.out
 have hnb44 := NB561_548.out
 have hnc44 := NB548_561.out
 obtain ⟨z45_0, y45_0, z45_1, y45_1, z45_2, y45_2, z45_3, y45_3, z45_4, y45_4, z45_5, y45_5, z45_6, y45_6⟩ := cl7 BK561
 go_upto_if 31 with ((with_reducible refine gw ?_); first | (refine gl 30 Tryz.func65 #[.agg #[.string a0_1, .slice Ao25 t550.length co25, .slice Ao34 t553.length co34, .int .i64 t556, .slice Ao33 t557.length co33, .string t560, .int .i64 a2]] ?_; (with_reducible refine (spec_ObjOk.calls k a0_1 _ _ t550 _ _ t553 t556 _ _ t557 t560 a2 t562 _ ?side1 ?side2 ?side3 ?side4 ?side5 ?side6 A19.out).mono ?_); (case side1 => refine (Kd.R_reads' (e := 9) (base := w.heap.size) (ok := fun k_ => some k_ ≠ (.slice Ao34 t553.length co34 : Value).ownBlock) (n := t550.length) (c := co25) ?_).2.2; exact (rj (Kd.R_types HO552.out BK561.out (by decide)) (fun _ h_ => h_.1))); (case side2 => exact (Kd.R_reads' HO552.out).2.1); (case side3 => refine (Kd.R_reads' (e := 9) (base := w.heap.size) (ok := fun k_ => some k_ ≠ (.slice Ao25 t550.length co25 : Value).ownBlock) (n := t553.length) (c := co34) ?_).2.2; exact (rj (Kd.R_types HO555.out BK561.out (by decide)) (fun _ h_ => h_.1))); (case side4 => exact (Kd.R_reads' HO555.out).2.1); (case side5 => refine (Kd.R_reads' (e := 116) (base := w.heap.size) (ok := fun k_ => True) (n := t557.length) (c := co33) ?_).2.2; exact (rj (Kd.R_types HO559.out BK561.out (by decide)) (fun _ h_ => h_.1))); (case side6 => exact (Kd.R_reads' HO559.out).2.1); rintro e w46 ⟨rfl, hb⟩; refine ⟨_, rfl, ?_⟩; replace HO552 := am (Kd.R_below (rj (Kd.R_types HO552.out BK561.out (by decide)) (fun _ h_ => h_.1)) hb); replace HO555 := am (Kd.R_below (rj (Kd.R_types HO555.out BK561.out (by decide)) (fun _ h_ => h_.1)) hb); replace HO559 := am (Kd.R_below (rj (Kd.R_types HO559.out BK561.out (by decide)) (fun _ h_ => h_.1)) hb); replace BK546 := kg1 BK546 NB546_561 hb; replace BK547 := kg1 BK547 NB547_561 hb; replace BK548 := kg1 BK548 NB548_561 hb; replace BK561 := am (blk_below (g := gb561) (o := .cells #[.string a0_1, .slice Ao25 t550.length co25, .slice Ao34 t553.length co34, .int .i64 t556, .slice Ao33 t557.length co33, .string t560, .int .i64 a2] 31 (0, 0)) (pt0 BK561) hb); replace HB := am (below_step bl hb); clear hb))
 have H := HH20.out
 clear HH20
 by_cases c47 : t562 = true
 ·subst c47
  rw [if_pos rfl] at H
  simp only [Option.some.injEq, Prod.mk.injEq] at H
  obtain ⟨rfl, rfl, rfl, rfl, rfl, rfl, rfl, rfl⟩ := H
  have hnb48 := NB561_546.out
  have hnc48 := NB546_561.out
  have hnb49 := NB561_547.out
  have hnc49 := NB547_561.out
  have hnb50 := NB561_548.out
  have hnc50 := NB548_561.out
  obtain ⟨z51_0, y51_0, z51_1, y51_1, z51_2, y51_2, z51_3, y51_3, z51_4, y51_4, z51_5, y51_5, z51_6, y51_6⟩ := cl7 BK561
  have hnb52 := NB548_546.out
  have hnc52 := NB546_548.out
  have hnb53 := NB548_547.out
  have hnc53 := NB547_548.out
  obtain ⟨z54_0, y54_0, z54_1, y54_1, z54_2, y54_2, z54_3, y54_3, z54_4, y54_4, z54_5, y54_5, z54_6, y54_6⟩ := cl7 BK548
  go_wp2
  refine bodyPost_ret (results_ct rfl _ _ gb548 31 #[.string a0_1, .slice Ao25 t550.length co25, .slice Ao34 t553.length co34, .int .i64 t556, .slice Ao33 t557.length co33, .string t560, .int .i64 a2] (0, 0) _ rfl (pt0 BK548) Tryz.underlying31 rfl (by kernel_rfl)) rfl ?_
  exact ⟨_, _, _, rf, rj (Kd.R_types HO552.out BK548.out (by decide)) (fun _ hk => hk.1), rj (Kd.R_types HO555.out BK548.out (by decide)) (fun _ hk => hk.1), rj (Kd.R_types HO559.out BK548.out (by decide)) (fun _ hk => trivial), bl⟩
 replace c47 := Bool.eq_false_iff.mpr c47
 subst c47
 rw [if_neg (show ¬ (false = true) by decide)] at H
 simp only [Option.some.injEq, Prod.mk.injEq] at H
 obtain ⟨rfl, rfl, rfl, rfl, rfl, rfl, rfl, rfl⟩ := H
 have hnb55 := NB548_546.out
 have hnc55 := NB546_548.out
 have hnb56 := NB548_547.out
 have hnc56 := NB547_548.out
 have hnb57 := NB548_561.out
 have hnc57 := NB561_548.out
 obtain ⟨z58_0, y58_0, z58_1, y58_1, z58_2, y58_2, z58_3, y58_3, z58_4, y58_4, z58_5, y58_5, z58_6, y58_6⟩ := cl7 BK548
 go_wp2
 refine bodyPost_ret (results_ct rfl _ _ gb548 31 #[.string (⟨#[]⟩ : ByteArray), .slice none 0 0, .slice none 0 0, .int .i64 0, .slice none 0 0, .string (⟨#[]⟩ : ByteArray), .int .i64 0] (0, 0) _ rfl (pt0 BK548) Tryz.underlying31 rfl (by kernel_rfl)) rfl ?_
 exact ⟨_, _, _, rf, by first | exact Kd.R_nil _ _ _ _ _ | exact Kd.N_nil _ _ _ _ _ | exact Kd.V_nil _ _ _ _ _ | exact Kd.Q_nil _ _ _ _ _ | exact Kd.S_nil _ _ _ _ _, by first | exact Kd.R_nil _ _ _ _ _ | exact Kd.N_nil _ _ _ _ _ | exact Kd.V_nil _ _ _ _ _ | exact Kd.Q_nil _ _ _ _ _ | exact Kd.S_nil _ _ _ _ _, by first | exact Kd.R_nil _ _ _ _ _ | exact Kd.N_nil _ _ _ _ _ | exact Kd.V_nil _ _ _ _ _ | exact Kd.Q_nil _ _ _ _ _ | exact Kd.S_nil _ _ _ _ _, bl⟩

end Go.Proofs.YtjlpjbkpmmpojaaGreatDoor.All
