import Derived.Test.YtjlpjbkpmmpojaaGreatDoorKO23
import Derived.Test.YtjlpjbkpmmpojaaGreatDoorKO24
import Derived.Test.YtjlpjbkpmmpojaaGreatDoorKO16
namespace Go.Proofs.YtjlpjbkpmmpojaaGreatDoor.All
open Go.RowKit Go.Proofs.YtjlpjbkpmmpojaaGreatDoorW.PrintWords Go.Proofs.YtjlpjbkpmmpojaaGreatDoorW.PrintLast Go.Proofs.YtjlpjbkpmmpojaaGreatDoorW.PrintMore
set_option maxHeartbeats 8000000
set_option maxRecDepth 100000
attribute [local go_sem] min2_int min_two
set_option linter.unusedVariables false
set_option linter.unusedSimpArgs false
theorem u117HB {p : Prop} (h : p := by repeat (first | (with_reducible first | exact HB.out | apply below_alloc | apply pw_below_drewN | apply below_drew1) | exact HB.out)) : p := h
def spec_ValuesOf.l0 : Nat → List ByteArray → List (S116) → List ByteArray → Int → Option (List ByteArray)
 | 0, _, _, _, _ => none
 | k + 1, x0, x1, x5, x6 => if x6 < (x0.length : Int) then (if 0 ≤ x6 then ((spec_Get.f k x1 (rdOf ByteArray.empty x0 x6)).bind fun bt16 => (if bt16.2 = true then (if x5.length < 8796093022208 then (spec_ValuesOf.l0 k x0 x1 (x5 ++ [bt16.1]) (wrap64 (x6 + 1))) else (none)) else (if x5.length < 8796093022208 then (spec_ValuesOf.l0 k x0 x1 (x5 ++ [(⟨#[45]⟩ : ByteArray)]) (wrap64 (x6 + 1))) else (none)))) else (none)) else (some x5)
def spec_ValuesOf.f (k : Nat) (l0 : List ByteArray) (l1 : List (S116)) : Option (List ByteArray) := spec_ValuesOf.l0 k l0 l1 (([] : List ByteArray)) 0
theorem spec_ValuesOf.calls (k : Nat) (A0 : Option Addr) (c0 : Nat) (l0 : List ByteArray) (A1 : Option Addr) (c1 : Nat) (l1 : List (S116)) (r : List ByteArray) (w : World) (hr0 : Kd.C Kd.string w A0 l0.length l0) (hc0 : l0.length ≤ c0) (hr1 : Kd.C k116 w A1 l1.length l1) (hc1 : l1.length ≤ c1) (h : spec_ValuesOf.f k l0 l1 = some r) :
  Calls Tryz.prog 117 #[.slice A0 l0.length c0, .slice A1 l1.length c1] w fun e w' => ∃ v0_ : Value, e = .returned (v0_) ∧ Kd.R Kd.string 9 w' w.heap.size (fun _ => True) v0_ r ∧ Below w.heap.size w w' := by
 have HR0 := am hr0
 have HC0 := am hc0
 clear hr0 hc0
 have HR1 := am hr1
 have HC1 := am hc1
 clear hr1 hc1
 have HB := am (Below.refl w.heap.size w)
 unfold spec_ValuesOf.f at h
 have H := h
 clear h
 obtain ⟨y17, hy17⟩ : ∃ y_, y_ = (([] : List ByteArray)) := ⟨_, rfl⟩
 (try with_reducible replace H := bs_ H)
 rw [← hy17] at H
 have Ny17 := am hy17
 clear hy17
 have H' := am H
 clear H
 go_enter Tryz.func117, Tryz.ntmps117
 go_wp2_with (first | ((with_reducible refine gate_dst (N := 9) rfl ?_); refine Kd.R_lit Kd.string _ 9 ?hg (N := 9) ?hd (xs := ([] : List ByteArray)) (inner := []) (ok := fun _ => True) (okp := fun _ => True) ?hr ?hp (fun _ hk => hk) trivial (Below.refl _ _) (Nat.le_refl _) (by simp) ?_; (case hd => rfl); (case hg => rfl); (case hr => first | (go_simp; done) | (go_simp; rfl)); (case hp => exact (Reps.none _ _)); intro v22 w3 ho4 hb hg_ hnew_; clear hg_ hnew_; (first | rw [← Ny17.out] at ho4 | (simp only [Int.reduceToNat] at ho4; rw [← Ny17.out] at ho4)); have HO18 := am (Kd.R_lower ho4 (below_size bl)); replace HB := am (below_step bl hb); clear hb ho4))
 (try simp only [Act.put, List.setIfInBounds_toArray, List.set_cons_zero, List.set_cons_succ])
 go_loopg [5, 6] k (fun kq v5 v6 w' => ∃ (x5_1 : List ByteArray) (x6_1 : Int), v6 = .int .i64 x6_1 ∧ Aside0 (spec_ValuesOf.l0 kq l0 l1 x5_1 x6_1 = some r) ∧ Aside0 (kq ≤ k) ∧ Aside0 (Kd.R Kd.string 9 w' w.heap.size (fun _ => True) v5 x5_1) ∧ Aside0 (Below w.heap.size w w'))
 case atStart => exact ⟨(y17), (0), rs, H', ⟨Nat.le_refl _⟩, ⟨ro HO18⟩, ⟨u117HB⟩⟩
 case round =>
  clear H'
  obtain ⟨x5_1, x6_1, rfl, HA, HK1, HO_5, HB⟩ := hrel
  cases gk with
  | zero => exact absurd HA.out (by simp [spec_ValuesOf.l0])
  | succ k1 =>
   have H := HA.out
   clear HA
   simp only [spec_ValuesOf.l0] at H
   by_cases c5 : x6_1 < (l0.length : Int)
   rotate_left
   ·rw [if_neg c5] at H
    have c5b0 := decide_eq_false c5
    clear c5
    obtain rfl := si_ H
    go_wp2
    go_ret
    exact ⟨_, rf, by (with_reducible repeat (first | apply Kd.R_alloc | apply Kd.R_drewN | apply Kd.R_drew)); exact HO_5.out, bl⟩
   rw [if_pos c5] at H
   have c5b0 := decide_eq_true c5
   clear c5
   revert H
   refine ifn fun c6 H => ?_
   have c6b0 := decide_eq_true c6
   clear c6
   revert H
   refine ok2 fun t16 t19 A7 H => ?_
   (try dsimp only at H)
   by_cases c8 : t19 = true
   ·subst c8
    rw [if_pos rfl] at H
    revert H
    refine ifn fun c9 H => ?_
    have LMc9 := am c9
    clear c9
    obtain ⟨y14, hy14⟩ : ∃ y_ : List ByteArray, y_ = (x5_1 ++ [t16]) := ⟨_, rfl⟩
    replace H : (spec_ValuesOf.l0 k1 l0 l1 y14 (wrap64 (x6_1 + 1))) = some r := by first | (rw [hy14]; with_reducible exact H) | (have H2_ := (Option.bind_some _ _).symm.trans H; rw [hy14]; with_reducible exact H2_) | (have H2_ := (Option.bind_some _ _).symm.trans H; with_reducible exact H2_) | with_reducible exact H | (rw [hy14]; exact H) | exact H
    have Ny14 := am hy14
    clear hy14
    have H' := am H
    clear H
    have p13 : 0 ≤ (x6_1 : Int) := od
    have q13 : x6_1 < (l0.length : Int) := od
    obtain ⟨ad13, e13, hx13_0⟩ := Kd.at_string HR0.out x6_1 p13 q13
    cases e13
    replace hx13_0 := hcw hx13_0
    replace p13 := eq_true p13
    replace q13 := eq_true q13
    go_wp2_with (first | ((with_reducible refine gw ?_); first | (refine gl 22 Tryz.func66 #[.slice A1 l1.length c1, .string (rdOf ByteArray.empty l0 x6_1)] ?_; refine (spec_Get.calls k1 _ _ l1 (rdOf ByteArray.empty l0 x6_1) t16 true _ (cb HR1) HC1.out A7.out).mono ?_; rintro e w' ⟨rfl, ⟨nd, rfl⟩⟩; refine ⟨_, rfl, ?_⟩)) | ((with_reducible refine gate_builtin (b := .append) (xs := #[.tmp 27, .tmp 29]) rfl ?_); at_builtin; refine Kd.R_append Kd.string (w0 := w) w.heap.size rfl (.tmp 27) (.tmp 29) 26 9 (.string ⟨#[]⟩) 16 rfl Tryz.underlying26 info9 rfl (by decide) (by omega) u5 x5_1 t16 [.string t16] (fun _ => True) (fun _ => False) rfl rfl ?aP (fun _ hk => hk.elim) ?aF ?aO ?aB ?aS ?aL ?_; (case aP => exact rfl); (case aB => exact bl); (case aF => exact (fun _ _ => trivial)); (case aO => exact (ro HO_5)); (case aS => exact (below_size bl)); (case aL => have := LMc9.out; omega); intro v23 w10 ho hb hg hat; rw [← Ny14.out] at ho; have n0_ := am (hb); have n1_ := am (ho); clear HB; clear HO_5; have HB := n0_; have HO20 := n1_; clear n0_ n1_; clear ho hb hg hat))
    go_roundg k1
    case measure => have := HK1.out; omega
    case rel => exact ⟨(y14), (wrap64 (x6_1 + 1)), rs, H', ⟨by have := HK1.out; omega⟩, ⟨ro HO20⟩, ⟨u117HB⟩⟩
   replace c8 := nb_ c8
   subst c8
   rw [if_neg ff_] at H
   revert H
   refine ifn fun c11 H => ?_
   have LMc11 := am c11
   clear c11
   obtain ⟨y15, hy15⟩ : ∃ y_ : List ByteArray, y_ = (x5_1 ++ [(⟨#[45]⟩ : ByteArray)]) := ⟨_, rfl⟩
   replace H : (spec_ValuesOf.l0 k1 l0 l1 y15 (wrap64 (x6_1 + 1))) = some r := by first | (rw [hy15]; with_reducible exact H) | (have H2_ := (Option.bind_some _ _).symm.trans H; rw [hy15]; with_reducible exact H2_) | (have H2_ := (Option.bind_some _ _).symm.trans H; with_reducible exact H2_) | with_reducible exact H | (rw [hy15]; exact H) | exact H
   have Ny15 := am hy15
   clear hy15
   have H' := am H
   clear H
   have p13 : 0 ≤ (x6_1 : Int) := od
   have q13 : x6_1 < (l0.length : Int) := od
   obtain ⟨ad13, e13, hx13_0⟩ := Kd.at_string HR0.out x6_1 p13 q13
   cases e13
   replace hx13_0 := hcw hx13_0
   replace p13 := eq_true p13
   replace q13 := eq_true q13
   go_wp2_with (first | ((with_reducible refine gw ?_); first | (refine gl 22 Tryz.func66 #[.slice A1 l1.length c1, .string (rdOf ByteArray.empty l0 x6_1)] ?_; refine (spec_Get.calls k1 _ _ l1 (rdOf ByteArray.empty l0 x6_1) t16 false _ (cb HR1) HC1.out A7.out).mono ?_; rintro e w' ⟨rfl, ⟨nd, rfl⟩⟩; refine ⟨_, rfl, ?_⟩)) | ((with_reducible refine gate_builtin (b := .append) (xs := #[.tmp 27, .tmp 29]) rfl ?_); at_builtin; refine Kd.R_append Kd.string (w0 := w) w.heap.size rfl (.tmp 27) (.tmp 29) 26 9 (.string ⟨#[]⟩) 16 rfl Tryz.underlying26 info9 rfl (by decide) (by omega) u5 x5_1 (⟨#[45]⟩ : ByteArray) [.string (⟨#[45]⟩ : ByteArray)] (fun _ => True) (fun _ => False) rfl rfl ?aP (fun _ hk => hk.elim) ?aF ?aO ?aB ?aS ?aL ?_; (case aP => exact rfl); (case aB => exact bl); (case aF => exact (fun _ _ => trivial)); (case aO => exact (ro HO_5)); (case aS => exact (below_size bl)); (case aL => have := LMc11.out; omega); intro v24 w12 ho hb hg hat; rw [← Ny15.out] at ho; have n0_ := am (hb); have n1_ := am (ho); clear HB; clear HO_5; have HB := n0_; have HO21 := n1_; clear n0_ n1_; clear ho hb hg hat))
   go_roundg k1
   case measure => have := HK1.out; omega
   case rel => exact ⟨(y15), (wrap64 (x6_1 + 1)), rs, H', ⟨by have := HK1.out; omega⟩, ⟨ro HO21⟩, ⟨u117HB⟩⟩
def spec_ObjOf.f (k : Nat) (a0_0 : Int) (a0_1 : ByteArray) (l0_2 : List (S116)) (a0_3 : ByteArray) (a1_0 : Int) (l1_1 : List (S116)) (a1_2 : ByteArray) (a2 : Int) : Option (ByteArray × List ByteArray × List ByteArray × Int × (List (S116)) × ByteArray × Int × Bool) := (spec_MayKeep.f k a0_0 a0_1 l0_2 a0_3 a1_0 l1_1 a1_2).bind fun t70 => (if t70 = true then ((spec_VaryOf.f k l1_1).bind fun t62 => ((spec_ValuesOf.f k t62 l0_2).bind fun t66 => ((spec_l9Resp.f a1_0 l1_1 a1_2).bind fun bt67 => ((spec_ObjOk.f k a0_1 t62 t66 bt67.1 bt67.2.1 bt67.2.2 a2).bind fun t71 => (if t71 = true then (some (a0_1, t62, t66, bt67.1, bt67.2.1, bt67.2.2, a2, true)) else (some ((⟨#[]⟩ : ByteArray), ([] : List ByteArray), ([] : List ByteArray), 0, ([] : List (S116)), (⟨#[]⟩ : ByteArray), 0, false))))))) else (some ((⟨#[]⟩ : ByteArray), ([] : List ByteArray), ([] : List ByteArray), 0, ([] : List (S116)), (⟨#[]⟩ : ByteArray), 0, false)))
def spec_ObjOf.T4 : Bool × List (List Nat × List Nat) := (true, [([], []), ([0], [0]), ([], []), ([], []), ([], []), ([4], [4]), ([3, 5], [3, 5]), ([], []), ([7, 6], [7]), ([], []), ([1, 2, 6, 8, 9], [1, 2, 6, 8, 9]), ([], []), ([11, 10, 8, 0, 1, 2, 3, 4, 5, 6, 7, 8, 9, 10, 11], [10, 11])])
def spec_ObjOf.B4 : List Nat := [0, 1, 0, 0, 0, 16, 56, 0, 248, 0, 1023, 0, 4095]
theorem spec_ObjOf.tab4 : rtab .any (opsOf Tryz.f44 4) = spec_ObjOf.T4 := by kernel_rfl
theorem spec_ObjOf.bits4 : waitsOk spec_ObjOf.T4.2 spec_ObjOf.B4 = true := by kernel_rfl
theorem spec_ObjOf.calls (k : Nat) (a0_0 : Int) (a0_1 : ByteArray) (A0_2 : Option Addr) (c0_2 : Nat) (l0_2 : List (S116)) (a0_3 : ByteArray) (a1_0 : Int) (A1_1 : Option Addr) (c1_1 : Nat) (l1_1 : List (S116)) (a1_2 : ByteArray) (a2 : Int) (r1 : ByteArray) (r2 : List ByteArray) (r3 : List ByteArray) (r4 : Int) (r5 : List (S116)) (r6 : ByteArray) (r7 : Int) (r8 : Bool) (w : World) (hr0_2 : Kd.C k116 w A0_2 l0_2.length l0_2) (hc0_2 : l0_2.length ≤ c0_2) (hr1_1 : Kd.C k116 w A1_1 l1_1.length l1_1) (hc1_1 : l1_1.length ≤ c1_1) (h : spec_ObjOf.f k a0_0 a0_1 l0_2 a0_3 a1_0 l1_1 a1_2 a2 = some (r1, r2, r3, r4, r5, r6, r7, r8)) :
  Calls Tryz.prog 44 #[.agg #[.int .i64 a0_0, .string a0_1, .slice A0_2 l0_2.length c0_2, .string a0_3], .agg #[.int .i64 a1_0, .slice A1_1 l1_1.length c1_1, .string a1_2], .int .i64 a2] w fun e w' => ∃ v1_ v2_ v4_ : Value, e = .returned (.tuple #[.agg #[.string r1, v1_, v2_, .int .i64 r4, v4_, .string r6, .int .i64 r7], .bool r8]) ∧ Kd.R Kd.string 9 w' w.heap.size (fun k_ => some k_ ≠ (v2_ : Value).ownBlock) v1_ r2 ∧ Kd.R Kd.string 9 w' w.heap.size (fun k_ => some k_ ≠ (v1_ : Value).ownBlock) v2_ r3 ∧ Kd.R k116 116 w' w.heap.size (fun _ => True) v4_ r5 ∧ Below w.heap.size w w' := by
 have hu50 := Tryz.underlying50
 have hu29 := Tryz.underlying29
 have hu31 := Tryz.underlying31
 have HR0_2 := am hr0_2
 have HC0_2 := am hc0_2
 clear hr0_2 hc0_2
 have HR1_1 := am hr1_1
 have HC1_1 := am hc1_1
 clear hr1_1 hc1_1
 have HB := am (Below.refl w.heap.size w)
 unfold spec_ObjOf.f at h
 have H := h
 clear h
 revert H
 refine ok1 fun t70 A4 H => ?_
 have HH5 := am H
 clear H
 go_enter Tryz.func44, Tryz.ntmps44
 go_upto_if 13 with ((with_reducible refine gw ?_); first | (refine bx 3 #[.int .i64 a0_0, .string a0_1, .slice A0_2 l0_2.length c0_2, .string a0_3] 50 ?_; intro gb45 hg w6 hbox hb; have BK45 := am (hbox); have GW45 := am (sz hg : w.heap.size ≤ gb45); have GE45 := am (sz hg : w.heap.size ≤ gb45); replace HB := am (below_step bl hb); clear hb hbox hg) | (refine bx 4 #[.int .i64 a1_0, .slice A1_1 l1_1.length c1_1, .string a1_2] 29 ?_; intro gb51 hg w7 hbox hb; have BK51 := am (hbox); have GW51 := am (sz hg : w.heap.size ≤ gb51); have GE51 := am (sz hg : w.heap.size ≤ gb51); replace HB := am (below_step bl hb); have NB45_51 := am (nl hg BK45 : gb45 ≠ gb51); have NB51_45 := am (ng hg BK45 : gb51 ≠ gb45); replace BK45 := kb BK45 hb; clear hb hbox hg) | (refine bx 6 #[.string (⟨#[]⟩ : ByteArray), .slice none 0 0, .slice none 0 0, .int .i64 0, .slice none 0 0, .string (⟨#[]⟩ : ByteArray), .int .i64 0] 31 ?_; intro gb54 hg w8 hbox hb; have BK54 := am (hbox); have GW54 := am (sz hg : w.heap.size ≤ gb54); have GE54 := am (sz hg : w.heap.size ≤ gb54); replace HB := am (below_step bl hb); have NB45_54 := am (nl hg BK45 : gb45 ≠ gb54); have NB54_45 := am (ng hg BK45 : gb54 ≠ gb45); replace BK45 := kb BK45 hb; have NB51_54 := am (nl hg BK51 : gb51 ≠ gb54); have NB54_51 := am (ng hg BK51 : gb54 ≠ gb51); replace BK51 := kb BK51 hb; clear hb hbox hg; have hnb9 := NB45_51.out; have hnc9 := NB51_45.out; have hnb10 := NB45_54.out; have hnc10 := NB54_45.out; obtain ⟨_, _, _, _, _, _, _, _⟩ := cl4 BK45; have hnb12 := NB51_54.out; have hnc12 := NB54_51.out; obtain ⟨_, _, _, _, _, _⟩ := cl3 BK51) | (refine gl 12 Tryz.func30 #[.agg #[.int .i64 a0_0, .string a0_1, .slice A0_2 l0_2.length c0_2, .string a0_3], .agg #[.int .i64 a1_0, .slice A1_1 l1_1.length c1_1, .string a1_2]] ?_; refine (spec_MayKeep.calls k a0_0 a0_1 _ _ l0_2 a0_3 a1_0 _ _ l1_1 a1_2 t70 _ (cb HR0_2) HC0_2.out (cb HR1_1) HC1_1.out A4.out).mono ?_; rintro e w14 ⟨rfl, hb⟩; refine ⟨_, rfl, ?_⟩; replace BK45 := kb BK45 hb; replace BK51 := kb BK51 hb; replace BK54 := kb BK54 hb; replace HB := am (below_step bl hb); clear hb))
 have H := HH5.out
 clear HH5
 by_cases c15 : t70 = true
 rotate_left
 ·replace c15 := nb_ c15
  subst c15
  rw [if_neg ff_] at H
  simp only [Option.some.injEq, Prod.mk.injEq] at H
  obtain ⟨rfl, rfl, rfl, rfl, rfl, rfl, rfl, rfl⟩ := H
  have hnb59 := NB54_45.out
  have hnc59 := NB45_54.out
  have hnb60 := NB54_51.out
  have hnc60 := NB51_54.out
  obtain ⟨_, _, _, _, _, _, _, _, _, _, _, _, _, _⟩ := cl7 BK54
  go_wp2
  refine bodyPost_ret (results_ct rfl _ _ gb54 31 #[.string (⟨#[]⟩ : ByteArray), .slice none 0 0, .slice none 0 0, .int .i64 0, .slice none 0 0, .string (⟨#[]⟩ : ByteArray), .int .i64 0] (0, 0) _ rfl (pt0 BK54) Tryz.underlying31 rfl (by kernel_rfl)) rfl ?_
  exact ⟨_, _, _, rf, by first | exact Kd.R_nil _ _ _ _ _ | exact Kd.N_nil _ _ _ _ _ | exact Kd.V_nil _ _ _ _ _ | exact Kd.Q_nil _ _ _ _ _ | exact Kd.S_nil _ _ _ _ _, by first | exact Kd.R_nil _ _ _ _ _ | exact Kd.N_nil _ _ _ _ _ | exact Kd.V_nil _ _ _ _ _ | exact Kd.Q_nil _ _ _ _ _ | exact Kd.S_nil _ _ _ _ _, by first | exact Kd.R_nil _ _ _ _ _ | exact Kd.N_nil _ _ _ _ _ | exact Kd.V_nil _ _ _ _ _ | exact Kd.Q_nil _ _ _ _ _ | exact Kd.S_nil _ _ _ _ _, bl⟩
 subst c15
 rw [if_pos rfl] at H
 revert H
 refine ok1 fun t62 A16 H => ?_
 revert H
 refine ok1 fun t66 A17 H => ?_
 revert H
 refine ok3 fun t67 t68 t69 A18 H => ?_
 (try dsimp only at H)
 revert H
 refine ok1 fun t71 A19 H => ?_
 have HH20 := am H
 clear H
 have hnb21 := NB51_45.out
 have hnc21 := NB45_51.out
 have hnb22 := NB51_54.out
 have hnc22 := NB54_51.out
 obtain ⟨_, _, _, _, _, _⟩ := cl3 BK51
 try go_wp2_with ((with_reducible refine gw ?_); first | (refine gl 17 Tryz.func94 #[.slice A1_1 l1_1.length c1_1] ?_; refine (spec_VaryOf.calls k _ _ l1_1 t62 _ (cb HR1_1) HC1_1.out A16.out).mono ?_; rintro e w24 ⟨v74, rfl, ho0, hb⟩; refine ⟨_, rfl, ?_⟩; have HO58 := am (Kd.R_lower ho0 (below_size bl)); replace BK45 := kb BK45 hb; replace BK51 := kb BK51 hb; replace BK54 := kb BK54 hb; replace HB := am (below_step bl hb); clear hb ho0; obtain ⟨Ao25, co25, eo25⟩ := Kd.R_slice HO58.out; subst eo25))
 replace HO58 := am (Kd.R_drew HO58.out)
 replace BK45 := am (blk_drew BK45.out)
 replace BK51 := am (blk_drew BK51.out)
 replace BK54 := am (blk_drew BK54.out)
 replace HB := am (below_drew1 HB.out)
 refine start_ (n := 13) (S := fun w' => w'.cell? ⟨gb45, 0, none⟩ = some (.int .i64 a0_0) ∧ w'.cell? ⟨gb45, 1, none⟩ = some (.string a0_1) ∧ w'.cell? ⟨gb45, 2, none⟩ = some (.slice A0_2 l0_2.length c0_2) ∧ w'.cell? ⟨gb45, 3, none⟩ = some (.string a0_3) ∧ w'.cell? ⟨gb51, 0, none⟩ = some (.int .i64 a1_0) ∧ w'.cell? ⟨gb51, 1, none⟩ = some (.slice A1_1 l1_1.length c1_1) ∧ w'.cell? ⟨gb51, 2, none⟩ = some (.string a1_2)) (ds := []) ⟨br true [0, 13]⟩ (by kernel_rfl) rfl (by kernel_rfl) ⟨bc BK45, bc BK45, bc BK45, bc BK45, bc BK51, bc BK51, bc BK51⟩ (fun hHeld => ?_); refine with_tabW spec_ObjOf.tab4 spec_ObjOf.bits4 (fun HT_ HW_ => ?_)
 generalize w24.drew = w26 at HO58 BK45 BK51 BK54 HB hHeld ⊢
 refine pu 0 18 [1, 12] ?_
 refine pu 2 20 [1, 1, 1, 10] ?_
 refine pu 3 21 [1, 1, 2, 9] ?_
 refine pu 4 22 [1, 1, 3, 8] ?_
 refine pu 9 27 [1, 1, 3, 4, 1, 3] ?_
 refine tk 1 19 [5, 4, 1, 3] ?_
 refine tk 5 23 [6, 3, 1, 3] ?_
 refine tk 7 25 [6, 1, 1, 1, 1, 3] ?_
 refine join_ (σ := Value × Value × Nat) 1 #[true, true, true, true, true, true, true, true, true, true, true, true, false] (fun s_ => [(24, s_.1), (26, .agg #[.int .i64 t67, s_.2.1, .string t69]), (9, .pointer (some ⟨s_.2.2, 0, none⟩)), (28, .agg #[.string a0_1, .slice Ao25 t62.length co25, s_.1, .int .i64 t67, s_.2.1, .string t69, .int .i64 a2])]) (fun s_ w' => (w'.cell? ⟨gb45, 0, none⟩ = some (.int .i64 a0_0) ∧ w'.cell? ⟨gb45, 1, none⟩ = some (.string a0_1) ∧ w'.cell? ⟨gb45, 2, none⟩ = some (.slice A0_2 l0_2.length c0_2) ∧ w'.cell? ⟨gb45, 3, none⟩ = some (.string a0_3) ∧ w'.cell? ⟨gb51, 0, none⟩ = some (.int .i64 a1_0) ∧ w'.cell? ⟨gb51, 1, none⟩ = some (.slice A1_1 l1_1.length c1_1) ∧ w'.cell? ⟨gb51, 2, none⟩ = some (.string a1_2)) ∧ (Kd.R Kd.string 9 w' w.heap.size (fun k_ => some k_ ≠ (s_.1 : Value).ownBlock) (.slice Ao25 t62.length co25) t62) ∧ (Kd.R Kd.string 9 w' w.heap.size (fun k_ => some k_ ≠ (.slice Ao25 t62.length co25 : Value).ownBlock) s_.1 t66) ∧ (Kd.R k116 116 w' w.heap.size (fun _ => True) s_.2.1 t68) ∧ (w'.heap[gb45]? = some (.cells #[.int .i64 a0_0, .string a0_1, .slice A0_2 l0_2.length c0_2, .string a0_3] 50 (0, 0))) ∧ (w'.heap[gb51]? = some (.cells #[.int .i64 a1_0, .slice A1_1 l1_1.length c1_1, .string a1_2] 29 (0, 0))) ∧ (w'.heap[gb54]? = some (.cells #[.string (⟨#[]⟩ : ByteArray), .slice none 0 0, .slice none 0 0, .int .i64 0, .slice none 0 0, .string (⟨#[]⟩ : ByteArray), .int .i64 0] 31 (0, 0))) ∧ (w'.heap[s_.2.2]? = some (.cells #[.string (⟨#[]⟩ : ByteArray), .slice none 0 0, .slice none 0 0, .int .i64 0, .slice none 0 0, .string (⟨#[]⟩ : ByteArray), .int .i64 0] 31 (0, 0))) ∧ (w.heap.size ≤ s_.2.2) ∧ (w.heap.size ≤ s_.2.2) ∧ (gb45 ≠ s_.2.2) ∧ (s_.2.2 ≠ gb45) ∧ (gb51 ≠ s_.2.2) ∧ (s_.2.2 ≠ gb51) ∧ (gb54 ≠ s_.2.2) ∧ (s_.2.2 ≠ gb54) ∧ (Below w.heap.size w w')) ?_ ?_
 rotate_left
 ·intro hCont
  refine two_ (i := 6) (j := 11) (Ni := some 24) (Nj := some 9) #[true, true, true, true, true, true, true, true, false, true, false, false, false] #[true, true, true, true, true, true, false, true, false, true, false, true, false] rfl rfl rfl rfl (two_of HT_.out (by kernel_rfl)) (by decide) (by decide) (fun K hK => ?_) (fun K hK => ?_)
  ·skip
   refine goes_ Tryz.func117 (by kernel_rfl) rfl #[.slice Ao25 t62.length co25, .slice A0_2 l0_2.length c0_2] (by rfl) rfl rfl ma ?_
   refine (spec_ValuesOf.calls k _ _ t62 _ _ l0_2 t66 _ (rc HO58) ((Kd.R_reads' HO58.out).2.1) (cb HR0_2) HC0_2.out A17.out).mono ?_
   rintro e w27 ⟨v72, rfl, ho0, hb⟩
   refine ⟨_, rfl, ?_⟩
   have HO61 := am (Kd.R_lower (Kd.R_new' ho0 (Kd.R_lt (ro HO58))) (below_size bl))
   replace HO58 := am (Kd.R_elder' (ro HO58) (Kd.R_base ho0) hb)
   replace BK45 := kb BK45 hb
   replace BK51 := kb BK51 hb
   replace BK54 := kb BK54 hb
   replace HB := am (below_step bl hb)
   clear hb ho0
   refine hK.out _ _ ⟨bc BK45, bc BK45, bc BK45, bc BK45, bc BK51, bc BK51, bc BK51⟩ (fun hHeld => ?_)
   clear hK K
   refine nm 24 ?_
   refine two_ (i := 8) (j := 11) (Ni := some 26) (Nj := some 9) #[true, true, true, true, true, true, true, true, true, true, false, false, false] #[true, true, true, true, true, true, true, true, false, true, false, true, false] rfl rfl rfl rfl (two_of HT_.out (by kernel_rfl)) (by decide) (by decide) (fun K hK => ?_) (fun K hK => ?_)
   ·skip
    refine goes_ Tryz.func102 (by kernel_rfl) rfl #[.agg #[.int .i64 a1_0, .slice A1_1 l1_1.length c1_1, .string a1_2]] (by rfl) rfl rfl ma ?_
    refine (spec_l9Resp.calls a1_0 _ _ l1_1 a1_2 t67 t68 t69 _ (cb HR1_1) HC1_1.out A18.out).mono ?_
    rintro e w28 ⟨v73, rfl, ho0, hb⟩
    refine ⟨_, rfl, ?_⟩
    replace HO58 := kr HO58 hb
    replace HO61 := kr HO61 hb
    have HO63 := am (Kd.R_lower ho0 (below_size bl))
    replace BK45 := kb BK45 hb
    replace BK51 := kb BK51 hb
    replace BK54 := kb BK54 hb
    replace HB := am (below_step bl hb)
    clear hb ho0
    obtain ⟨Ao29, co29, eo29⟩ := Kd.R_slice HO63.out
    (first | subst eo29 | (injection eo29 with f1_ f2_ f3_; have f4_ := f1_.symm; have f5_ := f3_.symm; clear f1_ f2_ f3_; subst f4_; subst f5_))
    obtain ⟨Ao30, co30, eo30⟩ := Kd.R_slice HO61.out
    (first | subst eo30 | (injection eo30 with f1_ f2_ f3_; have f4_ := f1_.symm; have f5_ := f3_.symm; clear f1_ f2_ f3_; subst f4_; subst f5_))
    refine hK.out _ _ ⟨bc BK45, bc BK45, bc BK45, bc BK45, bc BK51, bc BK51, bc BK51⟩ (fun hHeld => ?_)
    clear hK K
    refine nm 26 ?_
    refine pu 10 28 [11, 2] ?_
    refine one_ (i := 11) (N := some 9) #[true, true, true, true, true, true, true, true, true, true, true, true, false] rfl rfl (one_of HT_.out (by kernel_rfl)) (by decide) (fun K hK => ?_)
    refine box_step ?hg (N := 9) ?hd (cs := #[.string (⟨#[]⟩ : ByteArray), .slice none 0 0, .slice none 0 0, .int .i64 0, .slice none 0 0, .string (⟨#[]⟩ : ByteArray), .int .i64 0]) (t := 31) ?hr ?_; (case hd => rfl); (case hg => rfl); (case hr => first | (go_simp; done) | (go_simp; rfl))
    intro gb23 hg w31 hbox hb
    replace HO58 := am (Kd.R_below (ro HO58) hb)
    replace HO61 := am (Kd.R_below (ro HO61) hb)
    replace HO63 := am (Kd.R_below (ro HO63) hb)
    have BK23 := am (hbox)
    have GW23 := am (sz hg : w.heap.size ≤ gb23)
    have GE23 := am (sz hg : w.heap.size ≤ gb23)
    replace HB := am (below_step bl hb)
    have NB45_23 := am (nl hg BK45 : gb45 ≠ gb23)
    have NB23_45 := am (ng hg BK45 : gb23 ≠ gb45)
    replace BK45 := kb BK45 hb
    have NB51_23 := am (nl hg BK51 : gb51 ≠ gb23)
    have NB23_51 := am (ng hg BK51 : gb23 ≠ gb51)
    replace BK51 := kb BK51 hb
    have NB54_23 := am (nl hg BK54 : gb54 ≠ gb23)
    have NB23_54 := am (ng hg BK54 : gb23 ≠ gb54)
    replace BK54 := kb BK54 hb
    clear hb hbox hg
    refine hK.out _ _ ⟨bc BK45, bc BK45, bc BK45, bc BK45, bc BK51, bc BK51, bc BK51⟩ (fun hHeld => ?_)
    clear hK K
    refine nm 9 ?_
    exact norm_ (by simp only [putAll, Act.put, List.setIfInBounds_toArray, List.set_cons_zero, List.set_cons_succ]) (hCont (.slice Ao30 t66.length co30, .slice Ao29 t68.length co29, gb23) _ ⟨hHeld, (rm HO58 (fun _ hk => hk.2)), (rm HO61 (fun _ hk => hk.2)), (ro HO63), (bk BK45), (bk BK51), (bk BK54), (bk BK23), GW23.out, GE23.out, NB45_23.out, NB23_45.out, NB51_23.out, NB23_51.out, NB54_23.out, NB23_54.out, bl⟩)
   ·skip
    refine box_step ?hg (N := 9) ?hd (cs := #[.string (⟨#[]⟩ : ByteArray), .slice none 0 0, .slice none 0 0, .int .i64 0, .slice none 0 0, .string (⟨#[]⟩ : ByteArray), .int .i64 0]) (t := 31) ?hr ?_; (case hd => rfl); (case hg => rfl); (case hr => first | (go_simp; done) | (go_simp; rfl))
    intro gb23 hg w28 hbox hb
    replace HO58 := am (Kd.R_below (ro HO58) hb)
    replace HO61 := am (Kd.R_below (ro HO61) hb)
    have BK23 := am (hbox)
    have GW23 := am (sz hg : w.heap.size ≤ gb23)
    have GE23 := am (sz hg : w.heap.size ≤ gb23)
    replace HB := am (below_step bl hb)
    have NB45_23 := am (nl hg BK45 : gb45 ≠ gb23)
    have NB23_45 := am (ng hg BK45 : gb23 ≠ gb45)
    replace BK45 := kb BK45 hb
    have NB51_23 := am (nl hg BK51 : gb51 ≠ gb23)
    have NB23_51 := am (ng hg BK51 : gb23 ≠ gb51)
    replace BK51 := kb BK51 hb
    have NB54_23 := am (nl hg BK54 : gb54 ≠ gb23)
    have NB23_54 := am (ng hg BK54 : gb23 ≠ gb54)
    replace BK54 := kb BK54 hb
    clear hb hbox hg
    refine hK.out _ _ ⟨bc BK45, bc BK45, bc BK45, bc BK45, bc BK51, bc BK51, bc BK51⟩ (fun hHeld => ?_)
    clear hK K
    refine nm 9 ?_
    refine og 8 26 [10, 1, 1, 1] Tryz.func102 #[.agg #[.int .i64 a1_0, .slice A1_1 l1_1.length c1_1, .string a1_2]] (fun K hK => ?_)
    refine (spec_l9Resp.calls a1_0 _ _ l1_1 a1_2 t67 t68 t69 _ (cb HR1_1) HC1_1.out A18.out).mono ?_
    rintro e w29 ⟨v73, rfl, ho0, hb⟩
    refine ⟨_, rfl, ?_⟩
    replace HO58 := kr HO58 hb
    replace HO61 := kr HO61 hb
    have HO63 := am (Kd.R_lower ho0 (below_size bl))
    replace BK45 := kb BK45 hb
    replace BK51 := kb BK51 hb
    replace BK54 := kb BK54 hb
    replace BK23 := kb BK23 hb
    replace HB := am (below_step bl hb)
    clear hb ho0
    obtain ⟨Ao30, co30, eo30⟩ := Kd.R_slice HO63.out
    (first | subst eo30 | (injection eo30 with f1_ f2_ f3_; have f4_ := f1_.symm; have f5_ := f3_.symm; clear f1_ f2_ f3_; subst f4_; subst f5_))
    obtain ⟨Ao31, co31, eo31⟩ := Kd.R_slice HO61.out
    (first | subst eo31 | (injection eo31 with f1_ f2_ f3_; have f4_ := f1_.symm; have f5_ := f3_.symm; clear f1_ f2_ f3_; subst f4_; subst f5_))
    refine hK.out _ _ ⟨bc BK45, bc BK45, bc BK45, bc BK45, bc BK51, bc BK51, bc BK51⟩ (fun hHeld => ?_)
    clear hK K
    refine nm 26 ?_
    refine pu 10 28 [12, 1] ?_
    exact norm_ (by simp only [putAll, Act.put, List.setIfInBounds_toArray, List.set_cons_zero, List.set_cons_succ]) (hCont (.slice Ao31 t66.length co31, .slice Ao30 t68.length co30, gb23) _ ⟨hHeld, (rm HO58 (fun _ hk => hk.2)), (rm HO61 (fun _ hk => hk.2)), (ro HO63), (bk BK45), (bk BK51), (bk BK54), (bk BK23), GW23.out, GE23.out, NB45_23.out, NB23_45.out, NB51_23.out, NB23_51.out, NB54_23.out, NB23_54.out, bl⟩)
  ·skip
   refine box_step ?hg (N := 9) ?hd (cs := #[.string (⟨#[]⟩ : ByteArray), .slice none 0 0, .slice none 0 0, .int .i64 0, .slice none 0 0, .string (⟨#[]⟩ : ByteArray), .int .i64 0]) (t := 31) ?hr ?_; (case hd => rfl); (case hg => rfl); (case hr => first | (go_simp; done) | (go_simp; rfl))
   intro gb23 hg w27 hbox hb
   replace HO58 := am (Kd.R_below (ro HO58) hb)
   have BK23 := am (hbox)
   have GW23 := am (sz hg : w.heap.size ≤ gb23)
   have GE23 := am (sz hg : w.heap.size ≤ gb23)
   replace HB := am (below_step bl hb)
   have NB45_23 := am (nl hg BK45 : gb45 ≠ gb23)
   have NB23_45 := am (ng hg BK45 : gb23 ≠ gb45)
   replace BK45 := kb BK45 hb
   have NB51_23 := am (nl hg BK51 : gb51 ≠ gb23)
   have NB23_51 := am (ng hg BK51 : gb23 ≠ gb51)
   replace BK51 := kb BK51 hb
   have NB54_23 := am (nl hg BK54 : gb54 ≠ gb23)
   have NB23_54 := am (ng hg BK54 : gb23 ≠ gb54)
   replace BK54 := kb BK54 hb
   clear hb hbox hg
   refine hK.out _ _ ⟨bc BK45, bc BK45, bc BK45, bc BK45, bc BK51, bc BK51, bc BK51⟩ (fun hHeld => ?_)
   clear hK K
   refine nm 9 ?_
   refine og 6 24 [8, 1, 1, 1, 1, 1] Tryz.func117 #[.slice Ao25 t62.length co25, .slice A0_2 l0_2.length c0_2] (fun K hK => ?_)
   refine (spec_ValuesOf.calls k _ _ t62 _ _ l0_2 t66 _ (rc HO58) ((Kd.R_reads' HO58.out).2.1) (cb HR0_2) HC0_2.out A17.out).mono ?_
   rintro e w28 ⟨v72, rfl, ho0, hb⟩
   refine ⟨_, rfl, ?_⟩
   have HO61 := am (Kd.R_lower (Kd.R_new' ho0 (Kd.R_lt (ro HO58))) (below_size bl))
   replace HO58 := am (Kd.R_elder' (ro HO58) (Kd.R_base ho0) hb)
   replace BK45 := kb BK45 hb
   replace BK51 := kb BK51 hb
   replace BK54 := kb BK54 hb
   replace BK23 := kb BK23 hb
   replace HB := am (below_step bl hb)
   clear hb ho0
   refine hK.out _ _ ⟨bc BK45, bc BK45, bc BK45, bc BK45, bc BK51, bc BK51, bc BK51⟩ (fun hHeld => ?_)
   clear hK K
   refine nm 24 ?_
   refine og 8 26 [10, 1, 1, 1] Tryz.func102 #[.agg #[.int .i64 a1_0, .slice A1_1 l1_1.length c1_1, .string a1_2]] (fun K hK => ?_)
   refine (spec_l9Resp.calls a1_0 _ _ l1_1 a1_2 t67 t68 t69 _ (cb HR1_1) HC1_1.out A18.out).mono ?_
   rintro e w29 ⟨v73, rfl, ho0, hb⟩
   refine ⟨_, rfl, ?_⟩
   replace HO58 := kr HO58 hb
   replace HO61 := kr HO61 hb
   have HO63 := am (Kd.R_lower ho0 (below_size bl))
   replace BK45 := kb BK45 hb
   replace BK51 := kb BK51 hb
   replace BK54 := kb BK54 hb
   replace BK23 := kb BK23 hb
   replace HB := am (below_step bl hb)
   clear hb ho0
   obtain ⟨Ao30, co30, eo30⟩ := Kd.R_slice HO63.out
   (first | subst eo30 | (injection eo30 with f1_ f2_ f3_; have f4_ := f1_.symm; have f5_ := f3_.symm; clear f1_ f2_ f3_; subst f4_; subst f5_))
   obtain ⟨Ao31, co31, eo31⟩ := Kd.R_slice HO61.out
   (first | subst eo31 | (injection eo31 with f1_ f2_ f3_; have f4_ := f1_.symm; have f5_ := f3_.symm; clear f1_ f2_ f3_; subst f4_; subst f5_))
   refine hK.out _ _ ⟨bc BK45, bc BK45, bc BK45, bc BK45, bc BK51, bc BK51, bc BK51⟩ (fun hHeld => ?_)
   clear hK K
   refine nm 26 ?_
   refine pu 10 28 [12, 1] ?_
   exact norm_ (by simp only [putAll, Act.put, List.setIfInBounds_toArray, List.set_cons_zero, List.set_cons_succ]) (hCont (.slice Ao31 t66.length co31, .slice Ao30 t68.length co30, gb23) _ ⟨hHeld, (rm HO58 (fun _ hk => hk.2)), (rm HO61 (fun _ hk => hk.2)), (ro HO63), (bk BK45), (bk BK51), (bk BK54), (bk BK23), GW23.out, GE23.out, NB45_23.out, NB23_45.out, NB51_23.out, NB23_51.out, NB54_23.out, NB23_54.out, bl⟩)
 rintro ⟨v72, v73, gb23⟩ w32 ⟨hS_, h0_, h1_, h2_, h3_, h4_, h5_, h6_, h7_, h8_, h9_, h10_, h11_, h12_, h13_, h14_, h15_⟩
 have n0_ : Aside0 (Kd.R Kd.string 9 w32 w.heap.size (fun k_ => some k_ ≠ (v72 : Value).ownBlock) (.slice Ao25 t62.length co25) t62) := ⟨h0_⟩
 have n1_ : Aside0 (Kd.R Kd.string 9 w32 w.heap.size (fun k_ => some k_ ≠ (.slice Ao25 t62.length co25 : Value).ownBlock) v72 t66) := ⟨h1_⟩
 have n2_ : Aside0 (Kd.R k116 116 w32 w.heap.size (fun _ => True) v73 t68) := ⟨h2_⟩
 have n3_ : Aside0 (w32.heap[gb45]? = some (.cells #[.int .i64 a0_0, .string a0_1, .slice A0_2 l0_2.length c0_2, .string a0_3] 50 (0, 0))) := ⟨h3_⟩
 have n4_ : Aside0 (w32.heap[gb51]? = some (.cells #[.int .i64 a1_0, .slice A1_1 l1_1.length c1_1, .string a1_2] 29 (0, 0))) := ⟨h4_⟩
 have n5_ : Aside0 (w32.heap[gb54]? = some (.cells #[.string (⟨#[]⟩ : ByteArray), .slice none 0 0, .slice none 0 0, .int .i64 0, .slice none 0 0, .string (⟨#[]⟩ : ByteArray), .int .i64 0] 31 (0, 0))) := ⟨h5_⟩
 have n6_ : Aside0 (w32.heap[gb23]? = some (.cells #[.string (⟨#[]⟩ : ByteArray), .slice none 0 0, .slice none 0 0, .int .i64 0, .slice none 0 0, .string (⟨#[]⟩ : ByteArray), .int .i64 0] 31 (0, 0))) := ⟨h6_⟩
 have n7_ : Aside0 (w.heap.size ≤ gb23) := ⟨h7_⟩
 have n8_ : Aside0 (w.heap.size ≤ gb23) := ⟨h8_⟩
 have n9_ : Aside0 (gb45 ≠ gb23) := ⟨h9_⟩
 have n10_ : Aside0 (gb23 ≠ gb45) := ⟨h10_⟩
 have n11_ : Aside0 (gb51 ≠ gb23) := ⟨h11_⟩
 have n12_ : Aside0 (gb23 ≠ gb51) := ⟨h12_⟩
 have n13_ : Aside0 (gb54 ≠ gb23) := ⟨h13_⟩
 have n14_ : Aside0 (gb23 ≠ gb54) := ⟨h14_⟩
 have n15_ : Aside0 (Below w.heap.size w w32) := ⟨h15_⟩
 clear HO58
 clear BK45
 clear BK51
 clear BK54
 clear HB
 clear h0_ h1_ h2_ h3_ h4_ h5_ h6_ h7_ h8_ h9_ h10_ h11_ h12_ h13_ h14_ h15_
 have HO58 := n0_
 have HO61 := n1_
 have HO63 := n2_
 have BK45 := n3_
 have BK51 := n4_
 have BK54 := n5_
 have BK23 := n6_
 have GW23 := n7_
 have GE23 := n8_
 have NB45_23 := n9_
 have NB23_45 := n10_
 have NB51_23 := n11_
 have NB23_51 := n12_
 have NB54_23 := n13_
 have NB23_54 := n14_
 have HB := n15_
 clear n0_ n1_ n2_ n3_ n4_ n5_ n6_ n7_ n8_ n9_ n10_ n11_ n12_ n13_ n14_ n15_
 have hHeld : w32.cell? ⟨gb45, 0, none⟩ = some (.int .i64 a0_0) ∧ w32.cell? ⟨gb45, 1, none⟩ = some (.string a0_1) ∧ w32.cell? ⟨gb45, 2, none⟩ = some (.slice A0_2 l0_2.length c0_2) ∧ w32.cell? ⟨gb45, 3, none⟩ = some (.string a0_3) ∧ w32.cell? ⟨gb51, 0, none⟩ = some (.int .i64 a1_0) ∧ w32.cell? ⟨gb51, 1, none⟩ = some (.slice A1_1 l1_1.length c1_1) ∧ w32.cell? ⟨gb51, 2, none⟩ = some (.string a1_2) := hS_
 obtain ⟨Ao33, co33, eo33⟩ := Kd.R_slice HO63.out
 (first | subst eo33 | (injection eo33 with f1_ f2_ f3_; have f4_ := f1_.symm; have f5_ := f3_.symm; clear f1_ f2_ f3_; subst f4_; subst f5_))
 obtain ⟨Ao34, co34, eo34⟩ := Kd.R_slice HO61.out
 (first | subst eo34 | (injection eo34 with f1_ f2_ f3_; have f4_ := f1_.symm; have f5_ := f3_.symm; clear f1_ f2_ f3_; subst f4_; subst f5_))
 refine norm_ (a' := ?_) ?_ ?_
 rotate_left
 ·simp only [putAll, Act.put, List.setIfInBounds_toArray, List.set_cons_zero, List.set_cons_succ]
  rfl
 refine one_ (i := 12) (N := none) #[true, true, true, true, true, true, true, true, true, true, true, true, true] rfl rfl (one_of HT_.out (by kernel_rfl)) (by decide) (fun K hK => ?_)
 have hs35 : w32.cell? ⟨gb23, 0, none⟩ = some (.string (⟨#[]⟩ : ByteArray)) := bc BK23
 have hfs35 := blk_frozen BK23.out 0
 have hns35_0 := NB45_23.out
 have hns35_1 := NB51_23.out
 have hns35_2 := NB54_23.out
 have hms35_0 := NB23_45.out
 have hms35_1 := NB23_51.out
 have hms35_2 := NB23_54.out
 have hs36 : w32.cell? ⟨gb23, 1, none⟩ = some (.slice none 0 0) := bc BK23
 have hfs36 := blk_frozen BK23.out 1
 have hns36_0 := NB45_23.out
 have hns36_1 := NB51_23.out
 have hns36_2 := NB54_23.out
 have hms36_0 := NB23_45.out
 have hms36_1 := NB23_51.out
 have hms36_2 := NB23_54.out
 have hs37 : w32.cell? ⟨gb23, 2, none⟩ = some (.slice none 0 0) := bc BK23
 have hfs37 := blk_frozen BK23.out 2
 have hns37_0 := NB45_23.out
 have hns37_1 := NB51_23.out
 have hns37_2 := NB54_23.out
 have hms37_0 := NB23_45.out
 have hms37_1 := NB23_51.out
 have hms37_2 := NB23_54.out
 have hs38 : w32.cell? ⟨gb23, 3, none⟩ = some (.int .i64 0) := bc BK23
 have hfs38 := blk_frozen BK23.out 3
 have hns38_0 := NB45_23.out
 have hns38_1 := NB51_23.out
 have hns38_2 := NB54_23.out
 have hms38_0 := NB23_45.out
 have hms38_1 := NB23_51.out
 have hms38_2 := NB23_54.out
 have hs39 : w32.cell? ⟨gb23, 4, none⟩ = some (.slice none 0 0) := bc BK23
 have hfs39 := blk_frozen BK23.out 4
 have hns39_0 := NB45_23.out
 have hns39_1 := NB51_23.out
 have hns39_2 := NB54_23.out
 have hms39_0 := NB23_45.out
 have hms39_1 := NB23_51.out
 have hms39_2 := NB23_54.out
 have hs40 : w32.cell? ⟨gb23, 5, none⟩ = some (.string (⟨#[]⟩ : ByteArray)) := bc BK23
 have hfs40 := blk_frozen BK23.out 5
 have hns40_0 := NB45_23.out
 have hns40_1 := NB51_23.out
 have hns40_2 := NB54_23.out
 have hms40_0 := NB23_45.out
 have hms40_1 := NB23_51.out
 have hms40_2 := NB23_54.out
 have hs41 : w32.cell? ⟨gb23, 6, none⟩ = some (.int .i64 0) := bc BK23
 have hfs41 := blk_frozen BK23.out 6
 have hns41_0 := NB45_23.out
 have hns41_1 := NB51_23.out
 have hns41_2 := NB54_23.out
 have hms41_0 := NB23_45.out
 have hms41_1 := NB23_51.out
 have hms41_2 := NB23_54.out
 refine skip_ (w1 := ?_) (by rfl) rfl ?_ ?_
 rotate_left
 ·go_simp
  rfl
 refine hK.out _ _ (by (refine ⟨?_, ?_, ?_, ?_, ?_, ?_, ?_⟩ <;> (with_reducible repeat (refine Eq.trans (cell_far ?hfar _) ?_; (case hfar => first | exact NB45_23.out | exact NB51_23.out)))); exact hHeld.1; exact hHeld.2.1; exact hHeld.2.2.1; exact hHeld.2.2.2.1; exact hHeld.2.2.2.2.1; exact hHeld.2.2.2.2.2.1; exact hHeld.2.2.2.2.2.2) (fun hHeld => ?_)
 clear hK K
 refine done_ (done_of HT_.out (by kernel_rfl)) ?_
 have hnb42 := NB23_45.out
 have hnc42 := NB45_23.out
 have hnb43 := NB23_51.out
 have hnc43 := NB51_23.out
 have hnb44 := NB23_54.out
 have hnc44 := NB54_23.out
 obtain ⟨_, _, _, _, _, _, _, _, _, _, _, _, _, _⟩ := cl7 BK23
 go_upto_if 31 with ((with_reducible refine gw ?_); first | (refine gl 30 Tryz.func65 #[.agg #[.string a0_1, .slice Ao25 t62.length co25, .slice Ao34 t66.length co34, .int .i64 t67, .slice Ao33 t68.length co33, .string t69, .int .i64 a2]] ?_; (with_reducible refine (spec_ObjOk.calls k a0_1 _ _ t62 _ _ t66 t67 _ _ t68 t69 a2 t71 _ ?side1 ?side2 ?side3 ?side4 ?side5 ?side6 A19.out).mono ?_); (case side1 => refine (Kd.R_reads' (e := 9) (base := w.heap.size) (ok := fun k_ => some k_ ≠ (.slice Ao34 t66.length co34 : Value).ownBlock) (n := t62.length) (c := co25) ?_).2.2; exact (rj (Kd.R_types HO58.out BK23.out (by decide)) (fun _ h_ => h_.1))); (case side2 => exact (Kd.R_reads' HO58.out).2.1); (case side3 => refine (Kd.R_reads' (e := 9) (base := w.heap.size) (ok := fun k_ => some k_ ≠ (.slice Ao25 t62.length co25 : Value).ownBlock) (n := t66.length) (c := co34) ?_).2.2; exact (rj (Kd.R_types HO61.out BK23.out (by decide)) (fun _ h_ => h_.1))); (case side4 => exact (Kd.R_reads' HO61.out).2.1); (case side5 => refine (Kd.R_reads' (e := 116) (base := w.heap.size) (ok := fun k_ => True) (n := t68.length) (c := co33) ?_).2.2; exact (rj (Kd.R_types HO63.out BK23.out (by decide)) (fun _ h_ => h_.1))); (case side6 => exact (Kd.R_reads' HO63.out).2.1); rintro e w46 ⟨rfl, hb⟩; refine ⟨_, rfl, ?_⟩; replace HO58 := am (Kd.R_below (rj (Kd.R_types HO58.out BK23.out (by decide)) (fun _ h_ => h_.1)) hb); replace HO61 := am (Kd.R_below (rj (Kd.R_types HO61.out BK23.out (by decide)) (fun _ h_ => h_.1)) hb); replace HO63 := am (Kd.R_below (rj (Kd.R_types HO63.out BK23.out (by decide)) (fun _ h_ => h_.1)) hb); replace BK45 := kg1 BK45 NB45_23 hb; replace BK51 := kg1 BK51 NB51_23 hb; replace BK54 := kg1 BK54 NB54_23 hb; replace BK23 := am (blk_below (g := gb23) (o := .cells #[.string a0_1, .slice Ao25 t62.length co25, .slice Ao34 t66.length co34, .int .i64 t67, .slice Ao33 t68.length co33, .string t69, .int .i64 a2] 31 (0, 0)) (pt0 BK23) hb); replace HB := am (below_step bl hb); clear hb))
 have H := HH20.out
 clear HH20
 by_cases c47 : t71 = true
 ·subst c47
  rw [if_pos rfl] at H
  simp only [Option.some.injEq, Prod.mk.injEq] at H
  obtain ⟨rfl, rfl, rfl, rfl, rfl, rfl, rfl, rfl⟩ := H
  have hnb48 := NB23_45.out
  have hnc48 := NB45_23.out
  have hnb49 := NB23_51.out
  have hnc49 := NB51_23.out
  have hnb50 := NB23_54.out
  have hnc50 := NB54_23.out
  obtain ⟨_, _, _, _, _, _, _, _, _, _, _, _, _, _⟩ := cl7 BK23
  have hnb52 := NB54_45.out
  have hnc52 := NB45_54.out
  have hnb53 := NB54_51.out
  have hnc53 := NB51_54.out
  obtain ⟨_, _, _, _, _, _, _, _, _, _, _, _, _, _⟩ := cl7 BK54
  go_wp2
  refine bodyPost_ret (results_ct rfl _ _ gb54 31 #[.string a0_1, .slice Ao25 t62.length co25, .slice Ao34 t66.length co34, .int .i64 t67, .slice Ao33 t68.length co33, .string t69, .int .i64 a2] (0, 0) _ rfl (pt0 BK54) Tryz.underlying31 rfl (by kernel_rfl)) rfl ?_
  exact ⟨_, _, _, rf, rj (Kd.R_types HO58.out BK54.out (by decide)) (fun _ hk => hk.1), rj (Kd.R_types HO61.out BK54.out (by decide)) (fun _ hk => hk.1), rj (Kd.R_types HO63.out BK54.out (by decide)) (fun _ hk => trivial), bl⟩
 replace c47 := nb_ c47
 subst c47
 rw [if_neg ff_] at H
 simp only [Option.some.injEq, Prod.mk.injEq] at H
 obtain ⟨rfl, rfl, rfl, rfl, rfl, rfl, rfl, rfl⟩ := H
 have hnb55 := NB54_45.out
 have hnc55 := NB45_54.out
 have hnb56 := NB54_51.out
 have hnc56 := NB51_54.out
 have hnb57 := NB54_23.out
 have hnc57 := NB23_54.out
 obtain ⟨_, _, _, _, _, _, _, _, _, _, _, _, _, _⟩ := cl7 BK54
 go_wp2
 refine bodyPost_ret (results_ct rfl _ _ gb54 31 #[.string (⟨#[]⟩ : ByteArray), .slice none 0 0, .slice none 0 0, .int .i64 0, .slice none 0 0, .string (⟨#[]⟩ : ByteArray), .int .i64 0] (0, 0) _ rfl (pt0 BK54) Tryz.underlying31 rfl (by kernel_rfl)) rfl ?_
 exact ⟨_, _, _, rf, by first | exact Kd.R_nil _ _ _ _ _ | exact Kd.N_nil _ _ _ _ _ | exact Kd.V_nil _ _ _ _ _ | exact Kd.Q_nil _ _ _ _ _ | exact Kd.S_nil _ _ _ _ _, by first | exact Kd.R_nil _ _ _ _ _ | exact Kd.N_nil _ _ _ _ _ | exact Kd.V_nil _ _ _ _ _ | exact Kd.Q_nil _ _ _ _ _ | exact Kd.S_nil _ _ _ _ _, by first | exact Kd.R_nil _ _ _ _ _ | exact Kd.N_nil _ _ _ _ _ | exact Kd.V_nil _ _ _ _ _ | exact Kd.Q_nil _ _ _ _ _ | exact Kd.S_nil _ _ _ _ _, bl⟩
end Go.Proofs.YtjlpjbkpmmpojaaGreatDoor.All
