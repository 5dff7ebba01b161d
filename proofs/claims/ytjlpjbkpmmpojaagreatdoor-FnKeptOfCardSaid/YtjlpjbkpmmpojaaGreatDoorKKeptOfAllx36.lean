-- Written by a program of this session (wip/tools/hprint.py) out of the translation. Lean checks it.
import Derived.Test.YtjlpjbkpmmpojaaGreatDoorKKeptOfAllx0
import Derived.Test.YtjlpjbkpmmpojaaGreatDoorKKeptOfAllx1
import Derived.Test.YtjlpjbkpmmpojaaGreatDoorKKeptOfAllx9
import Derived.Test.YtjlpjbkpmmpojaaGreatDoorKKeptOfAllx13
import Derived.Test.YtjlpjbkpmmpojaaGreatDoorKKeptOfAllx25
namespace Go.Proofs.YtjlpjbkpmmpojaaGreatDoor.All
open Go.RowKit Go.Proofs.YtjlpjbkpmmpojaaGreatDoorW.PrintWords Go.Proofs.YtjlpjbkpmmpojaaGreatDoorW.PrintLast Go.Proofs.YtjlpjbkpmmpojaaGreatDoorW.PrintMore
attribute [local go_sem] max2_int min2_int max_two min_two max_three min_three max_four min_four  -- for this text's walks alone
set_option linter.unusedVariables false
set_option linter.unusedSimpArgs false

/-! ### impl_ValuesOf: function 119 -/
theorem u119HB {p : Prop} (h : p := by repeat (first | (with_reducible first | exact HB.out | apply below_alloc | apply pw_below_drewN | apply below_drew1) | exact HB.out)) : p := h
def impl_ValuesOf.l0 : Nat → List (S116) → List ByteArray → List ByteArray → Int → Int → Option (List ByteArray)
 | 0, _, _, _, _, _ => none
 | k + 1, x1, x5, x10, x11, x12 => if x12 < x11 then (if 0 ≤ x12 then (if x12 < (x10.length : Int) then ((impl_Get.f x1 (rdOf ByteArray.empty x10 x12)).bind fun bt1591 => (if bt1591.2 = true then (if x5.length < 8796093022208 then (impl_ValuesOf.l0 k x1 (x5 ++ [bt1591.1]) x10 x11 (wrap64 (x12 + 1))) else (none)) else (if x5.length < 8796093022208 then (impl_ValuesOf.l0 k x1 (x5 ++ [(⟨#[45]⟩ : ByteArray)]) x10 x11 (wrap64 (x12 + 1))) else (none)))) else (none)) else (none)) else (some x5)
def impl_ValuesOf.f (k : Nat) (l0 : List ByteArray) (l1 : List (S116)) : Option (List ByteArray) := impl_ValuesOf.l0 k l1 ([] : List ByteArray) l0 (l0.length : Int) 0
set_option maxHeartbeats 8000000 in
set_option maxRecDepth 100000 in
theorem impl_ValuesOf.calls (k : Nat) (A0 : Option Addr) (c0 : Nat) (l0 : List ByteArray) (A1 : Option Addr) (c1 : Nat) (l1 : List (S116)) (r : List ByteArray) (w : World) (hr0 : Kd.C Kd.string w A0 l0.length l0) (hc0 : l0.length ≤ c0) (hr1 : Kd.C k116 w A1 l1.length l1) (hc1 : l1.length ≤ c1) (h : impl_ValuesOf.f k l0 l1 = some r) :
  Calls Tryz.prog 119 #[.slice A0 l0.length c0, .slice A1 l1.length c1] w fun e w' => ∃ v0_ : Value, e = .returned (v0_) ∧ Kd.R Kd.string 9 w' w.heap.size (fun _ => True) v0_ r ∧ Below w.heap.size w w' := by
 have HR0 := am hr0
 have HC0 := am hc0
 clear hr0 hc0
 have HR1 := am hr1
 have HC1 := am hc1
 clear hr1 hc1
 have HB := am (Below.refl w.heap.size w)
 unfold impl_ValuesOf.f at h
 have H := h
 clear h
 have H' := am H
 clear H
 go_enter Tryz.func119, Tryz.ntmps119
 go_wp2
 (try simp only [Act.put, List.setIfInBounds_toArray, List.set_cons_zero, List.set_cons_succ])
 go_loopg [5, 12] k (fun kq v5 v12 w' => ∃ (x5_1 : List ByteArray) (x12_1 : Int), v12 = .int .i64 x12_1 ∧ Aside0 (impl_ValuesOf.l0 kq l1 x5_1 l0 (l0.length : Int) x12_1 = some r) ∧ Aside0 (kq ≤ k) ∧ Aside0 (Kd.R Kd.string 9 w' w.heap.size (fun _ => True) v5 x5_1) ∧ Aside0 (Below w.heap.size w w'))
 case atStart => exact ⟨(([] : List ByteArray)), (0), rs, H', ⟨Nat.le_refl _⟩, ⟨by first | exact Kd.R_nil _ _ _ _ _ | exact Kd.N_nil _ _ _ _ _ | exact Kd.V_nil _ _ _ _ _ | exact Kd.Q_nil _ _ _ _ _ | exact Kd.S_nil _ _ _ _ _⟩, ⟨u119HB⟩⟩
 case round =>
  clear H'
  try clear c1
  try clear p2
  obtain ⟨x5_1, x12_1, rfl, HA, HK1, HO_5, HB⟩ := hrel
  cases gk with
  | zero => exact absurd HA.out (by simp [impl_ValuesOf.l0])
  | succ k1 =>
   have H := HA.out
   clear HA
   simp only [impl_ValuesOf.l0] at H
   by_cases c3 : x12_1 < (l0.length : Int)
   rotate_left
   ·rw [if_neg c3] at H
    have c3b0 := decide_eq_false c3
    clear c3
    obtain rfl := Option.some.inj H
    go_wp2
    go_ret
    exact ⟨_, rf, by (with_reducible repeat (first | apply Kd.R_alloc | apply Kd.R_drewN | apply Kd.R_drew)); exact HO_5.out, bl⟩
   rw [if_pos c3] at H
   have c3b0 := decide_eq_true c3
   clear c3
   revert H
   refine ifn fun c4 H => ?_
   have c4b0 := decide_eq_true c4
   clear c4
   revert H
   refine ifn fun c5 H => ?_
   have c5b0 := decide_eq_true c5
   clear c5
   revert H
   refine ok2 fun t1591 t1592 A6 H => ?_
   (try dsimp only at H)
   by_cases c7 : t1592 = true
   ·subst c7
    rw [if_pos rfl] at H
    revert H
    refine ifn fun c8 H => ?_
    have LMc8 := am c8
    clear c8
    obtain ⟨y1593, hy1593⟩ : ∃ y_ : List ByteArray, y_ = (x5_1 ++ [t1591]) := ⟨_, rfl⟩
    replace H : (impl_ValuesOf.l0 k1 l1 y1593 l0 (l0.length : Int) (wrap64 (x12_1 + 1))) = some r := by first | (rw [hy1593]; with_reducible exact H) | (have H2_ := (Option.bind_some _ _).symm.trans H; rw [hy1593]; with_reducible exact H2_) | (have H2_ := (Option.bind_some _ _).symm.trans H; with_reducible exact H2_) | with_reducible exact H | (rw [hy1593]; exact H) | exact H
    have Ny1593 := am hy1593
    clear hy1593
    have H' := am H
    clear H
    have p1590 : 0 ≤ (x12_1 : Int) := od
    have q1590 : x12_1 < (l0.length : Int) := od
    obtain ⟨ad1590, e1590, hx1590_0⟩ := Kd.at_string HR0.out x12_1 p1590 q1590
    cases e1590
    replace hx1590_0 := hcw hx1590_0
    replace p1590 := eq_true p1590
    replace q1590 := eq_true q1590
    go_wp2_with (first | ((with_reducible refine gw ?_); first | (refine gl 19 Tryz.func63 #[.slice A1 l1.length c1, .string (rdOf ByteArray.empty l0 x12_1)] ?_; (with_reducible refine (impl_Get.calls _ _ l1 (rdOf ByteArray.empty l0 x12_1) t1591 true _ ?side1 ?side2 A6.out).mono ?_); (case side1 => exact cb HR1); (case side2 => exact HC1.out); rintro e w9 ⟨rfl, hb⟩; refine ⟨_, rfl, ?_⟩; replace HO_5 := kr HO_5 hb; replace HB := am (below_step bl hb); clear hb)) | ((with_reducible refine gate_builtin (b := .append) (xs := #[.tmp 24, .tmp 26]) rfl ?_); at_builtin; refine Kd.R_append Kd.string (w0 := w) w.heap.size rfl (.tmp 24) (.tmp 26) 26 9 (.string ⟨#[]⟩) 16 rfl Tryz.underlying26 info9 rfl (by decide) (by omega) u5 x5_1 t1591 [.string t1591] (fun _ => True) (fun _ => False) rfl rfl ?aP (fun _ hk => hk.elim) ?aF ?aO ?aB ?aS ?aL ?_; (case aP => exact rfl); (case aB => exact bl); (case aF => exact (fun _ _ => trivial)); (case aO => exact (ro HO_5)); (case aS => exact (below_size bl)); (case aL => have := LMc8.out; omega); intro v1594 w10 ho hb hg hat; rw [← Ny1593.out] at ho; have n0_ := am (hb); have n1_ := am (ho); clear HB; clear HO_5; have HB := n0_; have HO1595 := n1_; clear n0_ n1_; clear ho hb hg hat))
    go_roundg k1
    case measure => have := HK1.out; omega
    case rel => exact ⟨(y1593), (wrap64 (x12_1 + 1)), rs, H', ⟨by have := HK1.out; omega⟩, ⟨by (with_reducible repeat (first | apply Kd.R_alloc | apply Kd.R_drewN | apply Kd.R_drew)); exact HO1595.out⟩, ⟨u119HB⟩⟩
   replace c7 := Bool.eq_false_iff.mpr c7
   subst c7
   rw [if_neg (show ¬ (false = true) by decide)] at H
   revert H
   refine ifn fun c11 H => ?_
   have LMc11 := am c11
   clear c11
   obtain ⟨y1596, hy1596⟩ : ∃ y_ : List ByteArray, y_ = (x5_1 ++ [(⟨#[45]⟩ : ByteArray)]) := ⟨_, rfl⟩
   replace H : (impl_ValuesOf.l0 k1 l1 y1596 l0 (l0.length : Int) (wrap64 (x12_1 + 1))) = some r := by first | (rw [hy1596]; with_reducible exact H) | (have H2_ := (Option.bind_some _ _).symm.trans H; rw [hy1596]; with_reducible exact H2_) | (have H2_ := (Option.bind_some _ _).symm.trans H; with_reducible exact H2_) | with_reducible exact H | (rw [hy1596]; exact H) | exact H
   have Ny1596 := am hy1596
   clear hy1596
   have H' := am H
   clear H
   have p1590 : 0 ≤ (x12_1 : Int) := od
   have q1590 : x12_1 < (l0.length : Int) := od
   obtain ⟨ad1590, e1590, hx1590_0⟩ := Kd.at_string HR0.out x12_1 p1590 q1590
   cases e1590
   replace hx1590_0 := hcw hx1590_0
   replace p1590 := eq_true p1590
   replace q1590 := eq_true q1590
   go_wp2_with (first | ((with_reducible refine gw ?_); first | (refine gl 19 Tryz.func63 #[.slice A1 l1.length c1, .string (rdOf ByteArray.empty l0 x12_1)] ?_; (with_reducible refine (impl_Get.calls _ _ l1 (rdOf ByteArray.empty l0 x12_1) t1591 false _ ?side1 ?side2 A6.out).mono ?_); (case side1 => exact cb HR1); (case side2 => exact HC1.out); rintro e w12 ⟨rfl, hb⟩; refine ⟨_, rfl, ?_⟩; replace HO_5 := kr HO_5 hb; replace HB := am (below_step bl hb); clear hb)) | ((with_reducible refine gate_builtin (b := .append) (xs := #[.tmp 24, .tmp 26]) rfl ?_); at_builtin; refine Kd.R_append Kd.string (w0 := w) w.heap.size rfl (.tmp 24) (.tmp 26) 26 9 (.string ⟨#[]⟩) 16 rfl Tryz.underlying26 info9 rfl (by decide) (by omega) u5 x5_1 (⟨#[45]⟩ : ByteArray) [.string (⟨#[45]⟩ : ByteArray)] (fun _ => True) (fun _ => False) rfl rfl ?aP (fun _ hk => hk.elim) ?aF ?aO ?aB ?aS ?aL ?_; (case aP => exact rfl); (case aB => exact bl); (case aF => exact (fun _ _ => trivial)); (case aO => exact (ro HO_5)); (case aS => exact (below_size bl)); (case aL => have := LMc11.out; omega); intro v1597 w13 ho hb hg hat; rw [← Ny1596.out] at ho; have n0_ := am (hb); have n1_ := am (ho); clear HB; clear HO_5; have HB := n0_; have HO1598 := n1_; clear n0_ n1_; clear ho hb hg hat))
   go_roundg k1
   case measure => have := HK1.out; omega
   case rel => exact ⟨(y1596), (wrap64 (x12_1 + 1)), rs, H', ⟨by have := HK1.out; omega⟩, ⟨by (with_reducible repeat (first | apply Kd.R_alloc | apply Kd.R_drewN | apply Kd.R_drew)); exact HO1598.out⟩, ⟨u119HB⟩⟩

/-! ### impl_ObjOf: function 47 -/
def impl_ObjOf.f (k : Nat) (a0_0 : Int) (a0_1 : ByteArray) (l0_2 : List (S116)) (a0_3 : ByteArray) (a1_0 : Int) (l1_1 : List (S116)) (a1_2 : ByteArray) (a2 : Int) : Option (ByteArray × List ByteArray × List ByteArray × Int × (List (S116)) × ByteArray × Int × Bool) := (impl_MayKeep.f k a0_0 a0_1 l0_2 a0_3 a1_0 l1_1 a1_2).bind fun t1602 => (if t1602 = true then ((impl_VaryOf.f k l1_1).bind fun t1603 => ((impl_copyResp.f a1_0 l1_1 a1_2).bind fun bt1606 => ((impl_ValuesOf.f k t1603 l0_2).bind fun t1612 => ((impl_ObjOk.f k a0_1 t1603 t1612 bt1606.1 bt1606.2.1 bt1606.2.2 a2).bind fun t1615 => (if t1615 = true then (some (a0_1, t1603, t1612, bt1606.1, bt1606.2.1, bt1606.2.2, a2, true)) else (some ((⟨#[]⟩ : ByteArray), ([] : List ByteArray), ([] : List ByteArray), 0, ([] : List (S116)), (⟨#[]⟩ : ByteArray), 0, false))))))) else (some ((⟨#[]⟩ : ByteArray), ([] : List ByteArray), ([] : List ByteArray), 0, ([] : List (S116)), (⟨#[]⟩ : ByteArray), 0, false)))
def impl_ObjOf.T3 : Bool × List (List Nat × List Nat) := (true, [([], []), ([0], [0]), ([], []), ([2], [2]), ([3], [3]), ([], []), ([5, 4], [5]), ([], []), ([1, 4, 6, 7], [1, 4, 6, 7]), ([], []), ([9, 8, 6, 0, 1, 2, 3, 4, 5, 6, 7, 8, 9], [8, 9])])
def impl_ObjOf.B3 : List Nat := [0, 1, 0, 4, 12, 0, 60, 0, 255, 0, 1023]
theorem impl_ObjOf.tab3 : rtab .any (opsOf Tryz.f47 3) = impl_ObjOf.T3 := by kernel_rfl
theorem impl_ObjOf.bits3 : waitsOk impl_ObjOf.T3.2 impl_ObjOf.B3 = true := by kernel_rfl
set_option maxHeartbeats 8000000 in
set_option maxRecDepth 100000 in
theorem impl_ObjOf.calls (k : Nat) (a0_0 : Int) (a0_1 : ByteArray) (A0_2 : Option Addr) (c0_2 : Nat) (l0_2 : List (S116)) (a0_3 : ByteArray) (a1_0 : Int) (A1_1 : Option Addr) (c1_1 : Nat) (l1_1 : List (S116)) (a1_2 : ByteArray) (a2 : Int) (r1 : ByteArray) (r2 : List ByteArray) (r3 : List ByteArray) (r4 : Int) (r5 : List (S116)) (r6 : ByteArray) (r7 : Int) (r8 : Bool) (w : World) (hGE : GLOBE w) (hGM : GLOBM w) (hGT : GLOBT w) (hr0_2 : Kd.C k116 w A0_2 l0_2.length l0_2) (hc0_2 : l0_2.length ≤ c0_2) (hr1_1 : Kd.C k116 w A1_1 l1_1.length l1_1) (hc1_1 : l1_1.length ≤ c1_1) (h : impl_ObjOf.f k a0_0 a0_1 l0_2 a0_3 a1_0 l1_1 a1_2 a2 = some (r1, r2, r3, r4, r5, r6, r7, r8)) :
  Calls Tryz.prog 47 #[.agg #[.int .i64 a0_0, .string a0_1, .slice A0_2 l0_2.length c0_2, .string a0_3], .agg #[.int .i64 a1_0, .slice A1_1 l1_1.length c1_1, .string a1_2], .int .i64 a2] w fun e w' => ∃ v1_ v2_ v4_ : Value, e = .returned (.tuple #[.agg #[.string r1, v1_, v2_, .int .i64 r4, v4_, .string r6, .int .i64 r7], .bool r8]) ∧ Kd.R Kd.string 9 w' w.heap.size (fun k_ => some k_ ≠ (v2_ : Value).ownBlock) v1_ r2 ∧ Kd.R Kd.string 9 w' w.heap.size (fun k_ => some k_ ≠ (v1_ : Value).ownBlock) v2_ r3 ∧ Kd.R k116 116 w' w.heap.size (fun _ => True) v4_ r5 ∧ Below w.heap.size w w' := by
 have hu50 := Tryz.underlying50
 have hu29 := Tryz.underlying29
 have hu31 := Tryz.underlying31
 have HR0_2 := am hr0_2
 have HC0_2 := am hc0_2
 clear hr0_2 hc0_2
 have HR1_1 := am hr1_1
 have HC1_1 := am hc1_1
 clear hr1_1 hc1_1
 have HGE := am hGE
 clear hGE
 have HGM := am hGM
 clear hGM
 have HGT := am hGT
 clear hGT
 have HB := am (Below.refl w.heap.size w)
 unfold impl_ObjOf.f at h
 have H := h
 clear h
 revert H
 refine ok1 fun t1602 A4 H => ?_
 have HH5 := am H
 clear H
 go_enter Tryz.func47, Tryz.ntmps47
 go_upto_if 12 with ((with_reducible refine gw ?_); first | (refine bx 3 #[.int .i64 a0_0, .string a0_1, .slice A0_2 l0_2.length c0_2, .string a0_3] 50 ?_; intro gb1599 hg w6 hbox hb; have BK1599 := am (hbox); have GW1599 := am (sz hg : w.heap.size ≤ gb1599); have GE1599 := am (sz hg : w.heap.size ≤ gb1599); replace HB := am (below_step bl hb); clear hb hbox hg) | (refine bx 4 #[.int .i64 a1_0, .slice A1_1 l1_1.length c1_1, .string a1_2] 29 ?_; intro gb1600 hg w7 hbox hb; have BK1600 := am (hbox); have GW1600 := am (sz hg : w.heap.size ≤ gb1600); have GE1600 := am (sz hg : w.heap.size ≤ gb1600); replace HB := am (below_step bl hb); have NB1599_1600 := am (nl hg BK1599 : gb1599 ≠ gb1600); have NB1600_1599 := am (ng hg BK1599 : gb1600 ≠ gb1599); replace BK1599 := kb BK1599 hb; clear hb hbox hg) | (refine bx 6 #[.string (⟨#[]⟩ : ByteArray), .slice none 0 0, .slice none 0 0, .int .i64 0, .slice none 0 0, .string (⟨#[]⟩ : ByteArray), .int .i64 0] 31 ?_; intro gb1601 hg w8 hbox hb; have BK1601 := am (hbox); have GW1601 := am (sz hg : w.heap.size ≤ gb1601); have GE1601 := am (sz hg : w.heap.size ≤ gb1601); replace HB := am (below_step bl hb); have NB1599_1601 := am (nl hg BK1599 : gb1599 ≠ gb1601); have NB1601_1599 := am (ng hg BK1599 : gb1601 ≠ gb1599); replace BK1599 := kb BK1599 hb; have NB1600_1601 := am (nl hg BK1600 : gb1600 ≠ gb1601); have NB1601_1600 := am (ng hg BK1600 : gb1601 ≠ gb1600); replace BK1600 := kb BK1600 hb; clear hb hbox hg; have hnb9 := NB1599_1600.out; have hnc9 := NB1600_1599.out; have hnb10 := NB1599_1601.out; have hnc10 := NB1601_1599.out; obtain ⟨z11_0, y11_0, z11_1, y11_1, z11_2, y11_2, z11_3, y11_3⟩ := cl4 BK1599; have hnb12 := NB1600_1601.out; have hnc12 := NB1601_1600.out; obtain ⟨z13_0, y13_0, z13_1, y13_1, z13_2, y13_2⟩ := cl3 BK1600) | (refine gl 11 Tryz.func29 #[.agg #[.int .i64 a0_0, .string a0_1, .slice A0_2 l0_2.length c0_2, .string a0_3], .agg #[.int .i64 a1_0, .slice A1_1 l1_1.length c1_1, .string a1_2]] ?_; (with_reducible refine (impl_MayKeep.calls k a0_0 a0_1 _ _ l0_2 a0_3 a1_0 _ _ l1_1 a1_2 t1602 _ ?side1 ?side2 ?side3 ?side4 ?side5 ?side6 ?side7 A4.out).mono ?_); (case side1 => exact GLOBE.below HGE.out bl); (case side2 => exact GLOBM.below HGM.out bl); (case side3 => exact GLOBT.below HGT.out bl); (case side4 => exact cb HR0_2); (case side5 => exact HC0_2.out); (case side6 => exact cb HR1_1); (case side7 => exact HC1_1.out); rintro e w14 ⟨rfl, hb⟩; refine ⟨_, rfl, ?_⟩; replace BK1599 := kb BK1599 hb; replace BK1600 := kb BK1600 hb; replace BK1601 := kb BK1601 hb; replace HB := am (below_step bl hb); clear hb))
 have H := HH5.out
 clear HH5
 by_cases c15 : t1602 = true
 rotate_left
 ·replace c15 := Bool.eq_false_iff.mpr c15
  subst c15
  rw [if_neg (show ¬ (false = true) by decide)] at H
  simp only [Option.some.injEq, Prod.mk.injEq] at H
  obtain ⟨rfl, rfl, rfl, rfl, rfl, rfl, rfl, rfl⟩ := H
  have hnb60 := NB1601_1599.out
  have hnc60 := NB1599_1601.out
  have hnb61 := NB1601_1600.out
  have hnc61 := NB1600_1601.out
  obtain ⟨z62_0, y62_0, z62_1, y62_1, z62_2, y62_2, z62_3, y62_3, z62_4, y62_4, z62_5, y62_5, z62_6, y62_6⟩ := cl7 BK1601
  go_wp2
  refine bodyPost_ret (results_ct rfl _ _ gb1601 31 #[.string (⟨#[]⟩ : ByteArray), .slice none 0 0, .slice none 0 0, .int .i64 0, .slice none 0 0, .string (⟨#[]⟩ : ByteArray), .int .i64 0] (0, 0) _ rfl (pt0 BK1601) Tryz.underlying31 rfl (by kernel_rfl)) rfl ?_
  exact ⟨_, _, _, rf, by first | exact Kd.R_nil _ _ _ _ _ | exact Kd.N_nil _ _ _ _ _ | exact Kd.V_nil _ _ _ _ _ | exact Kd.Q_nil _ _ _ _ _ | exact Kd.S_nil _ _ _ _ _, by first | exact Kd.R_nil _ _ _ _ _ | exact Kd.N_nil _ _ _ _ _ | exact Kd.V_nil _ _ _ _ _ | exact Kd.Q_nil _ _ _ _ _ | exact Kd.S_nil _ _ _ _ _, by first | exact Kd.R_nil _ _ _ _ _ | exact Kd.N_nil _ _ _ _ _ | exact Kd.V_nil _ _ _ _ _ | exact Kd.Q_nil _ _ _ _ _ | exact Kd.S_nil _ _ _ _ _, bl⟩
 subst c15
 rw [if_pos rfl] at H
 revert H
 refine ok1 fun t1603 A16 H => ?_
 revert H
 refine ok3 fun t1606 t1607 t1610 A17 H => ?_
 (try dsimp only at H)
 revert H
 refine ok1 fun t1612 A18 H => ?_
 revert H
 refine ok1 fun t1615 A19 H => ?_
 have HH20 := am H
 clear H
 try go_wp2
 replace BK1599 := am (blk_drew BK1599.out)
 replace BK1600 := am (blk_drew BK1600.out)
 replace BK1601 := am (blk_drew BK1601.out)
 replace HB := am (below_drew1 HB.out)
 refine start_ (n := 11) (S := fun w' => w'.cell? ⟨gb1599, 0, none⟩ = some (.int .i64 a0_0) ∧ w'.cell? ⟨gb1599, 1, none⟩ = some (.string a0_1) ∧ w'.cell? ⟨gb1599, 2, none⟩ = some (.slice A0_2 l0_2.length c0_2) ∧ w'.cell? ⟨gb1599, 3, none⟩ = some (.string a0_3) ∧ w'.cell? ⟨gb1600, 0, none⟩ = some (.int .i64 a1_0) ∧ w'.cell? ⟨gb1600, 1, none⟩ = some (.slice A1_1 l1_1.length c1_1) ∧ w'.cell? ⟨gb1600, 2, none⟩ = some (.string a1_2)) (ds := []) ⟨br true [0, 11]⟩ (by kernel_rfl) rfl (by kernel_rfl) ⟨bc BK1599, bc BK1599, bc BK1599, bc BK1599, bc BK1600, bc BK1600, bc BK1600⟩ (fun hHeld => ?_); refine with_tabW impl_ObjOf.tab3 impl_ObjOf.bits3 (fun HT_ HW_ => ?_)
 generalize w14.drew = w21 at BK1599 BK1600 BK1601 HB hHeld ⊢
 refine pu 0 14 [1, 10] ?_
 refine pu 2 16 [1, 1, 1, 8] ?_
 refine pu 7 21 [1, 1, 1, 4, 1, 3] ?_
 refine tk 1 15 [3, 4, 1, 3] ?_
 refine tk 3 17 [4, 3, 1, 3] ?_
 refine tk 5 19 [4, 1, 1, 1, 1, 3] ?_
 refine join_ (σ := Value × Value × Nat) 1 #[true, true, true, true, true, true, true, true, true, true, false] (fun s_ => [(18, s_.1), (20, .agg #[.int .i64 t1606, s_.2.1, .string t1610]), (8, .pointer (some ⟨s_.2.2, 0, none⟩)), (22, .agg #[.string a0_1, s_.1, .slice none 0 0, .int .i64 t1606, s_.2.1, .string t1610, .int .i64 a2])]) (fun s_ w' => (w'.cell? ⟨gb1599, 0, none⟩ = some (.int .i64 a0_0) ∧ w'.cell? ⟨gb1599, 1, none⟩ = some (.string a0_1) ∧ w'.cell? ⟨gb1599, 2, none⟩ = some (.slice A0_2 l0_2.length c0_2) ∧ w'.cell? ⟨gb1599, 3, none⟩ = some (.string a0_3) ∧ w'.cell? ⟨gb1600, 0, none⟩ = some (.int .i64 a1_0) ∧ w'.cell? ⟨gb1600, 1, none⟩ = some (.slice A1_1 l1_1.length c1_1) ∧ w'.cell? ⟨gb1600, 2, none⟩ = some (.string a1_2)) ∧ (Kd.R Kd.string 9 w' w.heap.size (fun _ => True) s_.1 t1603) ∧ (Kd.R k116 116 w' w.heap.size (fun _ => True) s_.2.1 t1607) ∧ (w'.heap[gb1599]? = some (.cells #[.int .i64 a0_0, .string a0_1, .slice A0_2 l0_2.length c0_2, .string a0_3] 50 (0, 0))) ∧ (w'.heap[gb1600]? = some (.cells #[.int .i64 a1_0, .slice A1_1 l1_1.length c1_1, .string a1_2] 29 (0, 0))) ∧ (w'.heap[gb1601]? = some (.cells #[.string (⟨#[]⟩ : ByteArray), .slice none 0 0, .slice none 0 0, .int .i64 0, .slice none 0 0, .string (⟨#[]⟩ : ByteArray), .int .i64 0] 31 (0, 0))) ∧ (w'.heap[s_.2.2]? = some (.cells #[.string (⟨#[]⟩ : ByteArray), .slice none 0 0, .slice none 0 0, .int .i64 0, .slice none 0 0, .string (⟨#[]⟩ : ByteArray), .int .i64 0] 31 (0, 0))) ∧ (w.heap.size ≤ s_.2.2) ∧ (w.heap.size ≤ s_.2.2) ∧ (gb1599 ≠ s_.2.2) ∧ (s_.2.2 ≠ gb1599) ∧ (gb1600 ≠ s_.2.2) ∧ (s_.2.2 ≠ gb1600) ∧ (gb1601 ≠ s_.2.2) ∧ (s_.2.2 ≠ gb1601) ∧ (Below w.heap.size w w')) ?_ ?_
 rotate_left
 ·intro hCont
  refine two_ (i := 4) (j := 9) (Ni := some 18) (Nj := some 8) #[true, true, true, true, true, true, false, true, false, false, false] #[true, true, true, true, false, true, false, true, false, true, false] rfl rfl rfl rfl (two_of HT_.out (by kernel_rfl)) (by decide) (by decide) (fun K hK => ?_) (fun K hK => ?_)
  ·skip
   refine goes_ Tryz.func73 (by kernel_rfl) rfl #[.slice A1_1 l1_1.length c1_1] (by rfl) rfl rfl ma ?_
   with_reducible refine (impl_VaryOf.calls k _ _ l1_1 t1603 _ ?side1 ?side2 ?side3 A16.out).mono ?_
   (case side1 => exact GLOBM.below HGM.out bl)
   (case side2 => exact cb HR1_1)
   (case side3 => exact HC1_1.out)
   rintro e w22 ⟨v1604, rfl, ho0, hb⟩
   refine ⟨_, rfl, ?_⟩
   have HO1605 := am (Kd.R_lower ho0 (below_size bl))
   replace BK1599 := kb BK1599 hb
   replace BK1600 := kb BK1600 hb
   replace BK1601 := kb BK1601 hb
   replace HB := am (below_step bl hb)
   clear hb ho0
   refine hK.out _ _ ⟨bc BK1599, bc BK1599, bc BK1599, bc BK1599, bc BK1600, bc BK1600, bc BK1600⟩ (fun hHeld => ?_)
   clear hK K
   refine nm 18 ?_
   refine two_ (i := 6) (j := 9) (Ni := some 20) (Nj := some 8) #[true, true, true, true, true, true, true, true, false, false, false] #[true, true, true, true, true, true, false, true, false, true, false] rfl rfl rfl rfl (two_of HT_.out (by kernel_rfl)) (by decide) (by decide) (fun K hK => ?_) (fun K hK => ?_)
   ·skip
    refine goes_ Tryz.func97 (by kernel_rfl) rfl #[.agg #[.int .i64 a1_0, .slice A1_1 l1_1.length c1_1, .string a1_2]] (by rfl) rfl rfl ma ?_
    with_reducible refine (impl_copyResp.calls a1_0 _ _ l1_1 a1_2 t1606 t1607 t1610 _ ?side1 ?side2 A17.out).mono ?_
    (case side1 => exact cb HR1_1)
    (case side2 => exact HC1_1.out)
    rintro e w23 ⟨v1608, rfl, ho0, hb⟩
    refine ⟨_, rfl, ?_⟩
    replace HO1605 := kr HO1605 hb
    have HO1609 := am (Kd.R_lower ho0 (below_size bl))
    replace BK1599 := kb BK1599 hb
    replace BK1600 := kb BK1600 hb
    replace BK1601 := kb BK1601 hb
    replace HB := am (below_step bl hb)
    clear hb ho0
    obtain ⟨Ao24, co24, eo24⟩ := Kd.R_slice HO1609.out
    (first | subst eo24 | (injection eo24 with f1_ f2_ f3_; have f4_ := f1_.symm; have f5_ := f3_.symm; clear f1_ f2_ f3_; subst f4_; subst f5_))
    obtain ⟨Ao25, co25, eo25⟩ := Kd.R_slice HO1605.out
    (first | subst eo25 | (injection eo25 with f1_ f2_ f3_; have f4_ := f1_.symm; have f5_ := f3_.symm; clear f1_ f2_ f3_; subst f4_; subst f5_))
    refine hK.out _ _ ⟨bc BK1599, bc BK1599, bc BK1599, bc BK1599, bc BK1600, bc BK1600, bc BK1600⟩ (fun hHeld => ?_)
    clear hK K
    refine nm 20 ?_
    refine pu 8 22 [9, 2] ?_
    refine one_ (i := 9) (N := some 8) #[true, true, true, true, true, true, true, true, true, true, false] rfl rfl (one_of HT_.out (by kernel_rfl)) (by decide) (fun K hK => ?_)
    refine box_step ?hg (N := 8) ?hd (cs := #[.string (⟨#[]⟩ : ByteArray), .slice none 0 0, .slice none 0 0, .int .i64 0, .slice none 0 0, .string (⟨#[]⟩ : ByteArray), .int .i64 0]) (t := 31) ?hr ?_; (case hd => rfl); (case hg => rfl); (case hr => first | (go_simp; done) | (go_simp; rfl))
    intro gb1611 hg w26 hbox hb
    replace HO1605 := am (Kd.R_below (ro HO1605) hb)
    replace HO1609 := am (Kd.R_below (ro HO1609) hb)
    have BK1611 := am (hbox)
    have GW1611 := am (sz hg : w.heap.size ≤ gb1611)
    have GE1611 := am (sz hg : w.heap.size ≤ gb1611)
    replace HB := am (below_step bl hb)
    have NB1599_1611 := am (nl hg BK1599 : gb1599 ≠ gb1611)
    have NB1611_1599 := am (ng hg BK1599 : gb1611 ≠ gb1599)
    replace BK1599 := kb BK1599 hb
    have NB1600_1611 := am (nl hg BK1600 : gb1600 ≠ gb1611)
    have NB1611_1600 := am (ng hg BK1600 : gb1611 ≠ gb1600)
    replace BK1600 := kb BK1600 hb
    have NB1601_1611 := am (nl hg BK1601 : gb1601 ≠ gb1611)
    have NB1611_1601 := am (ng hg BK1601 : gb1611 ≠ gb1601)
    replace BK1601 := kb BK1601 hb
    clear hb hbox hg
    refine hK.out _ _ ⟨bc BK1599, bc BK1599, bc BK1599, bc BK1599, bc BK1600, bc BK1600, bc BK1600⟩ (fun hHeld => ?_)
    clear hK K
    refine nm 8 ?_
    exact norm_ (by simp only [putAll, Act.put, List.setIfInBounds_toArray, List.set_cons_zero, List.set_cons_succ]) (hCont (.slice Ao25 t1603.length co25, .slice Ao24 t1607.length co24, gb1611) _ ⟨hHeld, (ro HO1605), (ro HO1609), (bk BK1599), (bk BK1600), (bk BK1601), (bk BK1611), GW1611.out, GE1611.out, NB1599_1611.out, NB1611_1599.out, NB1600_1611.out, NB1611_1600.out, NB1601_1611.out, NB1611_1601.out, bl⟩)
   ·skip
    refine box_step ?hg (N := 8) ?hd (cs := #[.string (⟨#[]⟩ : ByteArray), .slice none 0 0, .slice none 0 0, .int .i64 0, .slice none 0 0, .string (⟨#[]⟩ : ByteArray), .int .i64 0]) (t := 31) ?hr ?_; (case hd => rfl); (case hg => rfl); (case hr => first | (go_simp; done) | (go_simp; rfl))
    intro gb1611 hg w23 hbox hb
    replace HO1605 := am (Kd.R_below (ro HO1605) hb)
    have BK1611 := am (hbox)
    have GW1611 := am (sz hg : w.heap.size ≤ gb1611)
    have GE1611 := am (sz hg : w.heap.size ≤ gb1611)
    replace HB := am (below_step bl hb)
    have NB1599_1611 := am (nl hg BK1599 : gb1599 ≠ gb1611)
    have NB1611_1599 := am (ng hg BK1599 : gb1611 ≠ gb1599)
    replace BK1599 := kb BK1599 hb
    have NB1600_1611 := am (nl hg BK1600 : gb1600 ≠ gb1611)
    have NB1611_1600 := am (ng hg BK1600 : gb1611 ≠ gb1600)
    replace BK1600 := kb BK1600 hb
    have NB1601_1611 := am (nl hg BK1601 : gb1601 ≠ gb1611)
    have NB1611_1601 := am (ng hg BK1601 : gb1611 ≠ gb1601)
    replace BK1601 := kb BK1601 hb
    clear hb hbox hg
    refine hK.out _ _ ⟨bc BK1599, bc BK1599, bc BK1599, bc BK1599, bc BK1600, bc BK1600, bc BK1600⟩ (fun hHeld => ?_)
    clear hK K
    refine nm 8 ?_
    refine og 6 20 [8, 1, 1, 1] Tryz.func97 #[.agg #[.int .i64 a1_0, .slice A1_1 l1_1.length c1_1, .string a1_2]] (fun K hK => ?_)
    with_reducible refine (impl_copyResp.calls a1_0 _ _ l1_1 a1_2 t1606 t1607 t1610 _ ?side1 ?side2 A17.out).mono ?_
    (case side1 => exact cb HR1_1)
    (case side2 => exact HC1_1.out)
    rintro e w24 ⟨v1608, rfl, ho0, hb⟩
    refine ⟨_, rfl, ?_⟩
    replace HO1605 := kr HO1605 hb
    have HO1609 := am (Kd.R_lower ho0 (below_size bl))
    replace BK1599 := kb BK1599 hb
    replace BK1600 := kb BK1600 hb
    replace BK1601 := kb BK1601 hb
    replace BK1611 := kb BK1611 hb
    replace HB := am (below_step bl hb)
    clear hb ho0
    obtain ⟨Ao25, co25, eo25⟩ := Kd.R_slice HO1609.out
    (first | subst eo25 | (injection eo25 with f1_ f2_ f3_; have f4_ := f1_.symm; have f5_ := f3_.symm; clear f1_ f2_ f3_; subst f4_; subst f5_))
    obtain ⟨Ao26, co26, eo26⟩ := Kd.R_slice HO1605.out
    (first | subst eo26 | (injection eo26 with f1_ f2_ f3_; have f4_ := f1_.symm; have f5_ := f3_.symm; clear f1_ f2_ f3_; subst f4_; subst f5_))
    refine hK.out _ _ ⟨bc BK1599, bc BK1599, bc BK1599, bc BK1599, bc BK1600, bc BK1600, bc BK1600⟩ (fun hHeld => ?_)
    clear hK K
    refine nm 20 ?_
    refine pu 8 22 [10, 1] ?_
    exact norm_ (by simp only [putAll, Act.put, List.setIfInBounds_toArray, List.set_cons_zero, List.set_cons_succ]) (hCont (.slice Ao26 t1603.length co26, .slice Ao25 t1607.length co25, gb1611) _ ⟨hHeld, (ro HO1605), (ro HO1609), (bk BK1599), (bk BK1600), (bk BK1601), (bk BK1611), GW1611.out, GE1611.out, NB1599_1611.out, NB1611_1599.out, NB1600_1611.out, NB1611_1600.out, NB1601_1611.out, NB1611_1601.out, bl⟩)
  ·skip
   refine box_step ?hg (N := 8) ?hd (cs := #[.string (⟨#[]⟩ : ByteArray), .slice none 0 0, .slice none 0 0, .int .i64 0, .slice none 0 0, .string (⟨#[]⟩ : ByteArray), .int .i64 0]) (t := 31) ?hr ?_; (case hd => rfl); (case hg => rfl); (case hr => first | (go_simp; done) | (go_simp; rfl))
   intro gb1611 hg w22 hbox hb
   have BK1611 := am (hbox)
   have GW1611 := am (sz hg : w.heap.size ≤ gb1611)
   have GE1611 := am (sz hg : w.heap.size ≤ gb1611)
   replace HB := am (below_step bl hb)
   have NB1599_1611 := am (nl hg BK1599 : gb1599 ≠ gb1611)
   have NB1611_1599 := am (ng hg BK1599 : gb1611 ≠ gb1599)
   replace BK1599 := kb BK1599 hb
   have NB1600_1611 := am (nl hg BK1600 : gb1600 ≠ gb1611)
   have NB1611_1600 := am (ng hg BK1600 : gb1611 ≠ gb1600)
   replace BK1600 := kb BK1600 hb
   have NB1601_1611 := am (nl hg BK1601 : gb1601 ≠ gb1611)
   have NB1611_1601 := am (ng hg BK1601 : gb1611 ≠ gb1601)
   replace BK1601 := kb BK1601 hb
   clear hb hbox hg
   refine hK.out _ _ ⟨bc BK1599, bc BK1599, bc BK1599, bc BK1599, bc BK1600, bc BK1600, bc BK1600⟩ (fun hHeld => ?_)
   clear hK K
   refine nm 8 ?_
   refine og 4 18 [6, 1, 1, 1, 1, 1] Tryz.func73 #[.slice A1_1 l1_1.length c1_1] (fun K hK => ?_)
   with_reducible refine (impl_VaryOf.calls k _ _ l1_1 t1603 _ ?side1 ?side2 ?side3 A16.out).mono ?_
   (case side1 => exact GLOBM.below HGM.out bl)
   (case side2 => exact cb HR1_1)
   (case side3 => exact HC1_1.out)
   rintro e w23 ⟨v1604, rfl, ho0, hb⟩
   refine ⟨_, rfl, ?_⟩
   have HO1605 := am (Kd.R_lower ho0 (below_size bl))
   replace BK1599 := kb BK1599 hb
   replace BK1600 := kb BK1600 hb
   replace BK1601 := kb BK1601 hb
   replace BK1611 := kb BK1611 hb
   replace HB := am (below_step bl hb)
   clear hb ho0
   refine hK.out _ _ ⟨bc BK1599, bc BK1599, bc BK1599, bc BK1599, bc BK1600, bc BK1600, bc BK1600⟩ (fun hHeld => ?_)
   clear hK K
   refine nm 18 ?_
   refine og 6 20 [8, 1, 1, 1] Tryz.func97 #[.agg #[.int .i64 a1_0, .slice A1_1 l1_1.length c1_1, .string a1_2]] (fun K hK => ?_)
   with_reducible refine (impl_copyResp.calls a1_0 _ _ l1_1 a1_2 t1606 t1607 t1610 _ ?side1 ?side2 A17.out).mono ?_
   (case side1 => exact cb HR1_1)
   (case side2 => exact HC1_1.out)
   rintro e w24 ⟨v1608, rfl, ho0, hb⟩
   refine ⟨_, rfl, ?_⟩
   replace HO1605 := kr HO1605 hb
   have HO1609 := am (Kd.R_lower ho0 (below_size bl))
   replace BK1599 := kb BK1599 hb
   replace BK1600 := kb BK1600 hb
   replace BK1601 := kb BK1601 hb
   replace BK1611 := kb BK1611 hb
   replace HB := am (below_step bl hb)
   clear hb ho0
   obtain ⟨Ao25, co25, eo25⟩ := Kd.R_slice HO1609.out
   (first | subst eo25 | (injection eo25 with f1_ f2_ f3_; have f4_ := f1_.symm; have f5_ := f3_.symm; clear f1_ f2_ f3_; subst f4_; subst f5_))
   obtain ⟨Ao26, co26, eo26⟩ := Kd.R_slice HO1605.out
   (first | subst eo26 | (injection eo26 with f1_ f2_ f3_; have f4_ := f1_.symm; have f5_ := f3_.symm; clear f1_ f2_ f3_; subst f4_; subst f5_))
   refine hK.out _ _ ⟨bc BK1599, bc BK1599, bc BK1599, bc BK1599, bc BK1600, bc BK1600, bc BK1600⟩ (fun hHeld => ?_)
   clear hK K
   refine nm 20 ?_
   refine pu 8 22 [10, 1] ?_
   exact norm_ (by simp only [putAll, Act.put, List.setIfInBounds_toArray, List.set_cons_zero, List.set_cons_succ]) (hCont (.slice Ao26 t1603.length co26, .slice Ao25 t1607.length co25, gb1611) _ ⟨hHeld, (ro HO1605), (ro HO1609), (bk BK1599), (bk BK1600), (bk BK1601), (bk BK1611), GW1611.out, GE1611.out, NB1599_1611.out, NB1611_1599.out, NB1600_1611.out, NB1611_1600.out, NB1601_1611.out, NB1611_1601.out, bl⟩)
 rintro ⟨v1604, v1608, gb1611⟩ w27 ⟨hS_, h0_, h1_, h2_, h3_, h4_, h5_, h6_, h7_, h8_, h9_, h10_, h11_, h12_, h13_, h14_⟩
 have n0_ : Aside0 (Kd.R Kd.string 9 w27 w.heap.size (fun _ => True) v1604 t1603) := ⟨h0_⟩
 have n1_ : Aside0 (Kd.R k116 116 w27 w.heap.size (fun _ => True) v1608 t1607) := ⟨h1_⟩
 have n2_ : Aside0 (w27.heap[gb1599]? = some (.cells #[.int .i64 a0_0, .string a0_1, .slice A0_2 l0_2.length c0_2, .string a0_3] 50 (0, 0))) := ⟨h2_⟩
 have n3_ : Aside0 (w27.heap[gb1600]? = some (.cells #[.int .i64 a1_0, .slice A1_1 l1_1.length c1_1, .string a1_2] 29 (0, 0))) := ⟨h3_⟩
 have n4_ : Aside0 (w27.heap[gb1601]? = some (.cells #[.string (⟨#[]⟩ : ByteArray), .slice none 0 0, .slice none 0 0, .int .i64 0, .slice none 0 0, .string (⟨#[]⟩ : ByteArray), .int .i64 0] 31 (0, 0))) := ⟨h4_⟩
 have n5_ : Aside0 (w27.heap[gb1611]? = some (.cells #[.string (⟨#[]⟩ : ByteArray), .slice none 0 0, .slice none 0 0, .int .i64 0, .slice none 0 0, .string (⟨#[]⟩ : ByteArray), .int .i64 0] 31 (0, 0))) := ⟨h5_⟩
 have n6_ : Aside0 (w.heap.size ≤ gb1611) := ⟨h6_⟩
 have n7_ : Aside0 (w.heap.size ≤ gb1611) := ⟨h7_⟩
 have n8_ : Aside0 (gb1599 ≠ gb1611) := ⟨h8_⟩
 have n9_ : Aside0 (gb1611 ≠ gb1599) := ⟨h9_⟩
 have n10_ : Aside0 (gb1600 ≠ gb1611) := ⟨h10_⟩
 have n11_ : Aside0 (gb1611 ≠ gb1600) := ⟨h11_⟩
 have n12_ : Aside0 (gb1601 ≠ gb1611) := ⟨h12_⟩
 have n13_ : Aside0 (gb1611 ≠ gb1601) := ⟨h13_⟩
 have n14_ : Aside0 (Below w.heap.size w w27) := ⟨h14_⟩
 clear BK1599
 clear BK1600
 clear BK1601
 clear HB
 clear h0_ h1_ h2_ h3_ h4_ h5_ h6_ h7_ h8_ h9_ h10_ h11_ h12_ h13_ h14_
 have HO1605 := n0_
 have HO1609 := n1_
 have BK1599 := n2_
 have BK1600 := n3_
 have BK1601 := n4_
 have BK1611 := n5_
 have GW1611 := n6_
 have GE1611 := n7_
 have NB1599_1611 := n8_
 have NB1611_1599 := n9_
 have NB1600_1611 := n10_
 have NB1611_1600 := n11_
 have NB1601_1611 := n12_
 have NB1611_1601 := n13_
 have HB := n14_
 clear n0_ n1_ n2_ n3_ n4_ n5_ n6_ n7_ n8_ n9_ n10_ n11_ n12_ n13_ n14_
 have hHeld : w27.cell? ⟨gb1599, 0, none⟩ = some (.int .i64 a0_0) ∧ w27.cell? ⟨gb1599, 1, none⟩ = some (.string a0_1) ∧ w27.cell? ⟨gb1599, 2, none⟩ = some (.slice A0_2 l0_2.length c0_2) ∧ w27.cell? ⟨gb1599, 3, none⟩ = some (.string a0_3) ∧ w27.cell? ⟨gb1600, 0, none⟩ = some (.int .i64 a1_0) ∧ w27.cell? ⟨gb1600, 1, none⟩ = some (.slice A1_1 l1_1.length c1_1) ∧ w27.cell? ⟨gb1600, 2, none⟩ = some (.string a1_2) := hS_
 obtain ⟨Ao28, co28, eo28⟩ := Kd.R_slice HO1609.out
 (first | subst eo28 | (injection eo28 with f1_ f2_ f3_; have f4_ := f1_.symm; have f5_ := f3_.symm; clear f1_ f2_ f3_; subst f4_; subst f5_))
 obtain ⟨Ao29, co29, eo29⟩ := Kd.R_slice HO1605.out
 (first | subst eo29 | (injection eo29 with f1_ f2_ f3_; have f4_ := f1_.symm; have f5_ := f3_.symm; clear f1_ f2_ f3_; subst f4_; subst f5_))
 refine norm_ (a' := ?_) ?_ ?_
 rotate_left
 ·simp only [putAll, Act.put, List.setIfInBounds_toArray, List.set_cons_zero, List.set_cons_succ]
  rfl
 refine one_ (i := 10) (N := none) #[true, true, true, true, true, true, true, true, true, true, true] rfl rfl (one_of HT_.out (by kernel_rfl)) (by decide) (fun K hK => ?_)
 have hs30 : w27.cell? ⟨gb1611, 0, none⟩ = some (.string (⟨#[]⟩ : ByteArray)) := bc BK1611
 have hfs30 := blk_frozen BK1611.out 0
 have hns30_0 := NB1599_1611.out
 have hns30_1 := NB1600_1611.out
 have hns30_2 := NB1601_1611.out
 have hms30_0 := NB1611_1599.out
 have hms30_1 := NB1611_1600.out
 have hms30_2 := NB1611_1601.out
 have hs31 : w27.cell? ⟨gb1611, 1, none⟩ = some (.slice none 0 0) := bc BK1611
 have hfs31 := blk_frozen BK1611.out 1
 have hns31_0 := NB1599_1611.out
 have hns31_1 := NB1600_1611.out
 have hns31_2 := NB1601_1611.out
 have hms31_0 := NB1611_1599.out
 have hms31_1 := NB1611_1600.out
 have hms31_2 := NB1611_1601.out
 have hs32 : w27.cell? ⟨gb1611, 2, none⟩ = some (.slice none 0 0) := bc BK1611
 have hfs32 := blk_frozen BK1611.out 2
 have hns32_0 := NB1599_1611.out
 have hns32_1 := NB1600_1611.out
 have hns32_2 := NB1601_1611.out
 have hms32_0 := NB1611_1599.out
 have hms32_1 := NB1611_1600.out
 have hms32_2 := NB1611_1601.out
 have hs33 : w27.cell? ⟨gb1611, 3, none⟩ = some (.int .i64 0) := bc BK1611
 have hfs33 := blk_frozen BK1611.out 3
 have hns33_0 := NB1599_1611.out
 have hns33_1 := NB1600_1611.out
 have hns33_2 := NB1601_1611.out
 have hms33_0 := NB1611_1599.out
 have hms33_1 := NB1611_1600.out
 have hms33_2 := NB1611_1601.out
 have hs34 : w27.cell? ⟨gb1611, 4, none⟩ = some (.slice none 0 0) := bc BK1611
 have hfs34 := blk_frozen BK1611.out 4
 have hns34_0 := NB1599_1611.out
 have hns34_1 := NB1600_1611.out
 have hns34_2 := NB1601_1611.out
 have hms34_0 := NB1611_1599.out
 have hms34_1 := NB1611_1600.out
 have hms34_2 := NB1611_1601.out
 have hs35 : w27.cell? ⟨gb1611, 5, none⟩ = some (.string (⟨#[]⟩ : ByteArray)) := bc BK1611
 have hfs35 := blk_frozen BK1611.out 5
 have hns35_0 := NB1599_1611.out
 have hns35_1 := NB1600_1611.out
 have hns35_2 := NB1601_1611.out
 have hms35_0 := NB1611_1599.out
 have hms35_1 := NB1611_1600.out
 have hms35_2 := NB1611_1601.out
 have hs36 : w27.cell? ⟨gb1611, 6, none⟩ = some (.int .i64 0) := bc BK1611
 have hfs36 := blk_frozen BK1611.out 6
 have hns36_0 := NB1599_1611.out
 have hns36_1 := NB1600_1611.out
 have hns36_2 := NB1601_1611.out
 have hms36_0 := NB1611_1599.out
 have hms36_1 := NB1611_1600.out
 have hms36_2 := NB1611_1601.out
 refine skip_ (w1 := ?_) (by rfl) rfl ?_ ?_
 rotate_left
 ·go_simp
  rfl
 refine hK.out _ _ ⟨((cell_far (p := ⟨gb1611, _, none⟩) NB1599_1611.out _).trans (((cell_far (p := ⟨gb1611, _, none⟩) NB1599_1611.out _).trans (((cell_far (p := ⟨gb1611, _, none⟩) NB1599_1611.out _).trans (((cell_far (p := ⟨gb1611, _, none⟩) NB1599_1611.out _).trans (((cell_far (p := ⟨gb1611, _, none⟩) NB1599_1611.out _).trans (((cell_far (p := ⟨gb1611, _, none⟩) NB1599_1611.out _).trans (((cell_far (p := ⟨gb1611, _, none⟩) NB1599_1611.out _).trans (hHeld.1)))))))))))))), ((cell_far (p := ⟨gb1611, _, none⟩) NB1599_1611.out _).trans (((cell_far (p := ⟨gb1611, _, none⟩) NB1599_1611.out _).trans (((cell_far (p := ⟨gb1611, _, none⟩) NB1599_1611.out _).trans (((cell_far (p := ⟨gb1611, _, none⟩) NB1599_1611.out _).trans (((cell_far (p := ⟨gb1611, _, none⟩) NB1599_1611.out _).trans (((cell_far (p := ⟨gb1611, _, none⟩) NB1599_1611.out _).trans (((cell_far (p := ⟨gb1611, _, none⟩) NB1599_1611.out _).trans (hHeld.2.1)))))))))))))), ((cell_far (p := ⟨gb1611, _, none⟩) NB1599_1611.out _).trans (((cell_far (p := ⟨gb1611, _, none⟩) NB1599_1611.out _).trans (((cell_far (p := ⟨gb1611, _, none⟩) NB1599_1611.out _).trans (((cell_far (p := ⟨gb1611, _, none⟩) NB1599_1611.out _).trans (((cell_far (p := ⟨gb1611, _, none⟩) NB1599_1611.out _).trans (((cell_far (p := ⟨gb1611, _, none⟩) NB1599_1611.out _).trans (((cell_far (p := ⟨gb1611, _, none⟩) NB1599_1611.out _).trans (hHeld.2.2.1)))))))))))))), ((cell_far (p := ⟨gb1611, _, none⟩) NB1599_1611.out _).trans (((cell_far (p := ⟨gb1611, _, none⟩) NB1599_1611.out _).trans (((cell_far (p := ⟨gb1611, _, none⟩) NB1599_1611.out _).trans (((cell_far (p := ⟨gb1611, _, none⟩) NB1599_1611.out _).trans (((cell_far (p := ⟨gb1611, _, none⟩) NB1599_1611.out _).trans (((cell_far (p := ⟨gb1611, _, none⟩) NB1599_1611.out _).trans (((cell_far (p := ⟨gb1611, _, none⟩) NB1599_1611.out _).trans (hHeld.2.2.2.1)))))))))))))), ((cell_far (p := ⟨gb1611, _, none⟩) NB1600_1611.out _).trans (((cell_far (p := ⟨gb1611, _, none⟩) NB1600_1611.out _).trans (((cell_far (p := ⟨gb1611, _, none⟩) NB1600_1611.out _).trans (((cell_far (p := ⟨gb1611, _, none⟩) NB1600_1611.out _).trans (((cell_far (p := ⟨gb1611, _, none⟩) NB1600_1611.out _).trans (((cell_far (p := ⟨gb1611, _, none⟩) NB1600_1611.out _).trans (((cell_far (p := ⟨gb1611, _, none⟩) NB1600_1611.out _).trans (hHeld.2.2.2.2.1)))))))))))))), ((cell_far (p := ⟨gb1611, _, none⟩) NB1600_1611.out _).trans (((cell_far (p := ⟨gb1611, _, none⟩) NB1600_1611.out _).trans (((cell_far (p := ⟨gb1611, _, none⟩) NB1600_1611.out _).trans (((cell_far (p := ⟨gb1611, _, none⟩) NB1600_1611.out _).trans (((cell_far (p := ⟨gb1611, _, none⟩) NB1600_1611.out _).trans (((cell_far (p := ⟨gb1611, _, none⟩) NB1600_1611.out _).trans (((cell_far (p := ⟨gb1611, _, none⟩) NB1600_1611.out _).trans (hHeld.2.2.2.2.2.1)))))))))))))), ((cell_far (p := ⟨gb1611, _, none⟩) NB1600_1611.out _).trans (((cell_far (p := ⟨gb1611, _, none⟩) NB1600_1611.out _).trans (((cell_far (p := ⟨gb1611, _, none⟩) NB1600_1611.out _).trans (((cell_far (p := ⟨gb1611, _, none⟩) NB1600_1611.out _).trans (((cell_far (p := ⟨gb1611, _, none⟩) NB1600_1611.out _).trans (((cell_far (p := ⟨gb1611, _, none⟩) NB1600_1611.out _).trans (((cell_far (p := ⟨gb1611, _, none⟩) NB1600_1611.out _).trans (hHeld.2.2.2.2.2.2))))))))))))))⟩ (fun hHeld => ?_)
 clear hK K
 refine done_ (done_of HT_.out (by kernel_rfl)) ?_
 have hnb37 := NB1611_1599.out
 have hnc37 := NB1599_1611.out
 have hnb38 := NB1611_1600.out
 have hnc38 := NB1600_1611.out
 have hnb39 := NB1611_1601.out
 have hnc39 := NB1601_1611.out
 obtain ⟨z40_0, y40_0, z40_1, y40_1, z40_2, y40_2, z40_3, y40_3, z40_4, y40_4, z40_5, y40_5, z40_6, y40_6⟩ := cl7 BK1611
 have hnb41 := NB1599_1600.out
 have hnc41 := NB1600_1599.out
 have hnb42 := NB1599_1601.out
 have hnc42 := NB1601_1599.out
 obtain ⟨z43_0, y43_0, z43_1, y43_1, z43_2, y43_2, z43_3, y43_3⟩ := cl4 BK1599
 go_upto_if 31 with ((with_reducible refine gw ?_); first | (refine gl 27 Tryz.func119 #[.slice Ao29 t1603.length co29, .slice A0_2 l0_2.length c0_2] ?_; (with_reducible refine (impl_ValuesOf.calls k _ _ t1603 _ _ l0_2 t1612 _ ?side1 ?side2 ?side3 ?side4 A18.out).mono ?_); (case side1 => refine (Kd.R_reads' (e := 9) (base := w.heap.size) (ok := fun k_ => True) (n := t1603.length) (c := co29) ?_).2.2; exact (rj (Kd.R_types HO1605.out BK1611.out (by decide)) (fun _ h_ => h_.1))); (case side2 => exact (Kd.R_reads' HO1605.out).2.1); (case side3 => exact Kd.C_below HR0_2.out bl); (case side4 => exact HC0_2.out); rintro e w44 ⟨v1613, rfl, ho0, hb⟩; refine ⟨_, rfl, ?_⟩; replace HO1609 := am (Kd.R_below (rj (Kd.R_types HO1609.out BK1611.out (by decide)) (fun _ h_ => h_.1)) hb); have HO1614 := am (Kd.R_lower (Kd.R_new' ho0 (Kd.R_lt (rj (Kd.R_types HO1605.out BK1611.out (by decide)) (fun _ h_ => h_.1)))) (below_size bl)); replace HO1605 := am (Kd.R_elder' (rj (Kd.R_types HO1605.out BK1611.out (by decide)) (fun _ h_ => h_.1)) (Kd.R_base ho0) hb); replace BK1599 := kg1 BK1599 NB1599_1611 hb; replace BK1600 := kg1 BK1600 NB1600_1611 hb; replace BK1601 := kg1 BK1601 NB1601_1611 hb; replace BK1611 := am (blk_below (g := gb1611) (o := .cells #[.string a0_1, .slice Ao29 t1603.length co29, .slice none 0 0, .int .i64 t1606, .slice Ao28 t1607.length co28, .string t1610, .int .i64 a2] 31 (0, 0)) (pt0 BK1611) hb); replace HB := am (below_step bl hb); clear hb ho0; obtain ⟨Ao45, co45, eo45⟩ := Kd.R_slice HO1614.out; subst eo45; obtain ⟨z46_0, y46_0, z46_1, y46_1, z46_2, y46_2, z46_3, y46_3, z46_4, y46_4, z46_5, y46_5, z46_6, y46_6⟩ := cl7 BK1611) | (refine gl 30 Tryz.func15 #[.agg #[.string a0_1, .slice Ao29 t1603.length co29, .slice Ao45 t1612.length co45, .int .i64 t1606, .slice Ao28 t1607.length co28, .string t1610, .int .i64 a2]] ?_; (with_reducible refine (impl_ObjOk.calls k a0_1 _ _ t1603 _ _ t1612 t1606 _ _ t1607 t1610 a2 t1615 _ ?side1 ?side2 ?side3 ?side4 ?side5 ?side6 ?side7 A19.out).mono ?_); (case side1 => exact GLOBM.below HGM.out bl); (case side2 => refine (Kd.R_reads' (e := 9) (base := w.heap.size) (ok := fun k_ => (True ∧ some k_ ≠ (.slice Ao45 t1612.length co45 : Value).ownBlock)) (n := t1603.length) (c := co29) ?_).2.2; exact (rj (Kd.R_types HO1605.out BK1611.out (by decide)) (fun _ h_ => h_.1))); (case side3 => exact (Kd.R_reads' HO1605.out).2.1); (case side4 => refine (Kd.R_reads' (e := 9) (base := w.heap.size) (ok := fun k_ => (True ∧ some k_ ≠ (.slice Ao29 t1603.length co29 : Value).ownBlock)) (n := t1612.length) (c := co45) ?_).2.2; exact (rj (Kd.R_types HO1614.out BK1611.out (by decide)) (fun _ h_ => h_.1))); (case side5 => exact (Kd.R_reads' HO1614.out).2.1); (case side6 => refine (Kd.R_reads' (e := 116) (base := w.heap.size) (ok := fun k_ => True) (n := t1607.length) (c := co28) ?_).2.2; exact (rj (Kd.R_types HO1609.out BK1611.out (by decide)) (fun _ h_ => h_.1))); (case side7 => exact (Kd.R_reads' HO1609.out).2.1); rintro e w47 ⟨rfl, hb⟩; refine ⟨_, rfl, ?_⟩; replace HO1605 := am (Kd.R_below (rj (Kd.R_types HO1605.out BK1611.out (by decide)) (fun _ h_ => h_.1)) hb); replace HO1609 := am (Kd.R_below (rj (Kd.R_types HO1609.out BK1611.out (by decide)) (fun _ h_ => h_.1)) hb); replace HO1614 := am (Kd.R_below (rj (Kd.R_types HO1614.out BK1611.out (by decide)) (fun _ h_ => h_.1)) hb); replace BK1599 := kg1 BK1599 NB1599_1611 hb; replace BK1600 := kg1 BK1600 NB1600_1611 hb; replace BK1601 := kg1 BK1601 NB1601_1611 hb; replace BK1611 := am (blk_below (g := gb1611) (o := .cells #[.string a0_1, .slice Ao29 t1603.length co29, .slice Ao45 t1612.length co45, .int .i64 t1606, .slice Ao28 t1607.length co28, .string t1610, .int .i64 a2] 31 (0, 0)) (pt0 BK1611) hb); replace HB := am (below_step bl hb); clear hb))
 have H := HH20.out
 clear HH20
 by_cases c48 : t1615 = true
 ·subst c48
  rw [if_pos rfl] at H
  simp only [Option.some.injEq, Prod.mk.injEq] at H
  obtain ⟨rfl, rfl, rfl, rfl, rfl, rfl, rfl, rfl⟩ := H
  have hnb49 := NB1611_1599.out
  have hnc49 := NB1599_1611.out
  have hnb50 := NB1611_1600.out
  have hnc50 := NB1600_1611.out
  have hnb51 := NB1611_1601.out
  have hnc51 := NB1601_1611.out
  obtain ⟨z52_0, y52_0, z52_1, y52_1, z52_2, y52_2, z52_3, y52_3, z52_4, y52_4, z52_5, y52_5, z52_6, y52_6⟩ := cl7 BK1611
  have hnb53 := NB1601_1599.out
  have hnc53 := NB1599_1601.out
  have hnb54 := NB1601_1600.out
  have hnc54 := NB1600_1601.out
  obtain ⟨z55_0, y55_0, z55_1, y55_1, z55_2, y55_2, z55_3, y55_3, z55_4, y55_4, z55_5, y55_5, z55_6, y55_6⟩ := cl7 BK1601
  go_wp2
  refine bodyPost_ret (results_ct rfl _ _ gb1601 31 #[.string a0_1, .slice Ao29 t1603.length co29, .slice Ao45 t1612.length co45, .int .i64 t1606, .slice Ao28 t1607.length co28, .string t1610, .int .i64 a2] (0, 0) _ rfl (pt0 BK1601) Tryz.underlying31 rfl (by kernel_rfl)) rfl ?_
  exact ⟨_, _, _, rf, rj (Kd.R_types HO1605.out BK1601.out (by decide)) (fun _ hk => hk.1.2), rj (Kd.R_types HO1614.out BK1601.out (by decide)) (fun _ hk => hk.1.2), rj (Kd.R_types HO1609.out BK1601.out (by decide)) (fun _ hk => trivial), bl⟩
 replace c48 := Bool.eq_false_iff.mpr c48
 subst c48
 rw [if_neg (show ¬ (false = true) by decide)] at H
 simp only [Option.some.injEq, Prod.mk.injEq] at H
 obtain ⟨rfl, rfl, rfl, rfl, rfl, rfl, rfl, rfl⟩ := H
 have hnb56 := NB1601_1599.out
 have hnc56 := NB1599_1601.out
 have hnb57 := NB1601_1600.out
 have hnc57 := NB1600_1601.out
 have hnb58 := NB1601_1611.out
 have hnc58 := NB1611_1601.out
 obtain ⟨z59_0, y59_0, z59_1, y59_1, z59_2, y59_2, z59_3, y59_3, z59_4, y59_4, z59_5, y59_5, z59_6, y59_6⟩ := cl7 BK1601
 go_wp2
 refine bodyPost_ret (results_ct rfl _ _ gb1601 31 #[.string (⟨#[]⟩ : ByteArray), .slice none 0 0, .slice none 0 0, .int .i64 0, .slice none 0 0, .string (⟨#[]⟩ : ByteArray), .int .i64 0] (0, 0) _ rfl (pt0 BK1601) Tryz.underlying31 rfl (by kernel_rfl)) rfl ?_
 exact ⟨_, _, _, rf, by first | exact Kd.R_nil _ _ _ _ _ | exact Kd.N_nil _ _ _ _ _ | exact Kd.V_nil _ _ _ _ _ | exact Kd.Q_nil _ _ _ _ _ | exact Kd.S_nil _ _ _ _ _, by first | exact Kd.R_nil _ _ _ _ _ | exact Kd.N_nil _ _ _ _ _ | exact Kd.V_nil _ _ _ _ _ | exact Kd.Q_nil _ _ _ _ _ | exact Kd.S_nil _ _ _ _ _, by first | exact Kd.R_nil _ _ _ _ _ | exact Kd.N_nil _ _ _ _ _ | exact Kd.V_nil _ _ _ _ _ | exact Kd.Q_nil _ _ _ _ _ | exact Kd.S_nil _ _ _ _ _, bl⟩

end Go.Proofs.YtjlpjbkpmmpojaaGreatDoor.All
