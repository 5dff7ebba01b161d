import Derived.Test.YtjlpjbkpmmpojaaGreatDoorKO30
namespace Go.Proofs.YtjlpjbkpmmpojaaGreatDoor.All
open Go.RowKit Go.Proofs.YtjlpjbkpmmpojaaGreatDoorW.PrintWords Go.Proofs.YtjlpjbkpmmpojaaGreatDoorW.PrintLast Go.Proofs.YtjlpjbkpmmpojaaGreatDoorW.PrintMore
set_option maxHeartbeats 8000000
set_option maxRecDepth 100000
attribute [local go_sem] min2_int min_two
set_option linter.unusedVariables false
set_option linter.unusedSimpArgs false
theorem u158HB {p : Prop} (h : p := by repeat (first | (with_reducible first | exact HB.out | apply below_alloc | apply pw_below_drewN | apply below_drew1) | exact HB.out)) : p := h
mutual
def impl_parts.j0 : Nat → ByteArray → List ByteArray → Bool → Option (ByteArray × (List (S116)) × ByteArray × Bool)
 | 0, _, _, _ => none
 | k + 1, x7, x9, x30 => if x30 = true then (some ((⟨#[]⟩ : ByteArray), ([] : List (S116)), (⟨#[]⟩ : ByteArray), false)) else (if 1 ≤ (x9.length : Int) then ((some (x9.drop 1 : List ByteArray)).bind fun y28 => (impl_parts.l0 k x7 x9 ([] : List (S116)) y28 (y28.length : Int) 0)) else (none))
def impl_parts.l0 : Nat → ByteArray → List ByteArray → List (S116) → List ByteArray → Int → Int → Option (ByteArray × (List (S116)) × ByteArray × Bool)
 | 0, _, _, _, _, _, _ => none
 | k + 1, x7, x9, x10, x32, x33, x34 => if x34 < x33 then (if 0 ≤ x34 then (if x34 < (x32.length : Int) then ((strings_Cut.f (rdOf ByteArray.empty x32 x34) (⟨#[58, 32]⟩ : ByteArray)).bind fun bt31 => (if bt31.2.2 = true then (if x34 = (wrap64 ((x9.length : Int) - 2)) then (if bt31.1.toList = ([99, 111, 110, 116, 101, 110, 116, 45, 108, 101, 110, 103, 116, 104] : List UInt8) then (if 0 < (x9.length : Int) then (some (rdOf ByteArray.empty x9 0, x10, x7, true)) else (none)) else (if x10.length < 4398046511104 then (impl_parts.l0 k x7 x9 (x10 ++ [(⟨bt31.1, bt31.2.1⟩ : S116)]) x32 x33 (wrap64 (x34 + 1))) else (none))) else (if x10.length < 4398046511104 then (impl_parts.l0 k x7 x9 (x10 ++ [(⟨bt31.1, bt31.2.1⟩ : S116)]) x32 x33 (wrap64 (x34 + 1))) else (none))) else (some ((⟨#[]⟩ : ByteArray), ([] : List (S116)), (⟨#[]⟩ : ByteArray), false)))) else (none)) else (none)) else (if 0 < (x9.length : Int) then (some (rdOf ByteArray.empty x9 0, x10, x7, true)) else (none))
end
def impl_parts.f (k : Nat) (a0 : ByteArray) : Option (ByteArray × (List (S116)) × ByteArray × Bool) := (strings_Cut.f a0 (⟨#[13, 10, 13, 10]⟩ : ByteArray)).bind fun bt41 => ((strings_Split.f bt41.1 (⟨#[13, 10]⟩ : ByteArray)).bind fun t29 => (if bt41.2.2 = true then (impl_parts.j0 k bt41.2.1 t29 (decide ((t29.length : Int) > 10))) else (impl_parts.j0 k bt41.2.1 t29 true)))
theorem impl_parts.calls (k : Nat) (a0 : ByteArray) (r1 : ByteArray) (r2 : List (S116)) (r3 : ByteArray) (r4 : Bool) (w : World) (hGM : GLOBM w) (h : impl_parts.f k a0 = some (r1, r2, r3, r4)) :
  Calls Tryz.prog 158 #[.string a0] w fun e w' => ∃ v1_ : Value, e = .returned (.tuple #[.string r1, v1_, .string r3, .bool r4]) ∧ Kd.R k116 116 w' w.heap.size (fun _ => True) v1_ r2 ∧ Below w.heap.size w w' := by
 have hu116 := Tryz.underlying116
 have HGM := am hGM
 clear hGM
 have HB := am (Below.refl w.heap.size w)
 unfold impl_parts.f at h
 have H := h
 clear h
 revert H
 refine ok3 fun t41 t42 t44 A2 H => ?_
 (try dsimp only at H)
 revert H
 refine ok1 fun t29 A3 H => ?_
 have HC4 := am H
 clear H
 go_enter Tryz.func158, Tryz.ntmps158
 go_upto_region 3 with ((with_reducible refine gw ?_); first | (refine gl 18 Tryz.func108 #[.string a0, .string (⟨#[13, 10, 13, 10]⟩ : ByteArray)] ?_; refine (strings_Cut.calls a0 (⟨#[13, 10, 13, 10]⟩ : ByteArray) t41 t42 t44 _ (GLOBM.below HGM.out bl) A2.out).mono ?_; rintro e w5 ⟨rfl, hb⟩; refine ⟨_, rfl, ?_⟩; replace HB := am (below_step bl hb); clear hb) | (refine gl 23 Tryz.func109 #[.string t41, .string (⟨#[13, 10]⟩ : ByteArray)] ?_; refine (strings_Split.calls t41 (⟨#[13, 10]⟩ : ByteArray) t29 _ (GLOBM.below HGM.out bl) A3.out).mono ?_; rintro e w6 ⟨v46, rfl, ho0, hb⟩; refine ⟨_, rfl, ?_⟩; have HO43 := am (Kd.R_lower ho0 (below_size bl)); replace HB := am (below_step bl hb); clear hb ho0))
 (try simp only [Act.put, List.setIfInBounds_toArray, List.set_cons_zero, List.set_cons_succ])
 go_cut [30] (fun v30 wc => ∃ (kq : Nat) (x30_3 : Bool), v30 = .bool x30_3 ∧ Aside0 (impl_parts.j0 kq t42 t29 x30_3 = some (r1, r2, r3, r4)) ∧ Aside0 (kq ≤ k) ∧ Aside0 (Kd.R Kd.string 9 wc w.heap.size (fun _ => True) v46 t29) ∧ Aside0 (Below w.heap.size w wc))
 case first =>
  have H := HC4.out
  clear HC4
  by_cases c7 : t44 = true
  rotate_left
  ·replace c7 := nb_ c7
   subst c7
   rw [if_neg ff_] at H
   have H' := am H
   clear H
   go_wp2
   go_meet
   case rel => exact ⟨_, (true), rs, H', ⟨by first | omega | exact Nat.le_refl _⟩, ⟨ro HO43⟩, ⟨u158HB⟩⟩
  subst c7
  rw [if_pos rfl] at H
  have H' := am H
  clear H
  obtain ⟨Ao8, co8, eo8⟩ := Kd.R_slice HO43.out
  subst eo8
  go_wp2
  go_meet
  case rel => exact ⟨_, (decide ((t29.length : Int) > 10)), rs, H', ⟨by first | omega | exact Nat.le_refl _⟩, ⟨ro HO43⟩, ⟨u158HB⟩⟩
 case rest =>
  clear HC4
  obtain ⟨kq, x30_3, rfl, HA, HJ3, HO_9, HB⟩ := hcut
  cases kq with
  | zero => exact absurd HA.out (by simp [impl_parts.j0])
  | succ kj3 =>
   have H := HA.out
   clear HA
   simp only [impl_parts.j0] at H
   by_cases c9 : x30_3 = true
   ·subst c9
    rw [if_pos rfl] at H
    simp only [Option.some.injEq, Prod.mk.injEq] at H
    obtain ⟨rfl, rfl, rfl, rfl⟩ := H
    go_wp2
    refine bodyPost_ret (results_list (rs := [.tmp 2, .tmp 3, .tmp 4, .tmp 5]) rfl (by simp) (.tmp (.tmp (.tmp (.tmp .nil))))) rfl ?_
    exact ⟨_, rf, by first | exact Kd.R_nil _ _ _ _ _ | exact Kd.N_nil _ _ _ _ _ | exact Kd.V_nil _ _ _ _ _ | exact Kd.Q_nil _ _ _ _ _ | exact Kd.S_nil _ _ _ _ _, bl⟩
   replace c9 := nb_ c9
   subst c9
   rw [if_neg ff_] at H
   revert H
   refine ifn fun c10 H => ?_
   have c10b0 := eq_true c10
   have c10b1 := decide_eq_true c10
   clear c10
   obtain ⟨y28, hy28⟩ : ∃ y_ : List ByteArray, y_ = (t29.drop 1) := ⟨_, rfl⟩
   replace H : (impl_parts.l0 kj3 t42 t29 ([] : List (S116)) y28 (y28.length : Int) 0) = some (r1, r2, r3, r4) := by first | (rw [hy28]; with_reducible exact H) | (have H2_ := (Option.bind_some _ _).symm.trans H; rw [hy28]; with_reducible exact H2_) | (have H2_ := (Option.bind_some _ _).symm.trans H; with_reducible exact H2_) | with_reducible exact H | (rw [hy28]; exact H) | exact H
   have Ny28 := am hy28
   clear hy28
   have H' := am H
   clear H
   obtain ⟨Ao12, co12, eo12⟩ := Kd.R_slice HO_9.out
   subst eo12
   have q11 : (1 : Int) ≤ ((t29.length : Int) : Int) := od
   obtain ⟨i011, hi011, _, hsz11, _⟩ := info_parts info9
   have hroom11 : t29.length ≤ co12 := (Kd.R_reads' HO_9.out).2.1
   have hC11 : Kd.C Kd.string _ Ao12 t29.length t29 := (Kd.R_reads' HO_9.out).2.2
   have hcut11 := cut_from (P := Tryz.prog) 26 9 .i64 Tryz.underlying26 hi011 1 hsz11 Ao12 t29.length co12 1 (by omega) q11
   have hr11 := Kd.C_drop (m := (1 : Int).toNat) (c := co12) hC11 (by omega) hroom11
   obtain ⟨A11, hA11⟩ : ∃ A1, A1 = (if co12 = (1 : Int).toNat then Ao12 else (Ao12 : Option Addr).map (·.add ((1 : Int).toNat * 1))) := ⟨_, rfl⟩
   obtain ⟨c11, hc11⟩ : ∃ c1, c1 = co12 - (1 : Int).toNat := ⟨_, rfl⟩
   have hy11 : y28.length = t29.length - (1 : Int).toNat := (by rw [Ny28.out, List.length_drop] <;> omega)
   rw [show (t29).drop (1 : Int).toNat = y28 from Ny28.out.symm] at hr11
   replace hr11 : Kd.C Kd.string _ A11 y28.length y28 := (by rw [hA11]; exact hr11)
   rw [← hy11, ← hA11, ← hc11] at hcut11
   have HR1402 := am hr11
   have HC49 := am (show y28.length ≤ c11 from by rw [hy11, hc11]; exact Nat.sub_le_sub_right hroom11 _)
   clear hr11 hC11 hroom11 hi011 hsz11 hc11
   have KY11 := am hy11
   have KA11 := am hA11
   clear hy11 hA11
   have KL11 := am (show 1 ≤ t29.length from by omega)
   replace q11 := eq_true q11
   go_wp2
   (try simp only [Act.put, List.setIfInBounds_toArray, List.set_cons_zero, List.set_cons_succ])
   go_loopg [10, 34] kj3 (fun kq v10 v34 w' => ∃ (x10_2 : List (S116)) (x34_2 : Int), v34 = .int .i64 x34_2 ∧ Aside0 (impl_parts.l0 kq t42 t29 x10_2 y28 (y28.length : Int) x34_2 = some (r1, r2, r3, r4)) ∧ Aside0 (kq ≤ kj3) ∧ Aside0 (Kd.R Kd.string 9 w' w.heap.size (fun _ => True) (.slice Ao12 t29.length co12) t29) ∧ Aside0 (Kd.R k116 116 w' w.heap.size (fun _ => True) v10 x10_2) ∧ Aside0 (Kd.C Kd.string w' A11 y28.length y28) ∧ Aside0 (Below w.heap.size w w'))
   case atStart => exact ⟨(([] : List (S116))), (0), rs, H', ⟨Nat.le_refl _⟩, ⟨ro HO_9⟩, ⟨by first | exact Kd.R_nil _ _ _ _ _ | exact Kd.N_nil _ _ _ _ _ | exact Kd.V_nil _ _ _ _ _ | exact Kd.Q_nil _ _ _ _ _ | exact Kd.S_nil _ _ _ _ _⟩, ⟨by repeat (first | (with_reducible exact HR1402.out) | (with_reducible refine Kd.C_alloc ?_ _) | (with_reducible refine Kd.C_drewN ?_ _) | (with_reducible refine Kd.C_drew ?_) | exact HR1402.out)⟩, ⟨u158HB⟩⟩
   case round =>
    clear H'
    obtain ⟨x10_2, x34_2, rfl, HA, HK2, HO_9, HO_10, HR1402, HB⟩ := hrel
    cases gk with
    | zero => exact absurd HA.out (by simp [impl_parts.l0])
    | succ k2 =>
     have H := HA.out
     clear HA
     simp only [impl_parts.l0] at H
     by_cases c13 : x34_2 < (y28.length : Int)
     rotate_left
     ·rw [if_neg c13] at H
      have c13b0 := decide_eq_false c13
      clear c13
      revert H
      refine ifn fun c27 H => ?_
      have c27b0 := decide_eq_true c27
      have c27b1 : decide (0 < t29.length) = true := decide_eq_true (by omega)
      clear c27
      simp only [Option.some.injEq, Prod.mk.injEq] at H
      obtain ⟨rfl, rfl, rfl, rfl⟩ := H
      have p35 : 0 ≤ (0 : Int) := (by omega)
      have q35 : 0 < (t29.length : Int) := od
      obtain ⟨ad35, e35, hx35_0⟩ := Kd.at_string (Kd.R_reads' HO_9.out).2.2 0 p35 q35
      cases e35
      have qi1403 : (0 < t29.length) = True := eq_true (by omega)
      (try rw [show ((0 : Int)).toNat = 0 from rfl] at hx35_0)
      (try rw [Addr.add_zero'] at hx35_0)
      replace p35 := eq_true p35
      replace q35 := eq_true q35
      go_wp2
      refine bodyPost_ret (results_list (rs := [.tmp 2, .tmp 3, .tmp 4, .tmp 5]) rfl (by simp) (.tmp (.tmp (.tmp (.tmp .nil))))) rfl ?_
      exact ⟨_, rf, by (with_reducible repeat (first | apply Kd.R_alloc | apply Kd.R_drewN | apply Kd.R_drew)); exact HO_10.out, bl⟩
     rw [if_pos c13] at H
     have c13b0 := decide_eq_true c13
     clear c13
     revert H
     refine ifn fun c14 H => ?_
     have c14b0 := decide_eq_true c14
     clear c14
     revert H
     refine ifn fun c15 H => ?_
     have c15b0 := decide_eq_true c15
     clear c15
     revert H
     refine ok3 fun t31 t40 t45 A16 H => ?_
     (try dsimp only at H)
     have HH17 := am H
     clear H
     have p36 : 0 ≤ (x34_2 : Int) := od
     have q36 : x34_2 < (y28.length : Int) := od
     obtain ⟨ad36, e36, hx36_0⟩ := Kd.at_string HR1402.out x34_2 p36 q36
     cases e36
     replace p36 := eq_true p36
     replace q36 := eq_true q36
     go_upto_if 46 with ((with_reducible refine gw ?_); first | (refine gl 41 Tryz.func108 #[.string (rdOf ByteArray.empty y28 x34_2), .string (⟨#[58, 32]⟩ : ByteArray)] ?_; refine (strings_Cut.calls (rdOf ByteArray.empty y28 x34_2) (⟨#[58, 32]⟩ : ByteArray) t31 t40 t45 _ (GLOBM.below HGM.out bl) A16.out).mono ?_; rintro e w18 ⟨rfl, hb⟩; refine ⟨_, rfl, ?_⟩; replace HO_9 := kr HO_9 hb; replace HO_10 := kr HO_10 hb; replace HR1402 := am (Kd.C_below (by repeat (first | (with_reducible exact HR1402.out) | (with_reducible refine Kd.C_alloc ?_ _) | (with_reducible refine Kd.C_drewN ?_ _) | (with_reducible refine Kd.C_drew ?_) | exact HR1402.out)) hb); replace HB := am (below_step bl hb); clear hb))
     have H := HH17.out
     clear HH17
     by_cases c19 : t45 = true
     rotate_left
     ·replace c19 := nb_ c19
      subst c19
      rw [if_neg ff_] at H
      simp only [Option.some.injEq, Prod.mk.injEq] at H
      obtain ⟨rfl, rfl, rfl, rfl⟩ := H
      go_wp2
      refine bodyPost_ret (results_list (rs := [.tmp 2, .tmp 3, .tmp 4, .tmp 5]) rfl (by simp) (.tmp (.tmp (.tmp (.tmp .nil))))) rfl ?_
      exact ⟨_, rf, by first | exact Kd.R_nil _ _ _ _ _ | exact Kd.N_nil _ _ _ _ _ | exact Kd.V_nil _ _ _ _ _ | exact Kd.Q_nil _ _ _ _ _ | exact Kd.S_nil _ _ _ _ _, bl⟩
     subst c19
     rw [if_pos rfl] at H
     by_cases c20 : x34_2 = (wrap64 ((t29.length : Int) - 2))
     rotate_left
     ·rw [if_neg c20] at H
      have c20b0 := eqf c20
      have c20b1 := net c20
      (first | rw [c20b0] | (simp only [i64_w, i32_w]; rw [c20b0]) | skip)
      revert H
      refine ifn fun c25 H => ?_
      have LMc25 := am c25
      clear c25
      obtain ⟨y38, hy38⟩ : ∃ y_ : List (S116), y_ = (x10_2 ++ [(⟨t31, t40⟩ : S116)]) := ⟨_, rfl⟩
      replace H : (impl_parts.l0 k2 t42 t29 y38 y28 (y28.length : Int) (wrap64 (x34_2 + 1))) = some (r1, r2, r3, r4) := by first | (rw [hy38]; with_reducible exact H) | (have H2_ := (Option.bind_some _ _).symm.trans H; rw [hy38]; with_reducible exact H2_) | (have H2_ := (Option.bind_some _ _).symm.trans H; with_reducible exact H2_) | with_reducible exact H | (rw [hy38]; exact H) | exact H
      have Ny38 := am hy38
      clear hy38
      have H' := am H
      clear H
      go_wp2_with (first | ((with_reducible refine gate_builtin (b := .append) (xs := #[.tmp 56, .tmp 60]) rfl ?_); (try (refine gate_guard (by rfl) ?_; dsimp only)); at_builtin; refine Kd.R_append k116 (w0 := w) w.heap.size rfl (.tmp 56) (.tmp 60) 27 116 (.agg #[(.string ⟨#[]⟩), (.string ⟨#[]⟩)]) 32 rfl Tryz.underlying27 info116 rfl (by decide) (by omega) u10 x10_2 (⟨t31, t40⟩ : S116) [.string t31, .string t40] (fun _ => True) (fun _ => False) rfl rfl ?aP (fun _ hk => hk.elim) ?aF ?aO ?aB ?aS ?aL ?_; (case aP => exact k116_mkM _ _ _ (⟨t31, t40⟩ : S116)); (case aB => exact bl); (case aF => exact (fun _ _ => trivial)); (case aO => exact (ro HO_10)); (case aS => exact (below_size bl)); (case aL => have := LMc25.out; omega); intro v50 w26 ho hb hg hat; rw [← Ny38.out] at ho; have n0_ := am (Kd.R_over' (ro HO_9) (Kd.R_typed (ro HO_10)) (by decide) hg); have n1_ := am (hb); have n2_ := am ((show Kd.C Kd.string w26 (some ad36) y28.length y28 from by rw [Ny28.out, KA11.out]; exact Kd.C_drop (m := 1) (c := co12) ((Kd.R_reads' (Kd.R_over' (ro HO_9) (Kd.R_typed (ro HO_10)) (by decide) hg)).2.2) KL11.out ((Kd.R_reads' (Kd.R_over' (ro HO_9) (Kd.R_typed (ro HO_10)) (by decide) hg)).2.1))); have n3_ := am (ho); clear HO_9; clear HB; clear HR1402; clear HO_10; have HO_9 := n0_; have HB := n1_; have HR1402 := n2_; have HO47 := n3_; clear n0_ n1_ n2_ n3_; clear ho hb hg hat))
      go_roundg k2
      case measure => have := HJ3.out; have := HK2.out; omega
      case rel => exact ⟨(y38), (wrap64 (x34_2 + 1)), rs, H', ⟨by have := HJ3.out; have := HK2.out; omega⟩, ⟨ro HO_9⟩, ⟨ro HO47⟩, ⟨by repeat (first | (with_reducible exact HR1402.out) | (with_reducible refine Kd.C_alloc ?_ _) | (with_reducible refine Kd.C_drewN ?_ _) | (with_reducible refine Kd.C_drew ?_) | exact HR1402.out)⟩, ⟨u158HB⟩⟩
     rw [if_pos c20] at H
     have c20b0 := eqt c20
     have c20b1 := nef c20
     clear c20
     (first | rw [c20b0] | (simp only [i64_w, i32_w]; rw [c20b0]) | skip)
     by_cases c21 : t31.toList = ([99, 111, 110, 116, 101, 110, 116, 45, 108, 101, 110, 103, 116, 104] : List UInt8)
     ·rw [if_pos c21] at H
      have c21b0 := eqt c21
      have c21b1 := nef c21
      clear c21
      revert H
      refine ifn fun c22 H => ?_
      have c22b0 := decide_eq_true c22
      have c22b1 : decide (0 < t29.length) = true := decide_eq_true (by omega)
      clear c22
      simp only [Option.some.injEq, Prod.mk.injEq] at H
      obtain ⟨rfl, rfl, rfl, rfl⟩ := H
      have p37 : 0 ≤ (0 : Int) := (by omega)
      have q37 : 0 < (t29.length : Int) := od
      obtain ⟨ad37, e37, hx37_0⟩ := Kd.at_string (Kd.R_reads' HO_9.out).2.2 0 p37 q37
      cases e37
      have qi1408 : (0 < t29.length) = True := eq_true (by omega)
      (try rw [show ((0 : Int)).toNat = 0 from rfl] at hx37_0)
      (try rw [Addr.add_zero'] at hx37_0)
      replace p37 := eq_true p37
      replace q37 := eq_true q37
      go_wp2
      refine bodyPost_ret (results_list (rs := [.tmp 2, .tmp 3, .tmp 4, .tmp 5]) rfl (by simp) (.tmp (.tmp (.tmp (.tmp .nil))))) rfl ?_
      exact ⟨_, rf, by (with_reducible repeat (first | apply Kd.R_alloc | apply Kd.R_drewN | apply Kd.R_drew)); exact HO_10.out, bl⟩
     rw [if_neg c21] at H
     have c21b0 := eqf c21
     have c21b1 := net c21
     revert H
     refine ifn fun c23 H => ?_
     have LMc23 := am c23
     clear c23
     obtain ⟨y39, hy39⟩ : ∃ y_ : List (S116), y_ = (x10_2 ++ [(⟨t31, t40⟩ : S116)]) := ⟨_, rfl⟩
     replace H : (impl_parts.l0 k2 t42 t29 y39 y28 (y28.length : Int) (wrap64 (x34_2 + 1))) = some (r1, r2, r3, r4) := by first | (rw [hy39]; with_reducible exact H) | (have H2_ := (Option.bind_some _ _).symm.trans H; rw [hy39]; with_reducible exact H2_) | (have H2_ := (Option.bind_some _ _).symm.trans H; with_reducible exact H2_) | with_reducible exact H | (rw [hy39]; exact H) | exact H
     have Ny39 := am hy39
     clear hy39
     have H' := am H
     clear H
     go_wp2_with (first | ((with_reducible refine gate_builtin (b := .append) (xs := #[.tmp 56, .tmp 60]) rfl ?_); (try (refine gate_guard (by rfl) ?_; dsimp only)); at_builtin; refine Kd.R_append k116 (w0 := w) w.heap.size rfl (.tmp 56) (.tmp 60) 27 116 (.agg #[(.string ⟨#[]⟩), (.string ⟨#[]⟩)]) 32 rfl Tryz.underlying27 info116 rfl (by decide) (by omega) u10 x10_2 (⟨t31, t40⟩ : S116) [.string t31, .string t40] (fun _ => True) (fun _ => False) rfl rfl ?aP (fun _ hk => hk.elim) ?aF ?aO ?aB ?aS ?aL ?_; (case aP => exact k116_mkM _ _ _ (⟨t31, t40⟩ : S116)); (case aB => exact bl); (case aF => exact (fun _ _ => trivial)); (case aO => exact (ro HO_10)); (case aS => exact (below_size bl)); (case aL => have := LMc23.out; omega); intro v51 w24 ho hb hg hat; rw [← Ny39.out] at ho; have n0_ := am (Kd.R_over' (ro HO_9) (Kd.R_typed (ro HO_10)) (by decide) hg); have n1_ := am (hb); have n2_ := am ((show Kd.C Kd.string w24 (some ad36) y28.length y28 from by rw [Ny28.out, KA11.out]; exact Kd.C_drop (m := 1) (c := co12) ((Kd.R_reads' (Kd.R_over' (ro HO_9) (Kd.R_typed (ro HO_10)) (by decide) hg)).2.2) KL11.out ((Kd.R_reads' (Kd.R_over' (ro HO_9) (Kd.R_typed (ro HO_10)) (by decide) hg)).2.1))); have n3_ := am (ho); clear HO_9; clear HB; clear HR1402; clear HO_10; have HO_9 := n0_; have HB := n1_; have HR1402 := n2_; have HO48 := n3_; clear n0_ n1_ n2_ n3_; clear ho hb hg hat))
     go_roundg k2
     case measure => have := HJ3.out; have := HK2.out; omega
     case rel => exact ⟨(y39), (wrap64 (x34_2 + 1)), rs, H', ⟨by have := HJ3.out; have := HK2.out; omega⟩, ⟨ro HO_9⟩, ⟨ro HO48⟩, ⟨by repeat (first | (with_reducible exact HR1402.out) | (with_reducible refine Kd.C_alloc ?_ _) | (with_reducible refine Kd.C_drewN ?_ _) | (with_reducible refine Kd.C_drew ?_) | exact HR1402.out)⟩, ⟨u158HB⟩⟩
theorem u111HB {p : Prop} (h : p := by repeat (first | (with_reducible first | exact HB.out | apply below_alloc | apply pw_below_drewN | apply below_drew1 | refine below_set ?_ GE11.out) | exact HB.out)) : p := h
def impl_RespRead.j0 : Nat → ByteArray → List (S116) → ByteArray → List ByteArray → Bool → Option (Int × (List (S116)) × ByteArray × Bool)
 | 0, _, _, _, _, _ => none
 | k + 1, x0, x5, x6, x8, x27 => if x27 = true then (some (0, ([] : List (S116)), (⟨#[]⟩ : ByteArray), false)) else (if 1 < (x8.length : Int) then ((impl_NumRead.f (rdOf ByteArray.empty x8 1)).bind fun bt36 => (if x0.toList = ([] : List UInt8) then (some (0, ([] : List (S116)), (⟨#[]⟩ : ByteArray), false)) else ((impl_RespText.f k bt36.1 x5 x6).bind fun t39 => (if t39.toList = x0.toList then (some (bt36.1, x5, x6, true)) else (some (0, ([] : List (S116)), (⟨#[]⟩ : ByteArray), false)))))) else (none))
def impl_RespRead.f (k : Nat) (a0 : ByteArray) : Option (Int × (List (S116)) × ByteArray × Bool) := (impl_parts.f k a0).bind fun bt34 => ((strings_Split.f bt34.1 (⟨#[32]⟩ : ByteArray)).bind fun t33 => (if bt34.2.2.2 = true then (impl_RespRead.j0 k a0 bt34.2.1 bt34.2.2.1 t33 ((t33.length : Int) != 3)) else (impl_RespRead.j0 k a0 bt34.2.1 bt34.2.2.1 t33 true)))
theorem impl_RespRead.calls (k : Nat) (a0 : ByteArray) (r1 : Int) (r2 : List (S116)) (r3 : ByteArray) (r4 : Bool) (w : World) (hGE : GLOBE w) (hGM : GLOBM w) (hGT : GLOBT w) (h : impl_RespRead.f k a0 = some (r1, r2, r3, r4)) :
  Calls Tryz.prog 111 #[.string a0] w fun e w' => ∃ v1_ : Value, e = .returned (.tuple #[.agg #[.int .i64 r1, v1_, .string r3], .bool r4]) ∧ Kd.R k116 116 w' w.heap.size (fun _ => True) v1_ r2 ∧ Below w.heap.size w w' := by
 have hu29 := Tryz.underlying29
 have HGE := am hGE
 clear hGE
 have HGM := am hGM
 clear hGM
 have HGT := am hGT
 clear hGT
 have HB := am (Below.refl w.heap.size w)
 unfold impl_RespRead.f at h
 have H := h
 clear h
 revert H
 refine ok4 fun t34 t37 t38 t42 A2 H => ?_
 (try dsimp only at H)
 revert H
 refine ok1 fun t33 A3 H => ?_
 have HC4 := am H
 clear H
 go_enter Tryz.func111, Tryz.ntmps111
 go_upto_region 3 with (first | ((with_reducible refine gate_dst (N := 2) rfl ?_); (try (refine gate_guard (by rfl) ?_; dsimp only)); refine box_event ?hg (N := 2) ?hd (cs := #[.int .i64 0, .slice none 0 0, .string (⟨#[]⟩ : ByteArray)]) (t := 29) ?hr ?_; (case hd => rfl); (case hg => rfl); (case hr => first | (go_simp; done) | (go_simp; rfl)); intro gb11 hg w5 hbox hb; have BK11 := am (hbox); have GW11 := am (sz hg : w.heap.size ≤ gb11); have GE11 := am (sz hg : w.heap.size ≤ gb11); replace HB := am (below_step bl hb); clear hb hbox hg) | ((with_reducible refine gw ?_); first | (refine gl 14 Tryz.func158 #[.string a0] ?_; refine (impl_parts.calls k a0 t34 t37 t38 t42 _ (GLOBM.below HGM.out bl) A2.out).mono ?_; rintro e w6 ⟨v44, rfl, ho0, hb⟩; refine ⟨_, rfl, ?_⟩; have HO40 := am (Kd.R_lower ho0 (below_size bl)); replace BK11 := kb BK11 hb; replace HB := am (below_step bl hb); clear hb ho0) | (refine gl 20 Tryz.func109 #[.string t34, .string (⟨#[32]⟩ : ByteArray)] ?_; refine (strings_Split.calls t34 (⟨#[32]⟩ : ByteArray) t33 _ (GLOBM.below HGM.out bl) A3.out).mono ?_; rintro e w7 ⟨v45, rfl, ho0, hb⟩; refine ⟨_, rfl, ?_⟩; replace HO40 := kr HO40 hb; have HO41 := am (Kd.R_lower ho0 (below_size bl)); replace BK11 := kb BK11 hb; replace HB := am (below_step bl hb); clear hb ho0)))
 (try simp only [Act.put, List.setIfInBounds_toArray, List.set_cons_zero, List.set_cons_succ])
 go_cut [27] (fun v27 wc => ∃ (kq : Nat) (x27_3 : Bool), v27 = .bool x27_3 ∧ Aside0 (impl_RespRead.j0 kq a0 t37 t38 t33 x27_3 = some (r1, r2, r3, r4)) ∧ Aside0 (kq ≤ k) ∧ Aside0 (Kd.R k116 116 wc w.heap.size (fun _ => True) v44 t37) ∧ Aside0 (Kd.R Kd.string 9 wc w.heap.size (fun _ => True) v45 t33) ∧ Aside0 (wc.heap[gb11]? = some (.cells #[.int .i64 0, (.slice none 0 0), .string (⟨#[]⟩ : ByteArray)] 29 (0, 0))) ∧ Aside0 (Below w.heap.size w wc))
 case first =>
  have H := HC4.out
  clear HC4
  by_cases c8 : t42 = true
  rotate_left
  ·replace c8 := nb_ c8
   subst c8
   rw [if_neg ff_] at H
   have H' := am H
   clear H
   go_wp2
   go_meet
   case rel => exact ⟨_, (true), rs, H', ⟨by first | omega | exact Nat.le_refl _⟩, ⟨ro HO40⟩, ⟨ro HO41⟩, ⟨bk BK11⟩, ⟨u111HB⟩⟩
  subst c8
  rw [if_pos rfl] at H
  have H' := am H
  clear H
  obtain ⟨Ao9, co9, eo9⟩ := Kd.R_slice HO41.out
  subst eo9
  go_wp2
  go_meet
  case rel => exact ⟨_, (((t33.length : Int) != 3)), rs, H', ⟨by first | omega | exact Nat.le_refl _⟩, ⟨ro HO40⟩, ⟨ro HO41⟩, ⟨bk BK11⟩, ⟨u111HB⟩⟩
 case rest =>
  clear HC4
  obtain ⟨kq, x27_3, rfl, HA, HJ3, HO_5, HO_8, BK11, HB⟩ := hcut
  cases kq with
  | zero => exact absurd HA.out (by simp [impl_RespRead.j0])
  | succ kj3 =>
   have H := HA.out
   clear HA
   simp only [impl_RespRead.j0] at H
   by_cases c10 : x27_3 = true
   ·subst c10
    rw [if_pos rfl] at H
    simp only [Option.some.injEq, Prod.mk.injEq] at H
    obtain ⟨rfl, rfl, rfl, rfl⟩ := H
    obtain ⟨_, _, _, _, _, _⟩ := cl3 BK11
    go_wp2
    refine bodyPost_ret (results_ct rfl _ _ gb11 29 #[.int .i64 0, .slice none 0 0, .string (⟨#[]⟩ : ByteArray)] (0, 0) _ rfl (pt0 BK11) Tryz.underlying29 rfl (by kernel_rfl)) rfl ?_
    exact ⟨_, rf, by first | exact Kd.R_nil _ _ _ _ _ | exact Kd.N_nil _ _ _ _ _ | exact Kd.V_nil _ _ _ _ _ | exact Kd.Q_nil _ _ _ _ _ | exact Kd.S_nil _ _ _ _ _, bl⟩
   replace c10 := nb_ c10
   subst c10
   rw [if_neg ff_] at H
   revert H
   refine ifn fun c12 H => ?_
   have c12b0 := decide_eq_true c12
   have c12b1 : decide (1 < t33.length) = true := decide_eq_true (by omega)
   clear c12
   revert H
   refine ok2 fun t36 t43 A13 H => ?_
   (try dsimp only at H)
   by_cases c14 : a0.toList = ([] : List UInt8)
   ·rw [if_pos c14] at H
    have c14b0 := eqt c14
    have c14b1 := nef c14
    clear c14
    simp only [Option.some.injEq, Prod.mk.injEq] at H
    obtain ⟨rfl, rfl, rfl, rfl⟩ := H
    obtain ⟨Ao15, co15, eo15⟩ := Kd.R_slice HO_8.out
    subst eo15
    have p21 : 0 ≤ (1 : Int) := (by omega)
    have q21 : 1 < (t33.length : Int) := od
    obtain ⟨ad21, e21, hx21_0⟩ := Kd.at_string (Kd.R_reads' HO_8.out).2.2 1 p21 q21
    cases e21
    (try simp only [show (1 : Int).toNat = 1 from rfl, Nat.reduceMul, Nat.reduceEqDiff, Go.Addr.add, ↓reduceIte] at hx21_0)
    have qi1425 : (1 < t33.length) = True := eq_true (by omega)
    (try rw [show ((1 : Int)).toNat = 1 from rfl] at hx21_0)
    replace p21 := eq_true p21
    replace q21 := eq_true q21
    go_wp2_with (first | ((with_reducible refine gw ?_); first | (refine gl 33 Tryz.func110 #[.string (rdOf ByteArray.empty t33 1)] ?_; refine (impl_NumRead.calls (rdOf ByteArray.empty t33 1) t36 t43 _ (GLOBE.below HGE.out bl) (GLOBT.below HGT.out bl) A13.out).mono ?_; rintro e w16 ⟨rfl, hb⟩; refine ⟨_, rfl, ?_⟩; replace HO_5 := kr HO_5 hb; replace HO_8 := kr HO_8 hb; replace BK11 := kb BK11 hb; replace HB := am (below_step bl hb); clear hb; obtain ⟨Ao17, co17, eo17⟩ := Kd.R_slice HO_5.out; subst eo17)) | ((with_reducible refine gate_dst (N := 11) rfl ?_); (try (refine gate_guard (by rfl) ?_; dsimp only)); refine box_event ?hg (N := 11) ?hd (cs := #[.int .i64 0, .slice none 0 0, .string (⟨#[]⟩ : ByteArray)]) (t := 29) ?hr ?_; (case hd => rfl); (case hg => rfl); (case hr => first | (go_simp; done) | (go_simp; rfl)); intro gb20 hg w18 hbox hb; replace HO_5 := am (Kd.R_below (ro HO_5) hb); replace HO_8 := am (Kd.R_below (ro HO_8) hb); have BK20 := am (hbox); have GW20 := am (sz hg : w.heap.size ≤ gb20); have GE20 := am (sz hg : w.heap.size ≤ gb20); replace HB := am (below_step bl hb); have NB11_20 := am (nl hg BK11 : gb11 ≠ gb20); have NB20_11 := am (ng hg BK11 : gb20 ≠ gb11); replace BK11 := kb BK11 hb; clear hb hbox hg; have hnb19 := NB20_11.out; have hnc19 := NB11_20.out; obtain ⟨_, _, _, _, _, _⟩ := cl3 BK20; obtain ⟨_, _, _, _, _, _⟩ := cl3 BK11))
    refine bodyPost_ret (results_ct rfl _ _ gb11 29 #[.int .i64 0, .slice none 0 0, .string (⟨#[]⟩ : ByteArray)] (0, 0) _ rfl (pt1 BK11 NB11_20) Tryz.underlying29 rfl (by kernel_rfl)) rfl ?_
    exact ⟨_, rf, by first | exact Kd.R_nil _ _ _ _ _ | exact Kd.N_nil _ _ _ _ _ | exact Kd.V_nil _ _ _ _ _ | exact Kd.Q_nil _ _ _ _ _ | exact Kd.S_nil _ _ _ _ _, bl⟩
   rw [if_neg c14] at H
   have c14b0 := eqf c14
   have c14b1 := net c14
   revert H
   refine ok1 fun t39 A22 H => ?_
   have HH23 := am H
   clear H
   obtain ⟨Ao24, co24, eo24⟩ := Kd.R_slice HO_8.out
   subst eo24
   have p21 : 0 ≤ (1 : Int) := (by omega)
   have q21 : 1 < (t33.length : Int) := od
   obtain ⟨ad21, e21, hx21_0⟩ := Kd.at_string (Kd.R_reads' HO_8.out).2.2 1 p21 q21
   cases e21
   (try simp only [show (1 : Int).toNat = 1 from rfl, Nat.reduceMul, Nat.reduceEqDiff, Go.Addr.add, ↓reduceIte] at hx21_0)
   have qi1425 : (1 < t33.length) = True := eq_true (by omega)
   (try rw [show ((1 : Int)).toNat = 1 from rfl] at hx21_0)
   replace p21 := eq_true p21
   replace q21 := eq_true q21
   go_upto_if 47 with (first | ((with_reducible refine gw ?_); first | (refine gl 33 Tryz.func110 #[.string (rdOf ByteArray.empty t33 1)] ?_; refine (impl_NumRead.calls (rdOf ByteArray.empty t33 1) t36 t43 _ (GLOBE.below HGE.out bl) (GLOBT.below HGT.out bl) A13.out).mono ?_; rintro e w25 ⟨rfl, hb⟩; refine ⟨_, rfl, ?_⟩; replace HO_5 := kr HO_5 hb; replace HO_8 := kr HO_8 hb; replace BK11 := kb BK11 hb; replace HB := am (below_step bl hb); clear hb; obtain ⟨Ao26, co26, eo26⟩ := Kd.R_slice HO_5.out; subst eo26)) | ((with_reducible refine gate_dst (N := 11) rfl ?_); (try (refine gate_guard (by rfl) ?_; dsimp only)); refine box_event ?hg (N := 11) ?hd (cs := #[.int .i64 0, .slice none 0 0, .string (⟨#[]⟩ : ByteArray)]) (t := 29) ?hr ?_; (case hd => rfl); (case hg => rfl); (case hr => first | (go_simp; done) | (go_simp; rfl)); intro gb20 hg w27 hbox hb; replace HO_5 := am (Kd.R_below (ro HO_5) hb); replace HO_8 := am (Kd.R_below (ro HO_8) hb); have BK20 := am (hbox); have GW20 := am (sz hg : w.heap.size ≤ gb20); have GE20 := am (sz hg : w.heap.size ≤ gb20); replace HB := am (below_step bl hb); have NB11_20 := am (nl hg BK11 : gb11 ≠ gb20); have NB20_11 := am (ng hg BK11 : gb20 ≠ gb11); replace BK11 := kb BK11 hb; clear hb hbox hg; have hnb28 := NB20_11.out; have hnc28 := NB11_20.out; obtain ⟨_, _, _, _, _, _⟩ := cl3 BK20) | (go_at_call 35; (with_reducible refine (impl_RespText.calls kj3 t36 _ _ t37 t38 t39 _ ?side1 ?side2 ?side3 A22.out).mono ?_); (case side1 => exact GLOBT.below HGT.out bl); (case side2 => refine (Kd.R_reads' (e := 116) (base := w.heap.size) (ok := fun k_ => True) (n := t37.length) (c := co26) ?_).2.2; exact (rj (Kd.R_types HO_5.out BK20.out (by decide)) (fun _ h_ => h_.1))); (case side3 => exact (Kd.R_reads' HO_5.out).2.1); rintro e w30 ⟨rfl, hb⟩; replace HO_5 := am (Kd.R_below (rj (Kd.R_types HO_5.out BK20.out (by decide)) (fun _ h_ => h_.1)) hb); replace HO_8 := am (Kd.R_below (rj (Kd.R_types HO_8.out BK20.out (by decide)) (fun _ h_ => h_.1)) hb); replace BK11 := kg1 BK11 NB11_20 hb; replace BK20 := am (blk_below (g := gb20) (o := .cells #[.int .i64 t36, .slice Ao26 t37.length co26, .string t38] 29 (0, 0)) (pt0 BK20) hb); replace HB := am (below_step bl hb); clear hb))
   have H := HH23.out
   clear HH23
   by_cases c31 : t39.toList = a0.toList
   rotate_left
   ·rw [if_neg c31] at H
    have c31b0 := eqf c31
    have c31b1 := net c31
    (first | rw [c31b0] | (simp only [i64_w, i32_w]; rw [c31b0]) | skip)
    simp only [Option.some.injEq, Prod.mk.injEq] at H
    obtain ⟨rfl, rfl, rfl, rfl⟩ := H
    have hnb35 := NB11_20.out
    have hnc35 := NB20_11.out
    obtain ⟨_, _, _, _, _, _⟩ := cl3 BK11
    go_wp2
    refine bodyPost_ret (results_ct rfl _ _ gb11 29 #[.int .i64 0, .slice none 0 0, .string (⟨#[]⟩ : ByteArray)] (0, 0) _ rfl (pt0 BK11) Tryz.underlying29 rfl (by kernel_rfl)) rfl ?_
    exact ⟨_, rf, by first | exact Kd.R_nil _ _ _ _ _ | exact Kd.N_nil _ _ _ _ _ | exact Kd.V_nil _ _ _ _ _ | exact Kd.Q_nil _ _ _ _ _ | exact Kd.S_nil _ _ _ _ _, bl⟩
   rw [if_pos c31] at H
   have c31b0 := eqt c31
   have c31b1 := nef c31
   clear c31
   (first | rw [c31b0] | (simp only [i64_w, i32_w]; rw [c31b0]) | skip)
   simp only [Option.some.injEq, Prod.mk.injEq] at H
   obtain ⟨rfl, rfl, rfl, rfl⟩ := H
   have hnb32 := NB20_11.out
   have hnc32 := NB11_20.out
   obtain ⟨_, _, _, _, _, _⟩ := cl3 BK20
   obtain ⟨_, _, _, _, _, _⟩ := cl3 BK11
   go_wp2
   refine bodyPost_ret (results_ct rfl _ _ gb11 29 #[.int .i64 t36, .slice Ao26 t37.length co26, .string t38] (0, 0) _ rfl (pt0 BK11) Tryz.underlying29 rfl (by kernel_rfl)) rfl ?_
   exact ⟨_, rf, rj (Kd.R_types HO_5.out BK11.out (by decide)) (fun _ hk => trivial), bl⟩
theorem u38HB {p : Prop} (h : p := by repeat (first | (with_reducible first | exact HB.out | apply below_alloc | apply pw_below_drewN | apply below_drew1 | refine below_set ?_ GE30.out | refine below_set ?_ GE20.out | refine below_set ?_ GE24.out) | exact HB.out)) : p := h
mutual
def impl_ObjRead.j0 : Nat → ByteArray → ByteArray → List ByteArray → Int → Int → Bool → Option (ByteArray × List ByteArray × List ByteArray × Int × (List (S116)) × ByteArray × Int × Bool)
 | 0, _, _, _, _, _, _ => none
 | k + 1, x0, x5, x7, x8, x10, x53 => if x53 = true then (some ((⟨#[]⟩ : ByteArray), ([] : List ByteArray), ([] : List ByteArray), 0, ([] : List (S116)), (⟨#[]⟩ : ByteArray), 0, false)) else (if 1 < (x7.length : Int) then (impl_ObjRead.l0 k x0 x5 x10 0 (rdOf ByteArray.empty x7 1) ([] : List ByteArray) 0 (⟨#[]⟩ : ByteArray) x8) else (none))
def impl_ObjRead.l0 : Nat → ByteArray → ByteArray → Int → Int → ByteArray → List ByteArray → Int → ByteArray → Int → Option (ByteArray × List ByteArray × List ByteArray × Int × (List (S116)) × ByteArray × Int × Bool)
 | 0, _, _, _, _, _, _, _, _, _ => none
 | k + 1, x0, x5, x60, x61, x93, x65, x100, x101, x94 => if x61 < x60 then ((strings_Cut.f x5 (⟨#[10]⟩ : ByteArray)).bind fun bt91 => (if x65.length < 8796093022208 then (impl_ObjRead.l0 k x0 bt91.2.1 x60 (wrap64 (x61 + 1)) x93 (x65 ++ [bt91.1]) x100 x101 x94) else (none))) else ((impl_RespRead.f k x5).bind fun bt43 => ((impl_VaryOf.f k bt43.2.1).bind fun t87 => (if bt43.2.2.2 = true then ((impl_ObjText.f k x93 t87 x65 bt43.1 bt43.2.1 bt43.2.2.1 x94).bind fun t92 => (if t92.toList = x0.toList then (some (x93, t87, x65, bt43.1, bt43.2.1, bt43.2.2.1, x94, true)) else (some ((⟨#[]⟩ : ByteArray), ([] : List ByteArray), ([] : List ByteArray), 0, ([] : List (S116)), (⟨#[]⟩ : ByteArray), 0, false)))) else (some ((⟨#[]⟩ : ByteArray), ([] : List ByteArray), ([] : List ByteArray), 0, ([] : List (S116)), (⟨#[]⟩ : ByteArray), 0, false)))))
end
def impl_ObjRead.f (k : Nat) (a0 : ByteArray) : Option (ByteArray × List ByteArray × List ByteArray × Int × (List (S116)) × ByteArray × Int × Bool) := (strings_Cut.f a0 (⟨#[10]⟩ : ByteArray)).bind fun bt89 => ((strings_Split.f bt89.1 (⟨#[32]⟩ : ByteArray)).bind fun t33 => (if (t33.length : Int) = 4 then (if 2 < (t33.length : Int) then ((impl_NumRead.f (rdOf ByteArray.empty t33 2)).bind fun bt84 => (if 3 < (t33.length : Int) then ((impl_NumRead.f (rdOf ByteArray.empty t33 3)).bind fun bt85 => (if bt84.2 = true then (if bt85.2 = true then (impl_ObjRead.j0 k a0 bt89.2.1 t33 bt84.1 bt85.1 (decide (bt85.1 > 4))) else (impl_ObjRead.j0 k a0 bt89.2.1 t33 bt84.1 bt85.1 true)) else (impl_ObjRead.j0 k a0 bt89.2.1 t33 bt84.1 bt85.1 true))) else (none))) else (none)) else (some ((⟨#[]⟩ : ByteArray), ([] : List ByteArray), ([] : List ByteArray), 0, ([] : List (S116)), (⟨#[]⟩ : ByteArray), 0, false))))
def impl_ObjRead.T17 : Bool × List (List Nat × List Nat) := (true, [([], []), ([], []), ([1], [1]), ([2], [2]), ([0], []), ([4, 0, 3, 0], [0, 4]), ([0, 1, 2, 3, 4, 5], []), ([6, 3, 5, 0, 1, 2, 3, 4, 5], [3, 6])])
def impl_ObjRead.B17 : List Nat := [0, 0, 2, 6, 1, 31, 63, 127]
theorem impl_ObjRead.tab17 : rtab .any (opsOf Tryz.f38 17) = impl_ObjRead.T17 := by kernel_rfl
theorem impl_ObjRead.bits17 : waitsOk impl_ObjRead.T17.2 impl_ObjRead.B17 = true := by kernel_rfl
theorem impl_ObjRead.calls (k : Nat) (a0 : ByteArray) (r1 : ByteArray) (r2 : List ByteArray) (r3 : List ByteArray) (r4 : Int) (r5 : List (S116)) (r6 : ByteArray) (r7 : Int) (r8 : Bool) (w : World) (hGE : GLOBE w) (hGM : GLOBM w) (hGT : GLOBT w) (h : impl_ObjRead.f k a0 = some (r1, r2, r3, r4, r5, r6, r7, r8)) :
  Calls Tryz.prog 38 #[.string a0] w fun e w' => ∃ v1_ v2_ v4_ : Value, e = .returned (.tuple #[.agg #[.string r1, v1_, v2_, .int .i64 r4, v4_, .string r6, .int .i64 r7], .bool r8]) ∧ Kd.R Kd.string 9 w' w.heap.size (fun k_ => some k_ ≠ (v2_ : Value).ownBlock) v1_ r2 ∧ Kd.R Kd.string 9 w' w.heap.size (fun k_ => some k_ ≠ (v1_ : Value).ownBlock) v2_ r3 ∧ Kd.R k116 116 w' w.heap.size (fun _ => True) v4_ r5 ∧ Below w.heap.size w w' := by
 have hu31 := Tryz.underlying31
 have hu29 := Tryz.underlying29
 have HGE := am hGE
 clear hGE
 have HGM := am hGM
 clear hGM
 have HGT := am hGT
 clear hGT
 have HB := am (Below.refl w.heap.size w)
 unfold impl_ObjRead.f at h
 have H := h
 clear h
 revert H
 refine ok3 fun t89 t95 t102 A2 H => ?_
 (try dsimp only at H)
 revert H
 refine ok1 fun t33 A3 H => ?_
 have HH4 := am H
 clear H
 go_enter Tryz.func38, Tryz.ntmps38
 go_upto_if 28 with ((with_reducible refine gw ?_); first | (refine bx 2 #[.string (⟨#[]⟩ : ByteArray), .slice none 0 0, .slice none 0 0, .int .i64 0, .slice none 0 0, .string (⟨#[]⟩ : ByteArray), .int .i64 0] 31 ?_; intro gb30 hg w5 hbox hb; have BK30 := am (hbox); have GW30 := am (sz hg : w.heap.size ≤ gb30); have GE30 := am (sz hg : w.heap.size ≤ gb30); replace HB := am (below_step bl hb); clear hb hbox hg) | (refine gl 20 Tryz.func108 #[.string a0, .string (⟨#[10]⟩ : ByteArray)] ?_; refine (strings_Cut.calls a0 (⟨#[10]⟩ : ByteArray) t89 t95 t102 _ (GLOBM.below HGM.out bl) A2.out).mono ?_; rintro e w6 ⟨rfl, hb⟩; refine ⟨_, rfl, ?_⟩; replace BK30 := kb BK30 hb; replace HB := am (below_step bl hb); clear hb) | (refine gl 25 Tryz.func109 #[.string t89, .string (⟨#[32]⟩ : ByteArray)] ?_; refine (strings_Split.calls t89 (⟨#[32]⟩ : ByteArray) t33 _ (GLOBM.below HGM.out bl) A3.out).mono ?_; rintro e w7 ⟨v107, rfl, ho0, hb⟩; refine ⟨_, rfl, ?_⟩; have HO88 := am (Kd.R_lower ho0 (below_size bl)); replace BK30 := kb BK30 hb; replace HB := am (below_step bl hb); clear hb ho0; obtain ⟨Ao8, co8, eo8⟩ := Kd.R_slice HO88.out; subst eo8))
 have H := HH4.out
 clear HH4
 by_cases c9 : (t33.length : Int) = 4
 rotate_left
 ·rw [if_neg c9] at H
  have c9b0 := eqf c9
  have c9b1 := net c9
  (first | rw [c9b0] | (simp only [i64_w, i32_w]; rw [c9b0]) | skip)
  simp only [Option.some.injEq, Prod.mk.injEq] at H
  obtain ⟨rfl, rfl, rfl, rfl, rfl, rfl, rfl, rfl⟩ := H
  obtain ⟨_, _, _, _, _, _, _, _, _, _, _, _, _, _⟩ := cl7 BK30
  go_wp2
  refine bodyPost_ret (results_ct rfl _ _ gb30 31 #[.string (⟨#[]⟩ : ByteArray), .slice none 0 0, .slice none 0 0, .int .i64 0, .slice none 0 0, .string (⟨#[]⟩ : ByteArray), .int .i64 0] (0, 0) _ rfl (pt0 BK30) Tryz.underlying31 rfl (by kernel_rfl)) rfl ?_
  exact ⟨_, _, _, rf, by first | exact Kd.R_nil _ _ _ _ _ | exact Kd.N_nil _ _ _ _ _ | exact Kd.V_nil _ _ _ _ _ | exact Kd.Q_nil _ _ _ _ _ | exact Kd.S_nil _ _ _ _ _, by first | exact Kd.R_nil _ _ _ _ _ | exact Kd.N_nil _ _ _ _ _ | exact Kd.V_nil _ _ _ _ _ | exact Kd.Q_nil _ _ _ _ _ | exact Kd.S_nil _ _ _ _ _, by first | exact Kd.R_nil _ _ _ _ _ | exact Kd.N_nil _ _ _ _ _ | exact Kd.V_nil _ _ _ _ _ | exact Kd.Q_nil _ _ _ _ _ | exact Kd.S_nil _ _ _ _ _, bl⟩
 rw [if_pos c9] at H
 have c9b0 := eqt c9
 have c9b1 := nef c9
 clear c9
 (first | rw [c9b0] | (simp only [i64_w, i32_w]; rw [c9b0]) | skip)
 revert H
 refine ifn fun c10 H => ?_
 have c10b0 := decide_eq_true c10
 have c10b1 : decide (2 < t33.length) = true := decide_eq_true (by omega)
 clear c10
 revert H
 refine ok2 fun t84 t97 A11 H => ?_
 (try dsimp only at H)
 revert H
 refine ifn fun c12 H => ?_
 have c12b0 := decide_eq_true c12
 have c12b1 : decide (3 < t33.length) = true := decide_eq_true (by omega)
 clear c12
 revert H
 refine ok2 fun t85 t98 A13 H => ?_
 (try dsimp only at H)
 have HC14 := am H
 clear H
 have p81 : 0 ≤ (2 : Int) := (by omega)
 have q81 : 2 < (t33.length : Int) := od
 obtain ⟨ad81, e81, hx81_0⟩ := Kd.at_string (Kd.R_reads' HO88.out).2.2 2 p81 q81
 cases e81
 (try simp only [show (2 : Int).toNat = 2 from rfl, Nat.reduceMul, Nat.reduceEqDiff, Go.Addr.add, ↓reduceIte] at hx81_0)
 have qi1437 : (2 < t33.length) = True := eq_true (by omega)
 (try rw [show ((2 : Int)).toNat = 2 from rfl] at hx81_0)
 replace p81 := eq_true p81
 replace q81 := eq_true q81
 go_upto_region 7 with ((with_reducible refine gw ?_); first | (refine gl 34 Tryz.func110 #[.string (rdOf ByteArray.empty t33 2)] ?_; refine (impl_NumRead.calls (rdOf ByteArray.empty t33 2) t84 t97 _ (GLOBE.below HGE.out bl) (GLOBT.below HGT.out bl) A11.out).mono ?_; rintro e w15 ⟨rfl, hb⟩; refine ⟨_, rfl, ?_⟩; replace HO88 := kr HO88 hb; replace BK30 := kb BK30 hb; replace HB := am (below_step bl hb); clear hb; have p82 : 0 ≤ (3 : Int) := (by omega); have q82 : 3 < (t33.length : Int) := od; obtain ⟨ad82, e82, hx82_0⟩ := Kd.at_string (Kd.R_reads' HO88.out).2.2 3 p82 q82; obtain rfl : ad81 = ad82 := (by injection e82); (try simp only [show (3 : Int).toNat = 3 from rfl, Nat.reduceMul, Nat.reduceEqDiff, Go.Addr.add, ↓reduceIte] at hx82_0); have qi1440 : (3 < t33.length) = True := eq_true (by omega); (try rw [show ((3 : Int)).toNat = 3 from rfl] at hx82_0); replace p82 := eq_true p82; replace q82 := eq_true q82) | (refine gl 41 Tryz.func110 #[.string (rdOf ByteArray.empty t33 3)] ?_; refine (impl_NumRead.calls (rdOf ByteArray.empty t33 3) t85 t98 _ (GLOBE.below HGE.out bl) (GLOBT.below HGT.out bl) A13.out).mono ?_; rintro e w16 ⟨rfl, hb⟩; refine ⟨_, rfl, ?_⟩; replace HO88 := kr HO88 hb; replace BK30 := kb BK30 hb; replace HB := am (below_step bl hb); clear hb))
 (try simp only [Act.put, List.setIfInBounds_toArray, List.set_cons_zero, List.set_cons_succ])
 go_cut [53] (fun v53 wc => ∃ (kq : Nat) (x53_13 : Bool), v53 = .bool x53_13 ∧ Aside0 (impl_ObjRead.j0 kq a0 t95 t33 t84 t85 x53_13 = some (r1, r2, r3, r4, r5, r6, r7, r8)) ∧ Aside0 (kq ≤ k) ∧ Aside0 (Kd.R Kd.string 9 wc w.heap.size (fun _ => True) (.slice (some ad81) t33.length co8) t33) ∧ Aside0 (wc.heap[gb30]? = some (.cells #[.string (⟨#[]⟩ : ByteArray), (.slice none 0 0), (.slice none 0 0), .int .i64 0, (.slice none 0 0), .string (⟨#[]⟩ : ByteArray), .int .i64 0] 31 (0, 0))) ∧ Aside0 (Below w.heap.size w wc))
 case first =>
  have H := HC14.out
  clear HC14
  by_cases c17 : t97 = true
  rotate_left
  ·replace c17 := nb_ c17
   subst c17
   rw [if_neg ff_] at H
   have H' := am H
   clear H
   go_wp2
   go_meet
   case rel => exact ⟨_, (true), rs, H', ⟨by first | omega | exact Nat.le_refl _⟩, ⟨ro HO88⟩, ⟨bk BK30⟩, ⟨u38HB⟩⟩
  subst c17
  rw [if_pos rfl] at H
  by_cases c18 : t98 = true
  ·subst c18
   rw [if_pos rfl] at H
   have H' := am H
   clear H
   go_wp2
   go_meet
   case rel => exact ⟨_, (decide (t85 > 4)), rs, H', ⟨by first | omega | exact Nat.le_refl _⟩, ⟨ro HO88⟩, ⟨bk BK30⟩, ⟨u38HB⟩⟩
  replace c18 := nb_ c18
  subst c18
  rw [if_neg ff_] at H
  have H' := am H
  clear H
  go_wp2
  go_meet
  case rel => exact ⟨_, (true), rs, H', ⟨by first | omega | exact Nat.le_refl _⟩, ⟨ro HO88⟩, ⟨bk BK30⟩, ⟨u38HB⟩⟩
 case rest =>
  clear HC14
  obtain ⟨kq, x53_13, rfl, HA, HJ13, HO_7, BK30, HB⟩ := hcut
  cases kq with
  | zero => exact absurd HA.out (by simp [impl_ObjRead.j0])
  | succ kj13 =>
   have H := HA.out
   clear HA
   simp only [impl_ObjRead.j0] at H
   by_cases c19 : x53_13 = true
   ·subst c19
    rw [if_pos rfl] at H
    simp only [Option.some.injEq, Prod.mk.injEq] at H
    obtain ⟨rfl, rfl, rfl, rfl, rfl, rfl, rfl, rfl⟩ := H
    obtain ⟨_, _, _, _, _, _, _, _, _, _, _, _, _, _⟩ := cl7 BK30
    go_wp2
    refine bodyPost_ret (results_ct rfl _ _ gb30 31 #[.string (⟨#[]⟩ : ByteArray), .slice none 0 0, .slice none 0 0, .int .i64 0, .slice none 0 0, .string (⟨#[]⟩ : ByteArray), .int .i64 0] (0, 0) _ rfl (pt0 BK30) Tryz.underlying31 rfl (by kernel_rfl)) rfl ?_
    exact ⟨_, _, _, rf, by first | exact Kd.R_nil _ _ _ _ _ | exact Kd.N_nil _ _ _ _ _ | exact Kd.V_nil _ _ _ _ _ | exact Kd.Q_nil _ _ _ _ _ | exact Kd.S_nil _ _ _ _ _, by first | exact Kd.R_nil _ _ _ _ _ | exact Kd.N_nil _ _ _ _ _ | exact Kd.V_nil _ _ _ _ _ | exact Kd.Q_nil _ _ _ _ _ | exact Kd.S_nil _ _ _ _ _, by first | exact Kd.R_nil _ _ _ _ _ | exact Kd.N_nil _ _ _ _ _ | exact Kd.V_nil _ _ _ _ _ | exact Kd.Q_nil _ _ _ _ _ | exact Kd.S_nil _ _ _ _ _, bl⟩
   replace c19 := nb_ c19
   subst c19
   rw [if_neg ff_] at H
   revert H
   refine ifn fun c21 H => ?_
   have c21b0 := decide_eq_true c21
   have c21b1 : decide (1 < t33.length) = true := decide_eq_true (by omega)
   clear c21
   have H' := am H
   clear H
   have p83 : 0 ≤ (1 : Int) := (by omega)
   have q83 : 1 < (t33.length : Int) := od
   obtain ⟨ad83, e83, hx83_0⟩ := Kd.at_string (Kd.R_reads' HO_7.out).2.2 1 p83 q83
   obtain rfl : ad81 = ad83 := (by injection e83)
   (try simp only [show (1 : Int).toNat = 1 from rfl, Nat.reduceMul, Nat.reduceEqDiff, Go.Addr.add, ↓reduceIte] at hx83_0)
   have qi1443 : (1 < t33.length) = True := eq_true (by omega)
   (try rw [show ((1 : Int)).toNat = 1 from rfl] at hx83_0)
   replace p83 := eq_true p83
   replace q83 := eq_true q83
   go_wp2_with ((with_reducible refine gw ?_); first | (refine bx 12 #[.string (⟨#[]⟩ : ByteArray), .slice none 0 0, .slice none 0 0, .int .i64 0, .slice none 0 0, .string (⟨#[]⟩ : ByteArray), .int .i64 0] 31 ?_; intro gb20 hg w22 hbox hb; replace HO_7 := am (Kd.R_below (ro HO_7) hb); have BK20 := am (hbox); have GW20 := am (sz hg : w.heap.size ≤ gb20); have GE20 := am (sz hg : w.heap.size ≤ gb20); replace HB := am (below_step bl hb); have NB30_20 := am (nl hg BK30 : gb30 ≠ gb20); have NB20_30 := am (ng hg BK30 : gb20 ≠ gb30); replace BK30 := kb BK30 hb; clear hb hbox hg; have hnb23 := NB20_30.out; have hnc23 := NB30_20.out; obtain ⟨_, _, _, _, _, _, _, _, _, _, _, _, _, _⟩ := cl7 BK20))
   (try simp only [Act.put, List.setIfInBounds_toArray, List.set_cons_zero, List.set_cons_succ])
   go_loopg [5, 61] kj13 (fun kq v5 v61 w' => ∃ (x5_2 : ByteArray) (x61_2 : Int) (x65_2 : List ByteArray) (u65 : Value), v5 = .string x5_2 ∧ v61 = .int .i64 x61_2 ∧ Aside0 (impl_ObjRead.l0 kq a0 x5_2 t85 x61_2 (rdOf ByteArray.empty t33 1) x65_2 0 (⟨#[]⟩ : ByteArray) t84 = some (r1, r2, r3, r4, r5, r6, r7, r8)) ∧ Aside0 (kq ≤ kj13) ∧ Aside0 (Kd.R Kd.string 9 w' w.heap.size (fun _ => True) u65 x65_2) ∧ Aside0 (w'.heap[gb30]? = some (.cells #[.string (⟨#[]⟩ : ByteArray), (.slice none 0 0), (.slice none 0 0), .int .i64 0, (.slice none 0 0), .string (⟨#[]⟩ : ByteArray), .int .i64 0] 31 (0, 0))) ∧ Aside0 (w'.heap[gb20]? = some (.cells #[.string (rdOf ByteArray.empty t33 1), (.slice none 0 0), u65, .int .i64 0, (.slice none 0 0), .string (⟨#[]⟩ : ByteArray), .int .i64 t84] 31 (0, 0))) ∧ Aside0 (Below w.heap.size w w'))
   case atStart => exact ⟨(t95), (0), (([] : List ByteArray)), (.slice none 0 0), rs, rs, H', ⟨Nat.le_refl _⟩, ⟨by first | exact Kd.R_nil _ _ _ _ _ | exact Kd.N_nil _ _ _ _ _ | exact Kd.V_nil _ _ _ _ _ | exact Kd.Q_nil _ _ _ _ _ | exact Kd.S_nil _ _ _ _ _⟩, ⟨bg1 BK30 NB30_20⟩, ⟨pt0 BK20⟩, ⟨u38HB⟩⟩
   case round =>
    clear H'
    obtain ⟨x5_2, x61_2, x65_2, u65, rfl, rfl, HA, HK2, HO_1445002, BK30, BK20, HB⟩ := hrel
    cases gk with
    | zero => exact absurd HA.out (by simp [impl_ObjRead.l0])
    | succ k2 =>
     have H := HA.out
     clear HA
     simp only [impl_ObjRead.l0] at H
     by_cases c25 : x61_2 < t85
     ·rw [if_pos c25] at H
      have c25b0 := decide_eq_true c25
      clear c25
      revert H
      refine ok3 fun t91 t96 t103 A26 H => ?_
      (try dsimp only at H)
      revert H
      refine ifn fun c27 H => ?_
      have LMc27 := am c27
      clear c27
      obtain ⟨y86, hy86⟩ : ∃ y_ : List ByteArray, y_ = (x65_2 ++ [t91]) := ⟨_, rfl⟩
      replace H : (impl_ObjRead.l0 k2 a0 t96 t85 (wrap64 (x61_2 + 1)) (rdOf ByteArray.empty t33 1) y86 0 (⟨#[]⟩ : ByteArray) t84) = some (r1, r2, r3, r4, r5, r6, r7, r8) := by first | (rw [hy86]; with_reducible exact H) | (have H2_ := (Option.bind_some _ _).symm.trans H; rw [hy86]; with_reducible exact H2_) | (have H2_ := (Option.bind_some _ _).symm.trans H; with_reducible exact H2_) | with_reducible exact H | (rw [hy86]; exact H) | exact H
      have Ny86 := am hy86
      clear hy86
      have H' := am H
      clear H
      go_wp2_with (first | ((with_reducible refine gw ?_); first | (refine gl 65 Tryz.func108 #[.string x5_2, .string (⟨#[10]⟩ : ByteArray)] ?_; refine (strings_Cut.calls x5_2 (⟨#[10]⟩ : ByteArray) t91 t96 t103 _ (GLOBM.below HGM.out bl) A26.out).mono ?_; rintro e w28 ⟨rfl, hb⟩; refine ⟨_, rfl, ?_⟩; replace HO_1445002 := kr HO_1445002 hb; replace BK30 := kb BK30 hb; replace BK20 := kb BK20 hb; replace HB := am (below_step bl hb); clear hb; have hnb29 := NB20_30.out; have hnc29 := NB30_20.out; obtain ⟨_, _, _, _, _, _, _, _, _, _, _, _, _, _⟩ := cl7 BK20)) | ((with_reducible refine gate_builtin (b := .append) (xs := #[.tmp 70, .tmp 72]) rfl ?_); at_builtin; refine Kd.R_append Kd.string (w0 := w) w.heap.size rfl (.tmp 70) (.tmp 72) 26 9 (.string ⟨#[]⟩) 16 rfl Tryz.underlying26 info9 rfl (by decide) (by omega) u65 x65_2 t91 [.string t91] (fun _ => True) (fun _ => False) rfl rfl ?aP (fun _ hk => hk.elim) ?aF ?aO ?aB ?aS ?aL ?_; (case aP => exact rfl); (case aB => exact bl); (case aF => exact (fun _ _ => trivial)); (case aO => exact (ro HO_1445002)); (case aS => exact (below_size bl)); (case aL => have := LMc27.out; omega); intro v112 w31 ho hb hg hat; rw [← Ny86.out] at ho; have n0_ := am (blk_grown (g := gb30) (o := .cells #[.string (⟨#[]⟩ : ByteArray), .slice none 0 0, .slice none 0 0, .int .i64 0, .slice none 0 0, .string (⟨#[]⟩ : ByteArray), .int .i64 0] 31 (0, 0)) (bk BK30) hg (Kd.R_ne HO_1445002.out BK30.out (by decide))); have n1_ := am (blk_grown (g := gb20) (o := .cells #[.string (rdOf ByteArray.empty t33 1), .slice none 0 0, u65, .int .i64 0, .slice none 0 0, .string (⟨#[]⟩ : ByteArray), .int .i64 t84] 31 (0, 0)) (bk BK20) hg (Kd.R_ne HO_1445002.out BK20.out (by decide))); have n2_ := am (hb); have n3_ := am (ho); clear BK30; clear BK20; clear HB; clear HO_1445002; have BK30 := n0_; have BK20 := n1_; have HB := n2_; have HO99 := n3_; clear n0_ n1_ n2_ n3_; clear ho hb hg hat; obtain ⟨Ao32, co32, eo32⟩ := Kd.R_slice HO99.out; subst eo32; obtain ⟨_, _, _, _, _, _, _, _, _, _, _, _, _, _⟩ := cl7 BK20))
      go_roundg k2
      case measure => have := HJ13.out; have := HK2.out; omega
      case rel => exact ⟨(t96), (wrap64 (x61_2 + 1)), (y86), (.slice Ao32 y86.length co32), rs, rs, H', ⟨by have := HJ13.out; have := HK2.out; omega⟩, ⟨rj (Kd.R_types HO99.out BK20.out (by decide)) (fun _ hk => trivial)⟩, ⟨bg1 BK30 NB30_20⟩, ⟨pt0 BK20⟩, ⟨u38HB⟩⟩
     rw [if_neg c25] at H
     have c25b0 := decide_eq_false c25
     clear c25
     revert H
     refine ok4 fun t43 t54 t70 t104 A34 H => ?_
     (try dsimp only at H)
     revert H
     refine ok1 fun t87 A35 H => ?_
     by_cases c36 : t104 = true
     rotate_left
     ·replace c36 := nb_ c36
      subst c36
      rw [if_neg ff_] at H
      simp only [Option.some.injEq, Prod.mk.injEq] at H
      obtain ⟨rfl, rfl, rfl, rfl, rfl, rfl, rfl, rfl⟩ := H
      try go_wp2_with ((with_reducible refine gw ?_); first | (refine gl 79 Tryz.func111 #[.string x5_2] ?_; refine (impl_RespRead.calls k2 x5_2 t43 t54 t70 false _ (GLOBE.below HGE.out bl) (GLOBM.below HGM.out bl) (GLOBT.below HGT.out bl) A34.out).mono ?_; rintro e w66 ⟨v105, rfl, ho0, hb⟩; refine ⟨_, rfl, ?_⟩; replace HO_1445002 := kr HO_1445002 hb; have HO62 := am (Kd.R_lower ho0 (below_size bl)); replace BK30 := kb BK30 hb; replace BK20 := kb BK20 hb; replace HB := am (below_step bl hb); clear hb ho0) | (refine bx 16 #[.int .i64 0, .slice none 0 0, .string (⟨#[]⟩ : ByteArray)] 29 ?_; intro gb24 hg w67 hbox hb; replace HO_1445002 := am (Kd.R_below (ro HO_1445002) hb); replace HO62 := am (Kd.R_below (ro HO62) hb); have BK24 := am (hbox); have GW24 := am (sz hg : w.heap.size ≤ gb24); have GE24 := am (sz hg : w.heap.size ≤ gb24); replace HB := am (below_step bl hb); have NB30_24 := am (nl hg BK30 : gb30 ≠ gb24); have NB24_30 := am (ng hg BK30 : gb24 ≠ gb30); replace BK30 := kb BK30 hb; have NB20_24 := am (nl hg BK20 : gb20 ≠ gb24); have NB24_20 := am (ng hg BK20 : gb24 ≠ gb20); replace BK20 := kb BK20 hb; clear hb hbox hg; have hnb68 := NB24_30.out; have hnc68 := NB30_24.out; have hnb69 := NB24_20.out; have hnc69 := NB20_24.out; obtain ⟨_, _, _, _, _, _⟩ := cl3 BK24; obtain ⟨Ao71, co71, eo71⟩ := Kd.R_slice HO62.out; subst eo71))
      have n0_ : Aside0 (Kd.R Kd.string 9 (((w67.setCell ⟨gb24, 0, none⟩ (.int .i64 t43)).setCell ⟨gb24, 1, none⟩ (.slice Ao71 t54.length co71)).setCell ⟨gb24, 2, none⟩ (.string t70)) w.heap.size (fun _ => True) u65 x65_2) := ⟨rj (Kd.R_types HO_1445002.out BK24.out (by decide)) (fun _ hk => trivial)⟩
      have n1_ : Aside0 (Kd.R k116 116 (((w67.setCell ⟨gb24, 0, none⟩ (.int .i64 t43)).setCell ⟨gb24, 1, none⟩ (.slice Ao71 t54.length co71)).setCell ⟨gb24, 2, none⟩ (.string t70)) w.heap.size (fun _ => True) (.slice Ao71 t54.length co71) t54) := ⟨rj (Kd.R_types HO62.out BK24.out (by decide)) (fun _ hk => trivial)⟩
      have n2_ : Aside0 ((((w67.setCell ⟨gb24, 0, none⟩ (.int .i64 t43)).setCell ⟨gb24, 1, none⟩ (.slice Ao71 t54.length co71)).setCell ⟨gb24, 2, none⟩ (.string t70)).heap[gb30]? = some (.cells #[.string (⟨#[]⟩ : ByteArray), .slice none 0 0, .slice none 0 0, .int .i64 0, .slice none 0 0, .string (⟨#[]⟩ : ByteArray), .int .i64 0] 31 (0, 0))) := ⟨bg1 BK30 NB30_24⟩
      have n3_ : Aside0 ((((w67.setCell ⟨gb24, 0, none⟩ (.int .i64 t43)).setCell ⟨gb24, 1, none⟩ (.slice Ao71 t54.length co71)).setCell ⟨gb24, 2, none⟩ (.string t70)).heap[gb20]? = some (.cells #[.string (rdOf ByteArray.empty t33 1), .slice none 0 0, u65, .int .i64 0, .slice none 0 0, .string (⟨#[]⟩ : ByteArray), .int .i64 t84] 31 (0, 0))) := ⟨bg1 BK20 NB20_24⟩
      have n4_ : Aside0 ((((w67.setCell ⟨gb24, 0, none⟩ (.int .i64 t43)).setCell ⟨gb24, 1, none⟩ (.slice Ao71 t54.length co71)).setCell ⟨gb24, 2, none⟩ (.string t70)).heap[gb24]? = some (.cells #[.int .i64 t43, .slice Ao71 t54.length co71, .string t70] 29 (0, 0))) := ⟨pt0 BK24⟩
      have n5_ : Aside0 (Below w.heap.size w (((w67.setCell ⟨gb24, 0, none⟩ (.int .i64 t43)).setCell ⟨gb24, 1, none⟩ (.slice Ao71 t54.length co71)).setCell ⟨gb24, 2, none⟩ (.string t70))) := ⟨u38HB⟩
      (try clear HO_1445002)
      (try clear HO62)
      (try clear BK30)
      (try clear BK20)
      (try clear BK24)
      (try clear HB)
      generalize (((w67.setCell ⟨gb24, 0, none⟩ (.int .i64 t43)).setCell ⟨gb24, 1, none⟩ (.slice Ao71 t54.length co71)).setCell ⟨gb24, 2, none⟩ (.string t70)) = w72 at n0_ n1_ n2_ n3_ n4_ n5_ ⊢
      have HO_1445002 := n0_
      have HO62 := n1_
      have BK30 := n2_
      have BK20 := n3_
      have BK24 := n4_
      have HB := n5_
      clear n0_ n1_ n2_ n3_ n4_ n5_
      replace HO_1445002 := am (Kd.R_drew HO_1445002.out)
      replace HO62 := am (Kd.R_drew HO62.out)
      replace BK30 := am (blk_drew BK30.out)
      replace BK20 := am (blk_drew BK20.out)
      replace BK24 := am (blk_drew BK24.out)
      replace HB := am (below_drew1 HB.out)
      refine start_ (n := 8) (S := fun w' => w'.cell? ⟨gb24, 0, none⟩ = some (.int .i64 t43) ∧ w'.cell? ⟨gb24, 1, none⟩ = some (.slice Ao71 t54.length co71) ∧ w'.cell? ⟨gb24, 2, none⟩ = some (.string t70)) (ds := []) ⟨br true [0, 8]⟩ (by kernel_rfl) rfl (by kernel_rfl) ⟨bc BK24, bc BK24, bc BK24⟩ (fun hHeld => ?_); refine with_tabW impl_ObjRead.tab17 impl_ObjRead.bits17 (fun HT_ HW_ => ?_)
      generalize w72.drew = w73 at HO_1445002 HO62 BK30 BK20 BK24 HB hHeld ⊢
      refine pu 1 83 [0, 1, 1, 6] ?_
      refine tk 0 82 [2, 6] ?_
      refine pu 4 86 [2, 2, 1, 3] ?_
      refine tk 2 84 [3, 1, 1, 3] ?_
      refine og 3 85 [5, 3] Tryz.func73 #[.slice Ao71 t54.length co71] (fun K hK => ?_)
      refine (impl_VaryOf.calls k2 _ _ t54 t87 _ (GLOBM.below HGM.out bl) (rc HO62) ((Kd.R_reads' HO62.out).2.1) A35.out).mono ?_
      rintro e w74 ⟨v106, rfl, ho0, hb⟩
      refine ⟨_, rfl, ?_⟩
      replace HO62 := kr HO62 hb
      have HO90 := am (Kd.R_lower (Kd.R_new' ho0 (Kd.R_lt (ro HO_1445002))) (below_size bl))
      replace HO_1445002 := am (Kd.R_elder' (ro HO_1445002) (Kd.R_base ho0) hb)
      replace BK30 := kb BK30 hb
      replace BK20 := kb BK20 hb
      replace BK24 := kb BK24 hb
      replace HB := am (below_step bl hb)
      clear hb ho0
      obtain ⟨Ao78, co78, eo78⟩ := Kd.R_slice HO90.out
      (first | subst eo78 | (injection eo78 with f1_ f2_ f3_; have f4_ := f1_.symm; have f5_ := f3_.symm; clear f1_ f2_ f3_; subst f4_; subst f5_))
      refine hK.out _ _ ⟨bc BK24, bc BK24, bc BK24⟩ (fun hHeld => ?_)
      clear hK K
      refine nm 85 ?_
      refine one_ (i := 5) (N := none) #[true, true, true, true, true, true, false, false] rfl rfl (one_of HT_.out (by kernel_rfl)) (by decide) (fun K hK => ?_)
      have hs75 : w74.cell? ⟨gb20, 3, none⟩ = some (.int .i64 0) := bc BK20
      have hfs75 := blk_frozen BK20.out 3
      have hns75_0 := NB30_20.out
      have hns75_2 := NB24_20.out
      have hms75_0 := NB20_30.out
      have hms75_2 := NB20_24.out
      have hs76 : w74.cell? ⟨gb20, 4, none⟩ = some (.slice none 0 0) := bc BK20
      have hfs76 := blk_frozen BK20.out 4
      have hns76_0 := NB30_20.out
      have hns76_2 := NB24_20.out
      have hms76_0 := NB20_30.out
      have hms76_2 := NB20_24.out
      have hs77 : w74.cell? ⟨gb20, 5, none⟩ = some (.string (⟨#[]⟩ : ByteArray)) := bc BK20
      have hfs77 := blk_frozen BK20.out 5
      have hns77_0 := NB30_20.out
      have hns77_2 := NB24_20.out
      have hms77_0 := NB20_30.out
      have hms77_2 := NB20_24.out
      refine skip_ (w1 := ?_) (by rfl) rfl ?_ ?_
      rotate_left
      ·go_simp
       rfl
      refine hK.out _ _ (by (refine ⟨?_, ?_, ?_⟩ <;> (with_reducible repeat (refine Eq.trans (cell_far ?hfar _) ?_; (case hfar => first | exact NB24_20.out)))); exact hHeld.1; exact hHeld.2.1; exact hHeld.2.2) (fun hHeld => ?_)
      clear hK K
      refine pu 6 87 [7, 1] ?_
      refine one_ (i := 7) (N := none) #[true, true, true, true, true, true, true, true] rfl rfl (one_of HT_.out (by kernel_rfl)) (by decide) (fun K hK => ?_)
      have hs79 : w74.cell? ⟨gb20, 1, none⟩ = some (.slice none 0 0) := bc BK20
      have hfs79 := blk_frozen BK20.out 1
      have hns79_0 := NB30_20.out
      have hns79_2 := NB24_20.out
      have hms79_0 := NB20_30.out
      have hms79_2 := NB20_24.out
      refine skip_ (w1 := ?_) (by rfl) rfl ?_ ?_
      rotate_left
      ·go_simp
       rfl
      refine hK.out _ _ ⟨((cell_far (p := ⟨gb20, _, none⟩) NB24_20.out _).trans (hHeld.1)), ((cell_far (p := ⟨gb20, _, none⟩) NB24_20.out _).trans (hHeld.2.1)), ((cell_far (p := ⟨gb20, _, none⟩) NB24_20.out _).trans (hHeld.2.2))⟩ (fun hHeld => ?_)
      clear hK K
      refine done_ (done_of HT_.out (by kernel_rfl)) ?_
      have hnb80 := NB30_20.out
      have hnc80 := NB20_30.out
      obtain ⟨_, _, _, _, _, _, _, _, _, _, _, _, _, _⟩ := cl7 BK30
      try go_wp2
      refine bodyPost_ret (results_ct rfl _ _ gb30 31 #[.string (⟨#[]⟩ : ByteArray), .slice none 0 0, .slice none 0 0, .int .i64 0, .slice none 0 0, .string (⟨#[]⟩ : ByteArray), .int .i64 0] (0, 0) _ rfl (pt1 BK30 NB30_20) Tryz.underlying31 rfl (by kernel_rfl)) rfl ?_
      exact ⟨_, _, _, rf, by first | exact Kd.R_nil _ _ _ _ _ | exact Kd.N_nil _ _ _ _ _ | exact Kd.V_nil _ _ _ _ _ | exact Kd.Q_nil _ _ _ _ _ | exact Kd.S_nil _ _ _ _ _, by first | exact Kd.R_nil _ _ _ _ _ | exact Kd.N_nil _ _ _ _ _ | exact Kd.V_nil _ _ _ _ _ | exact Kd.Q_nil _ _ _ _ _ | exact Kd.S_nil _ _ _ _ _, by first | exact Kd.R_nil _ _ _ _ _ | exact Kd.N_nil _ _ _ _ _ | exact Kd.V_nil _ _ _ _ _ | exact Kd.Q_nil _ _ _ _ _ | exact Kd.S_nil _ _ _ _ _, bl⟩
     subst c36
     rw [if_pos rfl] at H
     revert H
     refine ok1 fun t92 A37 H => ?_
     have HH38 := am H
     clear H
     try go_wp2_with ((with_reducible refine gw ?_); first | (refine gl 79 Tryz.func111 #[.string x5_2] ?_; refine (impl_RespRead.calls k2 x5_2 t43 t54 t70 true _ (GLOBE.below HGE.out bl) (GLOBM.below HGM.out bl) (GLOBT.below HGT.out bl) A34.out).mono ?_; rintro e w39 ⟨v105, rfl, ho0, hb⟩; refine ⟨_, rfl, ?_⟩; replace HO_1445002 := kr HO_1445002 hb; have HO62 := am (Kd.R_lower ho0 (below_size bl)); replace BK30 := kb BK30 hb; replace BK20 := kb BK20 hb; replace HB := am (below_step bl hb); clear hb ho0) | (refine bx 16 #[.int .i64 0, .slice none 0 0, .string (⟨#[]⟩ : ByteArray)] 29 ?_; intro gb24 hg w40 hbox hb; replace HO_1445002 := am (Kd.R_below (ro HO_1445002) hb); replace HO62 := am (Kd.R_below (ro HO62) hb); have BK24 := am (hbox); have GW24 := am (sz hg : w.heap.size ≤ gb24); have GE24 := am (sz hg : w.heap.size ≤ gb24); replace HB := am (below_step bl hb); have NB30_24 := am (nl hg BK30 : gb30 ≠ gb24); have NB24_30 := am (ng hg BK30 : gb24 ≠ gb30); replace BK30 := kb BK30 hb; have NB20_24 := am (nl hg BK20 : gb20 ≠ gb24); have NB24_20 := am (ng hg BK20 : gb24 ≠ gb20); replace BK20 := kb BK20 hb; clear hb hbox hg; have hnb41 := NB24_30.out; have hnc41 := NB30_24.out; have hnb42 := NB24_20.out; have hnc42 := NB20_24.out; obtain ⟨_, _, _, _, _, _⟩ := cl3 BK24; obtain ⟨Ao44, co44, eo44⟩ := Kd.R_slice HO62.out; subst eo44))
     have n0_ : Aside0 (Kd.R Kd.string 9 (((w40.setCell ⟨gb24, 0, none⟩ (.int .i64 t43)).setCell ⟨gb24, 1, none⟩ (.slice Ao44 t54.length co44)).setCell ⟨gb24, 2, none⟩ (.string t70)) w.heap.size (fun _ => True) u65 x65_2) := ⟨rj (Kd.R_types HO_1445002.out BK24.out (by decide)) (fun _ hk => trivial)⟩
     have n1_ : Aside0 (Kd.R k116 116 (((w40.setCell ⟨gb24, 0, none⟩ (.int .i64 t43)).setCell ⟨gb24, 1, none⟩ (.slice Ao44 t54.length co44)).setCell ⟨gb24, 2, none⟩ (.string t70)) w.heap.size (fun _ => True) (.slice Ao44 t54.length co44) t54) := ⟨rj (Kd.R_types HO62.out BK24.out (by decide)) (fun _ hk => trivial)⟩
     have n2_ : Aside0 ((((w40.setCell ⟨gb24, 0, none⟩ (.int .i64 t43)).setCell ⟨gb24, 1, none⟩ (.slice Ao44 t54.length co44)).setCell ⟨gb24, 2, none⟩ (.string t70)).heap[gb30]? = some (.cells #[.string (⟨#[]⟩ : ByteArray), .slice none 0 0, .slice none 0 0, .int .i64 0, .slice none 0 0, .string (⟨#[]⟩ : ByteArray), .int .i64 0] 31 (0, 0))) := ⟨bg1 BK30 NB30_24⟩
     have n3_ : Aside0 ((((w40.setCell ⟨gb24, 0, none⟩ (.int .i64 t43)).setCell ⟨gb24, 1, none⟩ (.slice Ao44 t54.length co44)).setCell ⟨gb24, 2, none⟩ (.string t70)).heap[gb20]? = some (.cells #[.string (rdOf ByteArray.empty t33 1), .slice none 0 0, u65, .int .i64 0, .slice none 0 0, .string (⟨#[]⟩ : ByteArray), .int .i64 t84] 31 (0, 0))) := ⟨bg1 BK20 NB20_24⟩
     have n4_ : Aside0 ((((w40.setCell ⟨gb24, 0, none⟩ (.int .i64 t43)).setCell ⟨gb24, 1, none⟩ (.slice Ao44 t54.length co44)).setCell ⟨gb24, 2, none⟩ (.string t70)).heap[gb24]? = some (.cells #[.int .i64 t43, .slice Ao44 t54.length co44, .string t70] 29 (0, 0))) := ⟨pt0 BK24⟩
     have n5_ : Aside0 (Below w.heap.size w (((w40.setCell ⟨gb24, 0, none⟩ (.int .i64 t43)).setCell ⟨gb24, 1, none⟩ (.slice Ao44 t54.length co44)).setCell ⟨gb24, 2, none⟩ (.string t70))) := ⟨u38HB⟩
     (try clear HO_1445002)
     (try clear HO62)
     (try clear BK30)
     (try clear BK20)
     (try clear BK24)
     (try clear HB)
     generalize (((w40.setCell ⟨gb24, 0, none⟩ (.int .i64 t43)).setCell ⟨gb24, 1, none⟩ (.slice Ao44 t54.length co44)).setCell ⟨gb24, 2, none⟩ (.string t70)) = w45 at n0_ n1_ n2_ n3_ n4_ n5_ ⊢
     have HO_1445002 := n0_
     have HO62 := n1_
     have BK30 := n2_
     have BK20 := n3_
     have BK24 := n4_
     have HB := n5_
     clear n0_ n1_ n2_ n3_ n4_ n5_
     replace HO_1445002 := am (Kd.R_drew HO_1445002.out)
     replace HO62 := am (Kd.R_drew HO62.out)
     replace BK30 := am (blk_drew BK30.out)
     replace BK20 := am (blk_drew BK20.out)
     replace BK24 := am (blk_drew BK24.out)
     replace HB := am (below_drew1 HB.out)
     refine start_ (n := 8) (S := fun w' => w'.cell? ⟨gb24, 0, none⟩ = some (.int .i64 t43) ∧ w'.cell? ⟨gb24, 1, none⟩ = some (.slice Ao44 t54.length co44) ∧ w'.cell? ⟨gb24, 2, none⟩ = some (.string t70)) (ds := []) ⟨br true [0, 8]⟩ (by kernel_rfl) rfl (by kernel_rfl) ⟨bc BK24, bc BK24, bc BK24⟩ (fun hHeld => ?_); refine with_tabW impl_ObjRead.tab17 impl_ObjRead.bits17 (fun HT_ HW_ => ?_)
     generalize w45.drew = w46 at HO_1445002 HO62 BK30 BK20 BK24 HB hHeld ⊢
     refine pu 1 83 [0, 1, 1, 6] ?_
     refine tk 0 82 [2, 6] ?_
     refine pu 4 86 [2, 2, 1, 3] ?_
     refine tk 2 84 [3, 1, 1, 3] ?_
     refine og 3 85 [5, 3] Tryz.func73 #[.slice Ao44 t54.length co44] (fun K hK => ?_)
     refine (impl_VaryOf.calls k2 _ _ t54 t87 _ (GLOBM.below HGM.out bl) (rc HO62) ((Kd.R_reads' HO62.out).2.1) A35.out).mono ?_
     rintro e w47 ⟨v106, rfl, ho0, hb⟩
     refine ⟨_, rfl, ?_⟩
     replace HO62 := kr HO62 hb
     have HO90 := am (Kd.R_lower (Kd.R_new' ho0 (Kd.R_lt (ro HO_1445002))) (below_size bl))
     replace HO_1445002 := am (Kd.R_elder' (ro HO_1445002) (Kd.R_base ho0) hb)
     replace BK30 := kb BK30 hb
     replace BK20 := kb BK20 hb
     replace BK24 := kb BK24 hb
     replace HB := am (below_step bl hb)
     clear hb ho0
     obtain ⟨Ao51, co51, eo51⟩ := Kd.R_slice HO90.out
     (first | subst eo51 | (injection eo51 with f1_ f2_ f3_; have f4_ := f1_.symm; have f5_ := f3_.symm; clear f1_ f2_ f3_; subst f4_; subst f5_))
     refine hK.out _ _ ⟨bc BK24, bc BK24, bc BK24⟩ (fun hHeld => ?_)
     clear hK K
     refine nm 85 ?_
     refine one_ (i := 5) (N := none) #[true, true, true, true, true, true, false, false] rfl rfl (one_of HT_.out (by kernel_rfl)) (by decide) (fun K hK => ?_)
     have hs48 : w47.cell? ⟨gb20, 3, none⟩ = some (.int .i64 0) := bc BK20
     have hfs48 := blk_frozen BK20.out 3
     have hns48_0 := NB30_20.out
     have hns48_2 := NB24_20.out
     have hms48_0 := NB20_30.out
     have hms48_2 := NB20_24.out
     have hs49 : w47.cell? ⟨gb20, 4, none⟩ = some (.slice none 0 0) := bc BK20
     have hfs49 := blk_frozen BK20.out 4
     have hns49_0 := NB30_20.out
     have hns49_2 := NB24_20.out
     have hms49_0 := NB20_30.out
     have hms49_2 := NB20_24.out
     have hs50 : w47.cell? ⟨gb20, 5, none⟩ = some (.string (⟨#[]⟩ : ByteArray)) := bc BK20
     have hfs50 := blk_frozen BK20.out 5
     have hns50_0 := NB30_20.out
     have hns50_2 := NB24_20.out
     have hms50_0 := NB20_30.out
     have hms50_2 := NB20_24.out
     refine skip_ (w1 := ?_) (by rfl) rfl ?_ ?_
     rotate_left
     ·go_simp
      rfl
     refine hK.out _ _ (by (refine ⟨?_, ?_, ?_⟩ <;> (with_reducible repeat (refine Eq.trans (cell_far ?hfar _) ?_; (case hfar => first | exact NB24_20.out)))); exact hHeld.1; exact hHeld.2.1; exact hHeld.2.2) (fun hHeld => ?_)
     clear hK K
     refine pu 6 87 [7, 1] ?_
     refine one_ (i := 7) (N := none) #[true, true, true, true, true, true, true, true] rfl rfl (one_of HT_.out (by kernel_rfl)) (by decide) (fun K hK => ?_)
     have hs52 : w47.cell? ⟨gb20, 1, none⟩ = some (.slice none 0 0) := bc BK20
     have hfs52 := blk_frozen BK20.out 1
     have hns52_0 := NB30_20.out
     have hns52_2 := NB24_20.out
     have hms52_0 := NB20_30.out
     have hms52_2 := NB20_24.out
     refine skip_ (w1 := ?_) (by rfl) rfl ?_ ?_
     rotate_left
     ·go_simp
      rfl
     refine hK.out _ _ ⟨((cell_far (p := ⟨gb20, _, none⟩) NB24_20.out _).trans (hHeld.1)), ((cell_far (p := ⟨gb20, _, none⟩) NB24_20.out _).trans (hHeld.2.1)), ((cell_far (p := ⟨gb20, _, none⟩) NB24_20.out _).trans (hHeld.2.2))⟩ (fun hHeld => ?_)
     clear hK K
     refine done_ (done_of HT_.out (by kernel_rfl)) ?_
     have hnb53 := NB20_30.out
     have hnc53 := NB30_20.out
     obtain ⟨_, _, _, _, _, _, _, _, _, _, _, _, _, _⟩ := cl7 BK20
     obtain ⟨Ao55, co55, eo55⟩ := Kd.R_slice HO_1445002.out
     subst eo55
     go_upto_if 95 with (first | (go_at_call 55; (with_reducible refine (impl_ObjText.calls k2 (rdOf ByteArray.empty t33 1) _ _ t87 _ _ x65_2 t43 _ _ t54 t70 t84 t92 _ ?side1 ?side2 ?side3 ?side4 ?side5 ?side6 ?side7 ?side8 A37.out).mono ?_); (case side1 => exact GLOBM.below HGM.out bl); (case side2 => exact GLOBT.below HGT.out bl); (case side3 => refine (Kd.R_reads' (e := 9) (base := w.heap.size) (ok := fun k_ => (True ∧ some k_ ≠ (.slice Ao55 x65_2.length co55 : Value).ownBlock)) (n := t87.length) (c := co51) ?_).2.2; exact (rj (Kd.R_types HO90.out BK20.out (by decide)) (fun _ h_ => h_.1))); (case side4 => exact (Kd.R_reads' HO90.out).2.1); (case side5 => refine (Kd.R_reads' (e := 9) (base := w.heap.size) (ok := fun k_ => (True ∧ some k_ ≠ (.slice Ao51 t87.length co51 : Value).ownBlock)) (n := x65_2.length) (c := co55) ?_).2.2; exact (rj (Kd.R_types HO_1445002.out BK20.out (by decide)) (fun _ h_ => h_.1))); (case side6 => exact (Kd.R_reads' HO_1445002.out).2.1); (case side7 => refine (Kd.R_reads' (e := 116) (base := w.heap.size) (ok := fun k_ => True) (n := t54.length) (c := co44) ?_).2.2; exact (rj (Kd.R_types HO62.out BK20.out (by decide)) (fun _ h_ => h_.1))); (case side8 => exact (Kd.R_reads' HO62.out).2.1); rintro e w56 ⟨rfl, hb⟩; replace HO_1445002 := am (Kd.R_below (rj (Kd.R_types HO_1445002.out BK20.out (by decide)) (fun _ h_ => h_.1)) hb); replace HO62 := am (Kd.R_below (rj (Kd.R_types HO62.out BK20.out (by decide)) (fun _ h_ => h_.1)) hb); replace HO90 := am (Kd.R_below (rj (Kd.R_types HO90.out BK20.out (by decide)) (fun _ h_ => h_.1)) hb); replace BK30 := kg1 BK30 NB30_20 hb; replace BK20 := am (blk_below (g := gb20) (o := .cells #[.string (rdOf ByteArray.empty t33 1), .slice Ao51 t87.length co51, .slice Ao55 x65_2.length co55, .int .i64 t43, .slice Ao44 t54.length co44, .string t70, .int .i64 t84] 31 (0, 0)) (pt0 BK20) hb); replace BK24 := kg1 BK24 NB24_20 hb; replace HB := am (below_step bl hb); clear hb))
     have H := HH38.out
     clear HH38
     by_cases c57 : t92.toList = a0.toList
     rotate_left
     ·rw [if_neg c57] at H
      have c57b0 := eqf c57
      have c57b1 := net c57
      (first | rw [c57b0] | (simp only [i64_w, i32_w]; rw [c57b0]) | skip)
      simp only [Option.some.injEq, Prod.mk.injEq] at H
      obtain ⟨rfl, rfl, rfl, rfl, rfl, rfl, rfl, rfl⟩ := H
      have hnb63 := NB30_20.out
      have hnc63 := NB20_30.out
      have hnb64 := NB30_24.out
      have hnc64 := NB24_30.out
      obtain ⟨_, _, _, _, _, _, _, _, _, _, _, _, _, _⟩ := cl7 BK30
      go_wp2
      refine bodyPost_ret (results_ct rfl _ _ gb30 31 #[.string (⟨#[]⟩ : ByteArray), .slice none 0 0, .slice none 0 0, .int .i64 0, .slice none 0 0, .string (⟨#[]⟩ : ByteArray), .int .i64 0] (0, 0) _ rfl (pt0 BK30) Tryz.underlying31 rfl (by kernel_rfl)) rfl ?_
      exact ⟨_, _, _, rf, by first | exact Kd.R_nil _ _ _ _ _ | exact Kd.N_nil _ _ _ _ _ | exact Kd.V_nil _ _ _ _ _ | exact Kd.Q_nil _ _ _ _ _ | exact Kd.S_nil _ _ _ _ _, by first | exact Kd.R_nil _ _ _ _ _ | exact Kd.N_nil _ _ _ _ _ | exact Kd.V_nil _ _ _ _ _ | exact Kd.Q_nil _ _ _ _ _ | exact Kd.S_nil _ _ _ _ _, by first | exact Kd.R_nil _ _ _ _ _ | exact Kd.N_nil _ _ _ _ _ | exact Kd.V_nil _ _ _ _ _ | exact Kd.Q_nil _ _ _ _ _ | exact Kd.S_nil _ _ _ _ _, bl⟩
     rw [if_pos c57] at H
     have c57b0 := eqt c57
     have c57b1 := nef c57
     clear c57
     (first | rw [c57b0] | (simp only [i64_w, i32_w]; rw [c57b0]) | skip)
     simp only [Option.some.injEq, Prod.mk.injEq] at H
     obtain ⟨rfl, rfl, rfl, rfl, rfl, rfl, rfl, rfl⟩ := H
     have hnb58 := NB20_30.out
     have hnc58 := NB30_20.out
     have hnb59 := NB20_24.out
     have hnc59 := NB24_20.out
     obtain ⟨_, _, _, _, _, _, _, _, _, _, _, _, _, _⟩ := cl7 BK20
     have hnb61 := NB30_24.out
     have hnc61 := NB24_30.out
     obtain ⟨_, _, _, _, _, _, _, _, _, _, _, _, _, _⟩ := cl7 BK30
     go_wp2
     refine bodyPost_ret (results_ct rfl _ _ gb30 31 #[.string (rdOf ByteArray.empty t33 1), .slice Ao51 t87.length co51, .slice Ao55 x65_2.length co55, .int .i64 t43, .slice Ao44 t54.length co44, .string t70, .int .i64 t84] (0, 0) _ rfl (pt0 BK30) Tryz.underlying31 rfl (by kernel_rfl)) rfl ?_
     exact ⟨_, _, _, rf, rj (Kd.R_types HO90.out BK30.out (by decide)) (fun _ hk => hk.1.2), rj (Kd.R_types HO_1445002.out BK30.out (by decide)) (fun _ hk => hk.1.2), rj (Kd.R_types HO62.out BK30.out (by decide)) (fun _ hk => trivial), bl⟩
end Go.Proofs.YtjlpjbkpmmpojaaGreatDoor.All
