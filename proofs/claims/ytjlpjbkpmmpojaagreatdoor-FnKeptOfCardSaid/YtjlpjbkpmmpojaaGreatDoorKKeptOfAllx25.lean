-- Written by a program of this session (wip/tools/hprint.py) out of the translation. Lean checks it.
import Derived.Test.YtjlpjbkpmmpojaaGreatDoorKKeptOfAllx0
import Derived.Test.YtjlpjbkpmmpojaaGreatDoorKKeptOfAllx1
import Derived.Test.YtjlpjbkpmmpojaaGreatDoorKKeptOfAllx8
import Derived.Test.YtjlpjbkpmmpojaaGreatDoorKKeptOfAllx9
import Derived.Test.YtjlpjbkpmmpojaaGreatDoorKKeptOfAllx20
namespace Go.Proofs.YtjlpjbkpmmpojaaGreatDoor.All
open Go.RowKit Go.Proofs.YtjlpjbkpmmpojaaGreatDoorW.PrintWords Go.Proofs.YtjlpjbkpmmpojaaGreatDoorW.PrintLast Go.Proofs.YtjlpjbkpmmpojaaGreatDoorW.PrintMore
attribute [local go_sem] max2_int min2_int max_two min_two max_three min_three max_four min_four  -- for this text's walks alone
set_option linter.unusedVariables false
set_option linter.unusedSimpArgs false

/-! ### impl_ReqOk: function 31 -/
def impl_ReqOk.f (k : Nat) (a0_0 : Int) (a0_1 : ByteArray) (l0_2 : List (S116)) (a0_3 : ByteArray) : Option (Bool) := (impl_inRange.f a0_0 1 4).bind fun t1134 => (if t1134 = true then ((impl_pathOk.f k a0_1).bind fun t1135 => (if t1135 = true then (if (a0_3.size : Int) ≤ 120 then ((impl_FieldsOk.f k l0_2).bind fun t1136 => (some t1136)) else (some false)) else (some false))) else (some false))
set_option maxHeartbeats 8000000 in
set_option maxRecDepth 100000 in
theorem impl_ReqOk.calls (k : Nat) (a0_0 : Int) (a0_1 : ByteArray) (A0_2 : Option Addr) (c0_2 : Nat) (l0_2 : List (S116)) (a0_3 : ByteArray) (r : Bool) (w : World) (hr0_2 : Kd.C k116 w A0_2 l0_2.length l0_2) (hc0_2 : l0_2.length ≤ c0_2) (h : impl_ReqOk.f k a0_0 a0_1 l0_2 a0_3 = some r) :
  Calls Tryz.prog 31 #[.agg #[.int .i64 a0_0, .string a0_1, .slice A0_2 l0_2.length c0_2, .string a0_3]] w fun e w' => e = .returned (.bool r) ∧ Below w.heap.size w w' := by
 have hu50 := Tryz.underlying50
 have HR0_2 := am hr0_2
 have HC0_2 := am hc0_2
 clear hr0_2 hc0_2
 have HB := am (Below.refl w.heap.size w)
 unfold impl_ReqOk.f at h
 have H := h
 clear h
 revert H
 refine ok1 fun t1134 A2 H => ?_
 by_cases c3 : t1134 = true
 rotate_left
 ·replace c3 := Bool.eq_false_iff.mpr c3
  subst c3
  rw [if_neg (show ¬ (false = true) by decide)] at H
  obtain rfl := Option.some.inj H
  go_enter Tryz.func31, Tryz.ntmps31
  go_wp2_with (first | ((with_reducible refine gate_dst (N := 1) rfl ?_); (try (refine gate_guard (by rfl) ?_; dsimp only)); refine box_event ?hg (N := 1) ?hd (cs := #[.int .i64 a0_0, .string a0_1, .slice A0_2 l0_2.length c0_2, .string a0_3]) (t := 50) ?hr ?_; (case hd => rfl); (case hg => rfl); (case hr => first | (go_simp; done) | (go_simp; rfl)); intro gb1133 hg w15 hbox hb; have BK1133 := am (hbox); have GW1133 := am (sz hg : w.heap.size ≤ gb1133); have GE1133 := am (sz hg : w.heap.size ≤ gb1133); replace HB := am (below_step bl hb); clear hb hbox hg; obtain ⟨z16_0, y16_0, z16_1, y16_1, z16_2, y16_2, z16_3, y16_3⟩ := cl4 BK1133) | ((with_reducible refine gw ?_); first | (refine gl 5 Tryz.func76 #[.int .i64 a0_0, .int .i64 1, .int .i64 4] ?_; (with_reducible refine (impl_inRange.calls a0_0 1 4 false _ A2.out).mono ?_); rintro e w' ⟨rfl, ⟨nd, rfl⟩⟩; refine ⟨_, rfl, ?_⟩)))
  go_ret
  exact ⟨rf, bl⟩
 subst c3
 rw [if_pos rfl] at H
 revert H
 refine ok1 fun t1135 A4 H => ?_
 by_cases c5 : t1135 = true
 rotate_left
 ·replace c5 := Bool.eq_false_iff.mpr c5
  subst c5
  rw [if_neg (show ¬ (false = true) by decide)] at H
  obtain rfl := Option.some.inj H
  go_enter Tryz.func31, Tryz.ntmps31
  go_wp2_with (first | ((with_reducible refine gate_dst (N := 1) rfl ?_); (try (refine gate_guard (by rfl) ?_; dsimp only)); refine box_event ?hg (N := 1) ?hd (cs := #[.int .i64 a0_0, .string a0_1, .slice A0_2 l0_2.length c0_2, .string a0_3]) (t := 50) ?hr ?_; (case hd => rfl); (case hg => rfl); (case hr => first | (go_simp; done) | (go_simp; rfl)); intro gb1133 hg w13 hbox hb; have BK1133 := am (hbox); have GW1133 := am (sz hg : w.heap.size ≤ gb1133); have GE1133 := am (sz hg : w.heap.size ≤ gb1133); replace HB := am (below_step bl hb); clear hb hbox hg; obtain ⟨z14_0, y14_0, z14_1, y14_1, z14_2, y14_2, z14_3, y14_3⟩ := cl4 BK1133) | ((with_reducible refine gw ?_); first | (refine gl 5 Tryz.func76 #[.int .i64 a0_0, .int .i64 1, .int .i64 4] ?_; (with_reducible refine (impl_inRange.calls a0_0 1 4 true _ A2.out).mono ?_); rintro e w' ⟨rfl, ⟨nd, rfl⟩⟩; refine ⟨_, rfl, ?_⟩)) | (go_at_call 68; (with_reducible refine (impl_pathOk.calls k a0_1 false _ A4.out).mono ?_); rintro e w' ⟨rfl, ⟨nd, rfl⟩⟩))
  go_ret
  exact ⟨rf, bl⟩
 subst c5
 rw [if_pos rfl] at H
 by_cases c6 : (a0_3.size : Int) ≤ 120
 rotate_left
 ·rw [if_neg c6] at H
  have c6b0 := decide_eq_false c6
  have c6b1 : decide (a0_3.size ≤ 120) = false := decide_eq_false (by omega)
  clear c6
  obtain rfl := Option.some.inj H
  go_enter Tryz.func31, Tryz.ntmps31
  go_wp2_with (first | ((with_reducible refine gate_dst (N := 1) rfl ?_); (try (refine gate_guard (by rfl) ?_; dsimp only)); refine box_event ?hg (N := 1) ?hd (cs := #[.int .i64 a0_0, .string a0_1, .slice A0_2 l0_2.length c0_2, .string a0_3]) (t := 50) ?hr ?_; (case hd => rfl); (case hg => rfl); (case hr => first | (go_simp; done) | (go_simp; rfl)); intro gb1133 hg w11 hbox hb; have BK1133 := am (hbox); have GW1133 := am (sz hg : w.heap.size ≤ gb1133); have GE1133 := am (sz hg : w.heap.size ≤ gb1133); replace HB := am (below_step bl hb); clear hb hbox hg; obtain ⟨z12_0, y12_0, z12_1, y12_1, z12_2, y12_2, z12_3, y12_3⟩ := cl4 BK1133) | ((with_reducible refine gw ?_); first | (refine gl 5 Tryz.func76 #[.int .i64 a0_0, .int .i64 1, .int .i64 4] ?_; (with_reducible refine (impl_inRange.calls a0_0 1 4 true _ A2.out).mono ?_); rintro e w' ⟨rfl, ⟨nd, rfl⟩⟩; refine ⟨_, rfl, ?_⟩)) | (go_at_call 68; (with_reducible refine (impl_pathOk.calls k a0_1 true _ A4.out).mono ?_); rintro e w' ⟨rfl, ⟨nd, rfl⟩⟩))
  go_ret
  exact ⟨rf, bl⟩
 rw [if_pos c6] at H
 have c6b0 := decide_eq_true c6
 have c6b1 : decide (a0_3.size ≤ 120) = true := decide_eq_true (by omega)
 clear c6
 revert H
 refine ok1 fun t1136 A7 H => ?_
 obtain rfl := Option.some.inj H
 go_enter Tryz.func31, Tryz.ntmps31
 go_wp2_with (first | ((with_reducible refine gate_dst (N := 1) rfl ?_); (try (refine gate_guard (by rfl) ?_; dsimp only)); refine box_event ?hg (N := 1) ?hd (cs := #[.int .i64 a0_0, .string a0_1, .slice A0_2 l0_2.length c0_2, .string a0_3]) (t := 50) ?hr ?_; (case hd => rfl); (case hg => rfl); (case hr => first | (go_simp; done) | (go_simp; rfl)); intro gb1133 hg w8 hbox hb; have BK1133 := am (hbox); have GW1133 := am (sz hg : w.heap.size ≤ gb1133); have GE1133 := am (sz hg : w.heap.size ≤ gb1133); replace HB := am (below_step bl hb); clear hb hbox hg; obtain ⟨z9_0, y9_0, z9_1, y9_1, z9_2, y9_2, z9_3, y9_3⟩ := cl4 BK1133) | ((with_reducible refine gw ?_); first | (refine gl 5 Tryz.func76 #[.int .i64 a0_0, .int .i64 1, .int .i64 4] ?_; (with_reducible refine (impl_inRange.calls a0_0 1 4 true _ A2.out).mono ?_); rintro e w' ⟨rfl, ⟨nd, rfl⟩⟩; refine ⟨_, rfl, ?_⟩)) | (go_at_call 68; (with_reducible refine (impl_pathOk.calls k a0_1 true _ A4.out).mono ?_); rintro e w' ⟨rfl, ⟨nd, rfl⟩⟩) | (go_at_call 95; (with_reducible refine (impl_FieldsOk.calls k _ _ l0_2 t1136 _ ?side1 ?side2 A7.out).mono ?_); (case side1 => repeat (first | exact (Kd.C_below HR0_2.out bl) | (with_reducible refine Kd.C_alloc ?_ _) | (with_reducible refine Kd.C_drewN ?_ _) | (with_reducible refine Kd.C_drew ?_))); (case side2 => exact HC0_2.out); rintro e w10 ⟨rfl, hb⟩; replace BK1133 := kb BK1133 hb; replace HB := am (below_step bl hb); clear hb))
 go_ret
 exact ⟨rf, bl⟩

/-! ### impl_MayKeep: function 29 -/
attribute [local go_sem high] ccf0 ccf1 ccf2 ccf3 ccf4 ccf5
theorem u29HB {p : Prop} (h : p := by repeat (first | (with_reducible first | exact HB.out | apply below_alloc | apply pw_below_drewN | apply below_drew1 | refine below_set ?_ GE1137.out | refine below_set ?_ GE1138.out) | exact HB.out)) : p := h
def impl_MayKeep.j0 : Nat → Bool → Int → ByteArray → List (S116) → ByteArray → Int → List (S116) → ByteArray → Option (Bool)
 | 0, _, _, _, _, _, _, _, _ => none
 | k + 1, x23, x1138000, x1138001, x1138002, x1138003, x1139000, x1139001, x1139002 => if x23 = true then (some false) else ((impl_CcOf.f k x1139001).bind fun bt1141 => ((impl_CcOf.f k x1138002).bind fun bt1148 => (if bt1148.1 = true then (some false) else (if bt1141.1 = true then (some false) else (if bt1141.2.2.1 = true then (some false) else (if bt1141.2.2.2.2.1 = true then ((impl_VaryOf.f k x1139001).bind fun t1154 => ((impl_namesOk.f k t1154).bind fun t1157 => (some t1157))) else (some false)))))))
def impl_MayKeep.f (k : Nat) (a0_0 : Int) (a0_1 : ByteArray) (l0_2 : List (S116)) (a0_3 : ByteArray) (a1_0 : Int) (l1_1 : List (S116)) (a1_2 : ByteArray) : Option (Bool) := (impl_ReqOk.f k a0_0 a0_1 l0_2 a0_3).bind fun t1139 => (if t1139 = true then ((impl_RespOk.f k a1_0 l1_1 a1_2).bind fun t1140 => (if t1140 = true then (if a0_0 = 1 then (impl_MayKeep.j0 k (a1_0 != 200) a0_0 a0_1 l0_2 a0_3 a1_0 l1_1 a1_2) else (impl_MayKeep.j0 k true a0_0 a0_1 l0_2 a0_3 a1_0 l1_1 a1_2)) else (impl_MayKeep.j0 k true a0_0 a0_1 l0_2 a0_3 a1_0 l1_1 a1_2))) else (impl_MayKeep.j0 k true a0_0 a0_1 l0_2 a0_3 a1_0 l1_1 a1_2))
set_option maxHeartbeats 8000000 in
set_option maxRecDepth 100000 in
theorem impl_MayKeep.calls (k : Nat) (a0_0 : Int) (a0_1 : ByteArray) (A0_2 : Option Addr) (c0_2 : Nat) (l0_2 : List (S116)) (a0_3 : ByteArray) (a1_0 : Int) (A1_1 : Option Addr) (c1_1 : Nat) (l1_1 : List (S116)) (a1_2 : ByteArray) (r : Bool) (w : World) (hGE : GLOBE w) (hGM : GLOBM w) (hGT : GLOBT w) (hr0_2 : Kd.C k116 w A0_2 l0_2.length l0_2) (hc0_2 : l0_2.length ≤ c0_2) (hr1_1 : Kd.C k116 w A1_1 l1_1.length l1_1) (hc1_1 : l1_1.length ≤ c1_1) (h : impl_MayKeep.f k a0_0 a0_1 l0_2 a0_3 a1_0 l1_1 a1_2 = some r) :
  Calls Tryz.prog 29 #[.agg #[.int .i64 a0_0, .string a0_1, .slice A0_2 l0_2.length c0_2, .string a0_3], .agg #[.int .i64 a1_0, .slice A1_1 l1_1.length c1_1, .string a1_2]] w fun e w' => e = .returned (.bool r) ∧ Below w.heap.size w w' := by
 have hu50 := Tryz.underlying50
 have hu29 := Tryz.underlying29
 have hu42 := Tryz.underlying42
 have HR0_2 := am hr0_2
 have HC0_2 := am hc0_2
 clear hr0_2 hc0_2
 have HR1_1 := am hr1_1
 have HC1_1 := am hc1_1
 clear hr1_1 hc1_1
 have HGE := am hGE
 clear hGE
 have HGM := am hGM
 clear hGM
 have HGT := am hGT
 clear hGT
 have HB := am (Below.refl w.heap.size w)
 unfold impl_MayKeep.f at h
 have H := h
 clear h
 have HC3 := am H
 clear H
 go_enter Tryz.func29, Tryz.ntmps29
 go_upto_region 1 with ((with_reducible refine gw ?_); first | (refine bx 2 #[.int .i64 a0_0, .string a0_1, .slice A0_2 l0_2.length c0_2, .string a0_3] 50 ?_; intro gb1137 hg w4 hbox hb; have BK1137 := am (hbox); have GW1137 := am (sz hg : w.heap.size ≤ gb1137); have GE1137 := am (sz hg : w.heap.size ≤ gb1137); replace HB := am (below_step bl hb); clear hb hbox hg) | (refine bx 3 #[.int .i64 a1_0, .slice A1_1 l1_1.length c1_1, .string a1_2] 29 ?_; intro gb1138 hg w5 hbox hb; have BK1138 := am (hbox); have GW1138 := am (sz hg : w.heap.size ≤ gb1138); have GE1138 := am (sz hg : w.heap.size ≤ gb1138); replace HB := am (below_step bl hb); have NB1137_1138 := am (nl hg BK1137 : gb1137 ≠ gb1138); have NB1138_1137 := am (ng hg BK1137 : gb1138 ≠ gb1137); replace BK1137 := kb BK1137 hb; clear hb hbox hg))
 (try simp only [Act.put, List.setIfInBounds_toArray, List.set_cons_zero, List.set_cons_succ])
 go_cut [23] (fun v23 wc => ∃ (kq : Nat) (x23_2 : Bool), v23 = .bool x23_2 ∧ Aside0 (impl_MayKeep.j0 kq x23_2 a0_0 a0_1 l0_2 a0_3 a1_0 l1_1 a1_2 = some r) ∧ Aside0 (kq ≤ k) ∧ Aside0 (wc.heap[gb1137]? = some (.cells #[.int .i64 a0_0, .string a0_1, (.slice A0_2 l0_2.length c0_2), .string a0_3] 50 (0, 0))) ∧ Aside0 (wc.heap[gb1138]? = some (.cells #[.int .i64 a1_0, (.slice A1_1 l1_1.length c1_1), .string a1_2] 29 (0, 0))) ∧ Aside0 (Below w.heap.size w wc))
 case first =>
  have H := HC3.out
  clear HC3
  revert H
  refine ok1 fun t1139 A6 H => ?_
  by_cases c7 : t1139 = true
  rotate_left
  ·replace c7 := Bool.eq_false_iff.mpr c7
   subst c7
   rw [if_neg (show ¬ (false = true) by decide)] at H
   have H' := am H
   clear H
   have hnb29 := NB1137_1138.out
   have hnc29 := NB1138_1137.out
   obtain ⟨z30_0, y30_0, z30_1, y30_1, z30_2, y30_2, z30_3, y30_3⟩ := cl4 BK1137
   go_wp2_with ((with_reducible refine gw ?_); first | (refine gl 7 Tryz.func31 #[.agg #[.int .i64 a0_0, .string a0_1, .slice A0_2 l0_2.length c0_2, .string a0_3]] ?_; (with_reducible refine (impl_ReqOk.calls k a0_0 a0_1 _ _ l0_2 a0_3 false _ ?side1 ?side2 A6.out).mono ?_); (case side1 => exact cb HR0_2); (case side2 => exact HC0_2.out); rintro e w31 ⟨rfl, hb⟩; refine ⟨_, rfl, ?_⟩; replace BK1137 := kb BK1137 hb; replace BK1138 := kb BK1138 hb; replace HB := am (below_step bl hb); clear hb))
   go_meet
   case rel => exact ⟨_, (true), rs, H', ⟨by first | omega | exact Nat.le_refl _⟩, ⟨by (with_reducible repeat (first | refine blk_drewN ?_ _ | refine blk_drew ?_ | refine blk_alloc ?_ _)); exact BK1137.out⟩, ⟨by (with_reducible repeat (first | refine blk_drewN ?_ _ | refine blk_drew ?_ | refine blk_alloc ?_ _)); exact BK1138.out⟩, ⟨u29HB⟩⟩
  subst c7
  rw [if_pos rfl] at H
  revert H
  refine ok1 fun t1140 A8 H => ?_
  by_cases c9 : t1140 = true
  rotate_left
  ·replace c9 := Bool.eq_false_iff.mpr c9
   subst c9
   rw [if_neg (show ¬ (false = true) by decide)] at H
   have H' := am H
   clear H
   have hnb24 := NB1137_1138.out
   have hnc24 := NB1138_1137.out
   obtain ⟨z25_0, y25_0, z25_1, y25_1, z25_2, y25_2, z25_3, y25_3⟩ := cl4 BK1137
   go_wp2_with (first | ((with_reducible refine gw ?_); first | (refine gl 7 Tryz.func31 #[.agg #[.int .i64 a0_0, .string a0_1, .slice A0_2 l0_2.length c0_2, .string a0_3]] ?_; (with_reducible refine (impl_ReqOk.calls k a0_0 a0_1 _ _ l0_2 a0_3 true _ ?side1 ?side2 A6.out).mono ?_); (case side1 => exact cb HR0_2); (case side2 => exact HC0_2.out); rintro e w26 ⟨rfl, hb⟩; refine ⟨_, rfl, ?_⟩; replace BK1137 := kb BK1137 hb; replace BK1138 := kb BK1138 hb; replace HB := am (below_step bl hb); clear hb; obtain ⟨z27_0, y27_0, z27_1, y27_1, z27_2, y27_2⟩ := cl3 BK1138)) | (go_at_call 32; (with_reducible refine (impl_RespOk.calls k a1_0 _ _ l1_1 a1_2 false _ ?side1 ?side2 A8.out).mono ?_); (case side1 => exact cb HR1_1); (case side2 => exact HC1_1.out); rintro e w28 ⟨rfl, hb⟩; replace BK1137 := kb BK1137 hb; replace BK1138 := kb BK1138 hb; replace HB := am (below_step bl hb); clear hb))
   go_meet
   case rel => exact ⟨_, (true), rs, H', ⟨by first | omega | exact Nat.le_refl _⟩, ⟨by (with_reducible repeat (first | refine blk_drewN ?_ _ | refine blk_drew ?_ | refine blk_alloc ?_ _)); exact BK1137.out⟩, ⟨by (with_reducible repeat (first | refine blk_drewN ?_ _ | refine blk_drew ?_ | refine blk_alloc ?_ _)); exact BK1138.out⟩, ⟨u29HB⟩⟩
  subst c9
  rw [if_pos rfl] at H
  by_cases c10 : a0_0 = 1
  rotate_left
  ·rw [if_neg c10] at H
   have c10b0 : (a0_0 == 1) = false := beq_eq_false_iff_ne.mpr c10
   have c10b1 : (a0_0 != 1) = true := bne_iff_ne.mpr c10
   (first | rw [c10b0] | (simp only [i64_w, i32_w]; rw [c10b0]) | skip)
   have H' := am H
   clear H
   have hnb18 := NB1137_1138.out
   have hnc18 := NB1138_1137.out
   obtain ⟨z19_0, y19_0, z19_1, y19_1, z19_2, y19_2, z19_3, y19_3⟩ := cl4 BK1137
   go_wp2_with (first | ((with_reducible refine gw ?_); first | (refine gl 7 Tryz.func31 #[.agg #[.int .i64 a0_0, .string a0_1, .slice A0_2 l0_2.length c0_2, .string a0_3]] ?_; (with_reducible refine (impl_ReqOk.calls k a0_0 a0_1 _ _ l0_2 a0_3 true _ ?side1 ?side2 A6.out).mono ?_); (case side1 => exact cb HR0_2); (case side2 => exact HC0_2.out); rintro e w20 ⟨rfl, hb⟩; refine ⟨_, rfl, ?_⟩; replace BK1137 := kb BK1137 hb; replace BK1138 := kb BK1138 hb; replace HB := am (below_step bl hb); clear hb; obtain ⟨z21_0, y21_0, z21_1, y21_1, z21_2, y21_2⟩ := cl3 BK1138)) | (go_at_call 32; (with_reducible refine (impl_RespOk.calls k a1_0 _ _ l1_1 a1_2 true _ ?side1 ?side2 A8.out).mono ?_); (case side1 => exact cb HR1_1); (case side2 => exact HC1_1.out); rintro e w22 ⟨rfl, hb⟩; replace BK1137 := kb BK1137 hb; replace BK1138 := kb BK1138 hb; replace HB := am (below_step bl hb); clear hb; obtain ⟨z23_0, y23_0, z23_1, y23_1, z23_2, y23_2, z23_3, y23_3⟩ := cl4 BK1137))
   go_meet
   case rel => exact ⟨_, (true), rs, H', ⟨by first | omega | exact Nat.le_refl _⟩, ⟨by (with_reducible repeat (first | refine blk_drewN ?_ _ | refine blk_drew ?_ | refine blk_alloc ?_ _)); exact BK1137.out⟩, ⟨by (with_reducible repeat (first | refine blk_drewN ?_ _ | refine blk_drew ?_ | refine blk_alloc ?_ _)); exact BK1138.out⟩, ⟨u29HB⟩⟩
  rw [if_pos c10] at H
  have c10b0 : (a0_0 == 1) = true := beq_iff_eq.mpr c10
  have c10b1 : (a0_0 != 1) = false := bne_eq_false_iff_eq.mpr c10
  clear c10
  (first | rw [c10b0] | (simp only [i64_w, i32_w]; rw [c10b0]) | skip)
  have H' := am H
  clear H
  have hnb11 := NB1137_1138.out
  have hnc11 := NB1138_1137.out
  obtain ⟨z12_0, y12_0, z12_1, y12_1, z12_2, y12_2, z12_3, y12_3⟩ := cl4 BK1137
  go_wp2_with (first | ((with_reducible refine gw ?_); first | (refine gl 7 Tryz.func31 #[.agg #[.int .i64 a0_0, .string a0_1, .slice A0_2 l0_2.length c0_2, .string a0_3]] ?_; (with_reducible refine (impl_ReqOk.calls k a0_0 a0_1 _ _ l0_2 a0_3 true _ ?side1 ?side2 A6.out).mono ?_); (case side1 => exact cb HR0_2); (case side2 => exact HC0_2.out); rintro e w13 ⟨rfl, hb⟩; refine ⟨_, rfl, ?_⟩; replace BK1137 := kb BK1137 hb; replace BK1138 := kb BK1138 hb; replace HB := am (below_step bl hb); clear hb; obtain ⟨z14_0, y14_0, z14_1, y14_1, z14_2, y14_2⟩ := cl3 BK1138)) | (go_at_call 32; (with_reducible refine (impl_RespOk.calls k a1_0 _ _ l1_1 a1_2 true _ ?side1 ?side2 A8.out).mono ?_); (case side1 => exact cb HR1_1); (case side2 => exact HC1_1.out); rintro e w15 ⟨rfl, hb⟩; replace BK1137 := kb BK1137 hb; replace BK1138 := kb BK1138 hb; replace HB := am (below_step bl hb); clear hb; obtain ⟨z16_0, y16_0, z16_1, y16_1, z16_2, y16_2, z16_3, y16_3⟩ := cl4 BK1137; obtain ⟨z17_0, y17_0, z17_1, y17_1, z17_2, y17_2⟩ := cl3 BK1138))
  go_meet
  case rel => exact ⟨_, ((a1_0 != 200)), rs, H', ⟨by first | omega | exact Nat.le_refl _⟩, ⟨by (with_reducible repeat (first | refine blk_drewN ?_ _ | refine blk_drew ?_ | refine blk_alloc ?_ _)); exact BK1137.out⟩, ⟨by (with_reducible repeat (first | refine blk_drewN ?_ _ | refine blk_drew ?_ | refine blk_alloc ?_ _)); exact BK1138.out⟩, ⟨u29HB⟩⟩
 case rest =>
  clear HC3
  try clear c1
  try clear c2
  try clear p2
  try clear c3
  try clear c7
  try clear c9
  try clear c10
  try clear c10b0
  try clear c10b1
  try clear c11
  try clear c18
  try clear c24
  try clear c29
  try clear c31
  try clear z12_0
  try clear z12_1
  try clear z12_2
  try clear z12_3
  try clear z14_0
  try clear z14_1
  try clear z14_2
  try clear z16_0
  try clear z16_1
  try clear z16_2
  try clear z16_3
  try clear z17_0
  try clear z17_1
  try clear z17_2
  try clear z19_0
  try clear z19_1
  try clear z19_2
  try clear z19_3
  try clear z21_0
  try clear z21_1
  try clear z21_2
  try clear z23_0
  try clear z23_1
  try clear z23_2
  try clear z23_3
  try clear z25_0
  try clear z25_1
  try clear z25_2
  try clear z25_3
  try clear z27_0
  try clear z27_1
  try clear z27_2
  try clear z30_0
  try clear z30_1
  try clear z30_2
  try clear z30_3
  try clear y12_0
  try clear y12_1
  try clear y12_2
  try clear y12_3
  try clear y14_0
  try clear y14_1
  try clear y14_2
  try clear y16_0
  try clear y16_1
  try clear y16_2
  try clear y16_3
  try clear y17_0
  try clear y17_1
  try clear y17_2
  try clear y19_0
  try clear y19_1
  try clear y19_2
  try clear y19_3
  try clear y21_0
  try clear y21_1
  try clear y21_2
  try clear y23_0
  try clear y23_1
  try clear y23_2
  try clear y23_3
  try clear y25_0
  try clear y25_1
  try clear y25_2
  try clear y25_3
  try clear y27_0
  try clear y27_1
  try clear y27_2
  try clear y30_0
  try clear y30_1
  try clear y30_2
  try clear y30_3
  obtain ⟨kq, x23_2, rfl, HA, HJ2, BK1137, BK1138, HB⟩ := hcut
  cases kq with
  | zero => exact absurd HA.out (by simp [impl_MayKeep.j0])
  | succ kj2 =>
   have H := HA.out
   clear HA
   simp only [impl_MayKeep.j0] at H
   by_cases c32 : x23_2 = true
   ·subst c32
    rw [if_pos rfl] at H
    obtain rfl := Option.some.inj H
    go_wp2
    go_ret
    exact ⟨rf, bl⟩
   replace c32 := Bool.eq_false_iff.mpr c32
   subst c32
   rw [if_neg (show ¬ (false = true) by decide)] at H
   revert H
   refine ok6 fun t1141 t1142 t1143 t1144 t1145 t1146 A33 H => ?_
   (try dsimp only at H)
   revert H
   refine ok6 fun t1148 t1149 t1150 t1151 t1152 t1153 A34 H => ?_
   (try dsimp only at H)
   by_cases c35 : t1148 = true
   ·subst c35
    rw [if_pos rfl] at H
    obtain rfl := Option.some.inj H
    have hnb36 := NB1138_1137.out
    have hnc36 := NB1137_1138.out
    obtain ⟨z37_0, y37_0, z37_1, y37_1, z37_2, y37_2⟩ := cl3 BK1138
    go_wp2_with ((with_reducible refine gw ?_); first | (refine gl 26 Tryz.func26 #[.slice A1_1 l1_1.length c1_1] ?_; (with_reducible refine (impl_CcOf.calls kj2 _ _ l1_1 t1141 t1142 t1143 t1144 t1145 t1146 _ ?side1 ?side2 ?side3 ?side4 ?side5 A33.out).mono ?_); (case side1 => exact GLOBE.below HGE.out bl); (case side2 => exact GLOBM.below HGM.out bl); (case side3 => exact GLOBT.below HGT.out bl); (case side4 => exact cb HR1_1); (case side5 => exact HC1_1.out); rintro e w38 ⟨rfl, hb⟩; refine ⟨_, rfl, ?_⟩; replace BK1137 := kb BK1137 hb; replace BK1138 := kb BK1138 hb; replace HB := am (below_step bl hb); clear hb) | (refine bx 5 #[.bool false, .bool false, .bool false, .bool false, .bool false, .int .i64 0] 42 ?_; intro gb1147 hg w39 hbox hb; have BK1147 := am (hbox); have GW1147 := am (sz hg : w.heap.size ≤ gb1147); have GE1147 := am (sz hg : w.heap.size ≤ gb1147); replace HB := am (below_step bl hb); have NB1137_1147 := am (nl hg BK1137 : gb1137 ≠ gb1147); have NB1147_1137 := am (ng hg BK1137 : gb1147 ≠ gb1137); replace BK1137 := kb BK1137 hb; have NB1138_1147 := am (nl hg BK1138 : gb1138 ≠ gb1147); have NB1147_1138 := am (ng hg BK1138 : gb1147 ≠ gb1138); replace BK1138 := kb BK1138 hb; clear hb hbox hg; have hnb40 := NB1147_1137.out; have hnc40 := NB1137_1147.out; have hnb41 := NB1147_1138.out; have hnc41 := NB1138_1147.out; obtain ⟨z42_0, y42_0, z42_1, y42_1, z42_2, y42_2, z42_3, y42_3, z42_4, y42_4, z42_5, y42_5⟩ := cl6 BK1147; obtain ⟨z43_0, y43_0, z43_1, y43_1, z43_2, y43_2, z43_3, y43_3⟩ := cl4 BK1137) | (refine gl 29 Tryz.func26 #[.slice A0_2 l0_2.length c0_2] ?_; (with_reducible refine (impl_CcOf.calls kj2 _ _ l0_2 true t1149 t1150 t1151 t1152 t1153 _ ?side1 ?side2 ?side3 ?side4 ?side5 A34.out).mono ?_); (case side1 => exact GLOBE.below HGE.out bl); (case side2 => exact GLOBM.below HGM.out bl); (case side3 => exact GLOBT.below HGT.out bl); (case side4 => exact Kd.C_below HR0_2.out bl); (case side5 => exact HC0_2.out); rintro e w44 ⟨rfl, hb⟩; refine ⟨_, rfl, ?_⟩; replace BK1137 := kg1 BK1137 NB1137_1147 hb; replace BK1138 := kg1 BK1138 NB1138_1147 hb; replace BK1147 := am (blk_below (g := gb1147) (o := .cells #[.bool t1141, .bool t1142, .bool t1143, .bool t1144, .bool t1145, .int .i64 t1146] 42 (0, 0)) (pt0 BK1147) hb); replace HB := am (below_step bl hb); clear hb))
    go_ret
    exact ⟨rf, bl⟩
   replace c35 := Bool.eq_false_iff.mpr c35
   subst c35
   rw [if_neg (show ¬ (false = true) by decide)] at H
   by_cases c45 : t1141 = true
   ·subst c45
    rw [if_pos rfl] at H
    obtain rfl := Option.some.inj H
    have hnb46 := NB1138_1137.out
    have hnc46 := NB1137_1138.out
    obtain ⟨z47_0, y47_0, z47_1, y47_1, z47_2, y47_2⟩ := cl3 BK1138
    go_wp2_with ((with_reducible refine gw ?_); first | (refine gl 26 Tryz.func26 #[.slice A1_1 l1_1.length c1_1] ?_; (with_reducible refine (impl_CcOf.calls kj2 _ _ l1_1 true t1142 t1143 t1144 t1145 t1146 _ ?side1 ?side2 ?side3 ?side4 ?side5 A33.out).mono ?_); (case side1 => exact GLOBE.below HGE.out bl); (case side2 => exact GLOBM.below HGM.out bl); (case side3 => exact GLOBT.below HGT.out bl); (case side4 => exact cb HR1_1); (case side5 => exact HC1_1.out); rintro e w48 ⟨rfl, hb⟩; refine ⟨_, rfl, ?_⟩; replace BK1137 := kb BK1137 hb; replace BK1138 := kb BK1138 hb; replace HB := am (below_step bl hb); clear hb) | (refine bx 5 #[.bool false, .bool false, .bool false, .bool false, .bool false, .int .i64 0] 42 ?_; intro gb1147 hg w49 hbox hb; have BK1147 := am (hbox); have GW1147 := am (sz hg : w.heap.size ≤ gb1147); have GE1147 := am (sz hg : w.heap.size ≤ gb1147); replace HB := am (below_step bl hb); have NB1137_1147 := am (nl hg BK1137 : gb1137 ≠ gb1147); have NB1147_1137 := am (ng hg BK1137 : gb1147 ≠ gb1137); replace BK1137 := kb BK1137 hb; have NB1138_1147 := am (nl hg BK1138 : gb1138 ≠ gb1147); have NB1147_1138 := am (ng hg BK1138 : gb1147 ≠ gb1138); replace BK1138 := kb BK1138 hb; clear hb hbox hg; have hnb50 := NB1147_1137.out; have hnc50 := NB1137_1147.out; have hnb51 := NB1147_1138.out; have hnc51 := NB1138_1147.out; obtain ⟨z52_0, y52_0, z52_1, y52_1, z52_2, y52_2, z52_3, y52_3, z52_4, y52_4, z52_5, y52_5⟩ := cl6 BK1147; obtain ⟨z53_0, y53_0, z53_1, y53_1, z53_2, y53_2, z53_3, y53_3⟩ := cl4 BK1137) | (refine gl 29 Tryz.func26 #[.slice A0_2 l0_2.length c0_2] ?_; (with_reducible refine (impl_CcOf.calls kj2 _ _ l0_2 false t1149 t1150 t1151 t1152 t1153 _ ?side1 ?side2 ?side3 ?side4 ?side5 A34.out).mono ?_); (case side1 => exact GLOBE.below HGE.out bl); (case side2 => exact GLOBM.below HGM.out bl); (case side3 => exact GLOBT.below HGT.out bl); (case side4 => exact Kd.C_below HR0_2.out bl); (case side5 => exact HC0_2.out); rintro e w54 ⟨rfl, hb⟩; refine ⟨_, rfl, ?_⟩; replace BK1137 := kg1 BK1137 NB1137_1147 hb; replace BK1138 := kg1 BK1138 NB1138_1147 hb; replace BK1147 := am (blk_below (g := gb1147) (o := .cells #[.bool true, .bool t1142, .bool t1143, .bool t1144, .bool t1145, .int .i64 t1146] 42 (0, 0)) (pt0 BK1147) hb); replace HB := am (below_step bl hb); clear hb; obtain ⟨z55_0, y55_0, z55_1, y55_1, z55_2, y55_2, z55_3, y55_3, z55_4, y55_4, z55_5, y55_5⟩ := cl6 BK1147))
    go_ret
    exact ⟨rf, bl⟩
   replace c45 := Bool.eq_false_iff.mpr c45
   subst c45
   rw [if_neg (show ¬ (false = true) by decide)] at H
   by_cases c56 : t1143 = true
   ·subst c56
    rw [if_pos rfl] at H
    obtain rfl := Option.some.inj H
    have hnb57 := NB1138_1137.out
    have hnc57 := NB1137_1138.out
    obtain ⟨z58_0, y58_0, z58_1, y58_1, z58_2, y58_2⟩ := cl3 BK1138
    go_wp2_with ((with_reducible refine gw ?_); first | (refine gl 26 Tryz.func26 #[.slice A1_1 l1_1.length c1_1] ?_; (with_reducible refine (impl_CcOf.calls kj2 _ _ l1_1 false t1142 true t1144 t1145 t1146 _ ?side1 ?side2 ?side3 ?side4 ?side5 A33.out).mono ?_); (case side1 => exact GLOBE.below HGE.out bl); (case side2 => exact GLOBM.below HGM.out bl); (case side3 => exact GLOBT.below HGT.out bl); (case side4 => exact cb HR1_1); (case side5 => exact HC1_1.out); rintro e w59 ⟨rfl, hb⟩; refine ⟨_, rfl, ?_⟩; replace BK1137 := kb BK1137 hb; replace BK1138 := kb BK1138 hb; replace HB := am (below_step bl hb); clear hb) | (refine bx 5 #[.bool false, .bool false, .bool false, .bool false, .bool false, .int .i64 0] 42 ?_; intro gb1147 hg w60 hbox hb; have BK1147 := am (hbox); have GW1147 := am (sz hg : w.heap.size ≤ gb1147); have GE1147 := am (sz hg : w.heap.size ≤ gb1147); replace HB := am (below_step bl hb); have NB1137_1147 := am (nl hg BK1137 : gb1137 ≠ gb1147); have NB1147_1137 := am (ng hg BK1137 : gb1147 ≠ gb1137); replace BK1137 := kb BK1137 hb; have NB1138_1147 := am (nl hg BK1138 : gb1138 ≠ gb1147); have NB1147_1138 := am (ng hg BK1138 : gb1147 ≠ gb1138); replace BK1138 := kb BK1138 hb; clear hb hbox hg; have hnb61 := NB1147_1137.out; have hnc61 := NB1137_1147.out; have hnb62 := NB1147_1138.out; have hnc62 := NB1138_1147.out; obtain ⟨z63_0, y63_0, z63_1, y63_1, z63_2, y63_2, z63_3, y63_3, z63_4, y63_4, z63_5, y63_5⟩ := cl6 BK1147; obtain ⟨z64_0, y64_0, z64_1, y64_1, z64_2, y64_2, z64_3, y64_3⟩ := cl4 BK1137) | (refine gl 29 Tryz.func26 #[.slice A0_2 l0_2.length c0_2] ?_; (with_reducible refine (impl_CcOf.calls kj2 _ _ l0_2 false t1149 t1150 t1151 t1152 t1153 _ ?side1 ?side2 ?side3 ?side4 ?side5 A34.out).mono ?_); (case side1 => exact GLOBE.below HGE.out bl); (case side2 => exact GLOBM.below HGM.out bl); (case side3 => exact GLOBT.below HGT.out bl); (case side4 => exact Kd.C_below HR0_2.out bl); (case side5 => exact HC0_2.out); rintro e w65 ⟨rfl, hb⟩; refine ⟨_, rfl, ?_⟩; replace BK1137 := kg1 BK1137 NB1137_1147 hb; replace BK1138 := kg1 BK1138 NB1138_1147 hb; replace BK1147 := am (blk_below (g := gb1147) (o := .cells #[.bool false, .bool t1142, .bool true, .bool t1144, .bool t1145, .int .i64 t1146] 42 (0, 0)) (pt0 BK1147) hb); replace HB := am (below_step bl hb); clear hb; obtain ⟨z66_0, y66_0, z66_1, y66_1, z66_2, y66_2, z66_3, y66_3, z66_4, y66_4, z66_5, y66_5⟩ := cl6 BK1147))
    go_ret
    exact ⟨rf, bl⟩
   replace c56 := Bool.eq_false_iff.mpr c56
   subst c56
   rw [if_neg (show ¬ (false = true) by decide)] at H
   by_cases c67 : t1145 = true
   rotate_left
   ·replace c67 := Bool.eq_false_iff.mpr c67
    subst c67
    rw [if_neg (show ¬ (false = true) by decide)] at H
    obtain rfl := Option.some.inj H
    have hnb83 := NB1138_1137.out
    have hnc83 := NB1137_1138.out
    obtain ⟨z84_0, y84_0, z84_1, y84_1, z84_2, y84_2⟩ := cl3 BK1138
    go_wp2_with ((with_reducible refine gw ?_); first | (refine gl 26 Tryz.func26 #[.slice A1_1 l1_1.length c1_1] ?_; (with_reducible refine (impl_CcOf.calls kj2 _ _ l1_1 false t1142 false t1144 false t1146 _ ?side1 ?side2 ?side3 ?side4 ?side5 A33.out).mono ?_); (case side1 => exact GLOBE.below HGE.out bl); (case side2 => exact GLOBM.below HGM.out bl); (case side3 => exact GLOBT.below HGT.out bl); (case side4 => exact cb HR1_1); (case side5 => exact HC1_1.out); rintro e w85 ⟨rfl, hb⟩; refine ⟨_, rfl, ?_⟩; replace BK1137 := kb BK1137 hb; replace BK1138 := kb BK1138 hb; replace HB := am (below_step bl hb); clear hb) | (refine bx 5 #[.bool false, .bool false, .bool false, .bool false, .bool false, .int .i64 0] 42 ?_; intro gb1147 hg w86 hbox hb; have BK1147 := am (hbox); have GW1147 := am (sz hg : w.heap.size ≤ gb1147); have GE1147 := am (sz hg : w.heap.size ≤ gb1147); replace HB := am (below_step bl hb); have NB1137_1147 := am (nl hg BK1137 : gb1137 ≠ gb1147); have NB1147_1137 := am (ng hg BK1137 : gb1147 ≠ gb1137); replace BK1137 := kb BK1137 hb; have NB1138_1147 := am (nl hg BK1138 : gb1138 ≠ gb1147); have NB1147_1138 := am (ng hg BK1138 : gb1147 ≠ gb1138); replace BK1138 := kb BK1138 hb; clear hb hbox hg; have hnb87 := NB1147_1137.out; have hnc87 := NB1137_1147.out; have hnb88 := NB1147_1138.out; have hnc88 := NB1138_1147.out; obtain ⟨z89_0, y89_0, z89_1, y89_1, z89_2, y89_2, z89_3, y89_3, z89_4, y89_4, z89_5, y89_5⟩ := cl6 BK1147; obtain ⟨z90_0, y90_0, z90_1, y90_1, z90_2, y90_2, z90_3, y90_3⟩ := cl4 BK1137) | (refine gl 29 Tryz.func26 #[.slice A0_2 l0_2.length c0_2] ?_; (with_reducible refine (impl_CcOf.calls kj2 _ _ l0_2 false t1149 t1150 t1151 t1152 t1153 _ ?side1 ?side2 ?side3 ?side4 ?side5 A34.out).mono ?_); (case side1 => exact GLOBE.below HGE.out bl); (case side2 => exact GLOBM.below HGM.out bl); (case side3 => exact GLOBT.below HGT.out bl); (case side4 => exact Kd.C_below HR0_2.out bl); (case side5 => exact HC0_2.out); rintro e w91 ⟨rfl, hb⟩; refine ⟨_, rfl, ?_⟩; replace BK1137 := kg1 BK1137 NB1137_1147 hb; replace BK1138 := kg1 BK1138 NB1138_1147 hb; replace BK1147 := am (blk_below (g := gb1147) (o := .cells #[.bool false, .bool t1142, .bool false, .bool t1144, .bool false, .int .i64 t1146] 42 (0, 0)) (pt0 BK1147) hb); replace HB := am (below_step bl hb); clear hb; obtain ⟨z92_0, y92_0, z92_1, y92_1, z92_2, y92_2, z92_3, y92_3, z92_4, y92_4, z92_5, y92_5⟩ := cl6 BK1147))
    go_ret
    exact ⟨rf, bl⟩
   subst c67
   rw [if_pos rfl] at H
   revert H
   refine ok1 fun t1154 A68 H => ?_
   revert H
   refine ok1 fun t1157 A69 H => ?_
   obtain rfl := Option.some.inj H
   have hnb70 := NB1138_1137.out
   have hnc70 := NB1137_1138.out
   obtain ⟨z71_0, y71_0, z71_1, y71_1, z71_2, y71_2⟩ := cl3 BK1138
   go_wp2_with (first | ((with_reducible refine gw ?_); first | (refine gl 26 Tryz.func26 #[.slice A1_1 l1_1.length c1_1] ?_; (with_reducible refine (impl_CcOf.calls kj2 _ _ l1_1 false t1142 false t1144 true t1146 _ ?side1 ?side2 ?side3 ?side4 ?side5 A33.out).mono ?_); (case side1 => exact GLOBE.below HGE.out bl); (case side2 => exact GLOBM.below HGM.out bl); (case side3 => exact GLOBT.below HGT.out bl); (case side4 => exact cb HR1_1); (case side5 => exact HC1_1.out); rintro e w72 ⟨rfl, hb⟩; refine ⟨_, rfl, ?_⟩; replace BK1137 := kb BK1137 hb; replace BK1138 := kb BK1138 hb; replace HB := am (below_step bl hb); clear hb) | (refine bx 5 #[.bool false, .bool false, .bool false, .bool false, .bool false, .int .i64 0] 42 ?_; intro gb1147 hg w73 hbox hb; have BK1147 := am (hbox); have GW1147 := am (sz hg : w.heap.size ≤ gb1147); have GE1147 := am (sz hg : w.heap.size ≤ gb1147); replace HB := am (below_step bl hb); have NB1137_1147 := am (nl hg BK1137 : gb1137 ≠ gb1147); have NB1147_1137 := am (ng hg BK1137 : gb1147 ≠ gb1137); replace BK1137 := kb BK1137 hb; have NB1138_1147 := am (nl hg BK1138 : gb1138 ≠ gb1147); have NB1147_1138 := am (ng hg BK1138 : gb1147 ≠ gb1138); replace BK1138 := kb BK1138 hb; clear hb hbox hg; have hnb74 := NB1147_1137.out; have hnc74 := NB1137_1147.out; have hnb75 := NB1147_1138.out; have hnc75 := NB1138_1147.out; obtain ⟨z76_0, y76_0, z76_1, y76_1, z76_2, y76_2, z76_3, y76_3, z76_4, y76_4, z76_5, y76_5⟩ := cl6 BK1147; obtain ⟨z77_0, y77_0, z77_1, y77_1, z77_2, y77_2, z77_3, y77_3⟩ := cl4 BK1137) | (refine gl 29 Tryz.func26 #[.slice A0_2 l0_2.length c0_2] ?_; (with_reducible refine (impl_CcOf.calls kj2 _ _ l0_2 false t1149 t1150 t1151 t1152 t1153 _ ?side1 ?side2 ?side3 ?side4 ?side5 A34.out).mono ?_); (case side1 => exact GLOBE.below HGE.out bl); (case side2 => exact GLOBM.below HGM.out bl); (case side3 => exact GLOBT.below HGT.out bl); (case side4 => exact Kd.C_below HR0_2.out bl); (case side5 => exact HC0_2.out); rintro e w78 ⟨rfl, hb⟩; refine ⟨_, rfl, ?_⟩; replace BK1137 := kg1 BK1137 NB1137_1147 hb; replace BK1138 := kg1 BK1138 NB1138_1147 hb; replace BK1147 := am (blk_below (g := gb1147) (o := .cells #[.bool false, .bool t1142, .bool false, .bool t1144, .bool true, .int .i64 t1146] 42 (0, 0)) (pt0 BK1147) hb); replace HB := am (below_step bl hb); clear hb; obtain ⟨z79_0, y79_0, z79_1, y79_1, z79_2, y79_2, z79_3, y79_3, z79_4, y79_4, z79_5, y79_5⟩ := cl6 BK1147; obtain ⟨z80_0, y80_0, z80_1, y80_1, z80_2, y80_2⟩ := cl3 BK1138)) | (go_at_call 73; (with_reducible refine (impl_VaryOf.calls kj2 _ _ l1_1 t1154 _ ?side1 ?side2 ?side3 A68.out).mono ?_); (case side1 => exact GLOBM.below HGM.out bl); (case side2 => exact cb HR1_1); (case side3 => exact HC1_1.out); rintro e w81 ⟨v1155, rfl, ho0, hb⟩; have HO1156 := am (Kd.R_lower ho0 (below_size bl)); replace BK1137 := kb BK1137 hb; replace BK1138 := kb BK1138 hb; replace BK1147 := kb BK1147 hb; replace HB := am (below_step bl hb); clear hb ho0; obtain ⟨Ao82, co82, eo82⟩ := Kd.R_slice HO1156.out; subst eo82) | (go_at_call 71; (with_reducible refine (impl_namesOk.calls kj2 _ _ t1154 t1157 _ ?side1 ?side2 A69.out).mono ?_); (case side1 => exact rc HO1156); (case side2 => exact (Kd.R_reads' HO1156.out).2.1); rintro e w' ⟨rfl, ⟨nd, rfl⟩⟩))
   go_ret
   exact ⟨rf, bl⟩

/-! ### slices.Clone of fields -/
def slices_Clone_Field.f (l0 : List S116) : Option (List S116) := if l0.length < 4398046511104 then some l0 else none
set_option maxHeartbeats 4000000 in
theorem slices_Clone_Field.calls (A0 : Option Addr) (c0 : Nat) (l0 : List (S116)) (r : List S116) (w : World) (hr0 : Kd.C k116 w A0 l0.length l0) (hc0 : l0.length ≤ c0) (h : slices_Clone_Field.f l0 = some r) :
  Calls Tryz.prog 150 #[.slice A0 l0.length c0] w fun e w' => ∃ v0_ : Value, e = .returned v0_ ∧ Kd.R k116 116 w' w.heap.size (fun _ => True) v0_ r ∧ Below w.heap.size w w' := by
 unfold slices_Clone_Field.f at h
 split at h
 case isFalse => cases h
 rename_i hl
 obtain rfl := Option.some.inj h
 have HN := am hl
 have HB := am (Below.refl w.heap.size w)
 have hk := Lib.run_eql_slice_nil (P := Tryz.prog) w 27 116 A0 l0.length c0 0 0 Tryz.underlying27
 clear h hl hc0
 cases A0 with
 | none =>
  have HE := am (C_none_nil hr0 rfl)
  clear hr0
  go_enter Tryz.func150, Tryz.ntmps150
  go_wp2
  go_ret
  exact ⟨_, rfl, by rw [HE.out]; exact Kd.R_nil _ _ _ _ _, HB.out⟩
 | some ad =>
  have HR := am hr0
  clear hr0
  go_enter Tryz.func150, Tryz.ntmps150
  go_wp2_with (first | ((with_reducible refine gate_dst (N := 5) rfl ?_); refine Kd.R_lit k116 _ 116 ?hg (N := 5) ?hd (xs := ([] : List (S116))) (inner := []) (ok := fun _ => True) (okp := fun _ => True) ?hr ?hp (fun _ hk => hk) trivial (Below.refl _ _) (Nat.le_refl _) (by simp) ?_; (case hd => rfl); (case hg => rfl); (case hr => first | (go_simp; done) | (go_simp; rfl)); (case hp => exact (Reps.none _ _)); intro v1 w1 ho hb hg_ hnew_; clear hg_ hnew_; have H1 := am ho; have HB1 := am hb; clear ho hb HB) | ((with_reducible refine gate_builtin (b := .append) (xs := #[.tmp 5, .tmp 6]) rfl ?_); at_builtin; refine Kd.R_append_rows k116 (w0 := w) w.heap.size rfl (.tmp 5) (.tmp 6) 27 116 (.agg #[(.string ⟨#[]⟩), (.string ⟨#[]⟩)]) 32 rfl Tryz.underlying27 info116 rfl (by decide) (by omega) v1 [] l0 _ _ _ (fun _ => True) (fun _ => False) rfl rfl H1.out (Kd.C_below HR.out HB1.out) (fun _ _ h => h) (fun _ h => h.elim) (fun _ _ => trivial) HB1.out HB1.out.size (by have := HN.out; simp; omega) ?_; intro v2 w2 ho hb hg hat; clear hg hat; have H2 := am ho; have HB2 := am hb; clear ho hb H1 HB1))
  go_ret
  exact ⟨_, rfl, H2.out, HB2.out⟩

/-! ### impl_copyResp: function 97 -/
def impl_copyResp.f (a0_0 : Int) (l0_1 : List (S116)) (a0_2 : ByteArray) : Option (Int × (List (S116)) × ByteArray) := (slices_Clone_Field.f l0_1).bind fun t1181 => (some (a0_0, t1181, a0_2))
set_option maxHeartbeats 8000000 in
set_option maxRecDepth 100000 in
theorem impl_copyResp.calls (a0_0 : Int) (A0_1 : Option Addr) (c0_1 : Nat) (l0_1 : List (S116)) (a0_2 : ByteArray) (r1 : Int) (r2 : List (S116)) (r3 : ByteArray) (w : World) (hr0_1 : Kd.C k116 w A0_1 l0_1.length l0_1) (hc0_1 : l0_1.length ≤ c0_1) (h : impl_copyResp.f a0_0 l0_1 a0_2 = some (r1, r2, r3)) :
  Calls Tryz.prog 97 #[.agg #[.int .i64 a0_0, .slice A0_1 l0_1.length c0_1, .string a0_2]] w fun e w' => ∃ v1_ : Value, e = .returned (.agg #[.int .i64 r1, v1_, .string r3]) ∧ Kd.R k116 116 w' w.heap.size (fun _ => True) v1_ r2 ∧ Below w.heap.size w w' := by
 have hu29 := Tryz.underlying29
 have HR0_1 := am hr0_1
 have HC0_1 := am hc0_1
 clear hr0_1 hc0_1
 have HB := am (Below.refl w.heap.size w)
 unfold impl_copyResp.f at h
 have H := h
 clear h
 revert H
 refine ok1 fun t1181 A2 H => ?_
 simp only [Option.some.injEq, Prod.mk.injEq] at H
 obtain ⟨rfl, rfl, rfl⟩ := H
 go_enter Tryz.func97, Tryz.ntmps97
 go_wp2_with ((with_reducible refine gw ?_); first | (refine bx 1 #[.int .i64 a0_0, .slice A0_1 l0_1.length c0_1, .string a0_2] 29 ?_; intro gb1179 hg w3 hbox hb; have BK1179 := am (hbox); have GW1179 := am (sz hg : w.heap.size ≤ gb1179); have GE1179 := am (sz hg : w.heap.size ≤ gb1179); replace HB := am (below_step bl hb); clear hb hbox hg) | (refine bx 2 #[.int .i64 0, .slice none 0 0, .string (⟨#[]⟩ : ByteArray)] 29 ?_; intro gb1180 hg w4 hbox hb; have BK1180 := am (hbox); have GW1180 := am (sz hg : w.heap.size ≤ gb1180); have GE1180 := am (sz hg : w.heap.size ≤ gb1180); replace HB := am (below_step bl hb); have NB1179_1180 := am (nl hg BK1179 : gb1179 ≠ gb1180); have NB1180_1179 := am (ng hg BK1179 : gb1180 ≠ gb1179); replace BK1179 := kb BK1179 hb; clear hb hbox hg; have hnb5 := NB1179_1180.out; have hnc5 := NB1180_1179.out; obtain ⟨z6_0, y6_0, z6_1, y6_1, z6_2, y6_2⟩ := cl3 BK1179) | (refine gl 5 Tryz.func150 #[.slice A0_1 l0_1.length c0_1] ?_; (with_reducible refine (slices_Clone_Field.calls _ _ l0_1 t1181 _ ?side1 ?side2 A2.out).mono ?_); (case side1 => exact cb HR0_1); (case side2 => exact HC0_1.out); rintro e w7 ⟨v1182, rfl, ho0, hb⟩; refine ⟨_, rfl, ?_⟩; have HO1183 := am (Kd.R_lower ho0 (below_size bl)); replace BK1179 := kb BK1179 hb; replace BK1180 := kb BK1180 hb; replace HB := am (below_step bl hb); clear hb ho0; obtain ⟨Ao8, co8, eo8⟩ := Kd.R_slice HO1183.out; subst eo8; obtain ⟨z9_0, y9_0, z9_1, y9_1, z9_2, y9_2⟩ := cl3 BK1179; obtain ⟨z10_0, y10_0, z10_1, y10_1, z10_2, y10_2⟩ := cl3 BK1180))
 refine bodyPost_ret (results_cell_row rfl _ _ gb1180 29 #[.int .i64 a0_0, .slice Ao8 t1181.length co8, .string a0_2] (0, 0) _ rfl (pt1 BK1180 NB1180_1179) Tryz.underlying29 rfl (by kernel_rfl)) rfl ?_
 exact ⟨_, rf, rj (Kd.R_types (Kd.R_types HO1183.out BK1179.out (by decide)) BK1180.out (by decide)) (fun _ hk => trivial), bl⟩

end Go.Proofs.YtjlpjbkpmmpojaaGreatDoor.All
