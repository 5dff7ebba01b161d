-- Written by a program of this session (wip/tools/hprint.py) out of the translation. Lean checks it.
import Derived.Test.YtkgdcfaogdmcgaaDoorAllx0
import Derived.Test.YtkgdcfaogdmcgaaDoorAllx17
import Derived.Test.YtkgdcfaogdmcgaaDoorAllx18
import Derived.Test.YtkgdcfaogdmcgaaDoorAllx21
namespace Go.Proofs.YtkgdcfaogdmcgaaDoor.All
open Go.RowKit Go.Proofs.YtkgdcfaogdmcgaaDoorW.PrintWords Go.Proofs.YtkgdcfaogdmcgaaDoorW.PrintLast Go.Proofs.YtkgdcfaogdmcgaaDoorW.PrintMore
attribute [local go_sem] max2_int min2_int max_two min_two max_three min_three max_four min_four   -- for this text's walks alone
set_option linter.unusedVariables false
set_option linter.unusedSimpArgs false

/-! ### impl_ReqRead: function 38 -/
theorem u38HB {p : Prop} (h : p := by repeat (first | (with_reducible first | exact HB.out | apply below_alloc | apply pw_below_drewN | apply below_drew1 | refine below_set ?_ GE1123.out | refine below_set ?_ GE1134.out) | exact HB.out)) : p := h
mutual
def impl_ReqRead.j0 : Nat → ByteArray → List (S84) → ByteArray → List ByteArray → Bool → Option (Int × ByteArray × (List (S84)) × ByteArray × Bool)
 | 0, _, _, _, _, _ => none
 | k + 1, x0, x5, x6, x8, x26 => if x26 = true then (some (0, (⟨#[]⟩ : ByteArray), ([] : List (S84)), (⟨#[]⟩ : ByteArray), false)) else (if 1 < (x8.length : Int) then (impl_ReqRead.l0 k x0 x8 1 0 (rdOf ByteArray.empty x8 1) x5 x6) else (none))
def impl_ReqRead.l0 : Nat → ByteArray → List ByteArray → Int → Int → ByteArray → List (S84) → ByteArray → Option (Int × ByteArray × (List (S84)) × ByteArray × Bool)
 | 0, _, _, _, _, _, _, _ => none
 | k + 1, x0, x8, x10, x1135000, x1135001, x1135002, x1135003 => if x10 ≤ 4 then ((impl_methodText.f x10).bind fun t1135 => (if 0 < (x8.length : Int) then (if t1135.toList = (rdOf ByteArray.empty x8 0).toList then (impl_ReqRead.l0 k x0 x8 (wrap64 (x10 + 1)) x10 x1135001 x1135002 x1135003) else (impl_ReqRead.l0 k x0 x8 (wrap64 (x10 + 1)) x1135000 x1135001 x1135002 x1135003)) else (none))) else (if x0.toList = ([] : List UInt8) then (some (0, (⟨#[]⟩ : ByteArray), ([] : List (S84)), (⟨#[]⟩ : ByteArray), false)) else ((impl_ReqText.f k x1135000 x1135001 x1135002 x1135003).bind fun t1137 => (if t1137.toList = x0.toList then (some (x1135000, x1135001, x1135002, x1135003, true)) else (some (0, (⟨#[]⟩ : ByteArray), ([] : List (S84)), (⟨#[]⟩ : ByteArray), false)))))
end
def impl_ReqRead.f (k : Nat) (a0 : ByteArray) : Option (Int × ByteArray × (List (S84)) × ByteArray × Bool) := (impl_parts.f k a0).bind fun bt1124 => ((strings_Split.f bt1124.1 (⟨#[32]⟩ : ByteArray)).bind fun t1130 => (if bt1124.2.2.2 = true then (impl_ReqRead.j0 k a0 bt1124.2.1 bt1124.2.2.1 t1130 ((t1130.length : Int) != 3)) else (impl_ReqRead.j0 k a0 bt1124.2.1 bt1124.2.2.1 t1130 true)))
theorem impl_ReqRead.mono_l : ∀ k, (∀ y0 y1 y2 y3 y4, LeO (impl_ReqRead.j0 k y0 y1 y2 y3 y4) (impl_ReqRead.j0 (k + 1) y0 y1 y2 y3 y4)) ∧ (∀ y0 y1 y2 y3 y4 y5 y6, LeO (impl_ReqRead.l0 k y0 y1 y2 y3 y4 y5 y6) (impl_ReqRead.l0 (k + 1) y0 y1 y2 y3 y4 y5 y6))
 | 0 => ⟨fun _ _ _ _ _ r h => by simp [impl_ReqRead.j0] at h, fun _ _ _ _ _ _ _ r h => by simp [impl_ReqRead.l0] at h⟩
 | k + 1 => by
  obtain ⟨ih0, ih1⟩ := impl_ReqRead.mono_l k
  refine ⟨?_, ?_⟩
  ·intro y0 y1 y2 y3 y4
   unfold impl_ReqRead.j0
   have m0 := @impl_ReqText.mono
   have m1 := @impl_parts.mono
   exact mo
  ·intro y0 y1 y2 y3 y4 y5 y6
   unfold impl_ReqRead.l0
   have m0 := @impl_ReqText.mono
   have m1 := @impl_parts.mono
   exact mo
theorem impl_ReqRead.mono : ∀ a0 k, LeO (impl_ReqRead.f k a0) (impl_ReqRead.f (k + 1) a0) := by
 intro a0 k
 obtain ⟨ih0, ih1⟩ := impl_ReqRead.mono_l k
 unfold impl_ReqRead.f
 have m0 := @impl_ReqText.mono
 have m1 := @impl_parts.mono
 exact mo
set_option maxHeartbeats 8000000 in
set_option maxRecDepth 100000 in
theorem impl_ReqRead.calls (k : Nat) (a0 : ByteArray) (r1 : Int) (r2 : ByteArray) (r3 : List (S84)) (r4 : ByteArray) (r5 : Bool) (w : World) (hGM : GLOBM w) (hGT : GLOBT w) (h : impl_ReqRead.f k a0 = some (r1, r2, r3, r4, r5)) :
  Calls Tryd.prog 38 #[.string a0] w fun e w' => ∃ v2_ : Value, e = .returned (.tuple #[.agg #[.int .i64 r1, .string r2, v2_, .string r4], .bool r5]) ∧ Kd.R k84 84 w' w.heap.size (fun _ => True) v2_ r3 ∧ Below w.heap.size w w' := by
 have hu26 := Tryd.underlying26
 have HGM := am hGM
 clear hGM
 have HGT := am hGT
 clear hGT
 have HB := am (Below.refl w.heap.size w)
 unfold impl_ReqRead.f at h
 have H := h
 clear h
 revert H
 refine ok4 fun t1124 t1125 t1126 t1127 A2 H => ?_
 (try dsimp only at H)
 revert H
 refine ok1 fun t1130 A3 H => ?_
 have HC4 := am H
 clear H
 go_enter Tryd.func38, Tryd.ntmps38
 go_upto_region 3 with (first | ((with_reducible refine gate_dst (N := 2) rfl ?_); (try (refine gate_guard (by rfl) ?_; dsimp only)); refine box_event ?hg (N := 2) ?hd (cs := #[.int .i64 0, .string (⟨#[]⟩ : ByteArray), .slice none 0 0, .string (⟨#[]⟩ : ByteArray)]) (t := 26) ?hr ?_; (case hd => rfl); (case hg => rfl); (case hr => first | (go_simp; done) | (go_simp; rfl)); intro gb1123 hg w5 hbox hb; have BK1123 := am (hbox); have GW1123 := am (sz hg : w.heap.size ≤ gb1123); have GE1123 := am (sz hg : w.heap.size ≤ gb1123); replace HB := am (below_step bl hb); clear hb hbox hg) | (refine gl 13 Tryd.func95 #[.string a0] ?_; (with_reducible refine (impl_parts.calls k a0 t1124 t1125 t1126 t1127 _ ?side1 A2.out).mono ?_); (case side1 => exact GLOBM.below HGM.out bl); rintro e w6 ⟨v1128, rfl, ho0, hb⟩; refine ⟨_, rfl, ?_⟩; have HO1129 := am (Kd.R_lower ho0 (below_size bl)); replace BK1123 := kb BK1123 hb; replace HB := am (below_step bl hb); clear hb ho0) | (refine gl 19 Tryd.func96 #[.string t1124, .string (⟨#[32]⟩ : ByteArray)] ?_; (with_reducible refine (strings_Split.calls t1124 (⟨#[32]⟩ : ByteArray) t1130 _ ?side1 A3.out).mono ?_); (case side1 => exact GLOBM.below HGM.out bl); rintro e w7 ⟨v1131, rfl, ho0, hb⟩; refine ⟨_, rfl, ?_⟩; replace HO1129 := kr HO1129 hb; have HO1132 := am (Kd.R_lower ho0 (below_size bl)); replace BK1123 := kb BK1123 hb; replace HB := am (below_step bl hb); clear hb ho0))
 (try simp only [Act.put, List.setIfInBounds_toArray, List.set_cons_zero, List.set_cons_succ])
 go_cut [26] (fun v26 wc => ∃ (kq : Nat) (x26_3 : Bool), v26 = .bool x26_3 ∧ Aside0 (impl_ReqRead.j0 kq a0 t1125 t1126 t1130 x26_3 = some (r1, r2, r3, r4, r5)) ∧ Aside0 (kq ≤ k) ∧ Aside0 (Kd.R k84 84 wc w.heap.size (fun _ => True) v1128 t1125) ∧ Aside0 (Kd.R Kd.string 9 wc w.heap.size (fun _ => True) v1131 t1130) ∧ Aside0 (wc.heap[gb1123]? = some (.cells #[.int .i64 0, .string (⟨#[]⟩ : ByteArray), (.slice none 0 0), .string (⟨#[]⟩ : ByteArray)] 26 (0, 0))) ∧ Aside0 (Below w.heap.size w wc))
 case first =>
  have H := HC4.out
  clear HC4
  by_cases c8 : t1127 = true
  rotate_left
  ·replace c8 := Bool.eq_false_iff.mpr c8
   subst c8
   rw [if_neg (show ¬ (false = true) by decide)] at H
   have H' := am H
   clear H
   go_wp2
   go_meet
   case rel => exact ⟨_, (true), rs, H', ⟨by first | omega | exact Nat.le_refl _⟩, ⟨by (with_reducible repeat (first | apply Kd.R_alloc | apply Kd.R_drewN | apply Kd.R_drew)); exact HO1129.out⟩, ⟨by (with_reducible repeat (first | apply Kd.R_alloc | apply Kd.R_drewN | apply Kd.R_drew)); exact HO1132.out⟩, ⟨by (with_reducible repeat (first | refine blk_drewN ?_ _ | refine blk_drew ?_ | refine blk_alloc ?_ _)); exact BK1123.out⟩, ⟨u38HB⟩⟩
  subst c8
  rw [if_pos rfl] at H
  have H' := am H
  clear H
  obtain ⟨Ao9, co9, eo9⟩ := Kd.R_slice HO1132.out
  subst eo9
  go_wp2
  go_meet
  case rel => exact ⟨_, (((t1130.length : Int) != 3)), rs, H', ⟨by first | omega | exact Nat.le_refl _⟩, ⟨by (with_reducible repeat (first | apply Kd.R_alloc | apply Kd.R_drewN | apply Kd.R_drew)); exact HO1129.out⟩, ⟨by (with_reducible repeat (first | apply Kd.R_alloc | apply Kd.R_drewN | apply Kd.R_drew)); exact HO1132.out⟩, ⟨by (with_reducible repeat (first | refine blk_drewN ?_ _ | refine blk_drew ?_ | refine blk_alloc ?_ _)); exact BK1123.out⟩, ⟨u38HB⟩⟩
 case rest =>
  clear HC4
  try clear p2
  try clear c3
  try clear c8
  try clear c9
  obtain ⟨kq, x26_3, rfl, HA, HJ3, HO_5, HO_8, BK1123, HB⟩ := hcut
  cases kq with
  | zero => exact absurd HA.out (by simp [impl_ReqRead.j0])
  | succ kj3 =>
   have H := HA.out
   clear HA
   simp only [impl_ReqRead.j0] at H
   by_cases c10 : x26_3 = true
   ·subst c10
    rw [if_pos rfl] at H
    simp only [Option.some.injEq, Prod.mk.injEq] at H
    obtain ⟨rfl, rfl, rfl, rfl, rfl⟩ := H
    obtain ⟨z11_0, y11_0, z11_1, y11_1, z11_2, y11_2, z11_3, y11_3⟩ := cl4 BK1123
    go_wp2
    refine bodyPost_ret (results_ct rfl _ _ gb1123 26 #[.int .i64 0, .string (⟨#[]⟩ : ByteArray), .slice none 0 0, .string (⟨#[]⟩ : ByteArray)] (0, 0) _ rfl (pt0 BK1123) Tryd.underlying26 rfl (by kernel_rfl)) rfl ?_
    exact ⟨_, rf, by first | exact Kd.R_nil _ _ _ _ _ | exact Kd.N_nil _ _ _ _ _ | exact Kd.V_nil _ _ _ _ _ | exact Kd.Q_nil _ _ _ _ _ | exact Kd.S_nil _ _ _ _ _, bl⟩
   replace c10 := Bool.eq_false_iff.mpr c10
   subst c10
   rw [if_neg (show ¬ (false = true) by decide)] at H
   revert H
   refine ifn fun c12 H => ?_
   have c12b0 := decide_eq_true c12
   have c12b1 : decide (1 < t1130.length) = true := decide_eq_true (by omega)
   clear c12
   have H' := am H
   clear H
   obtain ⟨Ao13, co13, eo13⟩ := Kd.R_slice HO_8.out
   subst eo13
   have p1133 : 0 ≤ (1 : Int) := (by omega)
   have q1133 : 1 < (t1130.length : Int) := od
   obtain ⟨ad1133, e1133, hx1133_0⟩ := Kd.at_string (Kd.R_reads' HO_8.out).2.2 1 p1133 q1133
   cases e1133
   (try simp only [show (1 : Int).toNat = 1 from rfl, Nat.reduceMul, Nat.reduceEqDiff, Go.Addr.add, ↓reduceIte] at hx1133_0)
   have qi1133 : (1 < t1130.length) = True := eq_true (by omega)
   (try rw [show ((1 : Int)).toNat = 1 from rfl] at hx1133_0)
   replace p1133 := eq_true p1133
   replace q1133 := eq_true q1133
   obtain ⟨Ao14, co14, eo14⟩ := Kd.R_slice HO_5.out
   subst eo14
   go_wp2_with (first | ((with_reducible refine gate_dst (N := 9) rfl ?_); (try (refine gate_guard (by rfl) ?_; dsimp only)); refine box_event ?hg (N := 9) ?hd (cs := #[.int .i64 0, .string (⟨#[]⟩ : ByteArray), .slice none 0 0, .string (⟨#[]⟩ : ByteArray)]) (t := 26) ?hr ?_; (case hd => rfl); (case hg => rfl); (case hr => first | (go_simp; done) | (go_simp; rfl)); intro gb1134 hg w15 hbox hb; replace HO_5 := am (Kd.R_below (ro HO_5) hb); replace HO_8 := am (Kd.R_below (ro HO_8) hb); have BK1134 := am (hbox); have GW1134 := am (sz hg : w.heap.size ≤ gb1134); have GE1134 := am (sz hg : w.heap.size ≤ gb1134); replace HB := am (below_step bl hb); have NB1123_1134 := am (nl hg BK1123 : gb1123 ≠ gb1134); have NB1134_1123 := am (ng hg BK1123 : gb1134 ≠ gb1123); replace BK1123 := kb BK1123 hb; clear hb hbox hg; have hnb16 := NB1134_1123.out; have hnc16 := NB1123_1134.out; obtain ⟨z17_0, y17_0, z17_1, y17_1, z17_2, y17_2, z17_3, y17_3⟩ := cl4 BK1134))
   (try simp only [Act.put, List.setIfInBounds_toArray, List.set_cons_zero, List.set_cons_succ])
   go_loopg [10] kj3 (fun kq v10 w' => ∃ (x10_2 : Int) (x1135000_2 : Int), v10 = .int .i64 x10_2 ∧ Aside0 (impl_ReqRead.l0 kq a0 t1130 x10_2 x1135000_2 (rdOf ByteArray.empty t1130 1) t1125 t1126 = some (r1, r2, r3, r4, r5)) ∧ Aside0 (kq ≤ kj3) ∧ Aside0 (Kd.R Kd.string 9 w' w.heap.size (fun _ => True) (.slice (some ad1133) t1130.length co13) t1130) ∧ Aside0 (Kd.R k84 84 w' w.heap.size (fun _ => True) (.slice Ao14 t1125.length co14) t1125) ∧ Aside0 (w'.heap[gb1123]? = some (.cells #[.int .i64 0, .string (⟨#[]⟩ : ByteArray), (.slice none 0 0), .string (⟨#[]⟩ : ByteArray)] 26 (0, 0))) ∧ Aside0 (w'.heap[gb1134]? = some (.cells #[.int .i64 x1135000_2, .string (rdOf ByteArray.empty t1130 1), (.slice Ao14 t1125.length co14), .string t1126] 26 (0, 0))) ∧ Aside0 (Below w.heap.size w w'))
   case atStart => exact ⟨(1), (0), rs, H', ⟨Nat.le_refl _⟩, ⟨rg (Kd.R_types HO_8.out BK1134.out (by decide))⟩, ⟨rg (Kd.R_types HO_5.out BK1134.out (by decide))⟩, ⟨by (with_reducible repeat (first | refine blk_drewN ?_ _ | refine blk_drew ?_ | refine blk_alloc ?_ _)); refine blk_far ?_ NB1123_1134.out _; (with_reducible repeat (first | refine blk_drewN ?_ _ | refine blk_drew ?_ | refine blk_alloc ?_ _)); refine blk_far ?_ NB1123_1134.out _; (with_reducible repeat (first | refine blk_drewN ?_ _ | refine blk_drew ?_ | refine blk_alloc ?_ _)); refine blk_far ?_ NB1123_1134.out _; (with_reducible repeat (first | refine blk_drewN ?_ _ | refine blk_drew ?_ | refine blk_alloc ?_ _)); refine blk_far ?_ NB1123_1134.out _; (with_reducible repeat (first | refine blk_drewN ?_ _ | refine blk_drew ?_ | refine blk_alloc ?_ _)); exact BK1123.out⟩, ⟨pt0 BK1134⟩, ⟨u38HB⟩⟩
   case round =>
    clear H'
    try clear c1
    try clear p1
    try clear q1
    try clear hx1
    try clear qi1
    try clear p2
    try clear c3
    try clear c8
    try clear c9
    try clear c10
    try clear p11
    try clear q11
    try clear hx11
    try clear qi11
    try clear c12
    try clear c12b0
    try clear c12b1
    try clear c16
    try clear z11_0
    try clear z11_1
    try clear z11_2
    try clear z11_3
    try clear z17_0
    try clear z17_1
    try clear z17_2
    try clear z17_3
    try clear y11_0
    try clear y11_1
    try clear y11_2
    try clear y11_3
    try clear y17_0
    try clear y17_1
    try clear y17_2
    try clear y17_3
    try clear hx1133_0
    try clear p1133
    try clear p2
    try clear q1133
    obtain ⟨x10_2, x1135000_2, rfl, HA, HK2, HO_8, HO_1135002, BK1123, BK1134, HB⟩ := hrel
    cases gk with
    | zero => exact absurd HA.out (by simp [impl_ReqRead.l0])
    | succ k2 =>
     have H := HA.out
     clear HA
     simp only [impl_ReqRead.l0] at H
     by_cases c18 : x10_2 ≤ 4
     rotate_left
     ·rw [if_neg c18] at H
      have c18b0 := decide_eq_false c18
      clear c18
      by_cases c28 : a0.toList = ([] : List UInt8)
      ·rw [if_pos c28] at H
       have c28b0 : (a0.toList == ([] : List UInt8)) = true := beq_iff_eq.mpr c28
       have c28b1 : (a0.toList != ([] : List UInt8)) = false := bne_eq_false_iff_eq.mpr c28
       clear c28
       simp only [Option.some.injEq, Prod.mk.injEq] at H
       obtain ⟨rfl, rfl, rfl, rfl, rfl⟩ := H
       have hnb29 := NB1123_1134.out
       have hnc29 := NB1134_1123.out
       obtain ⟨z30_0, y30_0, z30_1, y30_1, z30_2, y30_2, z30_3, y30_3⟩ := cl4 BK1123
       go_wp2
       refine bodyPost_ret (results_ct rfl _ _ gb1123 26 #[.int .i64 0, .string (⟨#[]⟩ : ByteArray), .slice none 0 0, .string (⟨#[]⟩ : ByteArray)] (0, 0) _ rfl (pt0 BK1123) Tryd.underlying26 rfl (by kernel_rfl)) rfl ?_
       exact ⟨_, rf, by first | exact Kd.R_nil _ _ _ _ _ | exact Kd.N_nil _ _ _ _ _ | exact Kd.V_nil _ _ _ _ _ | exact Kd.Q_nil _ _ _ _ _ | exact Kd.S_nil _ _ _ _ _, bl⟩
      rw [if_neg c28] at H
      have c28b0 : (a0.toList == ([] : List UInt8)) = false := beq_eq_false_iff_ne.mpr c28
      have c28b1 : (a0.toList != ([] : List UInt8)) = true := bne_iff_ne.mpr c28
      revert H
      refine ok1 fun t1137 A31 H => ?_
      by_cases c32 : t1137.toList = a0.toList
      rotate_left
      ·rw [if_neg c32] at H
       have c32b0 : (t1137.toList == a0.toList) = false := beq_eq_false_iff_ne.mpr c32
       have c32b1 : (t1137.toList != a0.toList) = true := bne_iff_ne.mpr c32
       simp only [Option.some.injEq, Prod.mk.injEq] at H
       obtain ⟨rfl, rfl, rfl, rfl, rfl⟩ := H
       have hnb38 := NB1134_1123.out
       have hnc38 := NB1123_1134.out
       obtain ⟨z39_0, y39_0, z39_1, y39_1, z39_2, y39_2, z39_3, y39_3⟩ := cl4 BK1134
       go_wp2_with (first | (go_at_call 25; (with_reducible refine (impl_ReqText.calls k2 x1135000_2 (rdOf ByteArray.empty t1130 1) _ _ t1125 t1126 t1137 _ ?side1 ?side2 ?side3 A31.out).mono ?_); (case side1 => exact GLOBT.below HGT.out bl); (case side2 => exact rc HO_1135002); (case side3 => exact (Kd.R_reads' HO_1135002.out).2.1); rintro e w40 ⟨rfl, hb⟩; replace HO_8 := kr HO_8 hb; replace HO_1135002 := kr HO_1135002 hb; replace BK1123 := kb BK1123 hb; replace BK1134 := kb BK1134 hb; replace HB := am (below_step bl hb); clear hb; obtain ⟨z41_0, y41_0, z41_1, y41_1, z41_2, y41_2, z41_3, y41_3⟩ := cl4 BK1123))
       refine bodyPost_ret (results_ct rfl _ _ gb1123 26 #[.int .i64 0, .string (⟨#[]⟩ : ByteArray), .slice none 0 0, .string (⟨#[]⟩ : ByteArray)] (0, 0) _ rfl (pt0 BK1123) Tryd.underlying26 rfl (by kernel_rfl)) rfl ?_
       exact ⟨_, rf, by first | exact Kd.R_nil _ _ _ _ _ | exact Kd.N_nil _ _ _ _ _ | exact Kd.V_nil _ _ _ _ _ | exact Kd.Q_nil _ _ _ _ _ | exact Kd.S_nil _ _ _ _ _, bl⟩
      rw [if_pos c32] at H
      have c32b0 : (t1137.toList == a0.toList) = true := beq_iff_eq.mpr c32
      have c32b1 : (t1137.toList != a0.toList) = false := bne_eq_false_iff_eq.mpr c32
      clear c32
      simp only [Option.some.injEq, Prod.mk.injEq] at H
      obtain ⟨rfl, rfl, rfl, rfl, rfl⟩ := H
      have hnb33 := NB1134_1123.out
      have hnc33 := NB1123_1134.out
      obtain ⟨z34_0, y34_0, z34_1, y34_1, z34_2, y34_2, z34_3, y34_3⟩ := cl4 BK1134
      go_wp2_with (first | (go_at_call 25; (with_reducible refine (impl_ReqText.calls k2 x1135000_2 (rdOf ByteArray.empty t1130 1) _ _ t1125 t1126 t1137 _ ?side1 ?side2 ?side3 A31.out).mono ?_); (case side1 => exact GLOBT.below HGT.out bl); (case side2 => exact rc HO_1135002); (case side3 => exact (Kd.R_reads' HO_1135002.out).2.1); rintro e w35 ⟨rfl, hb⟩; replace HO_8 := kr HO_8 hb; replace HO_1135002 := kr HO_1135002 hb; replace BK1123 := kb BK1123 hb; replace BK1134 := kb BK1134 hb; replace HB := am (below_step bl hb); clear hb; obtain ⟨z36_0, y36_0, z36_1, y36_1, z36_2, y36_2, z36_3, y36_3⟩ := cl4 BK1134; obtain ⟨z37_0, y37_0, z37_1, y37_1, z37_2, y37_2, z37_3, y37_3⟩ := cl4 BK1123))
      refine bodyPost_ret (results_ct rfl _ _ gb1123 26 #[.int .i64 x1135000_2, .string (rdOf ByteArray.empty t1130 1), .slice Ao14 t1125.length co14, .string t1126] (0, 0) _ rfl (pt0 BK1123) Tryd.underlying26 rfl (by kernel_rfl)) rfl ?_
      exact ⟨_, rf, rg (Kd.R_types HO_1135002.out BK1123.out (by decide)), bl⟩
     rw [if_pos c18] at H
     have c18b0 := decide_eq_true c18
     clear c18
     revert H
     refine ok1 fun t1135 A19 H => ?_
     revert H
     refine ifn fun c20 H => ?_
     have c20b0 := decide_eq_true c20
     have c20b1 : decide (0 < t1130.length) = true := decide_eq_true (by omega)
     clear c20
     by_cases c21 : t1135.toList = (rdOf ByteArray.empty t1130 0).toList
     rotate_left
     ·rw [if_neg c21] at H
      have c21b0 : (t1135.toList == (rdOf ByteArray.empty t1130 0).toList) = false := beq_eq_false_iff_ne.mpr c21
      have c21b1 : (t1135.toList != (rdOf ByteArray.empty t1130 0).toList) = true := bne_iff_ne.mpr c21
      have H' := am H
      clear H
      try go_wp2
      replace HO_8 := am (Kd.R_drew HO_8.out)
      replace HO_1135002 := am (Kd.R_drew HO_1135002.out)
      replace BK1123 := am (blk_drew BK1123.out)
      replace BK1134 := am (blk_drew BK1134.out)
      replace HB := am (below_drew1 HB.out)
      have p1136 : 0 ≤ (0 : Int) := (by omega)
      have q1136 : 0 < (t1130.length : Int) := od
      obtain ⟨ad1136, e1136, hx1136_0⟩ := Kd.at_string (Kd.R_reads' HO_8.out).2.2 0 p1136 q1136
      obtain rfl : ad1133 = ad1136 := (by injection e1136)
      have qi1136 : (0 < t1130.length) = True := eq_true (by omega)
      (try rw [show ((0 : Int)).toNat = 0 from rfl] at hx1136_0)
      (try rw [Addr.add_zero'] at hx1136_0)
      replace p1136 := eq_true p1136
      replace q1136 := eq_true q1136
      refine start_ (n := 6) (S := fun w' => w'.cell? ad1133 = some (.string (rdOf ByteArray.empty t1130 0))) (ds := []) ⟨br true [0, 6]⟩ (by kernel_rfl) rfl (by kernel_rfl) (hx1136_0) (fun hHeld => ?_)
      generalize wr.drew = w26 at HO_8 HO_1135002 BK1123 BK1134 HB hx1136_0 hHeld ⊢
      refine pu 0 38 [1, 5] ?_
      refine pu 2 40 [1, 1, 1, 3] ?_
      refine pu 3 41 [1, 1, 2, 2] ?_
      refine take_ (i := 4) (N := some 42) (v := ?_) (a' := ?_) #[true, false, true, true, true, false] rfl rfl (by kernel_rfl) (fun _ _ _ h => h) (Or.inl ⟨by rfl, ?_⟩) hHeld ?_ ?_
      rotate_left
      ·intro w' s0
       go_simp
       with_reducible rfl
      rotate_left
      ·simp only [Act.put, List.setIfInBounds_toArray, List.set_cons_zero, List.set_cons_succ, i64_w, i32_w]
       rfl
      refine og 1 39 [5, 1] Tryd.func65 #[.int .i64 x10_2] (fun K hK => ?_)
      with_reducible refine (impl_methodText.calls x10_2 t1135 _ A19.out).mono ?_
      rintro e w27 ⟨rfl, hb⟩
      have HS0_ := (hb.cell (World.block_lt_of_cell? _ _ (hHeld))).trans (hHeld)
      refine ⟨_, rfl, ?_⟩
      replace HO_8 := kr HO_8 hb
      replace HO_1135002 := kr HO_1135002 hb
      replace BK1123 := kb BK1123 hb
      replace BK1134 := kb BK1134 hb
      replace HB := am (below_step bl hb)
      clear hb
      refine hK.out _ _ (HS0_) (fun hHeld => ?_)
      clear hK K
      refine nm 39 ?_
      refine pu 5 43 [6] ?_
      refine done_ (by kernel_rfl) ?_
      try go_wp2
      go_roundg k2
      case measure => have := HJ3.out; have := HK2.out; omega
      case rel => exact ⟨(wrap64 (x10_2 + 1)), (x1135000_2), rs, H', ⟨by have := HJ3.out; have := HK2.out; omega⟩, ⟨by (with_reducible repeat (first | apply Kd.R_alloc | apply Kd.R_drewN | apply Kd.R_drew)); exact HO_8.out⟩, ⟨by (with_reducible repeat (first | apply Kd.R_alloc | apply Kd.R_drewN | apply Kd.R_drew)); exact HO_1135002.out⟩, ⟨by (with_reducible repeat (first | refine blk_drewN ?_ _ | refine blk_drew ?_ | refine blk_alloc ?_ _)); exact BK1123.out⟩, ⟨by (with_reducible repeat (first | refine blk_drewN ?_ _ | refine blk_drew ?_ | refine blk_alloc ?_ _)); exact BK1134.out⟩, ⟨u38HB⟩⟩
     rw [if_pos c21] at H
     have c21b0 : (t1135.toList == (rdOf ByteArray.empty t1130 0).toList) = true := beq_iff_eq.mpr c21
     have c21b1 : (t1135.toList != (rdOf ByteArray.empty t1130 0).toList) = false := bne_eq_false_iff_eq.mpr c21
     clear c21
     have H' := am H
     clear H
     try go_wp2
     replace HO_8 := am (Kd.R_drew HO_8.out)
     replace HO_1135002 := am (Kd.R_drew HO_1135002.out)
     replace BK1123 := am (blk_drew BK1123.out)
     replace BK1134 := am (blk_drew BK1134.out)
     replace HB := am (below_drew1 HB.out)
     have p1136 : 0 ≤ (0 : Int) := (by omega)
     have q1136 : 0 < (t1130.length : Int) := od
     obtain ⟨ad1136, e1136, hx1136_0⟩ := Kd.at_string (Kd.R_reads' HO_8.out).2.2 0 p1136 q1136
     obtain rfl : ad1133 = ad1136 := (by injection e1136)
     have qi1136 : (0 < t1130.length) = True := eq_true (by omega)
     (try rw [show ((0 : Int)).toNat = 0 from rfl] at hx1136_0)
     (try rw [Addr.add_zero'] at hx1136_0)
     replace p1136 := eq_true p1136
     replace q1136 := eq_true q1136
     refine start_ (n := 6) (S := fun w' => w'.cell? ad1133 = some (.string (rdOf ByteArray.empty t1130 0))) (ds := []) ⟨br true [0, 6]⟩ (by kernel_rfl) rfl (by kernel_rfl) (hx1136_0) (fun hHeld => ?_)
     generalize wr.drew = w22 at HO_8 HO_1135002 BK1123 BK1134 HB hx1136_0 hHeld ⊢
     refine pu 0 38 [1, 5] ?_
     refine pu 2 40 [1, 1, 1, 3] ?_
     refine pu 3 41 [1, 1, 2, 2] ?_
     refine take_ (i := 4) (N := some 42) (v := ?_) (a' := ?_) #[true, false, true, true, true, false] rfl rfl (by kernel_rfl) (fun _ _ _ h => h) (Or.inl ⟨by rfl, ?_⟩) hHeld ?_ ?_
     rotate_left
     ·intro w' s0
      go_simp
      with_reducible rfl
     rotate_left
     ·simp only [Act.put, List.setIfInBounds_toArray, List.set_cons_zero, List.set_cons_succ, i64_w, i32_w]
      rfl
     refine og 1 39 [5, 1] Tryd.func65 #[.int .i64 x10_2] (fun K hK => ?_)
     with_reducible refine (impl_methodText.calls x10_2 t1135 _ A19.out).mono ?_
     rintro e w23 ⟨rfl, hb⟩
     have HS0_ := (hb.cell (World.block_lt_of_cell? _ _ (hHeld))).trans (hHeld)
     refine ⟨_, rfl, ?_⟩
     replace HO_8 := kr HO_8 hb
     replace HO_1135002 := kr HO_1135002 hb
     replace BK1123 := kb BK1123 hb
     replace BK1134 := kb BK1134 hb
     replace HB := am (below_step bl hb)
     clear hb
     refine hK.out _ _ (HS0_) (fun hHeld => ?_)
     clear hK K
     refine nm 39 ?_
     refine pu 5 43 [6] ?_
     refine done_ (by kernel_rfl) ?_
     have hnb24 := NB1134_1123.out
     have hnc24 := NB1123_1134.out
     obtain ⟨z25_0, y25_0, z25_1, y25_1, z25_2, y25_2, z25_3, y25_3⟩ := cl4 BK1134
     try go_wp2
     go_roundg k2
     case measure => have := HJ3.out; have := HK2.out; omega
     case rel => exact ⟨(wrap64 (x10_2 + 1)), (x10_2), rs, H', ⟨by have := HJ3.out; have := HK2.out; omega⟩, ⟨rg (Kd.R_types HO_8.out BK1134.out (by decide))⟩, ⟨rg (Kd.R_types HO_1135002.out BK1134.out (by decide))⟩, ⟨by (with_reducible repeat (first | refine blk_drewN ?_ _ | refine blk_drew ?_ | refine blk_alloc ?_ _)); refine blk_far ?_ NB1123_1134.out _; (with_reducible repeat (first | refine blk_drewN ?_ _ | refine blk_drew ?_ | refine blk_alloc ?_ _)); exact BK1123.out⟩, ⟨pt0 BK1134⟩, ⟨u38HB⟩⟩

/-! ### laws_markText: function 132 -/
theorem u132HB {p : Prop} (h : p := by repeat (first | (with_reducible first | exact HB.out | apply below_alloc | apply pw_below_drewN | apply below_drew1) | exact HB.out)) : p := h
def laws_markText.l0 : Nat → Int → ByteArray → Option (ByteArray)
 | 0, _, _ => none
 | k + 1, x0, x3 => if x0 > 0 then ((some (([(wrap64 (48 + (Int.tmod x0 10))) % 256] : List Int) : List Int)).bind fun y1138 => (if (strOfNums y1138).size + x3.size ≤ 9223372036854775807 then (laws_markText.l0 k (wrap64 (Int.tdiv x0 10)) ((strOfNums y1138) ++ x3)) else (none))) else (if 1 + x3.size ≤ 9223372036854775807 then (some ((⟨#[109]⟩ : ByteArray) ++ x3)) else (none))
def laws_markText.f (k : Nat) (a0 : Int) : Option (ByteArray) := if a0 ≤ 0 then (some (⟨#[109, 48]⟩ : ByteArray)) else (laws_markText.l0 k a0 (⟨#[]⟩ : ByteArray))
theorem laws_markText.mono_l : ∀ k, (∀ y0 y1, LeO (laws_markText.l0 k y0 y1) (laws_markText.l0 (k + 1) y0 y1))
 | 0 => fun _ _ r h => by simp [laws_markText.l0] at h
 | k + 1 => by
  have ih0 := laws_markText.mono_l k
  ·intro y0 y1
   unfold laws_markText.l0
   exact mo
theorem laws_markText.mono : ∀ a0 k, LeO (laws_markText.f k a0) (laws_markText.f (k + 1) a0) := by
 intro a0 k
 have ih0 := laws_markText.mono_l k
 unfold laws_markText.f
 exact mo
set_option maxHeartbeats 8000000 in
set_option maxRecDepth 100000 in
theorem laws_markText.calls (k : Nat) (a0 : Int) (r : ByteArray) (w : World) (h : laws_markText.f k a0 = some r) :
  Calls Tryd.prog 132 #[.int .i64 a0] w fun e w' => e = .returned (.string r) ∧ Below w.heap.size w w' := by
 have HB := am (Below.refl w.heap.size w)
 unfold laws_markText.f at h
 have H := h
 clear h
 by_cases c2 : a0 ≤ 0
 ·rw [if_pos c2] at H
  have c2b0 := decide_eq_true c2
  clear c2
  obtain rfl := Option.some.inj H
  go_enter Tryd.func132, Tryd.ntmps132
  go_wp2
  go_ret
  exact ⟨rf, bl⟩
 rw [if_neg c2] at H
 have c2b0 := decide_eq_false c2
 clear c2
 have H' := am H
 clear H
 go_enter Tryd.func132, Tryd.ntmps132
 go_wp2
 (try simp only [Act.put, List.setIfInBounds_toArray, List.set_cons_zero, List.set_cons_succ])
 go_loopg [0, 3] k (fun kq v0 v3 w' => ∃ (x0_1 : Int) (x3_1 : ByteArray), v0 = .int .i64 x0_1 ∧ v3 = .string x3_1 ∧ Aside0 (laws_markText.l0 kq x0_1 x3_1 = some r) ∧ Aside0 (kq ≤ k) ∧ Aside0 (Below w.heap.size w w'))
 case atStart => exact ⟨(a0), ((⟨#[]⟩ : ByteArray)), rs, rs, H', ⟨Nat.le_refl _⟩, ⟨u132HB⟩⟩
 case round =>
  clear H'
  try clear c1
  try clear c2
  try clear c2b0
  try clear p2
  obtain ⟨x0_1, x3_1, rfl, rfl, HA, HK1, HB⟩ := hrel
  cases gk with
  | zero => exact absurd HA.out (by simp [laws_markText.l0])
  | succ k1 =>
   have H := HA.out
   clear HA
   simp only [laws_markText.l0] at H
   by_cases c3 : x0_1 > 0
   rotate_left
   ·rw [if_neg c3] at H
    have c3b0 := decide_eq_false c3
    clear c3
    revert H
    refine ifn fun c8 H => ?_
    have c8b0 := eq_true c8
    have c8b1 := decide_eq_true c8
    try have c8b2 := eq_false (Nat.not_lt.2 c8)
    obtain rfl := Option.some.inj H
    go_wp2
    go_ret
    exact ⟨rf, bl⟩
   rw [if_pos c3] at H
   have c3b0 := decide_eq_true c3
   clear c3
   obtain ⟨y1138, hy1138⟩ : ∃ y_ : List Int, y_ = (([(wrap64 (48 + (Int.tmod x0_1 10))) % 256] : List Int)) := ⟨_, rfl⟩
   replace H : (if (strOfNums y1138).size + x3_1.size ≤ 9223372036854775807 then (laws_markText.l0 k1 (wrap64 (Int.tdiv x0_1 10)) ((strOfNums y1138) ++ x3_1)) else (none)) = some r := by first | (rw [hy1138]; with_reducible exact H) | (have H2_ := (Option.bind_some _ _).symm.trans H; rw [hy1138]; with_reducible exact H2_) | (have H2_ := (Option.bind_some _ _).symm.trans H; with_reducible exact H2_) | with_reducible exact H | (rw [hy1138]; exact H) | exact H
   have Ny1138 := am hy1138
   clear hy1138
   revert H
   refine ifn fun c4 H => ?_
   have c4b0 := eq_true c4
   have c4b1 := decide_eq_true c4
   try have c4b2 := eq_false (Nat.not_lt.2 c4)
   have H' := am H
   clear H
   go_wp2_with (first | ((with_reducible refine gate_dst (N := 12) rfl ?_); refine Kd.R_lit (Kd.int .u8) _ 5 ?hg (N := 12) ?hd (xs := ([(wrap64 (48 + (Int.tmod x0_1 10))) % 256] : List Int)) (inner := [.int .u8 ((wrap64 (48 + (Int.tmod x0_1 10))) % 256)]) (ok := fun _ => True) (okp := fun _ => True) ?hr ?hp (fun _ hk => hk) trivial (Below.refl _ _) (Nat.le_refl _) (by simp) ?_; (case hd => rfl); (case hg => rfl); (case hr => first | (go_simp; done) | (go_simp; rfl)); (case hp => exact rp); intro v1139 w5 ho6 hb hg_ hnew_; clear hg_ hnew_; (first | rw [← Ny1138.out] at ho6 | (simp only [Int.reduceToNat] at ho6; rw [← Ny1138.out] at ho6)); have HO1140 := am (Kd.R_lower ho6 (below_size bl)); replace HB := am (below_step bl hb); clear hb ho6; have hcv7 := own_string (P := Tryd.prog) Tryd.underlying22 Tryd.underlying5 Tryd.underlying9 (Kd.own_of_R HO1140.out)))
   go_roundg k1
   case measure => have := HK1.out; omega
   case rel => exact ⟨(wrap64 (Int.tdiv x0_1 10)), ((strOfNums y1138) ++ x3_1), rs, rs, H', ⟨by have := HK1.out; omega⟩, ⟨u132HB⟩⟩

/-! ### laws_markFieldS: function 97 -/
theorem u97HK {p : Prop} (h : p := by repeat (first | (with_reducible first | exact HK.out | apply Kept.alloc | apply Kept.drewN | apply Kept.drew) | exact HK.out)) : p := h
theorem u97HB {p : Prop} (h : p := by repeat (first | (with_reducible first | exact HB.out | apply below_alloc | apply pw_below_drewN | apply below_drew1) | exact HB.out)) : p := h
def laws_markFieldS.l0 : Nat → List (S84) → Int → Int → Option (Int × (List (S84)))
 | 0, _, _, _ => none
 | k + 1, x0, x1, x5 => if x5 < (x0.length : Int) then ((laws_markText.f k x1).bind fun t1141 => (if 0 ≤ x5 then ((some (x0.set (x5 : Int).toNat (⟨t1141, (rd_T84 x0 x5).f1⟩ : S84) : List (S84))).bind fun y1142 => ((laws_markText.f k (wrap64 (x1 + 1))).bind fun t1143 => (laws_markFieldS.l0 k (y1142.set (x5 : Int).toNat (⟨(rd_T84 y1142 x5).f0, t1143⟩ : S84)) (wrap64 ((wrap64 (x1 + 1)) + 1)) (wrap64 (x5 + 1))))) else (none))) else (some (x1, x0))
def laws_markFieldS.f (k : Nat) (l0 : List (S84)) (a1 : Int) : Option (Int × (List (S84))) := laws_markFieldS.l0 k l0 a1 0
theorem laws_markFieldS.mono_l : ∀ k, (∀ y0 y1 y2, LeO (laws_markFieldS.l0 k y0 y1 y2) (laws_markFieldS.l0 (k + 1) y0 y1 y2))
 | 0 => fun _ _ _ r h => by simp [laws_markFieldS.l0] at h
 | k + 1 => by
  have ih0 := laws_markFieldS.mono_l k
  ·intro y0 y1 y2
   unfold laws_markFieldS.l0
   have m0 := @laws_markText.mono
   exact mo
theorem laws_markFieldS.mono : ∀ a0 a1 k, LeO (laws_markFieldS.f k a0 a1) (laws_markFieldS.f (k + 1) a0 a1) := by
 intro a0 a1 k
 have ih0 := laws_markFieldS.mono_l k
 unfold laws_markFieldS.f
 have m0 := @laws_markText.mono
 exact mo
set_option maxHeartbeats 8000000 in
set_option maxRecDepth 100000 in
theorem laws_markFieldS.calls (k : Nat) (P0_ : Nat → Prop) (u9000_ : Value) (l0 : List (S84)) (a1 : Int) (r1 : Int) (r2 : List (S84)) (w0 w : World) (hB : Below w0.heap.size w0 w) (ho0 : Kd.R k84 84 w w0.heap.size P0_ u9000_ l0) (h : laws_markFieldS.f k l0 a1 = some (r1, r2)) :
  Calls Tryd.prog 97 #[u9000_, .int .i64 a1] w fun e w' => e = .returned (.int .i64 r1) ∧ Kd.R k84 84 w' w0.heap.size (fun k_ => (P0_ k_ ∨ w.heap.size ≤ k_)) u9000_ r2 ∧ Below w0.heap.size w0 w' ∧ Kept w w' (fun k_ => P0_ k_) := by
 have HO0 := am (show Kd.R k84 84 w w0.heap.size (fun k_ => (P0_ k_ ∨ w.heap.size ≤ k_)) u9000_ l0 from Kd.R_mono ho0 (fun k_ hk => (.inl hk)))
 have HK := am (Kept.refl w (fun k_ => P0_ k_))
 have HW0 := am hB.size
 have HB := am hB
 clear hB
 unfold laws_markFieldS.f at h
 have H := h
 clear h
 have H' := am H
 clear H
 go_enter Tryd.func97, Tryd.ntmps97
 go_wp2
 (try simp only [Act.put, List.setIfInBounds_toArray, List.set_cons_zero, List.set_cons_succ])
 go_loopg [1, 5] k (fun kq v1 v5 w' => ∃ (x0_1 : List (S84)) (x1_1 : Int) (x5_1 : Int), v1 = .int .i64 x1_1 ∧ v5 = .int .i64 x5_1 ∧ Aside0 (laws_markFieldS.l0 kq x0_1 x1_1 x5_1 = some (r1, r2)) ∧ Aside0 (kq ≤ k) ∧ Aside0 (Kd.R k84 84 w' w0.heap.size (fun k_ => (P0_ k_ ∨ w.heap.size ≤ k_)) u9000_ x0_1) ∧ Aside0 (Kept w w' (fun k_ => P0_ k_)) ∧ Aside0 (Below w0.heap.size w0 w'))
 case atStart => exact ⟨(l0), (a1), (0), rs, rs, H', ⟨Nat.le_refl _⟩, ⟨by (with_reducible repeat (first | apply Kd.R_alloc | apply Kd.R_drewN | apply Kd.R_drew)); exact HO0.out⟩, ⟨u97HK⟩, ⟨u97HB⟩⟩
 case round =>
  clear H'
  try clear p2
  obtain ⟨x0_1, x1_1, x5_1, rfl, rfl, HA, HK1, HO_0, HK, HB⟩ := hrel
  cases gk with
  | zero => exact absurd HA.out (by simp [laws_markFieldS.l0])
  | succ k1 =>
   have H := HA.out
   clear HA
   simp only [laws_markFieldS.l0] at H
   by_cases c3 : x5_1 < (x0_1.length : Int)
   rotate_left
   ·rw [if_neg c3] at H
    have c3b0 := decide_eq_false c3
    clear c3
    simp only [Option.some.injEq, Prod.mk.injEq] at H
    obtain ⟨rfl, rfl⟩ := H
    obtain ⟨Ao16, co16, eo16⟩ := Kd.R_slice HO_0.out
    subst eo16
    go_wp2
    go_ret
    exact ⟨rf, by (with_reducible repeat (first | apply Kd.R_alloc | apply Kd.R_drewN | apply Kd.R_drew)); exact HO_0.out, u97HB, u97HK⟩
   rw [if_pos c3] at H
   have c3b0 := decide_eq_true c3
   clear c3
   revert H
   refine ok1 fun t1141 A4 H => ?_
   revert H
   refine ifn fun c5 H => ?_
   have c5b0 := decide_eq_true c5
   clear c5
   obtain ⟨y1142, hy1142⟩ : ∃ y_ : List (S84), y_ = (x0_1.set (x5_1 : Int).toNat (⟨t1141, (rd_T84 x0_1 x5_1).f1⟩ : S84)) := ⟨_, rfl⟩
   replace H : ((laws_markText.f k1 (wrap64 (x1_1 + 1))).bind fun t1143 => (laws_markFieldS.l0 k1 (y1142.set (x5_1 : Int).toNat (⟨(rd_T84 y1142 x5_1).f0, t1143⟩ : S84)) (wrap64 ((wrap64 (x1_1 + 1)) + 1)) (wrap64 (x5_1 + 1)))) = some (r1, r2) := by first | (rw [hy1142]; with_reducible exact H) | (have H2_ := (Option.bind_some _ _).symm.trans H; rw [hy1142]; with_reducible exact H2_) | (have H2_ := (Option.bind_some _ _).symm.trans H; with_reducible exact H2_) | with_reducible exact H | (rw [hy1142]; exact H) | exact H
   have Ny1142 := am hy1142
   clear hy1142
   revert H
   refine ok1 fun t1143 A7 H => ?_
   obtain ⟨y1144, hy1144⟩ : ∃ y_ : List (S84), y_ = (y1142.set (x5_1 : Int).toNat (⟨(rd_T84 y1142 x5_1).f0, t1143⟩ : S84)) := ⟨_, rfl⟩
   replace H : (laws_markFieldS.l0 k1 y1144 (wrap64 ((wrap64 (x1_1 + 1)) + 1)) (wrap64 (x5_1 + 1))) = some (r1, r2) := by first | (rw [hy1144]; with_reducible exact H) | (have H2_ := (Option.bind_some _ _).symm.trans H; rw [hy1144]; with_reducible exact H2_) | (have H2_ := (Option.bind_some _ _).symm.trans H; with_reducible exact H2_) | with_reducible exact H | (rw [hy1144]; exact H) | exact H
   have Ny1144 := am hy1144
   clear hy1144
   have H' := am H
   clear H
   obtain ⟨Ao9, co9, eo9⟩ := Kd.R_slice HO_0.out
   subst eo9
   go_wp2_with (first | (refine gl 15 Tryd.func132 #[.int .i64 x1_1] ?_; (with_reducible refine (laws_markText.calls k1 x1_1 t1141 _ A4.out).mono ?_); rintro e w10 ⟨rfl, hb⟩; refine ⟨_, rfl, ?_⟩; replace HO_0 := kr HO_0 hb; replace HK := am (Kept.below (S := (fun k_ => P0_ k_)) u97HK hb); replace HB := am (below_step bl hb); clear hb; have p6 : 0 ≤ (x5_1 : Int) := od; have q6 : (x5_1 : Int) < ((x0_1.length : Int) : Int) := od; obtain ⟨go6, co6, eo6, gb6, gl6, cl6, HG6⟩ := Kd.R_form HO_0.out (by omega); (first | cases eo6 | (injection eo6 with ea_ en_ ec_; (first | subst ea_ | (injection ea_ with ea_; subst ea_)); subst ec_; clear en_)); have GB6 := am gb6; have GG6 := am HG6; clear gb6 gl6 HG6; have HMgo6 := am (show (P0_ go6 ∨ w.heap.size ≤ go6) from (HO_0.out.1 _ rfl)); obtain ⟨ce6, hcl6, hM6, hcc6, hfr6⟩ := Kd.R_elem HO_0.out z84 (x5_1 : Int) p6 q6; obtain rfl := k84_openM hM6; have hx6_0 : w10.cell? ⟨go6, (x5_1 : Int).toNat * 2, none⟩ = some (.string ((rd_T84 x0_1 x5_1).f0)) := hcc6 0 _ rfl; have hx6_1 : w10.cell? ⟨go6, (x5_1 : Int).toNat * 2 + 1, none⟩ = some (.string ((rd_T84 x0_1 x5_1).f1)) := hcc6 1 _ rfl; have hf6_0 : w10.frozen? ⟨go6, (x5_1 : Int).toNat * 2, none⟩ = false := hfr6 0; have hf6_1 : w10.frozen? ⟨go6, (x5_1 : Int).toNat * 2 + 1, none⟩ = false := hfr6 1; clear hcl6 hcc6 hfr6 hM6; replace p6 := eq_true p6; replace q6 := eq_true q6; have HX11 := am (show Kd.R k84 84 w10 w0.heap.size (fun k_ => (P0_ k_ ∨ w.heap.size ≤ k_)) (.slice (some ⟨go6, 0, none⟩) x0_1.length co9) x0_1 from (ro HO_0)); obtain ⟨ce11, hcl11, hM11, hcc11, hfr11⟩ := Kd.R_elem HX11.out z84 (x5_1 : Int) (od) (by have h_ : (x5_1 : Int) < ((x0_1.length : Int) : Int) := od; first | exact h_ | (have e_ := (Kd.R_reads' HO_0.out).1; omega) | simpa using h_); obtain rfl := k84_openM hM11; have HP11 := Kd.R_seg HX11.out (x5_1 : Int) (od) (by have h_ : (x5_1 : Int) < ((x0_1.length : Int) : Int) := od; first | exact h_ | (have e_ := (Kd.R_reads' HO_0.out).1; omega) | simpa using h_) (seg := [.string t1141]) (j := 0) hcl11 hcc11 (show 1 ≤ 2 from by decide) (x' := (⟨t1141, (rd_T84 x0_1 x5_1).f1⟩ : S84)) (k84_mkM _ _ _ (⟨t1141, (rd_T84 x0_1 x5_1).f1⟩ : S84) ) (fun _ hk => hk); have hx11_0 := hcc11 0 _ rfl; (try simp only [show (k84).sz = 2 from rfl, Nat.mul_one, Nat.add_zero] at hx11_0); have hf11_0 := hfr11 0; (try simp only [show (k84).sz = 2 from rfl, Nat.mul_one, Nat.add_zero] at hf11_0); clear hcl11 hcc11 hfr11 hM11) | ((with_reducible refine gate_store (t := 9) (p := 17) rfl ?_); refine store_event (t := 9) (p := 17) (v := ?vo_w12) (w1 := (w10.setCell ⟨go6, (x5_1 : Int).toNat * 2, none⟩ (.string t1141))) ?hg ?ho ?hn ?hr ?_; (case ho => rfl); (case hg => rfl); (case hn => rfl); (case hr => first | (go_simp; done) | (go_simp; rfl)); intro w12 hw; have hg : w10.grownBy w12 (some go6) := (by rw [hw]; exact HP11.2); have hp_ : Kd.R k84 84 w12 w0.heap.size (fun k_ => (P0_ k_ ∨ w.heap.size ≤ k_)) (.slice (some ⟨go6, 0, none⟩) x0_1.length co9) y1142 := (by rw [hw, Ny1142.out]; exact HP11.1); clear HP11; have n0_ := am (hp_); have n1_ := am ((by rw [hw]; exact below_set (HB.out) GB6.out : Below w0.heap.size w0 w12)); have n2_ := am (Kept.of_grown (S := (fun k_ => P0_ k_)) hg u97HK (fun k_ e_ => (HO_0.out.1 k_ e_))); clear HO_0; clear HB; clear HK; have HO_0 := n0_; have HB := n1_; have HK := n2_; clear n0_ n1_ n2_; clear hg hw hp_) | (refine gl 23 Tryd.func132 #[.int .i64 (wrap64 (x1_1 + 1))] ?_; (with_reducible refine (laws_markText.calls k1 (wrap64 (x1_1 + 1)) t1143 _ A7.out).mono ?_); rintro e w13 ⟨rfl, hb⟩; refine ⟨_, rfl, ?_⟩; replace HO_0 := kr HO_0 hb; replace HK := am (Kept.below (S := (fun k_ => P0_ k_)) u97HK hb); replace HB := am (below_step bl hb); clear hb; have p8 : 0 ≤ (x5_1 : Int) := od; have q8 : (x5_1 : Int) < ((x0_1.length : Int) : Int) := od; obtain ⟨ce8, hcl8, hM8, hcc8, hfr8⟩ := Kd.R_elem HO_0.out z84 (x5_1 : Int) p8 q8; obtain rfl := k84_openM hM8; have hx8_0 : w13.cell? ⟨go6, (x5_1 : Int).toNat * 2, none⟩ = some (.string ((rd_T84 y1142 x5_1).f0)) := hcc8 0 _ rfl; have hx8_1 : w13.cell? ⟨go6, (x5_1 : Int).toNat * 2 + 1, none⟩ = some (.string ((rd_T84 y1142 x5_1).f1)) := hcc8 1 _ rfl; have hf8_0 : w13.frozen? ⟨go6, (x5_1 : Int).toNat * 2, none⟩ = false := hfr8 0; have hf8_1 : w13.frozen? ⟨go6, (x5_1 : Int).toNat * 2 + 1, none⟩ = false := hfr8 1; clear hcl8 hcc8 hfr8 hM8; replace p8 := eq_true p8; replace q8 := eq_true q8; have HX14 := am (show Kd.R k84 84 w13 w0.heap.size (fun k_ => (P0_ k_ ∨ w.heap.size ≤ k_)) (.slice (some ⟨go6, 0, none⟩) x0_1.length co9) y1142 from (ro HO_0)); obtain ⟨ce14, hcl14, hM14, hcc14, hfr14⟩ := Kd.R_elem HX14.out z84 (x5_1 : Int) (od) (by have h_ : (x5_1 : Int) < ((x0_1.length : Int) : Int) := od; first | exact h_ | (have e_ := (Kd.R_reads' HO_0.out).1; omega) | simpa using h_); obtain rfl := k84_openM hM14; have HP14 := Kd.R_seg HX14.out (x5_1 : Int) (od) (by have h_ : (x5_1 : Int) < ((x0_1.length : Int) : Int) := od; first | exact h_ | (have e_ := (Kd.R_reads' HO_0.out).1; omega) | simpa using h_) (seg := [.string t1143]) (j := 1) hcl14 hcc14 (show 2 ≤ 2 from by decide) (x' := (⟨(rd_T84 y1142 x5_1).f0, t1143⟩ : S84)) (k84_mkM _ _ _ (⟨(rd_T84 y1142 x5_1).f0, t1143⟩ : S84) ) (fun _ hk => hk); have hx14_1 := hcc14 1 _ rfl; (try simp only [show (k84).sz = 2 from rfl, Nat.mul_one, Nat.add_zero] at hx14_1); have hf14_1 := hfr14 1; (try simp only [show (k84).sz = 2 from rfl, Nat.mul_one, Nat.add_zero] at hf14_1); clear hcl14 hcc14 hfr14 hM14) | ((with_reducible refine gate_store (t := 9) (p := 25) rfl ?_); refine store_event (t := 9) (p := 25) (v := ?vo_w15) (w1 := (w13.setCell ⟨go6, (x5_1 : Int).toNat * 2 + 1, none⟩ (.string t1143))) ?hg ?ho ?hn ?hr ?_; (case ho => rfl); (case hg => rfl); (case hn => rfl); (case hr => first | (go_simp; done) | (go_simp; rfl)); intro w15 hw; have hg : w13.grownBy w15 (some go6) := (by rw [hw]; exact HP14.2); have hp_ : Kd.R k84 84 w15 w0.heap.size (fun k_ => (P0_ k_ ∨ w.heap.size ≤ k_)) (.slice (some ⟨go6, 0, none⟩) x0_1.length co9) y1144 := (by rw [hw, Ny1144.out]; exact HP14.1); clear HP14; have n0_ := am (hp_); have n1_ := am ((by rw [hw]; exact below_set (HB.out) GB6.out : Below w0.heap.size w0 w15)); have n2_ := am (Kept.of_grown (S := (fun k_ => P0_ k_)) hg u97HK (fun k_ e_ => (HO_0.out.1 k_ e_))); clear HO_0; clear HB; clear HK; have HO_0 := n0_; have HB := n1_; have HK := n2_; clear n0_ n1_ n2_; clear hg hw hp_))
   go_roundg k1
   case measure => have := HK1.out; omega
   case rel => exact ⟨(y1144), (wrap64 ((wrap64 (x1_1 + 1)) + 1)), (wrap64 (x5_1 + 1)), rs, rs, H', ⟨by have := HK1.out; omega⟩, ⟨by (with_reducible repeat (first | apply Kd.R_alloc | apply Kd.R_drewN | apply Kd.R_drew)); exact HO_0.out⟩, ⟨u97HK⟩, ⟨u97HB⟩⟩

/-! ### laws_markReq: function 39 -/
theorem u39HK {p : Prop} (h : p := by repeat (first | (with_reducible first | exact HK.out | apply Kept.alloc | apply Kept.drewN | apply Kept.drew | refine Kept.setCell ?_ (.inr GW1145.out) _) | exact HK.out)) : p := h
theorem u39HB {p : Prop} (h : p := by repeat (first | (with_reducible first | exact HB.out | apply below_alloc | apply pw_below_drewN | apply below_drew1 | refine below_set ?_ GE1145.out) | exact HB.out)) : p := h
def laws_markReq.f (k : Nat) (a0_0 : Int) (a0_1 : ByteArray) (l0_2 : List (S84)) (a0_3 : ByteArray) (a1 : Int) : Option (Int × (List (S84))) := (laws_markFieldS.f k l0_2 a1).bind fun bt1146 => (some (bt1146.1, bt1146.2))
theorem laws_markReq.mono : ∀ a0 a1 a2 a3 a4 k, LeO (laws_markReq.f k a0 a1 a2 a3 a4) (laws_markReq.f (k + 1) a0 a1 a2 a3 a4) := by
 intro a0 a1 a2 a3 a4 k
 unfold laws_markReq.f
 have m0 := @laws_markFieldS.mono
 exact mo
set_option maxHeartbeats 8000000 in
set_option maxRecDepth 100000 in
theorem laws_markReq.calls (k : Nat) (a0_0 : Int) (a0_1 : ByteArray) (P0_2_ : Nat → Prop) (u9000_ : Value) (l0_2 : List (S84)) (a0_3 : ByteArray) (a1 : Int) (r1 : Int) (r2 : List (S84)) (w0 w : World) (hB : Below w0.heap.size w0 w) (ho0_2 : Kd.R k84 84 w w0.heap.size P0_2_ u9000_ l0_2) (h : laws_markReq.f k a0_0 a0_1 l0_2 a0_3 a1 = some (r1, r2)) :
  Calls Tryd.prog 39 #[.agg #[.int .i64 a0_0, .string a0_1, u9000_, .string a0_3], .int .i64 a1] w fun e w' => e = .returned (.int .i64 r1) ∧ Kd.R k84 84 w' w0.heap.size (fun k_ => (P0_2_ k_ ∨ w.heap.size ≤ k_)) u9000_ r2 ∧ Below w0.heap.size w0 w' ∧ Kept w w' (fun k_ => P0_2_ k_) := by
 have hu26 := Tryd.underlying26
 have HO0_2 := am (show Kd.R k84 84 w w0.heap.size (fun k_ => (P0_2_ k_ ∨ w.heap.size ≤ k_)) u9000_ l0_2 from Kd.R_mono ho0_2 (fun k_ hk => (.inl hk)))
 have HK := am (Kept.refl w (fun k_ => P0_2_ k_))
 have HW0 := am hB.size
 have HB := am hB
 clear hB
 unfold laws_markReq.f at h
 have H := h
 clear h
 revert H
 refine ok2 fun t1146 t1147 A3 H => ?_
 (try dsimp only at H)
 simp only [Option.some.injEq, Prod.mk.injEq] at H
 obtain ⟨rfl, rfl⟩ := H
 obtain ⟨Ao4, co4, eo4⟩ := Kd.R_slice HO0_2.out
 subst eo4
 go_enter Tryd.func39, Tryd.ntmps39
 go_wp2_with (first | (refine bx 2 #[.int .i64 a0_0, .string a0_1, .slice Ao4 l0_2.length co4, .string a0_3] 26 ?_; intro gb1145 hg w5 hbox hb; have n0_ := am (Kd.R_below (ro HO0_2) hb); have n1_ := am (Kept.below (S := (fun k_ => P0_2_ k_)) u39HK hb); have n2_ := am (below_step bl hb); have n3_ := am (hbox); have n4_ := am ((by rw [hg]; exact (by first | exact HK.out.1 | exact (show Kept w _ (fun k_ => P0_2_ k_) from u39HK).1) : w.heap.size ≤ gb1145)); have n5_ := am ((by rw [hg]; exact (below_size bl) : w0.heap.size ≤ gb1145)); clear HO0_2; clear HK; clear HB; have HO0_2 := n0_; have HK := n1_; have HB := n2_; have BK1145 := n3_; have GW1145 := n4_; have GE1145 := n5_; clear n0_ n1_ n2_ n3_ n4_ n5_; clear hb hbox hg; obtain ⟨z6_0, y6_0, z6_1, y6_1, z6_2, y6_2, z6_3, y6_3⟩ := cl4 BK1145) | (refine gl 8 Tryd.func97 #[.slice Ao4 l0_2.length co4, .int .i64 a1] ?_; (with_reducible refine (laws_markFieldS.calls k (fun k_ => some k_ = (.slice Ao4 l0_2.length co4 : Value).ownBlock) (.slice Ao4 l0_2.length co4) l0_2 a1 t1146 t1147 w0 _ ?side1 ?side2 A3.out).mono ?_); (case side1 => exact u39HB); (case side2 => exact Kd.R_tight rfl HO0_2.out); rintro e w7 ⟨rfl, hy0, hb, hkp⟩; refine ⟨_, rfl, ?_⟩; replace BK1145 := am (blk_kept (bk BK1145) hkp (fun hs_ => (fun e_ => (Kd.R_ne HO0_2.out BK1145.out (by decide)) e_) hs_)); replace HK := am (Kept.then_ (S := (fun k_ => P0_2_ k_)) u39HK hkp (fun k_ hs_ => (fun e_ => (HO0_2.out.1 k_ e_.symm)) hs_)); replace HO0_2 := am (Kd.R_reok rfl hy0 (fun k_ e_ => HO0_2.out.1 k_ e_)); replace HB := am (hb); clear hb; (try clear hkp); (try clear hy0)))
 go_ret
 exact ⟨rf, by (with_reducible repeat (first | apply Kd.R_alloc | apply Kd.R_drewN | apply Kd.R_drew)); exact HO0_2.out, u39HB, u39HK⟩

/-! ### laws_heldFieldS: function 98 -/
theorem u98HB {p : Prop} (h : p := by repeat (first | (with_reducible first | exact HB.out | apply below_alloc | apply pw_below_drewN | apply below_drew1) | exact HB.out)) : p := h
def laws_heldFieldS.l0 : Nat → List (S84) → Int → Int → Option (Int)
 | 0, _, _, _ => none
 | k + 1, x0, x1, x5 => if x5 < (x0.length : Int) then (if 0 ≤ x5 then ((laws_markText.f k x1).bind fun t1149 => (if ((rd_T84 x0 x5).f0).toList = t1149.toList then ((laws_markText.f k (wrap64 (x1 + 1))).bind fun t1151 => (if ((rd_T84 x0 x5).f1).toList = t1151.toList then (laws_heldFieldS.l0 k x0 (wrap64 ((wrap64 (x1 + 1)) + 1)) (wrap64 (x5 + 1))) else (some (-1)))) else (some (-1)))) else (none)) else (some x1)
def laws_heldFieldS.f (k : Nat) (l0 : List (S84)) (a1 : Int) : Option (Int) := laws_heldFieldS.l0 k l0 a1 0
theorem laws_heldFieldS.mono_l : ∀ k, (∀ y0 y1 y2, LeO (laws_heldFieldS.l0 k y0 y1 y2) (laws_heldFieldS.l0 (k + 1) y0 y1 y2))
 | 0 => fun _ _ _ r h => by simp [laws_heldFieldS.l0] at h
 | k + 1 => by
  have ih0 := laws_heldFieldS.mono_l k
  ·intro y0 y1 y2
   unfold laws_heldFieldS.l0
   have m0 := @laws_markText.mono
   exact mo
theorem laws_heldFieldS.mono : ∀ a0 a1 k, LeO (laws_heldFieldS.f k a0 a1) (laws_heldFieldS.f (k + 1) a0 a1) := by
 intro a0 a1 k
 have ih0 := laws_heldFieldS.mono_l k
 unfold laws_heldFieldS.f
 have m0 := @laws_markText.mono
 exact mo
def laws_heldFieldS.T4 : Bool × List (List Nat × List Nat) := (true, [([], []), ([], []), ([0, 1], [0, 1]), ([2], [2]), ([3], [3]), ([], []), ([5], [5]), ([4, 6], [4, 6])])
def laws_heldFieldS.B4 : List Nat := [0, 0, 3, 7, 15, 0, 32, 127]
theorem laws_heldFieldS.tab4 : rtab .any (opsOf Tryd.f98 4) = laws_heldFieldS.T4 := by kernel_rfl
theorem laws_heldFieldS.bits4 : waitsOk laws_heldFieldS.T4.2 laws_heldFieldS.B4 = true := by kernel_rfl
def laws_heldFieldS.T7 : Bool × List (List Nat × List Nat) := (true, [([], []), ([], []), ([0, 1], [0, 1]), ([2], [2]), ([3], [3]), ([], []), ([5], [5]), ([4, 6], [4, 6])])
def laws_heldFieldS.B7 : List Nat := [0, 0, 3, 7, 15, 0, 32, 127]
theorem laws_heldFieldS.tab7 : rtab .any (opsOf Tryd.f98 7) = laws_heldFieldS.T7 := by kernel_rfl
theorem laws_heldFieldS.bits7 : waitsOk laws_heldFieldS.T7.2 laws_heldFieldS.B7 = true := by kernel_rfl
set_option maxHeartbeats 8000000 in
set_option maxRecDepth 100000 in
theorem laws_heldFieldS.calls (k : Nat) (A0 : Option Addr) (c0 : Nat) (l0 : List (S84)) (a1 : Int) (r : Int) (w : World) (hr0 : Kd.C k84 w A0 l0.length l0) (hc0 : l0.length ≤ c0) (h : laws_heldFieldS.f k l0 a1 = some r) :
  Calls Tryd.prog 98 #[.slice A0 l0.length c0, .int .i64 a1] w fun e w' => e = .returned (.int .i64 r) ∧ Below w.heap.size w w' := by
 have HR0 := am hr0
 have HC0 := am hc0
 clear hr0 hc0
 have HB := am (Below.refl w.heap.size w)
 unfold laws_heldFieldS.f at h
 have H := h
 clear h
 have H' := am H
 clear H
 go_enter Tryd.func98, Tryd.ntmps98
 go_wp2
 (try simp only [Act.put, List.setIfInBounds_toArray, List.set_cons_zero, List.set_cons_succ])
 go_loopg [1, 5] k (fun kq v1 v5 w' => ∃ (x1_1 : Int) (x5_1 : Int), v1 = .int .i64 x1_1 ∧ v5 = .int .i64 x5_1 ∧ Aside0 (laws_heldFieldS.l0 kq l0 x1_1 x5_1 = some r) ∧ Aside0 (kq ≤ k) ∧ Aside0 (Below w.heap.size w w'))
 case atStart => exact ⟨(a1), (0), rs, rs, H', ⟨Nat.le_refl _⟩, ⟨u98HB⟩⟩
 case round =>
  clear H'
  try clear p2
  obtain ⟨x1_1, x5_1, rfl, rfl, HA, HK1, HB⟩ := hrel
  cases gk with
  | zero => exact absurd HA.out (by simp [laws_heldFieldS.l0])
  | succ k1 =>
   have H := HA.out
   clear HA
   simp only [laws_heldFieldS.l0] at H
   by_cases c3 : x5_1 < (l0.length : Int)
   rotate_left
   ·rw [if_neg c3] at H
    have c3b0 := decide_eq_false c3
    clear c3
    obtain rfl := Option.some.inj H
    go_wp2
    go_ret
    exact ⟨rf, bl⟩
   rw [if_pos c3] at H
   have c3b0 := decide_eq_true c3
   clear c3
   revert H
   refine ifn fun c4 H => ?_
   have c4b0 := decide_eq_true c4
   clear c4
   revert H
   refine ok1 fun t1149 A5 H => ?_
   by_cases c6 : ((rd_T84 l0 x5_1).f0).toList = t1149.toList
   rotate_left
   ·rw [if_neg c6] at H
    have c6b0 : (((rd_T84 l0 x5_1).f0).toList == t1149.toList) = false := beq_eq_false_iff_ne.mpr c6
    have c6b1 : (((rd_T84 l0 x5_1).f0).toList != t1149.toList) = true := bne_iff_ne.mpr c6
    obtain rfl := Option.some.inj H
    try go_wp2
    replace HB := am (below_drew1 HB.out)
    have p1148 : 0 ≤ (x5_1 : Int) := od
    have q1148 : x5_1 < (l0.length : Int) := od
    obtain ⟨ad1148, e1148, hx1148_0, hx1148_1⟩ := at_T84 HR0.out x5_1 p1148 q1148
    have hw1148_1 := hx1148_1
    have hw1148_0 := hx1148_0
    cases e1148
    replace hx1148_0 := hcw hx1148_0
    replace hx1148_1 := hcw hx1148_1
    replace p1148 := eq_true p1148
    replace q1148 := eq_true q1148
    refine start_ (n := 8) (S := fun w' => w'.cell? (ad1148.add ((x5_1).toNat * 2)) = some (.string ((rd_T84 l0 x5_1).f0)) ∧ w'.cell? ⟨(ad1148.add ((x5_1).toNat * 2)).block, (ad1148.add ((x5_1).toNat * 2)).off + 1, none⟩ = some (.string ((rd_T84 l0 x5_1).f1))) (ds := []) ⟨br true [0, 8]⟩ (by kernel_rfl) rfl (by kernel_rfl) ⟨(hcw hw1148_0), (hcw hw1148_1)⟩ (fun hHeld => ?_); refine with_tabW laws_heldFieldS.tab4 laws_heldFieldS.bits4 (fun HT_ HW_ => ?_)
    generalize wr.drew = w17 at HB hx1148_0 hx1148_1 hHeld ⊢
    refine pu 0 12 [1, 7] ?_
    refine pu 1 13 [2, 6] ?_
    refine pu 2 14 [3, 5] ?_
    refine pu 3 15 [4, 4] ?_
    refine pu 5 17 [4, 1, 1, 2] ?_
    refine tk 4 16 [6, 2] ?_
    refine og 6 18 [7, 1] Tryd.func132 #[.int .i64 x1_1] (fun K hK => ?_)
    with_reducible refine (laws_markText.calls k1 x1_1 t1149 _ A5.out).mono ?_
    rintro e w18 ⟨rfl, hb⟩
    refine ⟨_, rfl, ?_⟩
    replace HB := am (below_step bl hb)
    clear hb
    refine hK.out _ _ ⟨(hcw hw1148_0), (hcw hw1148_1)⟩ (fun hHeld => ?_)
    clear hK K
    refine nm 18 ?_
    refine pu 7 19 [8] ?_
    refine done_ (done_of HT_.out (by kernel_rfl)) ?_
    try go_wp2
    go_ret
    exact ⟨rf, bl⟩
   rw [if_pos c6] at H
   have c6b0 : (((rd_T84 l0 x5_1).f0).toList == t1149.toList) = true := beq_iff_eq.mpr c6
   have c6b1 : (((rd_T84 l0 x5_1).f0).toList != t1149.toList) = false := bne_eq_false_iff_eq.mpr c6
   clear c6
   revert H
   refine ok1 fun t1151 A7 H => ?_
   by_cases c8 : ((rd_T84 l0 x5_1).f1).toList = t1151.toList
   rotate_left
   ·rw [if_neg c8] at H
    have c8b0 : (((rd_T84 l0 x5_1).f1).toList == t1151.toList) = false := beq_eq_false_iff_ne.mpr c8
    have c8b1 : (((rd_T84 l0 x5_1).f1).toList != t1151.toList) = true := bne_iff_ne.mpr c8
    obtain rfl := Option.some.inj H
    try go_wp2
    replace HB := am (below_drew1 HB.out)
    have p1148 : 0 ≤ (x5_1 : Int) := od
    have q1148 : x5_1 < (l0.length : Int) := od
    obtain ⟨ad1148, e1148, hx1148_0, hx1148_1⟩ := at_T84 HR0.out x5_1 p1148 q1148
    have hw1148_1 := hx1148_1
    have hw1148_0 := hx1148_0
    cases e1148
    replace hx1148_0 := hcw hx1148_0
    replace hx1148_1 := hcw hx1148_1
    replace p1148 := eq_true p1148
    replace q1148 := eq_true q1148
    refine start_ (n := 8) (S := fun w' => w'.cell? (ad1148.add ((x5_1).toNat * 2)) = some (.string ((rd_T84 l0 x5_1).f0)) ∧ w'.cell? ⟨(ad1148.add ((x5_1).toNat * 2)).block, (ad1148.add ((x5_1).toNat * 2)).off + 1, none⟩ = some (.string ((rd_T84 l0 x5_1).f1))) (ds := []) ⟨br true [0, 8]⟩ (by kernel_rfl) rfl (by kernel_rfl) ⟨(hcw hw1148_0), (hcw hw1148_1)⟩ (fun hHeld => ?_); refine with_tabW laws_heldFieldS.tab4 laws_heldFieldS.bits4 (fun HT_ HW_ => ?_)
    generalize wr.drew = w13 at HB hx1148_0 hx1148_1 hHeld ⊢
    refine pu 0 12 [1, 7] ?_
    refine pu 1 13 [2, 6] ?_
    refine pu 2 14 [3, 5] ?_
    refine pu 3 15 [4, 4] ?_
    refine pu 5 17 [4, 1, 1, 2] ?_
    refine tk 4 16 [6, 2] ?_
    refine og 6 18 [7, 1] Tryd.func132 #[.int .i64 x1_1] (fun K hK => ?_)
    with_reducible refine (laws_markText.calls k1 x1_1 t1149 _ A5.out).mono ?_
    rintro e w14 ⟨rfl, hb⟩
    refine ⟨_, rfl, ?_⟩
    replace HB := am (below_step bl hb)
    clear hb
    refine hK.out _ _ ⟨(hcw hw1148_0), (hcw hw1148_1)⟩ (fun hHeld => ?_)
    clear hK K
    refine nm 18 ?_
    refine pu 7 19 [8] ?_
    refine done_ (done_of HT_.out (by kernel_rfl)) ?_
    try go_wp2
    replace HB := am (below_drew1 HB.out)
    have p1150 : 0 ≤ (x5_1 : Int) := od
    have q1150 : x5_1 < (l0.length : Int) := od
    obtain ⟨ad1150, e1150, hx1150_0, hx1150_1⟩ := at_T84 HR0.out x5_1 p1150 q1150
    have hw1150_1 := hx1150_1
    have hw1150_0 := hx1150_0
    obtain rfl : ad1148 = ad1150 := (by injection e1150)
    replace hx1150_0 := hcw hx1150_0
    replace hx1150_1 := hcw hx1150_1
    replace p1150 := eq_true p1150
    replace q1150 := eq_true q1150
    refine start_ (n := 8) (S := fun w' => w'.cell? (ad1148.add ((x5_1).toNat * 2)) = some (.string ((rd_T84 l0 x5_1).f0)) ∧ w'.cell? ⟨(ad1148.add ((x5_1).toNat * 2)).block, (ad1148.add ((x5_1).toNat * 2)).off + 1, none⟩ = some (.string ((rd_T84 l0 x5_1).f1))) (ds := []) ⟨br true [0, 8]⟩ (by kernel_rfl) rfl (by kernel_rfl) ⟨(hcw hw1150_0), (hcw hw1150_1)⟩ (fun hHeld => ?_); refine with_tabW laws_heldFieldS.tab7 laws_heldFieldS.bits7 (fun HT_ HW_ => ?_)
    generalize w14.drew = w15 at HB hx1150_0 hx1150_1 hHeld ⊢
    refine pu 0 22 [1, 7] ?_
    refine pu 1 23 [2, 6] ?_
    refine pu 2 24 [3, 5] ?_
    refine pu 3 25 [4, 4] ?_
    refine pu 5 27 [4, 1, 1, 2] ?_
    refine tk 4 26 [6, 2] ?_
    refine og 6 28 [7, 1] Tryd.func132 #[.int .i64 (wrap64 (x1_1 + 1))] (fun K hK => ?_)
    with_reducible refine (laws_markText.calls k1 (wrap64 (x1_1 + 1)) t1151 _ A7.out).mono ?_
    rintro e w16 ⟨rfl, hb⟩
    refine ⟨_, rfl, ?_⟩
    replace HB := am (below_step bl hb)
    clear hb
    refine hK.out _ _ ⟨(hcw hw1150_0), (hcw hw1150_1)⟩ (fun hHeld => ?_)
    clear hK K
    refine nm 28 ?_
    refine pu 7 29 [8] ?_
    refine done_ (done_of HT_.out (by kernel_rfl)) ?_
    try go_wp2
    go_ret
    exact ⟨rf, bl⟩
   rw [if_pos c8] at H
   have c8b0 : (((rd_T84 l0 x5_1).f1).toList == t1151.toList) = true := beq_iff_eq.mpr c8
   have c8b1 : (((rd_T84 l0 x5_1).f1).toList != t1151.toList) = false := bne_eq_false_iff_eq.mpr c8
   clear c8
   have H' := am H
   clear H
   try go_wp2
   replace HB := am (below_drew1 HB.out)
   have p1148 : 0 ≤ (x5_1 : Int) := od
   have q1148 : x5_1 < (l0.length : Int) := od
   obtain ⟨ad1148, e1148, hx1148_0, hx1148_1⟩ := at_T84 HR0.out x5_1 p1148 q1148
   have hw1148_1 := hx1148_1
   have hw1148_0 := hx1148_0
   cases e1148
   replace hx1148_0 := hcw hx1148_0
   replace hx1148_1 := hcw hx1148_1
   replace p1148 := eq_true p1148
   replace q1148 := eq_true q1148
   refine start_ (n := 8) (S := fun w' => w'.cell? (ad1148.add ((x5_1).toNat * 2)) = some (.string ((rd_T84 l0 x5_1).f0)) ∧ w'.cell? ⟨(ad1148.add ((x5_1).toNat * 2)).block, (ad1148.add ((x5_1).toNat * 2)).off + 1, none⟩ = some (.string ((rd_T84 l0 x5_1).f1))) (ds := []) ⟨br true [0, 8]⟩ (by kernel_rfl) rfl (by kernel_rfl) ⟨(hcw hw1148_0), (hcw hw1148_1)⟩ (fun hHeld => ?_); refine with_tabW laws_heldFieldS.tab4 laws_heldFieldS.bits4 (fun HT_ HW_ => ?_)
   generalize wr.drew = w9 at HB hx1148_0 hx1148_1 hHeld ⊢
   refine pu 0 12 [1, 7] ?_
   refine pu 1 13 [2, 6] ?_
   refine pu 2 14 [3, 5] ?_
   refine pu 3 15 [4, 4] ?_
   refine pu 5 17 [4, 1, 1, 2] ?_
   refine tk 4 16 [6, 2] ?_
   refine og 6 18 [7, 1] Tryd.func132 #[.int .i64 x1_1] (fun K hK => ?_)
   with_reducible refine (laws_markText.calls k1 x1_1 t1149 _ A5.out).mono ?_
   rintro e w10 ⟨rfl, hb⟩
   refine ⟨_, rfl, ?_⟩
   replace HB := am (below_step bl hb)
   clear hb
   refine hK.out _ _ ⟨(hcw hw1148_0), (hcw hw1148_1)⟩ (fun hHeld => ?_)
   clear hK K
   refine nm 18 ?_
   refine pu 7 19 [8] ?_
   refine done_ (done_of HT_.out (by kernel_rfl)) ?_
   try go_wp2
   replace HB := am (below_drew1 HB.out)
   have p1150 : 0 ≤ (x5_1 : Int) := od
   have q1150 : x5_1 < (l0.length : Int) := od
   obtain ⟨ad1150, e1150, hx1150_0, hx1150_1⟩ := at_T84 HR0.out x5_1 p1150 q1150
   have hw1150_1 := hx1150_1
   have hw1150_0 := hx1150_0
   obtain rfl : ad1148 = ad1150 := (by injection e1150)
   replace hx1150_0 := hcw hx1150_0
   replace hx1150_1 := hcw hx1150_1
   replace p1150 := eq_true p1150
   replace q1150 := eq_true q1150
   refine start_ (n := 8) (S := fun w' => w'.cell? (ad1148.add ((x5_1).toNat * 2)) = some (.string ((rd_T84 l0 x5_1).f0)) ∧ w'.cell? ⟨(ad1148.add ((x5_1).toNat * 2)).block, (ad1148.add ((x5_1).toNat * 2)).off + 1, none⟩ = some (.string ((rd_T84 l0 x5_1).f1))) (ds := []) ⟨br true [0, 8]⟩ (by kernel_rfl) rfl (by kernel_rfl) ⟨(hcw hw1150_0), (hcw hw1150_1)⟩ (fun hHeld => ?_); refine with_tabW laws_heldFieldS.tab7 laws_heldFieldS.bits7 (fun HT_ HW_ => ?_)
   generalize w10.drew = w11 at HB hx1150_0 hx1150_1 hHeld ⊢
   refine pu 0 22 [1, 7] ?_
   refine pu 1 23 [2, 6] ?_
   refine pu 2 24 [3, 5] ?_
   refine pu 3 25 [4, 4] ?_
   refine pu 5 27 [4, 1, 1, 2] ?_
   refine tk 4 26 [6, 2] ?_
   refine og 6 28 [7, 1] Tryd.func132 #[.int .i64 (wrap64 (x1_1 + 1))] (fun K hK => ?_)
   with_reducible refine (laws_markText.calls k1 (wrap64 (x1_1 + 1)) t1151 _ A7.out).mono ?_
   rintro e w12 ⟨rfl, hb⟩
   refine ⟨_, rfl, ?_⟩
   replace HB := am (below_step bl hb)
   clear hb
   refine hK.out _ _ ⟨(hcw hw1150_0), (hcw hw1150_1)⟩ (fun hHeld => ?_)
   clear hK K
   refine nm 28 ?_
   refine pu 7 29 [8] ?_
   refine done_ (done_of HT_.out (by kernel_rfl)) ?_
   try go_wp2
   go_roundg k1
   case measure => have := HK1.out; omega
   case rel => exact ⟨(wrap64 ((wrap64 (x1_1 + 1)) + 1)), (wrap64 (x5_1 + 1)), rs, rs, H', ⟨by have := HK1.out; omega⟩, ⟨u98HB⟩⟩

/-! ### laws_heldReq: function 40 -/
def laws_heldReq.f (k : Nat) (a0_0 : Int) (a0_1 : ByteArray) (l0_2 : List (S84)) (a0_3 : ByteArray) (a1 : Int) : Option (Int) := (laws_heldFieldS.f k l0_2 a1).bind fun t1153 => (if t1153 < 0 then (some (-1)) else (some t1153))
theorem laws_heldReq.mono : ∀ a0 a1 a2 a3 a4 k, LeO (laws_heldReq.f k a0 a1 a2 a3 a4) (laws_heldReq.f (k + 1) a0 a1 a2 a3 a4) := by
 intro a0 a1 a2 a3 a4 k
 unfold laws_heldReq.f
 have m0 := @laws_heldFieldS.mono
 exact mo
set_option maxHeartbeats 8000000 in
set_option maxRecDepth 100000 in
theorem laws_heldReq.calls (k : Nat) (a0_0 : Int) (a0_1 : ByteArray) (A0_2 : Option Addr) (c0_2 : Nat) (l0_2 : List (S84)) (a0_3 : ByteArray) (a1 : Int) (r : Int) (w : World) (hr0_2 : Kd.C k84 w A0_2 l0_2.length l0_2) (hc0_2 : l0_2.length ≤ c0_2) (h : laws_heldReq.f k a0_0 a0_1 l0_2 a0_3 a1 = some r) :
  Calls Tryd.prog 40 #[.agg #[.int .i64 a0_0, .string a0_1, .slice A0_2 l0_2.length c0_2, .string a0_3], .int .i64 a1] w fun e w' => e = .returned (.int .i64 r) ∧ Below w.heap.size w w' := by
 have hu26 := Tryd.underlying26
 have HR0_2 := am hr0_2
 have HC0_2 := am hc0_2
 clear hr0_2 hc0_2
 have HB := am (Below.refl w.heap.size w)
 unfold laws_heldReq.f at h
 have H := h
 clear h
 revert H
 refine ok1 fun t1153 A3 H => ?_
 by_cases c4 : t1153 < 0
 ·rw [if_pos c4] at H
  have c4b0 := decide_eq_true c4
  clear c4
  obtain rfl := Option.some.inj H
  go_enter Tryd.func40, Tryd.ntmps40
  go_wp2_with (first | (refine bx 2 #[.int .i64 a0_0, .string a0_1, .slice A0_2 l0_2.length c0_2, .string a0_3] 26 ?_; intro gb1152 hg w5 hbox hb; have BK1152 := am (hbox); have GW1152 := am (sz hg : w.heap.size ≤ gb1152); have GE1152 := am (sz hg : w.heap.size ≤ gb1152); replace HB := am (below_step bl hb); clear hb hbox hg; obtain ⟨z6_0, y6_0, z6_1, y6_1, z6_2, y6_2, z6_3, y6_3⟩ := cl4 BK1152) | (refine gl 8 Tryd.func98 #[.slice A0_2 l0_2.length c0_2, .int .i64 a1] ?_; (with_reducible refine (laws_heldFieldS.calls k _ _ l0_2 a1 t1153 _ ?side1 ?side2 A3.out).mono ?_); (case side1 => exact cb HR0_2); (case side2 => exact HC0_2.out); rintro e w7 ⟨rfl, hb⟩; refine ⟨_, rfl, ?_⟩; replace BK1152 := kb BK1152 hb; replace HB := am (below_step bl hb); clear hb))
  go_ret
  exact ⟨rf, bl⟩
 rw [if_neg c4] at H
 have c4b0 := decide_eq_false c4
 clear c4
 obtain rfl := Option.some.inj H
 go_enter Tryd.func40, Tryd.ntmps40
 go_wp2_with (first | (refine bx 2 #[.int .i64 a0_0, .string a0_1, .slice A0_2 l0_2.length c0_2, .string a0_3] 26 ?_; intro gb1152 hg w8 hbox hb; have BK1152 := am (hbox); have GW1152 := am (sz hg : w.heap.size ≤ gb1152); have GE1152 := am (sz hg : w.heap.size ≤ gb1152); replace HB := am (below_step bl hb); clear hb hbox hg; obtain ⟨z9_0, y9_0, z9_1, y9_1, z9_2, y9_2, z9_3, y9_3⟩ := cl4 BK1152) | (refine gl 8 Tryd.func98 #[.slice A0_2 l0_2.length c0_2, .int .i64 a1] ?_; (with_reducible refine (laws_heldFieldS.calls k _ _ l0_2 a1 t1153 _ ?side1 ?side2 A3.out).mono ?_); (case side1 => exact cb HR0_2); (case side2 => exact HC0_2.out); rintro e w10 ⟨rfl, hb⟩; refine ⟨_, rfl, ?_⟩; replace BK1152 := kb BK1152 hb; replace HB := am (below_step bl hb); clear hb))
 go_ret
 exact ⟨rf, bl⟩

end Go.Proofs.YtkgdcfaogdmcgaaDoor.All
