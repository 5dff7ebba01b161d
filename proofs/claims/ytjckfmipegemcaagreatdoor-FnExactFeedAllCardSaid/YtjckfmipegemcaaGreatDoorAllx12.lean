-- Written by a program of this session (wip/tools/hprint.py) out of the translation. Lean checks it.
import Derived.Test.YtjckfmipegemcaaGreatDoorAllx0
namespace Go.Proofs.YtjckfmipegemcaaGreatDoor.All
open Go.RowKit Go.Proofs.YtjckfmipegemcaaGreatDoorW.PrintWords Go.Proofs.YtjckfmipegemcaaGreatDoorW.PrintLast Go.Proofs.YtjckfmipegemcaaGreatDoorW.PrintMore
attribute [local go_sem] max2_int min2_int max_two min_two max_three min_three max_four min_four   -- for this text's walks alone
set_option linter.unusedVariables false
set_option linter.unusedSimpArgs false

/-! ### laws_szStream: function 15 -/
def laws_szStream.f (a0_0 : ByteArray) (a0_1 : Bool) (a1 : Int) : Option (Int) := if (wrap64 (a1 - (a0_0.size : Int))) < 0 then (some (-1)) else (some (wrap64 (a1 - (a0_0.size : Int))))
set_option maxHeartbeats 8000000 in
set_option maxRecDepth 100000 in
theorem laws_szStream.calls (a0_0 : ByteArray) (a0_1 : Bool) (a1 : Int) (r : Int) (w : World) (h : laws_szStream.f a0_0 a0_1 a1 = some r) :
  Calls Tryz.prog 15 #[.agg #[.string a0_0, .bool a0_1], .int .i64 a1] w fun e w' => e = .returned (.int .i64 r) ∧ Below w.heap.size w w' := by
 have hu41 := Tryz.underlying41
 have HB := am (Below.refl w.heap.size w)
 unfold laws_szStream.f at h
 have H := h
 clear h
 by_cases c3 : (wrap64 (a1 - (a0_0.size : Int))) < 0
 ·rw [if_pos c3] at H
  have c3b0 := decide_eq_true c3
  clear c3
  obtain rfl := Option.some.inj H
  go_enter Tryz.func15, Tryz.ntmps15
  go_wp2_with ((with_reducible refine gw ?_); first | (refine bx 2 #[.string a0_0, .bool a0_1] 41 ?_; intro gb511 hg w4 hbox hb; have BK511 := am (hbox); have GW511 := am (sz hg : w.heap.size ≤ gb511); have GE511 := am (sz hg : w.heap.size ≤ gb511); replace HB := am (below_step bl hb); clear hb hbox hg; obtain ⟨z5_0, y5_0, z5_1, y5_1⟩ := cl2 BK511))
  go_ret
  exact ⟨rf, bl⟩
 rw [if_neg c3] at H
 have c3b0 := decide_eq_false c3
 clear c3
 obtain rfl := Option.some.inj H
 go_enter Tryz.func15, Tryz.ntmps15
 go_wp2_with ((with_reducible refine gw ?_); first | (refine bx 2 #[.string a0_0, .bool a0_1] 41 ?_; intro gb511 hg w6 hbox hb; have BK511 := am (hbox); have GW511 := am (sz hg : w.heap.size ≤ gb511); have GE511 := am (sz hg : w.heap.size ≤ gb511); replace HB := am (below_step bl hb); clear hb hbox hg; obtain ⟨z7_0, y7_0, z7_1, y7_1⟩ := cl2 BK511))
 go_ret
 exact ⟨rf, bl⟩

/-! ### laws_toStream: function 16 -/
def laws_toStream.f (a0_0 : ByteArray) (a0_1 : Bool) : Option (ByteArray × Bool) := some (a0_0, a0_1)
set_option maxHeartbeats 8000000 in
set_option maxRecDepth 100000 in
theorem laws_toStream.calls (a0_0 : ByteArray) (a0_1 : Bool) (r1 : ByteArray) (r2 : Bool) (w : World) (h : laws_toStream.f a0_0 a0_1 = some (r1, r2)) :
  Calls Tryz.prog 16 #[.agg #[.string a0_0, .bool a0_1]] w fun e w' => e = .returned (.agg #[.string r1, .bool r2]) ∧ Below w.heap.size w w' := by
 have hu41 := Tryz.underlying41
 have hu25 := Tryz.underlying25
 have HB := am (Below.refl w.heap.size w)
 unfold laws_toStream.f at h
 have H := h
 clear h
 simp only [Option.some.injEq, Prod.mk.injEq] at H
 obtain ⟨rfl, rfl⟩ := H
 go_enter Tryz.func16, Tryz.ntmps16
 go_wp2_with ((with_reducible refine gw ?_); first | (refine bx 1 #[.string a0_0, .bool a0_1] 41 ?_; intro gb512 hg w2 hbox hb; have BK512 := am (hbox); have GW512 := am (sz hg : w.heap.size ≤ gb512); have GE512 := am (sz hg : w.heap.size ≤ gb512); replace HB := am (below_step bl hb); clear hb hbox hg) | (refine bx 2 #[.string (⟨#[]⟩ : ByteArray), .bool false] 25 ?_; intro gb513 hg w3 hbox hb; have BK513 := am (hbox); have GW513 := am (sz hg : w.heap.size ≤ gb513); have GE513 := am (sz hg : w.heap.size ≤ gb513); replace HB := am (below_step bl hb); have NB512_513 := am (nl hg BK512 : gb512 ≠ gb513); have NB513_512 := am (ng hg BK512 : gb513 ≠ gb512); replace BK512 := kb BK512 hb; clear hb hbox hg) | (refine bx 3 #[.string (⟨#[]⟩ : ByteArray), .bool false] 25 ?_; intro gb514 hg w4 hbox hb; have BK514 := am (hbox); have GW514 := am (sz hg : w.heap.size ≤ gb514); have GE514 := am (sz hg : w.heap.size ≤ gb514); replace HB := am (below_step bl hb); have NB512_514 := am (nl hg BK512 : gb512 ≠ gb514); have NB514_512 := am (ng hg BK512 : gb514 ≠ gb512); replace BK512 := kb BK512 hb; have NB513_514 := am (nl hg BK513 : gb513 ≠ gb514); have NB514_513 := am (ng hg BK513 : gb514 ≠ gb513); replace BK513 := kb BK513 hb; clear hb hbox hg; have hnb5 := NB512_513.out; have hnc5 := NB513_512.out; have hnb6 := NB512_514.out; have hnc6 := NB514_512.out; obtain ⟨z7_0, y7_0, z7_1, y7_1⟩ := cl2 BK512; have hnb8 := NB514_513.out; have hnc8 := NB513_514.out; obtain ⟨z9_0, y9_0, z9_1, y9_1⟩ := cl2 BK514; obtain ⟨z10_0, y10_0, z10_1, y10_1⟩ := cl2 BK513))
 refine bodyPost_ret (results_cell_row rfl _ _ gb513 25 #[.string a0_0, .bool a0_1] (0, 0) _ rfl (pt1 BK513 NB513_514) Tryz.underlying25 rfl (by kernel_rfl)) rfl ?_
 exact ⟨rf, bl⟩

/-! ### laws_eqStream: function 17 -/
def laws_eqStream.f (a0_0 : ByteArray) (a0_1 : Bool) (a1_0 : ByteArray) (a1_1 : Bool) : Option (Bool) := if a0_0.toList = a1_0.toList then (if (a0_1 != a1_1) = true then (some false) else (some true)) else (some false)
set_option maxHeartbeats 8000000 in
set_option maxRecDepth 100000 in
theorem laws_eqStream.calls (a0_0 : ByteArray) (a0_1 : Bool) (a1_0 : ByteArray) (a1_1 : Bool) (r : Bool) (w : World) (h : laws_eqStream.f a0_0 a0_1 a1_0 a1_1 = some r) :
  Calls Tryz.prog 17 #[.agg #[.string a0_0, .bool a0_1], .agg #[.string a1_0, .bool a1_1]] w fun e w' => e = .returned (.bool r) ∧ Below w.heap.size w w' := by
 have hu25 := Tryz.underlying25
 have HB := am (Below.refl w.heap.size w)
 unfold laws_eqStream.f at h
 have H := h
 clear h
 have HH3 := am H
 clear H
 go_enter Tryz.func17, Tryz.ntmps17
 go_upto_if 9 with ((with_reducible refine gw ?_); first | (refine bx 2 #[.string a0_0, .bool a0_1] 25 ?_; intro gb515 hg w4 hbox hb; have BK515 := am (hbox); have GW515 := am (sz hg : w.heap.size ≤ gb515); have GE515 := am (sz hg : w.heap.size ≤ gb515); replace HB := am (below_step bl hb); clear hb hbox hg) | (refine bx 3 #[.string a1_0, .bool a1_1] 25 ?_; intro gb516 hg w5 hbox hb; have BK516 := am (hbox); have GW516 := am (sz hg : w.heap.size ≤ gb516); have GE516 := am (sz hg : w.heap.size ≤ gb516); replace HB := am (below_step bl hb); have NB515_516 := am (nl hg BK515 : gb515 ≠ gb516); have NB516_515 := am (ng hg BK515 : gb516 ≠ gb515); replace BK515 := kb BK515 hb; clear hb hbox hg; have hnb6 := NB515_516.out; have hnc6 := NB516_515.out; obtain ⟨z7_0, y7_0, z7_1, y7_1⟩ := cl2 BK515; obtain ⟨z8_0, y8_0, z8_1, y8_1⟩ := cl2 BK516))
 have H := HH3.out
 clear HH3
 by_cases c9 : a0_0.toList = a1_0.toList
 rotate_left
 ·rw [if_neg c9] at H
  have c9b0 : (a0_0.toList == a1_0.toList) = false := beq_eq_false_iff_ne.mpr c9
  have c9b1 : (a0_0.toList != a1_0.toList) = true := bne_iff_ne.mpr c9
  (first | rw [c9b0] | (simp only [i64_w, i32_w]; rw [c9b0]) | skip)
  obtain rfl := Option.some.inj H
  go_wp2
  go_ret
  exact ⟨rf, bl⟩
 rw [if_pos c9] at H
 have c9b0 : (a0_0.toList == a1_0.toList) = true := beq_iff_eq.mpr c9
 have c9b1 : (a0_0.toList != a1_0.toList) = false := bne_eq_false_iff_eq.mpr c9
 clear c9
 (first | rw [c9b0] | (simp only [i64_w, i32_w]; rw [c9b0]) | skip)
 by_cases c10 : (a0_1 != a1_1) = true
 rotate_left
 ·rw [if_neg c10] at H
  have c10b0 : (a0_1 != a1_1) = false := by simpa using c10
  (try (have c10b1 : decide (a0_1 = a1_1) = true := by simpa using c10))
  (try (have c10b2 : (a0_1 == a1_1) = true := by simpa using c10))
  clear c10
  obtain rfl := Option.some.inj H
  have hnb14 := NB515_516.out
  have hnc14 := NB516_515.out
  obtain ⟨z15_0, y15_0, z15_1, y15_1⟩ := cl2 BK515
  obtain ⟨z16_0, y16_0, z16_1, y16_1⟩ := cl2 BK516
  go_wp2
  go_ret
  exact ⟨rf, bl⟩
 rw [if_pos c10] at H
 have c10b0 : (a0_1 != a1_1) = true := c10
 (try (have c10b1 : decide (a0_1 = a1_1) = false := by simpa using c10))
 (try (have c10b2 : (a0_1 == a1_1) = false := by simpa using c10))
 (try (have c10b3 : ¬ (a0_1 = a1_1) := by simpa using c10))
 clear c10
 obtain rfl := Option.some.inj H
 have hnb11 := NB515_516.out
 have hnc11 := NB516_515.out
 obtain ⟨z12_0, y12_0, z12_1, y12_1⟩ := cl2 BK515
 obtain ⟨z13_0, y13_0, z13_1, y13_1⟩ := cl2 BK516
 go_wp2
 go_ret
 exact ⟨rf, bl⟩

/-! ### laws_eqField: function 89 -/
def laws_eqField.f (a0_0 : ByteArray) (a0_1 : ByteArray) (a1_0 : ByteArray) (a1_1 : ByteArray) : Option (Bool) := if a0_0.toList = a1_0.toList then (if a0_1.toList = a1_1.toList then (some true) else (some false)) else (some false)
set_option maxHeartbeats 8000000 in
set_option maxRecDepth 100000 in
theorem laws_eqField.calls (a0_0 : ByteArray) (a0_1 : ByteArray) (a1_0 : ByteArray) (a1_1 : ByteArray) (r : Bool) (w : World) (h : laws_eqField.f a0_0 a0_1 a1_0 a1_1 = some r) :
  Calls Tryz.prog 89 #[.agg #[.string a0_0, .string a0_1], .agg #[.string a1_0, .string a1_1]] w fun e w' => e = .returned (.bool r) ∧ Below w.heap.size w w' := by
 have hu81 := Tryz.underlying81
 have HB := am (Below.refl w.heap.size w)
 unfold laws_eqField.f at h
 have H := h
 clear h
 have HH3 := am H
 clear H
 go_enter Tryz.func89, Tryz.ntmps89
 go_upto_if 9 with ((with_reducible refine gw ?_); first | (refine bx 2 #[.string a0_0, .string a0_1] 81 ?_; intro gb517 hg w4 hbox hb; have BK517 := am (hbox); have GW517 := am (sz hg : w.heap.size ≤ gb517); have GE517 := am (sz hg : w.heap.size ≤ gb517); replace HB := am (below_step bl hb); clear hb hbox hg) | (refine bx 3 #[.string a1_0, .string a1_1] 81 ?_; intro gb518 hg w5 hbox hb; have BK518 := am (hbox); have GW518 := am (sz hg : w.heap.size ≤ gb518); have GE518 := am (sz hg : w.heap.size ≤ gb518); replace HB := am (below_step bl hb); have NB517_518 := am (nl hg BK517 : gb517 ≠ gb518); have NB518_517 := am (ng hg BK517 : gb518 ≠ gb517); replace BK517 := kb BK517 hb; clear hb hbox hg; have hnb6 := NB517_518.out; have hnc6 := NB518_517.out; obtain ⟨z7_0, y7_0, z7_1, y7_1⟩ := cl2 BK517; obtain ⟨z8_0, y8_0, z8_1, y8_1⟩ := cl2 BK518))
 have H := HH3.out
 clear HH3
 by_cases c9 : a0_0.toList = a1_0.toList
 rotate_left
 ·rw [if_neg c9] at H
  have c9b0 : (a0_0.toList == a1_0.toList) = false := beq_eq_false_iff_ne.mpr c9
  have c9b1 : (a0_0.toList != a1_0.toList) = true := bne_iff_ne.mpr c9
  (first | rw [c9b0] | (simp only [i64_w, i32_w]; rw [c9b0]) | skip)
  obtain rfl := Option.some.inj H
  go_wp2
  go_ret
  exact ⟨rf, bl⟩
 rw [if_pos c9] at H
 have c9b0 : (a0_0.toList == a1_0.toList) = true := beq_iff_eq.mpr c9
 have c9b1 : (a0_0.toList != a1_0.toList) = false := bne_eq_false_iff_eq.mpr c9
 clear c9
 (first | rw [c9b0] | (simp only [i64_w, i32_w]; rw [c9b0]) | skip)
 by_cases c10 : a0_1.toList = a1_1.toList
 rotate_left
 ·rw [if_neg c10] at H
  have c10b0 : (a0_1.toList == a1_1.toList) = false := beq_eq_false_iff_ne.mpr c10
  have c10b1 : (a0_1.toList != a1_1.toList) = true := bne_iff_ne.mpr c10
  obtain rfl := Option.some.inj H
  have hnb14 := NB517_518.out
  have hnc14 := NB518_517.out
  obtain ⟨z15_0, y15_0, z15_1, y15_1⟩ := cl2 BK517
  obtain ⟨z16_0, y16_0, z16_1, y16_1⟩ := cl2 BK518
  go_wp2
  go_ret
  exact ⟨rf, bl⟩
 rw [if_pos c10] at H
 have c10b0 : (a0_1.toList == a1_1.toList) = true := beq_iff_eq.mpr c10
 have c10b1 : (a0_1.toList != a1_1.toList) = false := bne_eq_false_iff_eq.mpr c10
 clear c10
 obtain rfl := Option.some.inj H
 have hnb11 := NB517_518.out
 have hnc11 := NB518_517.out
 obtain ⟨z12_0, y12_0, z12_1, y12_1⟩ := cl2 BK517
 obtain ⟨z13_0, y13_0, z13_1, y13_1⟩ := cl2 BK518
 go_wp2
 go_ret
 exact ⟨rf, bl⟩

/-! ### laws_eqFieldS: function 74 -/
theorem u74HB {p : Prop} (h : p := by repeat (first | (with_reducible first | exact HB.out | apply below_alloc | apply pw_below_drewN | apply below_drew1) | exact HB.out)) : p := h
def laws_eqFieldS.l0 : Nat → List (S81) → List (S81) → Int → Option (Bool)
 | 0, _, _, _ => none
 | k + 1, x0, x1, x5 => if x5 < (x0.length : Int) then (if 0 ≤ x5 then (if x5 < (x1.length : Int) then ((laws_eqField.f ((rd_T81 x0 x5).f0) ((rd_T81 x0 x5).f1) ((rd_T81 x1 x5).f0) ((rd_T81 x1 x5).f1)).bind fun t521 => (if t521 = true then (laws_eqFieldS.l0 k x0 x1 (wrap64 (x5 + 1))) else (some false))) else (none)) else (none)) else (some true)
def laws_eqFieldS.f (k : Nat) (l0 : List (S81)) (l1 : List (S81)) : Option (Bool) := if (l0.length : Int) = (l1.length : Int) then (laws_eqFieldS.l0 k l0 l1 0) else (some false)
theorem laws_eqFieldS.mono_l : ∀ k, (∀ y0 y1 y2, LeO (laws_eqFieldS.l0 k y0 y1 y2) (laws_eqFieldS.l0 (k + 1) y0 y1 y2))
 | 0 => fun _ _ _ r h => by simp [laws_eqFieldS.l0] at h
 | k + 1 => by
  have ih0 := laws_eqFieldS.mono_l k
  ·intro y0 y1 y2
   unfold laws_eqFieldS.l0
   exact mo
theorem laws_eqFieldS.mono : ∀ a0 a1 k, LeO (laws_eqFieldS.f k a0 a1) (laws_eqFieldS.f (k + 1) a0 a1) := by
 intro a0 a1 k
 have ih0 := laws_eqFieldS.mono_l k
 unfold laws_eqFieldS.f
 exact mo
def laws_eqFieldS.T6 : Bool × List (List Nat × List Nat) := (true, [([], []), ([], []), ([0, 1], [0, 1]), ([2], [2]), ([], []), ([], []), ([4, 5], [4, 5]), ([6], [6]), ([3, 7], [3, 7]), ([8], [8])])
def laws_eqFieldS.B6 : List Nat := [0, 0, 3, 7, 0, 0, 48, 112, 255, 511]
theorem laws_eqFieldS.tab6 : rtab .any (opsOf Tryz.f74 6) = laws_eqFieldS.T6 := by kernel_rfl
theorem laws_eqFieldS.bits6 : waitsOk laws_eqFieldS.T6.2 laws_eqFieldS.B6 = true := by kernel_rfl
set_option maxHeartbeats 8000000 in
set_option maxRecDepth 100000 in
theorem laws_eqFieldS.calls (k : Nat) (A0 : Option Addr) (c0 : Nat) (l0 : List (S81)) (A1 : Option Addr) (c1 : Nat) (l1 : List (S81)) (r : Bool) (w : World) (hr0 : Kd.C k81 w A0 l0.length l0) (hc0 : l0.length ≤ c0) (hr1 : Kd.C k81 w A1 l1.length l1) (hc1 : l1.length ≤ c1) (h : laws_eqFieldS.f k l0 l1 = some r) :
  Calls Tryz.prog 74 #[.slice A0 l0.length c0, .slice A1 l1.length c1] w fun e w' => e = .returned (.bool r) ∧ Below w.heap.size w w' := by
 have hu81 := Tryz.underlying81
 have HR0 := am hr0
 have HC0 := am hc0
 clear hr0 hc0
 have HR1 := am hr1
 have HC1 := am hc1
 clear hr1 hc1
 have HB := am (Below.refl w.heap.size w)
 unfold laws_eqFieldS.f at h
 have H := h
 clear h
 by_cases c3 : (l0.length : Int) = (l1.length : Int)
 rotate_left
 ·rw [if_neg c3] at H
  have c3b0 : ((l0.length : Int) == (l1.length : Int)) = false := beq_eq_false_iff_ne.mpr c3
  have c3b1 : ((l0.length : Int) != (l1.length : Int)) = true := bne_iff_ne.mpr c3
  have c3b2 : (l0.length == l1.length) = false := by first | simpa using c3 | (simp at c3 ⊢; omega)
  obtain rfl := Option.some.inj H
  go_enter Tryz.func74, Tryz.ntmps74
  go_wp2
  go_ret
  exact ⟨rf, bl⟩
 rw [if_pos c3] at H
 have c3b0 : ((l0.length : Int) == (l1.length : Int)) = true := beq_iff_eq.mpr c3
 have c3b1 : ((l0.length : Int) != (l1.length : Int)) = false := bne_eq_false_iff_eq.mpr c3
 have c3b2 : (l0.length == l1.length) = true := by first | simpa using c3 | (simp at c3 ⊢; omega)
 clear c3
 have H' := am H
 clear H
 go_enter Tryz.func74, Tryz.ntmps74
 go_wp2
 (try simp only [Act.put, List.setIfInBounds_toArray, List.set_cons_zero, List.set_cons_succ])
 go_loopg [5] k (fun kq v5 w' => ∃ (x5_1 : Int), v5 = .int .i64 x5_1 ∧ Aside0 (laws_eqFieldS.l0 kq l0 l1 x5_1 = some r) ∧ Aside0 (kq ≤ k) ∧ Aside0 (Below w.heap.size w w'))
 case atStart => exact ⟨(0), rs, H', ⟨Nat.le_refl _⟩, ⟨u74HB⟩⟩
 case round =>
  clear H'
  try clear c1
  try clear p2
  try clear c3
  try clear c3b0
  try clear c3b1
  try clear c3b2
  obtain ⟨x5_1, rfl, HA, HK1, HB⟩ := hrel
  cases gk with
  | zero => exact absurd HA.out (by simp [laws_eqFieldS.l0])
  | succ k1 =>
   have H := HA.out
   clear HA
   simp only [laws_eqFieldS.l0] at H
   by_cases c4 : x5_1 < (l0.length : Int)
   rotate_left
   ·rw [if_neg c4] at H
    have c4b0 := decide_eq_false c4
    clear c4
    obtain rfl := Option.some.inj H
    go_wp2
    go_ret
    exact ⟨rf, bl⟩
   rw [if_pos c4] at H
   have c4b0 := decide_eq_true c4
   clear c4
   revert H
   refine ifn fun c5 H => ?_
   have c5b0 := decide_eq_true c5
   clear c5
   revert H
   refine ifn fun c6 H => ?_
   have c6b0 := decide_eq_true c6
   clear c6
   revert H
   refine ok1 fun t521 A7 H => ?_
   have HH8 := am H
   clear H
   try go_wp2
   replace HB := am (below_drew1 HB.out)
   have p519 : 0 ≤ (x5_1 : Int) := od
   have q519 : x5_1 < (l0.length : Int) := od
   obtain ⟨ad519, e519, hx519_0, hx519_1⟩ := at_T81 HR0.out x5_1 p519 q519
   have hw519_1 := hx519_1
   have hw519_0 := hx519_0
   cases e519
   replace hx519_0 := hcw hx519_0
   replace hx519_1 := hcw hx519_1
   replace p519 := eq_true p519
   replace q519 := eq_true q519
   have p520 : 0 ≤ (x5_1 : Int) := od
   have q520 : x5_1 < (l1.length : Int) := od
   obtain ⟨ad520, e520, hx520_0, hx520_1⟩ := at_T81 HR1.out x5_1 p520 q520
   have hw520_1 := hx520_1
   have hw520_0 := hx520_0
   cases e520
   replace hx520_0 := hcw hx520_0
   replace hx520_1 := hcw hx520_1
   replace p520 := eq_true p520
   replace q520 := eq_true q520
   refine start_ (n := 10) (S := fun w' => w'.cell? (ad519.add ((x5_1).toNat * 2)) = some (.string ((rd_T81 l0 x5_1).f0)) ∧ w'.cell? ⟨(ad519.add ((x5_1).toNat * 2)).block, (ad519.add ((x5_1).toNat * 2)).off + 1, none⟩ = some (.string ((rd_T81 l0 x5_1).f1)) ∧ w'.cell? (ad520.add ((x5_1).toNat * 2)) = some (.string ((rd_T81 l1 x5_1).f0)) ∧ w'.cell? ⟨(ad520.add ((x5_1).toNat * 2)).block, (ad520.add ((x5_1).toNat * 2)).off + 1, none⟩ = some (.string ((rd_T81 l1 x5_1).f1))) (ds := []) ⟨br true [0, 10]⟩ (by kernel_rfl) rfl (by kernel_rfl) ⟨(hcw hw519_0), (hcw hw519_1), (hcw hw520_0), (hcw hw520_1)⟩ (fun hHeld => ?_); refine with_tabW laws_eqFieldS.tab6 laws_eqFieldS.bits6 (fun HT_ HW_ => ?_)
   generalize wr.drew = w9 at HB hx519_0 hx519_1 hx520_0 hx520_1 hHeld ⊢
   refine pu 0 17 [1, 9] ?_
   refine pu 1 18 [2, 8] ?_
   refine pu 2 19 [3, 7] ?_
   refine pu 4 21 [3, 1, 1, 5] ?_
   refine pu 5 22 [3, 1, 2, 4] ?_
   refine pu 6 23 [3, 1, 3, 3] ?_
   refine tk 3 20 [7, 3] ?_
   refine tk 7 24 [8, 2] ?_
   refine og 8 25 [9, 1] Tryz.func89 #[.agg #[.string ((rd_T81 l0 x5_1).f0), .string ((rd_T81 l0 x5_1).f1)], .agg #[.string ((rd_T81 l1 x5_1).f0), .string ((rd_T81 l1 x5_1).f1)]] (fun K hK => ?_)
   with_reducible refine (laws_eqField.calls ((rd_T81 l0 x5_1).f0) ((rd_T81 l0 x5_1).f1) ((rd_T81 l1 x5_1).f0) ((rd_T81 l1 x5_1).f1) t521 _ A7.out).mono ?_
   rintro e w10 ⟨rfl, hb⟩
   refine ⟨_, rfl, ?_⟩
   replace HB := am (below_step bl hb)
   clear hb
   refine hK.out _ _ ⟨(hcw hw519_0), (hcw hw519_1), (hcw hw520_0), (hcw hw520_1)⟩ (fun hHeld => ?_)
   clear hK K
   refine nm 25 ?_
   refine pu 9 26 [10] ?_
   refine done_ (done_of HT_.out (by kernel_rfl)) ?_
   go_upto_if 26 with (fail)
   have H := HH8.out
   clear HH8
   by_cases c11 : t521 = true
   rotate_left
   ·replace c11 := Bool.eq_false_iff.mpr c11
    subst c11
    rw [if_neg (show ¬ (false = true) by decide)] at H
    obtain rfl := Option.some.inj H
    go_wp2
    go_ret
    exact ⟨rf, bl⟩
   subst c11
   rw [if_pos rfl] at H
   have H' := am H
   clear H
   go_wp2
   go_roundg k1
   case measure => have := HK1.out; omega
   case rel => exact ⟨(wrap64 (x5_1 + 1)), rs, H', ⟨by have := HK1.out; omega⟩, ⟨u74HB⟩⟩

/-! ### laws_eqReq: function 46 -/
def laws_eqReq.f (k : Nat) (a0_0 : Int) (a0_1 : ByteArray) (l0_2 : List (S81)) (a0_3 : ByteArray) (a1_0 : Int) (a1_1 : ByteArray) (l1_2 : List (S81)) (a1_3 : ByteArray) : Option (Bool) := if a0_0 = a1_0 then (if a0_1.toList = a1_1.toList then ((laws_eqFieldS.f k l0_2 l1_2).bind fun t524 => (if t524 = true then (if a0_3.toList = a1_3.toList then (some true) else (some false)) else (some false))) else (some false)) else (some false)
theorem laws_eqReq.mono : ∀ a0 a1 a2 a3 a4 a5 a6 a7 k, LeO (laws_eqReq.f k a0 a1 a2 a3 a4 a5 a6 a7) (laws_eqReq.f (k + 1) a0 a1 a2 a3 a4 a5 a6 a7) := by
 intro a0 a1 a2 a3 a4 a5 a6 a7 k
 unfold laws_eqReq.f
 have m0 := @laws_eqFieldS.mono
 exact mo
set_option maxHeartbeats 8000000 in
set_option maxRecDepth 100000 in
theorem laws_eqReq.calls (k : Nat) (a0_0 : Int) (a0_1 : ByteArray) (A0_2 : Option Addr) (c0_2 : Nat) (l0_2 : List (S81)) (a0_3 : ByteArray) (a1_0 : Int) (a1_1 : ByteArray) (A1_2 : Option Addr) (c1_2 : Nat) (l1_2 : List (S81)) (a1_3 : ByteArray) (r : Bool) (w : World) (hr0_2 : Kd.C k81 w A0_2 l0_2.length l0_2) (hc0_2 : l0_2.length ≤ c0_2) (hr1_2 : Kd.C k81 w A1_2 l1_2.length l1_2) (hc1_2 : l1_2.length ≤ c1_2) (h : laws_eqReq.f k a0_0 a0_1 l0_2 a0_3 a1_0 a1_1 l1_2 a1_3 = some r) :
  Calls Tryz.prog 46 #[.agg #[.int .i64 a0_0, .string a0_1, .slice A0_2 l0_2.length c0_2, .string a0_3], .agg #[.int .i64 a1_0, .string a1_1, .slice A1_2 l1_2.length c1_2, .string a1_3]] w fun e w' => e = .returned (.bool r) ∧ Below w.heap.size w w' := by
 have hu40 := Tryz.underlying40
 have HR0_2 := am hr0_2
 have HC0_2 := am hc0_2
 clear hr0_2 hc0_2
 have HR1_2 := am hr1_2
 have HC1_2 := am hc1_2
 clear hr1_2 hc1_2
 have HB := am (Below.refl w.heap.size w)
 unfold laws_eqReq.f at h
 have H := h
 clear h
 have HH3 := am H
 clear H
 go_enter Tryz.func46, Tryz.ntmps46
 go_upto_if 9 with ((with_reducible refine gw ?_); first | (refine bx 2 #[.int .i64 a0_0, .string a0_1, .slice A0_2 l0_2.length c0_2, .string a0_3] 40 ?_; intro gb522 hg w4 hbox hb; have BK522 := am (hbox); have GW522 := am (sz hg : w.heap.size ≤ gb522); have GE522 := am (sz hg : w.heap.size ≤ gb522); replace HB := am (below_step bl hb); clear hb hbox hg) | (refine bx 3 #[.int .i64 a1_0, .string a1_1, .slice A1_2 l1_2.length c1_2, .string a1_3] 40 ?_; intro gb523 hg w5 hbox hb; have BK523 := am (hbox); have GW523 := am (sz hg : w.heap.size ≤ gb523); have GE523 := am (sz hg : w.heap.size ≤ gb523); replace HB := am (below_step bl hb); have NB522_523 := am (nl hg BK522 : gb522 ≠ gb523); have NB523_522 := am (ng hg BK522 : gb523 ≠ gb522); replace BK522 := kb BK522 hb; clear hb hbox hg; have hnb6 := NB522_523.out; have hnc6 := NB523_522.out; obtain ⟨z7_0, y7_0, z7_1, y7_1, z7_2, y7_2, z7_3, y7_3⟩ := cl4 BK522; obtain ⟨z8_0, y8_0, z8_1, y8_1, z8_2, y8_2, z8_3, y8_3⟩ := cl4 BK523))
 have H := HH3.out
 clear HH3
 by_cases c9 : a0_0 = a1_0
 rotate_left
 ·rw [if_neg c9] at H
  have c9b0 : (a0_0 == a1_0) = false := beq_eq_false_iff_ne.mpr c9
  have c9b1 : (a0_0 != a1_0) = true := bne_iff_ne.mpr c9
  (first | rw [c9b0] | (simp only [i64_w, i32_w]; rw [c9b0]) | skip)
  obtain rfl := Option.some.inj H
  go_wp2
  go_ret
  exact ⟨rf, bl⟩
 rw [if_pos c9] at H
 have c9b0 : (a0_0 == a1_0) = true := beq_iff_eq.mpr c9
 have c9b1 : (a0_0 != a1_0) = false := bne_eq_false_iff_eq.mpr c9
 clear c9
 (first | rw [c9b0] | (simp only [i64_w, i32_w]; rw [c9b0]) | skip)
 by_cases c10 : a0_1.toList = a1_1.toList
 rotate_left
 ·rw [if_neg c10] at H
  have c10b0 : (a0_1.toList == a1_1.toList) = false := beq_eq_false_iff_ne.mpr c10
  have c10b1 : (a0_1.toList != a1_1.toList) = true := bne_iff_ne.mpr c10
  obtain rfl := Option.some.inj H
  have hnb25 := NB522_523.out
  have hnc25 := NB523_522.out
  obtain ⟨z26_0, y26_0, z26_1, y26_1, z26_2, y26_2, z26_3, y26_3⟩ := cl4 BK522
  obtain ⟨z27_0, y27_0, z27_1, y27_1, z27_2, y27_2, z27_3, y27_3⟩ := cl4 BK523
  go_wp2
  go_ret
  exact ⟨rf, bl⟩
 rw [if_pos c10] at H
 have c10b0 : (a0_1.toList == a1_1.toList) = true := beq_iff_eq.mpr c10
 have c10b1 : (a0_1.toList != a1_1.toList) = false := bne_eq_false_iff_eq.mpr c10
 clear c10
 revert H
 refine ok1 fun t524 A11 H => ?_
 have HH12 := am H
 clear H
 have hnb13 := NB522_523.out
 have hnc13 := NB523_522.out
 obtain ⟨z14_0, y14_0, z14_1, y14_1, z14_2, y14_2, z14_3, y14_3⟩ := cl4 BK522
 obtain ⟨z15_0, y15_0, z15_1, y15_1, z15_2, y15_2, z15_3, y15_3⟩ := cl4 BK523
 go_upto_if 20 with ((with_reducible refine gw ?_); first | (refine gl 19 Tryz.func74 #[.slice A0_2 l0_2.length c0_2, .slice A1_2 l1_2.length c1_2] ?_; (with_reducible refine (laws_eqFieldS.calls k _ _ l0_2 _ _ l1_2 t524 _ ?side1 ?side2 ?side3 ?side4 A11.out).mono ?_); (case side1 => exact cb HR0_2); (case side2 => exact HC0_2.out); (case side3 => exact cb HR1_2); (case side4 => exact HC1_2.out); rintro e w16 ⟨rfl, hb⟩; refine ⟨_, rfl, ?_⟩; replace BK522 := kb BK522 hb; replace BK523 := kb BK523 hb; replace HB := am (below_step bl hb); clear hb))
 have H := HH12.out
 clear HH12
 by_cases c17 : t524 = true
 rotate_left
 ·replace c17 := Bool.eq_false_iff.mpr c17
  subst c17
  rw [if_neg (show ¬ (false = true) by decide)] at H
  obtain rfl := Option.some.inj H
  go_wp2
  go_ret
  exact ⟨rf, bl⟩
 subst c17
 rw [if_pos rfl] at H
 by_cases c18 : a0_3.toList = a1_3.toList
 rotate_left
 ·rw [if_neg c18] at H
  have c18b0 : (a0_3.toList == a1_3.toList) = false := beq_eq_false_iff_ne.mpr c18
  have c18b1 : (a0_3.toList != a1_3.toList) = true := bne_iff_ne.mpr c18
  (first | rw [c18b0] | (simp only [i64_w, i32_w]; rw [c18b0]) | skip)
  obtain rfl := Option.some.inj H
  have hnb22 := NB522_523.out
  have hnc22 := NB523_522.out
  obtain ⟨z23_0, y23_0, z23_1, y23_1, z23_2, y23_2, z23_3, y23_3⟩ := cl4 BK522
  obtain ⟨z24_0, y24_0, z24_1, y24_1, z24_2, y24_2, z24_3, y24_3⟩ := cl4 BK523
  go_wp2
  go_ret
  exact ⟨rf, bl⟩
 rw [if_pos c18] at H
 have c18b0 : (a0_3.toList == a1_3.toList) = true := beq_iff_eq.mpr c18
 have c18b1 : (a0_3.toList != a1_3.toList) = false := bne_eq_false_iff_eq.mpr c18
 clear c18
 (first | rw [c18b0] | (simp only [i64_w, i32_w]; rw [c18b0]) | skip)
 obtain rfl := Option.some.inj H
 have hnb19 := NB522_523.out
 have hnc19 := NB523_522.out
 obtain ⟨z20_0, y20_0, z20_1, y20_1, z20_2, y20_2, z20_3, y20_3⟩ := cl4 BK522
 obtain ⟨z21_0, y21_0, z21_1, y21_1, z21_2, y21_2, z21_3, y21_3⟩ := cl4 BK523
 go_wp2
 go_ret
 exact ⟨rf, bl⟩

/-! ### laws_eqReqS: function 18 -/
theorem u18HB {p : Prop} (h : p := by repeat (first | (with_reducible first | exact HB.out | apply below_alloc | apply pw_below_drewN | apply below_drew1) | exact HB.out)) : p := h
def laws_eqReqS.l0 : Nat → List (S40) → List (S40) → Int → Option (Bool)
 | 0, _, _, _ => none
 | k + 1, x0, x1, x5 => if x5 < (x0.length : Int) then (if 0 ≤ x5 then (if x5 < (x1.length : Int) then ((laws_eqReq.f k ((rd_T40 x0 x5).f0) ((rd_T40 x0 x5).f1) ((rd_T40 x0 x5).f2) ((rd_T40 x0 x5).f3) ((rd_T40 x1 x5).f0) ((rd_T40 x1 x5).f1) ((rd_T40 x1 x5).f2) ((rd_T40 x1 x5).f3)).bind fun t527 => (if t527 = true then (laws_eqReqS.l0 k x0 x1 (wrap64 (x5 + 1))) else (some false))) else (none)) else (none)) else (some true)
def laws_eqReqS.f (k : Nat) (l0 : List (S40)) (l1 : List (S40)) : Option (Bool) := if (l0.length : Int) = (l1.length : Int) then (laws_eqReqS.l0 k l0 l1 0) else (some false)
theorem laws_eqReqS.mono_l : ∀ k, (∀ y0 y1 y2, LeO (laws_eqReqS.l0 k y0 y1 y2) (laws_eqReqS.l0 (k + 1) y0 y1 y2))
 | 0 => fun _ _ _ r h => by simp [laws_eqReqS.l0] at h
 | k + 1 => by
  have ih0 := laws_eqReqS.mono_l k
  ·intro y0 y1 y2
   unfold laws_eqReqS.l0
   have m0 := @laws_eqReq.mono
   exact mo
theorem laws_eqReqS.mono : ∀ a0 a1 k, LeO (laws_eqReqS.f k a0 a1) (laws_eqReqS.f (k + 1) a0 a1) := by
 intro a0 a1 k
 have ih0 := laws_eqReqS.mono_l k
 unfold laws_eqReqS.f
 have m0 := @laws_eqReq.mono
 exact mo
def laws_eqReqS.T6 : Bool × List (List Nat × List Nat) := (true, [([], []), ([], []), ([0, 1], [0, 1]), ([2], [2]), ([], []), ([], []), ([4, 5], [4, 5]), ([6], [6]), ([3, 7], [3, 7]), ([8], [8])])
def laws_eqReqS.B6 : List Nat := [0, 0, 3, 7, 0, 0, 48, 112, 255, 511]
theorem laws_eqReqS.tab6 : rtab .any (opsOf Tryz.f18 6) = laws_eqReqS.T6 := by kernel_rfl
theorem laws_eqReqS.bits6 : waitsOk laws_eqReqS.T6.2 laws_eqReqS.B6 = true := by kernel_rfl
set_option maxHeartbeats 8000000 in
set_option maxRecDepth 100000 in
theorem laws_eqReqS.calls (k : Nat) (A0 : Option Addr) (c0 : Nat) (l0 : List (S40)) (A1 : Option Addr) (c1 : Nat) (l1 : List (S40)) (r : Bool) (w : World) (hr0 : Kd.C k40 w A0 l0.length l0) (hc0 : l0.length ≤ c0) (hr1 : Kd.C k40 w A1 l1.length l1) (hc1 : l1.length ≤ c1) (h : laws_eqReqS.f k l0 l1 = some r) :
  Calls Tryz.prog 18 #[.slice A0 l0.length c0, .slice A1 l1.length c1] w fun e w' => e = .returned (.bool r) ∧ Below w.heap.size w w' := by
 have hu40 := Tryz.underlying40
 have HR0 := am hr0
 have HC0 := am hc0
 clear hr0 hc0
 have HR1 := am hr1
 have HC1 := am hc1
 clear hr1 hc1
 have HB := am (Below.refl w.heap.size w)
 unfold laws_eqReqS.f at h
 have H := h
 clear h
 by_cases c3 : (l0.length : Int) = (l1.length : Int)
 rotate_left
 ·rw [if_neg c3] at H
  have c3b0 : ((l0.length : Int) == (l1.length : Int)) = false := beq_eq_false_iff_ne.mpr c3
  have c3b1 : ((l0.length : Int) != (l1.length : Int)) = true := bne_iff_ne.mpr c3
  have c3b2 : (l0.length == l1.length) = false := by first | simpa using c3 | (simp at c3 ⊢; omega)
  obtain rfl := Option.some.inj H
  go_enter Tryz.func18, Tryz.ntmps18
  go_wp2
  go_ret
  exact ⟨rf, bl⟩
 rw [if_pos c3] at H
 have c3b0 : ((l0.length : Int) == (l1.length : Int)) = true := beq_iff_eq.mpr c3
 have c3b1 : ((l0.length : Int) != (l1.length : Int)) = false := bne_eq_false_iff_eq.mpr c3
 have c3b2 : (l0.length == l1.length) = true := by first | simpa using c3 | (simp at c3 ⊢; omega)
 clear c3
 have H' := am H
 clear H
 go_enter Tryz.func18, Tryz.ntmps18
 go_wp2
 (try simp only [Act.put, List.setIfInBounds_toArray, List.set_cons_zero, List.set_cons_succ])
 go_loopg [5] k (fun kq v5 w' => ∃ (x5_1 : Int), v5 = .int .i64 x5_1 ∧ Aside0 (laws_eqReqS.l0 kq l0 l1 x5_1 = some r) ∧ Aside0 (kq ≤ k) ∧ Aside0 (Below w.heap.size w w'))
 case atStart => exact ⟨(0), rs, H', ⟨Nat.le_refl _⟩, ⟨u18HB⟩⟩
 case round =>
  clear H'
  try clear c1
  try clear p2
  try clear c3
  try clear c3b0
  try clear c3b1
  try clear c3b2
  obtain ⟨x5_1, rfl, HA, HK1, HB⟩ := hrel
  cases gk with
  | zero => exact absurd HA.out (by simp [laws_eqReqS.l0])
  | succ k1 =>
   have H := HA.out
   clear HA
   simp only [laws_eqReqS.l0] at H
   by_cases c4 : x5_1 < (l0.length : Int)
   rotate_left
   ·rw [if_neg c4] at H
    have c4b0 := decide_eq_false c4
    clear c4
    obtain rfl := Option.some.inj H
    go_wp2
    go_ret
    exact ⟨rf, bl⟩
   rw [if_pos c4] at H
   have c4b0 := decide_eq_true c4
   clear c4
   revert H
   refine ifn fun c5 H => ?_
   have c5b0 := decide_eq_true c5
   clear c5
   revert H
   refine ifn fun c6 H => ?_
   have c6b0 := decide_eq_true c6
   clear c6
   revert H
   refine ok1 fun t527 A7 H => ?_
   have HH8 := am H
   clear H
   try go_wp2
   replace HB := am (below_drew1 HB.out)
   have p525 : 0 ≤ (x5_1 : Int) := od
   have q525 : x5_1 < (l0.length : Int) := od
   obtain ⟨ad525, A525_2, c525_2, e525, hx525_0, hx525_1, hx525_2, hx525_3, hl525_2, hi525_2⟩ := at_T40 HR0.out x5_1 p525 q525
   have hw525_3 := hx525_3
   have hw525_2 := hx525_2
   have hw525_1 := hx525_1
   have hw525_0 := hx525_0
   cases e525
   replace hx525_0 := hcw hx525_0
   replace hx525_1 := hcw hx525_1
   replace hx525_2 := hcw hx525_2
   replace hx525_3 := hcw hx525_3
   have HR525_2 := am hi525_2
   have HC525_2 := am hl525_2
   clear hi525_2 hl525_2
   replace p525 := eq_true p525
   replace q525 := eq_true q525
   have p526 : 0 ≤ (x5_1 : Int) := od
   have q526 : x5_1 < (l1.length : Int) := od
   obtain ⟨ad526, A526_2, c526_2, e526, hx526_0, hx526_1, hx526_2, hx526_3, hl526_2, hi526_2⟩ := at_T40 HR1.out x5_1 p526 q526
   have hw526_3 := hx526_3
   have hw526_2 := hx526_2
   have hw526_1 := hx526_1
   have hw526_0 := hx526_0
   cases e526
   replace hx526_0 := hcw hx526_0
   replace hx526_1 := hcw hx526_1
   replace hx526_2 := hcw hx526_2
   replace hx526_3 := hcw hx526_3
   have HR526_2 := am hi526_2
   have HC526_2 := am hl526_2
   clear hi526_2 hl526_2
   replace p526 := eq_true p526
   replace q526 := eq_true q526
   refine start_ (n := 10) (S := fun w' => w'.cell? (ad525.add ((x5_1).toNat * 4)) = some (.int .i64 ((rd_T40 l0 x5_1).f0)) ∧ w'.cell? ⟨(ad525.add ((x5_1).toNat * 4)).block, (ad525.add ((x5_1).toNat * 4)).off + 1, none⟩ = some (.string ((rd_T40 l0 x5_1).f1)) ∧ w'.cell? ⟨(ad525.add ((x5_1).toNat * 4)).block, (ad525.add ((x5_1).toNat * 4)).off + 2, none⟩ = some (.slice A525_2 ((rd_T40 l0 x5_1).f2).length c525_2) ∧ w'.cell? ⟨(ad525.add ((x5_1).toNat * 4)).block, (ad525.add ((x5_1).toNat * 4)).off + 3, none⟩ = some (.string ((rd_T40 l0 x5_1).f3)) ∧ w'.cell? (ad526.add ((x5_1).toNat * 4)) = some (.int .i64 ((rd_T40 l1 x5_1).f0)) ∧ w'.cell? ⟨(ad526.add ((x5_1).toNat * 4)).block, (ad526.add ((x5_1).toNat * 4)).off + 1, none⟩ = some (.string ((rd_T40 l1 x5_1).f1)) ∧ w'.cell? ⟨(ad526.add ((x5_1).toNat * 4)).block, (ad526.add ((x5_1).toNat * 4)).off + 2, none⟩ = some (.slice A526_2 ((rd_T40 l1 x5_1).f2).length c526_2) ∧ w'.cell? ⟨(ad526.add ((x5_1).toNat * 4)).block, (ad526.add ((x5_1).toNat * 4)).off + 3, none⟩ = some (.string ((rd_T40 l1 x5_1).f3))) (ds := []) ⟨br true [0, 10]⟩ (by kernel_rfl) rfl (by kernel_rfl) ⟨(hcw hw525_0), (hcw hw525_1), (hcw hw525_2), (hcw hw525_3), (hcw hw526_0), (hcw hw526_1), (hcw hw526_2), (hcw hw526_3)⟩ (fun hHeld => ?_); refine with_tabW laws_eqReqS.tab6 laws_eqReqS.bits6 (fun HT_ HW_ => ?_)
   generalize wr.drew = w9 at HB HR525_2 HR526_2 hx525_0 hx525_1 hx525_2 hx525_3 hx526_0 hx526_1 hx526_2 hx526_3 hHeld ⊢
   refine pu 0 17 [1, 9] ?_
   refine pu 1 18 [2, 8] ?_
   refine pu 2 19 [3, 7] ?_
   refine pu 4 21 [3, 1, 1, 5] ?_
   refine pu 5 22 [3, 1, 2, 4] ?_
   refine pu 6 23 [3, 1, 3, 3] ?_
   refine tk 3 20 [7, 3] ?_
   refine tk 7 24 [8, 2] ?_
   refine og 8 25 [9, 1] Tryz.func46 #[.agg #[.int .i64 ((rd_T40 l0 x5_1).f0), .string ((rd_T40 l0 x5_1).f1), .slice A525_2 ((rd_T40 l0 x5_1).f2).length c525_2, .string ((rd_T40 l0 x5_1).f3)], .agg #[.int .i64 ((rd_T40 l1 x5_1).f0), .string ((rd_T40 l1 x5_1).f1), .slice A526_2 ((rd_T40 l1 x5_1).f2).length c526_2, .string ((rd_T40 l1 x5_1).f3)]] (fun K hK => ?_)
   with_reducible refine (laws_eqReq.calls k1 ((rd_T40 l0 x5_1).f0) ((rd_T40 l0 x5_1).f1) _ _ ((rd_T40 l0 x5_1).f2) ((rd_T40 l0 x5_1).f3) ((rd_T40 l1 x5_1).f0) ((rd_T40 l1 x5_1).f1) _ _ ((rd_T40 l1 x5_1).f2) ((rd_T40 l1 x5_1).f3) t527 _ ?side1 ?side2 ?side3 ?side4 A7.out).mono ?_
   (case side1 => exact cb HR525_2)
   (case side2 => exact HC525_2.out)
   (case side3 => exact cb HR526_2)
   (case side4 => exact HC526_2.out)
   rintro e w10 ⟨rfl, hb⟩
   refine ⟨_, rfl, ?_⟩
   replace HB := am (below_step bl hb)
   clear hb
   refine hK.out _ _ ⟨(hcw hw525_0), (hcw hw525_1), (hcw hw525_2), (hcw hw525_3), (hcw hw526_0), (hcw hw526_1), (hcw hw526_2), (hcw hw526_3)⟩ (fun hHeld => ?_)
   clear hK K
   refine nm 25 ?_
   refine pu 9 26 [10] ?_
   refine done_ (done_of HT_.out (by kernel_rfl)) ?_
   go_upto_if 26 with (fail)
   have H := HH8.out
   clear HH8
   by_cases c11 : t527 = true
   rotate_left
   ·replace c11 := Bool.eq_false_iff.mpr c11
    subst c11
    rw [if_neg (show ¬ (false = true) by decide)] at H
    obtain rfl := Option.some.inj H
    go_wp2
    go_ret
    exact ⟨rf, bl⟩
   subst c11
   rw [if_pos rfl] at H
   have H' := am H
   clear H
   go_wp2
   go_roundg k1
   case measure => have := HK1.out; omega
   case rel => exact ⟨(wrap64 (x5_1 + 1)), rs, H', ⟨by have := HK1.out; omega⟩, ⟨u18HB⟩⟩

/-! ### laws_markText: function 47 -/
theorem u47HB {p : Prop} (h : p := by repeat (first | (with_reducible first | exact HB.out | apply below_alloc | apply pw_below_drewN | apply below_drew1) | exact HB.out)) : p := h
def laws_markText.l0 : Nat → Int → ByteArray → Option (ByteArray)
 | 0, _, _ => none
 | k + 1, x0, x3 => if x0 > 0 then ((some (([(wrap64 (48 + (Int.tmod x0 10))) % 256] : List Int) : List Int)).bind fun y528 => (if (strOfNums y528).size + x3.size ≤ 9223372036854775807 then (laws_markText.l0 k (wrap64 (Int.tdiv x0 10)) ((strOfNums y528) ++ x3)) else (none))) else (if 1 + x3.size ≤ 9223372036854775807 then (some ((⟨#[109]⟩ : ByteArray) ++ x3)) else (none))
def laws_markText.f (k : Nat) (a0 : Int) : Option (ByteArray) := if a0 ≤ 0 then (some (⟨#[109, 48]⟩ : ByteArray)) else (laws_markText.l0 k a0 (⟨#[]⟩ : ByteArray))
theorem laws_markText.mono_l : ∀ k, (∀ y0 y1, LeO (laws_markText.l0 k y0 y1) (laws_markText.l0 (k + 1) y0 y1))
 | 0 => fun _ _ r h => by simp [laws_markText.l0] at h
 | k + 1 => by
  have ih0 := laws_markText.mono_l k
  ·intro y0 y1
   unfold laws_markText.l0
   exact mo
theorem laws_markText.mono : ∀ a0 k, LeO (laws_markText.f k a0) (laws_markText.f (k + 1) a0) := by
 intro a0 k
 have ih0 := laws_markText.mono_l k
 unfold laws_markText.f
 exact mo
set_option maxHeartbeats 8000000 in
set_option maxRecDepth 100000 in
theorem laws_markText.calls (k : Nat) (a0 : Int) (r : ByteArray) (w : World) (h : laws_markText.f k a0 = some r) :
  Calls Tryz.prog 47 #[.int .i64 a0] w fun e w' => e = .returned (.string r) ∧ Below w.heap.size w w' := by
 have HB := am (Below.refl w.heap.size w)
 unfold laws_markText.f at h
 have H := h
 clear h
 by_cases c2 : a0 ≤ 0
 ·rw [if_pos c2] at H
  have c2b0 := decide_eq_true c2
  clear c2
  obtain rfl := Option.some.inj H
  go_enter Tryz.func47, Tryz.ntmps47
  go_wp2
  go_ret
  exact ⟨rf, bl⟩
 rw [if_neg c2] at H
 have c2b0 := decide_eq_false c2
 clear c2
 have H' := am H
 clear H
 go_enter Tryz.func47, Tryz.ntmps47
 go_wp2
 (try simp only [Act.put, List.setIfInBounds_toArray, List.set_cons_zero, List.set_cons_succ])
 go_loopg [0, 3] k (fun kq v0 v3 w' => ∃ (x0_1 : Int) (x3_1 : ByteArray), v0 = .int .i64 x0_1 ∧ v3 = .string x3_1 ∧ Aside0 (laws_markText.l0 kq x0_1 x3_1 = some r) ∧ Aside0 (kq ≤ k) ∧ Aside0 (Below w.heap.size w w'))
 case atStart => exact ⟨(a0), ((⟨#[]⟩ : ByteArray)), rs, rs, H', ⟨Nat.le_refl _⟩, ⟨u47HB⟩⟩
 case round =>
  clear H'
  try clear c2
  try clear c2b0
  try clear p2
  obtain ⟨x0_1, x3_1, rfl, rfl, HA, HK1, HB⟩ := hrel
  cases gk with
  | zero => exact absurd HA.out (by simp [laws_markText.l0])
  | succ k1 =>
   have H := HA.out
   clear HA
   simp only [laws_markText.l0] at H
   by_cases c3 : x0_1 > 0
   rotate_left
   ·rw [if_neg c3] at H
    have c3b0 := decide_eq_false c3
    clear c3
    revert H
    refine ifn fun c8 H => ?_
    have c8b0 := eq_true c8
    have c8b1 := decide_eq_true c8
    try have c8b2 := eq_false (Nat.not_lt.2 c8)
    obtain rfl := Option.some.inj H
    go_wp2
    go_ret
    exact ⟨rf, bl⟩
   rw [if_pos c3] at H
   have c3b0 := decide_eq_true c3
   clear c3
   obtain ⟨y528, hy528⟩ : ∃ y_ : List Int, y_ = (([(wrap64 (48 + (Int.tmod x0_1 10))) % 256] : List Int)) := ⟨_, rfl⟩
   replace H : (if (strOfNums y528).size + x3_1.size ≤ 9223372036854775807 then (laws_markText.l0 k1 (wrap64 (Int.tdiv x0_1 10)) ((strOfNums y528) ++ x3_1)) else (none)) = some r := by first | (rw [hy528]; with_reducible exact H) | (have H2_ := (Option.bind_some _ _).symm.trans H; rw [hy528]; with_reducible exact H2_) | (have H2_ := (Option.bind_some _ _).symm.trans H; with_reducible exact H2_) | with_reducible exact H | (rw [hy528]; exact H) | exact H
   have Ny528 := am hy528
   clear hy528
   revert H
   refine ifn fun c4 H => ?_
   have c4b0 := eq_true c4
   have c4b1 := decide_eq_true c4
   try have c4b2 := eq_false (Nat.not_lt.2 c4)
   have H' := am H
   clear H
   go_wp2_with (first | ((with_reducible refine gate_dst (N := 12) rfl ?_); refine Kd.R_lit (Kd.int .u8) _ 5 ?hg (N := 12) ?hd (xs := ([(wrap64 (48 + (Int.tmod x0_1 10))) % 256] : List Int)) (inner := [.int .u8 ((wrap64 (48 + (Int.tmod x0_1 10))) % 256)]) (ok := fun _ => True) (okp := fun _ => True) ?hr ?hp (fun _ hk => hk) trivial (Below.refl _ _) (Nat.le_refl _) (by simp) ?_; (case hd => rfl); (case hg => rfl); (case hr => first | (go_simp; done) | (go_simp; rfl)); (case hp => exact rp); intro v529 w5 ho6 hb hg_ hnew_; clear hg_ hnew_; (first | rw [← Ny528.out] at ho6 | (simp only [Int.reduceToNat] at ho6; rw [← Ny528.out] at ho6)); have HO530 := am (Kd.R_lower ho6 (below_size bl)); replace HB := am (below_step bl hb); clear hb ho6; have hcv7 := own_string (P := Tryz.prog) Tryz.underlying22 Tryz.underlying5 Tryz.underlying9 (Kd.own_of_R HO530.out)))
   go_roundg k1
   case measure => have := HK1.out; omega
   case rel => exact ⟨(wrap64 (Int.tdiv x0_1 10)), ((strOfNums y528) ++ x3_1), rs, rs, H', ⟨by have := HK1.out; omega⟩, ⟨u47HB⟩⟩

/-! ### laws_markFieldS: function 48 -/
theorem u48HK {p : Prop} (h : p := by repeat (first | (with_reducible first | exact HK.out | apply Kept.alloc | apply Kept.drewN | apply Kept.drew) | exact HK.out)) : p := h
theorem u48HB {p : Prop} (h : p := by repeat (first | (with_reducible first | exact HB.out | apply below_alloc | apply pw_below_drewN | apply below_drew1) | exact HB.out)) : p := h
def laws_markFieldS.l0 : Nat → List (S81) → Int → Int → Option (Int × (List (S81)))
 | 0, _, _, _ => none
 | k + 1, x0, x1, x5 => if x5 < (x0.length : Int) then ((laws_markText.f k x1).bind fun t531 => (if 0 ≤ x5 then ((some (x0.set (x5 : Int).toNat (⟨t531, (rd_T81 x0 x5).f1⟩ : S81) : List (S81))).bind fun y532 => ((laws_markText.f k (wrap64 (x1 + 1))).bind fun t533 => (laws_markFieldS.l0 k (y532.set (x5 : Int).toNat (⟨(rd_T81 y532 x5).f0, t533⟩ : S81)) (wrap64 ((wrap64 (x1 + 1)) + 1)) (wrap64 (x5 + 1))))) else (none))) else (some (x1, x0))
def laws_markFieldS.f (k : Nat) (l0 : List (S81)) (a1 : Int) : Option (Int × (List (S81))) := laws_markFieldS.l0 k l0 a1 0
theorem laws_markFieldS.mono_l : ∀ k, (∀ y0 y1 y2, LeO (laws_markFieldS.l0 k y0 y1 y2) (laws_markFieldS.l0 (k + 1) y0 y1 y2))
 | 0 => fun _ _ _ r h => by simp [laws_markFieldS.l0] at h
 | k + 1 => by
  have ih0 := laws_markFieldS.mono_l k
  ·intro y0 y1 y2
   unfold laws_markFieldS.l0
   have m0 := @laws_markText.mono
   exact mo
theorem laws_markFieldS.mono : ∀ a0 a1 k, LeO (laws_markFieldS.f k a0 a1) (laws_markFieldS.f (k + 1) a0 a1) := by
 intro a0 a1 k
 have ih0 := laws_markFieldS.mono_l k
 unfold laws_markFieldS.f
 have m0 := @laws_markText.mono
 exact mo
set_option maxHeartbeats 8000000 in
set_option maxRecDepth 100000 in
theorem laws_markFieldS.calls (k : Nat) (P0_ : Nat → Prop) (u9000_ : Value) (l0 : List (S81)) (a1 : Int) (r1 : Int) (r2 : List (S81)) (w0 w : World) (hB : Below w0.heap.size w0 w) (ho0 : Kd.R k81 81 w w0.heap.size P0_ u9000_ l0) (h : laws_markFieldS.f k l0 a1 = some (r1, r2)) :
  Calls Tryz.prog 48 #[u9000_, .int .i64 a1] w fun e w' => e = .returned (.int .i64 r1) ∧ Kd.R k81 81 w' w0.heap.size (fun k_ => (P0_ k_ ∨ w.heap.size ≤ k_)) u9000_ r2 ∧ Below w0.heap.size w0 w' ∧ Kept w w' (fun k_ => P0_ k_) := by
 have HO0 := am (show Kd.R k81 81 w w0.heap.size (fun k_ => (P0_ k_ ∨ w.heap.size ≤ k_)) u9000_ l0 from Kd.R_mono ho0 (fun k_ hk => (.inl hk)))
 have HK := am (Kept.refl w (fun k_ => P0_ k_))
 have HW0 := am hB.size
 have HB := am hB
 clear hB
 unfold laws_markFieldS.f at h
 have H := h
 clear h
 have H' := am H
 clear H
 go_enter Tryz.func48, Tryz.ntmps48
 go_wp2
 (try simp only [Act.put, List.setIfInBounds_toArray, List.set_cons_zero, List.set_cons_succ])
 go_loopg [1, 5] k (fun kq v1 v5 w' => ∃ (x0_1 : List (S81)) (x1_1 : Int) (x5_1 : Int), v1 = .int .i64 x1_1 ∧ v5 = .int .i64 x5_1 ∧ Aside0 (laws_markFieldS.l0 kq x0_1 x1_1 x5_1 = some (r1, r2)) ∧ Aside0 (kq ≤ k) ∧ Aside0 (Kd.R k81 81 w' w0.heap.size (fun k_ => (P0_ k_ ∨ w.heap.size ≤ k_)) u9000_ x0_1) ∧ Aside0 (Kept w w' (fun k_ => P0_ k_)) ∧ Aside0 (Below w0.heap.size w0 w'))
 case atStart => exact ⟨(l0), (a1), (0), rs, rs, H', ⟨Nat.le_refl _⟩, ⟨by (with_reducible repeat (first | apply Kd.R_alloc | apply Kd.R_drewN | apply Kd.R_drew)); exact HO0.out⟩, ⟨u48HK⟩, ⟨u48HB⟩⟩
 case round =>
  clear H'
  try clear p2
  obtain ⟨x0_1, x1_1, x5_1, rfl, rfl, HA, HK1, HO_0, HK, HB⟩ := hrel
  cases gk with
  | zero => exact absurd HA.out (by simp [laws_markFieldS.l0])
  | succ k1 =>
   have H := HA.out
   clear HA
   simp only [laws_markFieldS.l0] at H
   by_cases c3 : x5_1 < (x0_1.length : Int)
   rotate_left
   ·rw [if_neg c3] at H
    have c3b0 := decide_eq_false c3
    clear c3
    simp only [Option.some.injEq, Prod.mk.injEq] at H
    obtain ⟨rfl, rfl⟩ := H
    obtain ⟨Ao16, co16, eo16⟩ := Kd.R_slice HO_0.out
    subst eo16
    go_wp2
    go_ret
    exact ⟨rf, by (with_reducible repeat (first | apply Kd.R_alloc | apply Kd.R_drewN | apply Kd.R_drew)); exact HO_0.out, u48HB, u48HK⟩
   rw [if_pos c3] at H
   have c3b0 := decide_eq_true c3
   clear c3
   revert H
   refine ok1 fun t531 A4 H => ?_
   revert H
   refine ifn fun c5 H => ?_
   have c5b0 := decide_eq_true c5
   clear c5
   obtain ⟨y532, hy532⟩ : ∃ y_ : List (S81), y_ = (x0_1.set (x5_1 : Int).toNat (⟨t531, (rd_T81 x0_1 x5_1).f1⟩ : S81)) := ⟨_, rfl⟩
   replace H : ((laws_markText.f k1 (wrap64 (x1_1 + 1))).bind fun t533 => (laws_markFieldS.l0 k1 (y532.set (x5_1 : Int).toNat (⟨(rd_T81 y532 x5_1).f0, t533⟩ : S81)) (wrap64 ((wrap64 (x1_1 + 1)) + 1)) (wrap64 (x5_1 + 1)))) = some (r1, r2) := by first | (rw [hy532]; with_reducible exact H) | (have H2_ := (Option.bind_some _ _).symm.trans H; rw [hy532]; with_reducible exact H2_) | (have H2_ := (Option.bind_some _ _).symm.trans H; with_reducible exact H2_) | with_reducible exact H | (rw [hy532]; exact H) | exact H
   have Ny532 := am hy532
   clear hy532
   revert H
   refine ok1 fun t533 A7 H => ?_
   obtain ⟨y534, hy534⟩ : ∃ y_ : List (S81), y_ = (y532.set (x5_1 : Int).toNat (⟨(rd_T81 y532 x5_1).f0, t533⟩ : S81)) := ⟨_, rfl⟩
   replace H : (laws_markFieldS.l0 k1 y534 (wrap64 ((wrap64 (x1_1 + 1)) + 1)) (wrap64 (x5_1 + 1))) = some (r1, r2) := by first | (rw [hy534]; with_reducible exact H) | (have H2_ := (Option.bind_some _ _).symm.trans H; rw [hy534]; with_reducible exact H2_) | (have H2_ := (Option.bind_some _ _).symm.trans H; with_reducible exact H2_) | with_reducible exact H | (rw [hy534]; exact H) | exact H
   have Ny534 := am hy534
   clear hy534
   have H' := am H
   clear H
   obtain ⟨Ao9, co9, eo9⟩ := Kd.R_slice HO_0.out
   subst eo9
   go_wp2_with (first | ((with_reducible refine gw ?_); refine gl 15 Tryz.func47 #[.int .i64 x1_1] ?_; (with_reducible refine (laws_markText.calls k1 x1_1 t531 _ A4.out).mono ?_); rintro e w10 ⟨rfl, hb⟩; refine ⟨_, rfl, ?_⟩; replace HO_0 := kr HO_0 hb; replace HK := am (Kept.below (S := (fun k_ => P0_ k_)) u48HK hb); replace HB := am (below_step bl hb); clear hb; have p6 : 0 ≤ (x5_1 : Int) := od; have q6 : (x5_1 : Int) < ((x0_1.length : Int) : Int) := od; obtain ⟨go6, co6, eo6, gb6, gl6, cl6, HG6⟩ := Kd.R_form HO_0.out (by omega); (first | cases eo6 | (injection eo6 with ea_ en_ ec_; (first | subst ea_ | (injection ea_ with ea_; subst ea_)); subst ec_; clear en_)); have GB6 := am gb6; have GG6 := am HG6; clear gb6 gl6 HG6; have HMgo6 := am (show (P0_ go6 ∨ w.heap.size ≤ go6) from (HO_0.out.1 _ rfl)); obtain ⟨ce6, hcl6, hM6, hcc6, hfr6⟩ := Kd.R_elem HO_0.out z81 (x5_1 : Int) p6 q6; obtain rfl := k81_openM hM6; have hx6_0 : w10.cell? ⟨go6, (x5_1 : Int).toNat * 2, none⟩ = some (.string ((rd_T81 x0_1 x5_1).f0)) := hcc6 0 _ rfl; have hx6_1 : w10.cell? ⟨go6, (x5_1 : Int).toNat * 2 + 1, none⟩ = some (.string ((rd_T81 x0_1 x5_1).f1)) := hcc6 1 _ rfl; have hf6_0 : w10.frozen? ⟨go6, (x5_1 : Int).toNat * 2, none⟩ = false := hfr6 0; have hf6_1 : w10.frozen? ⟨go6, (x5_1 : Int).toNat * 2 + 1, none⟩ = false := hfr6 1; clear hcl6 hcc6 hfr6 hM6; replace p6 := eq_true p6; replace q6 := eq_true q6; have HX11 := am (show Kd.R k81 81 w10 w0.heap.size (fun k_ => (P0_ k_ ∨ w.heap.size ≤ k_)) (.slice (some ⟨go6, 0, none⟩) x0_1.length co9) x0_1 from (ro HO_0)); obtain ⟨ce11, hcl11, hM11, hcc11, hfr11⟩ := Kd.R_elem HX11.out z81 (x5_1 : Int) (od) (by have h_ : (x5_1 : Int) < ((x0_1.length : Int) : Int) := od; first | exact h_ | (have e_ := (Kd.R_reads' HO_0.out).1; omega) | simpa using h_); obtain rfl := k81_openM hM11; have HP11 := Kd.R_seg HX11.out (x5_1 : Int) (od) (by have h_ : (x5_1 : Int) < ((x0_1.length : Int) : Int) := od; first | exact h_ | (have e_ := (Kd.R_reads' HO_0.out).1; omega) | simpa using h_) (seg := [.string t531]) (j := 0) hcl11 hcc11 (show 1 ≤ 2 from by decide) (x' := (⟨t531, (rd_T81 x0_1 x5_1).f1⟩ : S81)) (k81_mkM _ _ _ (⟨t531, (rd_T81 x0_1 x5_1).f1⟩ : S81) ) (fun _ hk => hk); have hx11_0 := hcc11 0 _ rfl; (try simp only [show (k81).sz = 2 from rfl, Nat.mul_one, Nat.add_zero] at hx11_0); have hf11_0 := hfr11 0; (try simp only [show (k81).sz = 2 from rfl, Nat.mul_one, Nat.add_zero] at hf11_0); clear hcl11 hcc11 hfr11 hM11) | ((with_reducible refine gate_store (t := 9) (p := 17) rfl ?_); refine store_event (t := 9) (p := 17) (v := ?vo_w12) (w1 := (w10.setCell ⟨go6, (x5_1 : Int).toNat * 2, none⟩ (.string t531))) ?hg ?ho ?hn ?hr ?_; (case ho => rfl); (case hg => rfl); (case hn => rfl); (case hr => first | (go_simp; done) | (go_simp; rfl)); intro w12 hw; have hg : w10.grownBy w12 (some go6) := (by rw [hw]; exact HP11.2); have hp_ : Kd.R k81 81 w12 w0.heap.size (fun k_ => (P0_ k_ ∨ w.heap.size ≤ k_)) (.slice (some ⟨go6, 0, none⟩) x0_1.length co9) y532 := (by rw [hw, Ny532.out]; exact HP11.1); clear HP11; have n0_ := am (hp_); have n1_ := am ((by rw [hw]; exact below_set (HB.out) GB6.out : Below w0.heap.size w0 w12)); have n2_ := am (Kept.of_grown (S := (fun k_ => P0_ k_)) hg u48HK (fun k_ e_ => (HO_0.out.1 k_ e_))); clear HO_0; clear HB; clear HK; have HO_0 := n0_; have HB := n1_; have HK := n2_; clear n0_ n1_ n2_; clear hg hw hp_) | ((with_reducible refine gw ?_); refine gl 23 Tryz.func47 #[.int .i64 (wrap64 (x1_1 + 1))] ?_; (with_reducible refine (laws_markText.calls k1 (wrap64 (x1_1 + 1)) t533 _ A7.out).mono ?_); rintro e w13 ⟨rfl, hb⟩; refine ⟨_, rfl, ?_⟩; replace HO_0 := kr HO_0 hb; replace HK := am (Kept.below (S := (fun k_ => P0_ k_)) u48HK hb); replace HB := am (below_step bl hb); clear hb; have p8 : 0 ≤ (x5_1 : Int) := od; have q8 : (x5_1 : Int) < ((x0_1.length : Int) : Int) := od; obtain ⟨ce8, hcl8, hM8, hcc8, hfr8⟩ := Kd.R_elem HO_0.out z81 (x5_1 : Int) p8 q8; obtain rfl := k81_openM hM8; have hx8_0 : w13.cell? ⟨go6, (x5_1 : Int).toNat * 2, none⟩ = some (.string ((rd_T81 y532 x5_1).f0)) := hcc8 0 _ rfl; have hx8_1 : w13.cell? ⟨go6, (x5_1 : Int).toNat * 2 + 1, none⟩ = some (.string ((rd_T81 y532 x5_1).f1)) := hcc8 1 _ rfl; have hf8_0 : w13.frozen? ⟨go6, (x5_1 : Int).toNat * 2, none⟩ = false := hfr8 0; have hf8_1 : w13.frozen? ⟨go6, (x5_1 : Int).toNat * 2 + 1, none⟩ = false := hfr8 1; clear hcl8 hcc8 hfr8 hM8; replace p8 := eq_true p8; replace q8 := eq_true q8; have HX14 := am (show Kd.R k81 81 w13 w0.heap.size (fun k_ => (P0_ k_ ∨ w.heap.size ≤ k_)) (.slice (some ⟨go6, 0, none⟩) x0_1.length co9) y532 from (ro HO_0)); obtain ⟨ce14, hcl14, hM14, hcc14, hfr14⟩ := Kd.R_elem HX14.out z81 (x5_1 : Int) (od) (by have h_ : (x5_1 : Int) < ((x0_1.length : Int) : Int) := od; first | exact h_ | (have e_ := (Kd.R_reads' HO_0.out).1; omega) | simpa using h_); obtain rfl := k81_openM hM14; have HP14 := Kd.R_seg HX14.out (x5_1 : Int) (od) (by have h_ : (x5_1 : Int) < ((x0_1.length : Int) : Int) := od; first | exact h_ | (have e_ := (Kd.R_reads' HO_0.out).1; omega) | simpa using h_) (seg := [.string t533]) (j := 1) hcl14 hcc14 (show 2 ≤ 2 from by decide) (x' := (⟨(rd_T81 y532 x5_1).f0, t533⟩ : S81)) (k81_mkM _ _ _ (⟨(rd_T81 y532 x5_1).f0, t533⟩ : S81) ) (fun _ hk => hk); have hx14_1 := hcc14 1 _ rfl; (try simp only [show (k81).sz = 2 from rfl, Nat.mul_one, Nat.add_zero] at hx14_1); have hf14_1 := hfr14 1; (try simp only [show (k81).sz = 2 from rfl, Nat.mul_one, Nat.add_zero] at hf14_1); clear hcl14 hcc14 hfr14 hM14) | ((with_reducible refine gate_store (t := 9) (p := 25) rfl ?_); refine store_event (t := 9) (p := 25) (v := ?vo_w15) (w1 := (w13.setCell ⟨go6, (x5_1 : Int).toNat * 2 + 1, none⟩ (.string t533))) ?hg ?ho ?hn ?hr ?_; (case ho => rfl); (case hg => rfl); (case hn => rfl); (case hr => first | (go_simp; done) | (go_simp; rfl)); intro w15 hw; have hg : w13.grownBy w15 (some go6) := (by rw [hw]; exact HP14.2); have hp_ : Kd.R k81 81 w15 w0.heap.size (fun k_ => (P0_ k_ ∨ w.heap.size ≤ k_)) (.slice (some ⟨go6, 0, none⟩) x0_1.length co9) y534 := (by rw [hw, Ny534.out]; exact HP14.1); clear HP14; have n0_ := am (hp_); have n1_ := am ((by rw [hw]; exact below_set (HB.out) GB6.out : Below w0.heap.size w0 w15)); have n2_ := am (Kept.of_grown (S := (fun k_ => P0_ k_)) hg u48HK (fun k_ e_ => (HO_0.out.1 k_ e_))); clear HO_0; clear HB; clear HK; have HO_0 := n0_; have HB := n1_; have HK := n2_; clear n0_ n1_ n2_; clear hg hw hp_))
   go_roundg k1
   case measure => have := HK1.out; omega
   case rel => exact ⟨(y534), (wrap64 ((wrap64 (x1_1 + 1)) + 1)), (wrap64 (x5_1 + 1)), rs, rs, H', ⟨by have := HK1.out; omega⟩, ⟨by (with_reducible repeat (first | apply Kd.R_alloc | apply Kd.R_drewN | apply Kd.R_drew)); exact HO_0.out⟩, ⟨u48HK⟩, ⟨u48HB⟩⟩

/-! ### laws.markReqS: request behind request is marked -/
theorem H_at {α : Type} {d : Kd α} {e base g n cap : Nat} {ok oki : Nat → Prop} {W : World} {xs : List α} {i : Int} {c : List Value} (h : Kd.H d e W base ok (.slice (some ⟨g, 0, none⟩) n cap) xs i oki c) (h0 : 0 ≤ i) (h1 : i < n) :
  (∀ j u, c[j]? = some u → W.cell? ⟨g, i.toNat * d.sz + j, none⟩ = some u) ∧ ∀ j, W.frozen? ⟨g, i.toNat * d.sz + j, none⟩ = false := by
 obtain ⟨rows, hl, hraw, hcl, hco, hcc, _⟩ := Kd.H_raw h h0 h1
 obtain ⟨_, _, _, _, hfr⟩ := Kd.R_elem hraw [] i h0 h1
 exact ⟨hcc, hfr⟩
def markGo (k : Nat) : List S40 → Int → Option (Int × List S40)
 | [], m => some (m, [])
 | x :: r, m => (laws_markText.f k (wrap64 (m + 1))).bind fun t1 => (laws_markFieldS.f k x.f2 (wrap64 (wrap64 (m + 1) + 1))).bind fun b => (laws_markText.f k b.1).bind fun t2 => (markGo k r (wrap64 (b.1 + 1))).bind fun z => some (z.1, (⟨m, t1, b.2, t2⟩ : S40) :: z.2)
theorem markGo.mono : ∀ l m k, LeO (markGo k l m) (markGo (k + 1) l m)
 | [], _, _ => LeO.refl _
 | x :: r, m, k => by
  rw [markGo, markGo]
  exact LeO.bind (laws_markText.mono _ _) (fun _ => LeO.bind (laws_markFieldS.mono _ _ _) (fun _ => LeO.bind (laws_markText.mono _ _) (fun _ => LeO.bind (markGo.mono r _ _) (fun _ => LeO.refl _))))
def laws_markReqS.f (k : Nat) (l0 : List S40) (a1 : Int) : Option (Int × List S40) := if l0.length < 2199023255552 then markGo k l0 a1 else none
theorem laws_markReqS.mono : ∀ a0 a1 k, LeO (laws_markReqS.f k a0 a1) (laws_markReqS.f (k + 1) a0 a1) := fun a0 a1 k => by
 unfold laws_markReqS.f
 exact LeO.ite (markGo.mono _ _ _) (LeO.none _)
set_option maxHeartbeats 8000000 in
set_option maxRecDepth 100000 in
theorem laws_markReqS.calls (k : Nat) (P0_ : Nat → Prop) (u9000_ : Value) (l0 : List S40) (a1 : Int) (r1 : Int) (r2 : List S40) (w0 w : World) (hB : Below w0.heap.size w0 w) (ho0 : Kd.S k40 40 w w0.heap.size P0_ u9000_ l0) (h : laws_markReqS.f k l0 a1 = some (r1, r2)) :
  Calls Tryz.prog 19 #[u9000_, .int .i64 a1] w fun e w' => e = .returned (.int .i64 r1) ∧ Kd.S k40 40 w' w0.heap.size (fun k_ => (P0_ k_ ∨ w.heap.size ≤ k_)) u9000_ r2 ∧ Below w0.heap.size w0 w' ∧ Kept w w' (fun k_ => P0_ k_) := by
 unfold laws_markReqS.f at h
 split at h
 case isFalse => cases h
 rename_i hlen
 have HLEN := am hlen
 have HO0 : Aside0 (Kd.S k40 40 w w0.heap.size (fun k_ => (P0_ k_ ∨ w.heap.size ≤ k_)) u9000_ l0) := ⟨Kd.S_mono ho0 (fun k_ hk => (.inl hk))⟩
 have HK := am (Kept.refl w (fun k_ => P0_ k_))
 have HW0 := am hB.size
 have HB := am hB
 have H' := am h
 clear hB ho0 h hlen
 obtain ⟨Ao, co, eo⟩ := Kd.S_slice HO0.out
 subst eo
 go_enter Tryz.func19, Tryz.ntmps19
 go_wp2
 (try simp only [Act.put, List.setIfInBounds_toArray, List.set_cons_zero, List.set_cons_succ])
 go_loopw [1, 5] (fun v1 v5 wr => ∃ (n : Nat) (m : Int) (cur z : List S40), n ≤ l0.length ∧ cur.length = l0.length ∧ v1 = .int .i64 m ∧ v5 = .int .i64 n ∧ Aside0 (markGo k (cur.drop n) m = some (r1, z)) ∧ Aside0 (r2 = cur.take n ++ z) ∧ Aside0 (Kd.S k40 40 wr w0.heap.size (fun k_ => (P0_ k_ ∨ w.heap.size ≤ k_)) (.slice Ao l0.length co) cur) ∧ Aside0 (Kept w wr (fun k_ => P0_ k_)) ∧ Aside0 (Below w0.heap.size w0 wr)) (fun _ v5 _ => l0.length - (intOf v5).toNat)
 case atStart => exact ⟨0, a1, l0, r2, Nat.zero_le _, rfl, rfl, rfl, H', ⟨rfl⟩, HO0, HK, HB⟩
 case round =>
  clear H' HO0 HK HB
  obtain ⟨n, m, cur, z, hn, hcl, rfl, rfl, HA, HR2, HO, HK, HB⟩ := hrel
  have hl2 : (l0.length : Int) ≤ 2199023255552 := by have := HLEN.out; omega
  by_cases hlt : n < l0.length
  ·have hlc : n < cur.length := by omega
   obtain ⟨g, cap, eg, hgb, hgl, _⟩ := Kd.S_form HO.out (by omega)
   rw [hcl] at eg
   injection eg with ea _ ec
   subst ea ec
   obtain ⟨oki, c, hcl2, hM, _, _, hoki, hH⟩ := Kd.S_elem HO.out z40 (n : Int) (by omega) (by omega)
   have hx : cur.getD ((n : Int)).toNat z40 = cur[n] := by simp [List.getD, hlc]
   rw [hx] at hM
   obtain ⟨x, hxx⟩ : ∃ x, x = cur[n] := ⟨_, rfl⟩
   rw [← hxx] at hM
   have hF := HA.out
   rw [List.drop_eq_getElem_cons hlc, ← hxx, markGo] at hF
   obtain ⟨t1, ht1, hF⟩ := Option.bind_eq_some_iff.mp hF
   obtain ⟨⟨b1, b2⟩, hb, hF⟩ := Option.bind_eq_some_iff.mp hF
   dsimp only at hF
   obtain ⟨t2, ht2, hF⟩ := Option.bind_eq_some_iff.mp hF
   obtain ⟨⟨z1, z2⟩, hz, hF⟩ := Option.bind_eq_some_iff.mp hF
   simp only [Option.some.injEq, Prod.mk.injEq] at hF
   obtain ⟨rfl, rfl⟩ := hF
   obtain ⟨v2, rfl, hfs⟩ := k40_openM hM
   obtain ⟨Af, cf, ef⟩ := Kd.R_slice hfs
   subst ef
   have HPG : Aside0 (P0_ g ∨ w.heap.size ≤ g) := ⟨(Kd.S_R HO.out).1 g rfl⟩
   have HGB := am hgb
   have HLTI : Aside0 ((n : Int) < ((l0.length : Nat) : Int)) := ⟨by omega⟩
   have HOKI := am hoki
   have HOWN : Aside0 (∀ k_, some k_ = (Value.slice Af x.f2.length cf).ownBlock → oki k_) := ⟨fun k_ e_ => hfs.1 k_ e_.symm⟩
   have HH := am hH
   have HF := am hfs
   have HT1 := am ht1
   have HT2 := am ht2
   have HBB := am hb
   have HZ := am hz
   have HR2b := am HR2.out
   have HCL := am hcl
   clear hgb hgl hoki hH hfs hM hcl2 hx hxx HA HR2 HO ht1 ht2 hb hz hcl hn hlc
   have ha_ := H_at HH.out (Int.natCast_nonneg n) HLTI.out
   have hx0 : wr.cell? ⟨g, n * 4, none⟩ = some (.int .i64 x.f0) := ha_.1 0 _ rfl
   have hf0 : wr.frozen? ⟨g, n * 4, none⟩ = false := ha_.2 0
   have hx1 : wr.cell? ⟨g, n * 4 + 1, none⟩ = some (.string x.f1) := ha_.1 1 _ rfl
   have hf1 : wr.frozen? ⟨g, n * 4 + 1, none⟩ = false := ha_.2 1
   have hx2 : wr.cell? ⟨g, n * 4 + 2, none⟩ = some (.slice Af x.f2.length cf) := ha_.1 2 _ rfl
   have hf2 : wr.frozen? ⟨g, n * 4 + 2, none⟩ = false := ha_.2 2
   have hx3 : wr.cell? ⟨g, n * 4 + 3, none⟩ = some (.string x.f3) := ha_.1 3 _ rfl
   have hf3 : wr.frozen? ⟨g, n * 4 + 3, none⟩ = false := ha_.2 3
   clear ha_
   go_wp2_with (first | ((with_reducible refine gate_store (t := 3) (p := 16) rfl ?_); refine store_event (t := 3) (p := 16) (v := ?vo_w1) (w1 := wr.setCell ⟨g, n * 4, none⟩ (.int .i64 m)) ?hg ?ho ?hn ?hr ?_; (case ho => rfl); (case hg => rfl); (case hn => rfl); (case hr => first | (go_simp; done) | (go_simp; rfl)); intro w1 hw; have hs_ := Kd.H_seg HH.out (Int.natCast_nonneg n) HLTI.out (seg := [.int .i64 m]) (j := 0) (show 0 + 1 ≤ 4 by decide) (fun q_ hq_ => by rw [List.mem_singleton.1 hq_]; rfl); have hg_ : wr.grownBy w1 (some g) := (by rw [hw]; exact hs_.2); have n0_ : Aside0 (Kd.H k40 40 w1 w0.heap.size (fun k_ => (P0_ k_ ∨ w.heap.size ≤ k_)) (.slice (some ⟨g, 0, none⟩) l0.length co) cur (n : Int) oki [.int .i64 m, .string x.f1, .slice Af x.f2.length cf, .string x.f3]) := ⟨by rw [hw]; exact hs_.1⟩; have n1_ := am (Kd.R_grown HF.out hg_ (fun k_ hk_ e_ => (HOKI.out k_ hk_).2 (by injection e_))); have n2_ := am (Kept.of_grown (S := (fun k_ => P0_ k_)) hg_ HK.out (fun k_ e_ => by injection e_ with e_; subst e_; exact HPG.out)); have n3_ : Aside0 (Below w0.heap.size w0 w1) := ⟨by rw [hw]; exact below_set HB.out HGB.out⟩; clear hs_ hg_ hw HH HF HK HB hx0 hx1 hx2 hx3 hf0 hf1 hf2 hf3; have HH := n0_; have HF := n1_; have HK := n2_; have HB := n3_; clear n0_ n1_ n2_ n3_; have ha_ := H_at HH.out (Int.natCast_nonneg n) HLTI.out; have hx0 : w1.cell? ⟨g, n * 4, none⟩ = some (.int .i64 m) := ha_.1 0 _ rfl; have hf0 : w1.frozen? ⟨g, n * 4, none⟩ = false := ha_.2 0; have hx1 : w1.cell? ⟨g, n * 4 + 1, none⟩ = some (.string x.f1) := ha_.1 1 _ rfl; have hf1 : w1.frozen? ⟨g, n * 4 + 1, none⟩ = false := ha_.2 1; have hx2 : w1.cell? ⟨g, n * 4 + 2, none⟩ = some (.slice Af x.f2.length cf) := ha_.1 2 _ rfl; have hf2 : w1.frozen? ⟨g, n * 4 + 2, none⟩ = false := ha_.2 2; have hx3 : w1.cell? ⟨g, n * 4 + 3, none⟩ = some (.string x.f3) := ha_.1 3 _ rfl; have hf3 : w1.frozen? ⟨g, n * 4 + 3, none⟩ = false := ha_.2 3; clear ha_) | ((with_reducible refine gw ?_); refine gl 22 Tryz.func47 #[.int .i64 (wrap64 (m + 1))] ?_; (with_reducible refine (laws_markText.calls k (wrap64 (m + 1)) t1 _ HT1.out).mono ?_); rintro e w2 ⟨rfl, hb⟩; refine ⟨_, rfl, ?_⟩; have n0_ := am (Kd.H_below HH.out hb); have n1_ := am (Kd.R_below HF.out hb); have n2_ := am (Kept.below (S := (fun k_ => P0_ k_)) HK.out hb); have n3_ := am (below_step HB.out hb); clear hb HH HF HK HB hx0 hx1 hx2 hx3 hf0 hf1 hf2 hf3; have HH := n0_; have HF := n1_; have HK := n2_; have HB := n3_; clear n0_ n1_ n2_ n3_; have ha_ := H_at HH.out (Int.natCast_nonneg n) HLTI.out; have hx0 : w2.cell? ⟨g, n * 4, none⟩ = some (.int .i64 m) := ha_.1 0 _ rfl; have hf0 : w2.frozen? ⟨g, n * 4, none⟩ = false := ha_.2 0; have hx1 : w2.cell? ⟨g, n * 4 + 1, none⟩ = some (.string x.f1) := ha_.1 1 _ rfl; have hf1 : w2.frozen? ⟨g, n * 4 + 1, none⟩ = false := ha_.2 1; have hx2 : w2.cell? ⟨g, n * 4 + 2, none⟩ = some (.slice Af x.f2.length cf) := ha_.1 2 _ rfl; have hf2 : w2.frozen? ⟨g, n * 4 + 2, none⟩ = false := ha_.2 2; have hx3 : w2.cell? ⟨g, n * 4 + 3, none⟩ = some (.string x.f3) := ha_.1 3 _ rfl; have hf3 : w2.frozen? ⟨g, n * 4 + 3, none⟩ = false := ha_.2 3; clear ha_) | ((with_reducible refine gate_store (t := 9) (p := 24) rfl ?_); refine store_event (t := 9) (p := 24) (v := ?vo_w3) (w1 := w2.setCell ⟨g, n * 4 + 1, none⟩ (.string t1)) ?hg ?ho ?hn ?hr ?_; (case ho => rfl); (case hg => rfl); (case hn => rfl); (case hr => first | (go_simp; done) | (go_simp; rfl)); intro w3 hw; have hs_ := Kd.H_seg HH.out (Int.natCast_nonneg n) HLTI.out (seg := [.string t1]) (j := 1) (show 1 + 1 ≤ 4 by decide) (fun q_ hq_ => by rw [List.mem_singleton.1 hq_]; rfl); have hg_ : w2.grownBy w3 (some g) := (by rw [hw]; exact hs_.2); have n0_ : Aside0 (Kd.H k40 40 w3 w0.heap.size (fun k_ => (P0_ k_ ∨ w.heap.size ≤ k_)) (.slice (some ⟨g, 0, none⟩) l0.length co) cur (n : Int) oki [.int .i64 m, .string t1, .slice Af x.f2.length cf, .string x.f3]) := ⟨by rw [hw]; exact hs_.1⟩; have n1_ := am (Kd.R_grown HF.out hg_ (fun k_ hk_ e_ => (HOKI.out k_ hk_).2 (by injection e_))); have n2_ := am (Kept.of_grown (S := (fun k_ => P0_ k_)) hg_ HK.out (fun k_ e_ => by injection e_ with e_; subst e_; exact HPG.out)); have n3_ : Aside0 (Below w0.heap.size w0 w3) := ⟨by rw [hw]; exact below_set HB.out HGB.out⟩; clear hs_ hg_ hw HH HF HK HB hx0 hx1 hx2 hx3 hf0 hf1 hf2 hf3; have HH := n0_; have HF := n1_; have HK := n2_; have HB := n3_; clear n0_ n1_ n2_ n3_; have ha_ := H_at HH.out (Int.natCast_nonneg n) HLTI.out; have hx0 : w3.cell? ⟨g, n * 4, none⟩ = some (.int .i64 m) := ha_.1 0 _ rfl; have hf0 : w3.frozen? ⟨g, n * 4, none⟩ = false := ha_.2 0; have hx1 : w3.cell? ⟨g, n * 4 + 1, none⟩ = some (.string t1) := ha_.1 1 _ rfl; have hf1 : w3.frozen? ⟨g, n * 4 + 1, none⟩ = false := ha_.2 1; have hx2 : w3.cell? ⟨g, n * 4 + 2, none⟩ = some (.slice Af x.f2.length cf) := ha_.1 2 _ rfl; have hf2 : w3.frozen? ⟨g, n * 4 + 2, none⟩ = false := ha_.2 2; have hx3 : w3.cell? ⟨g, n * 4 + 3, none⟩ = some (.string x.f3) := ha_.1 3 _ rfl; have hf3 : w3.frozen? ⟨g, n * 4 + 3, none⟩ = false := ha_.2 3; clear ha_) | ((with_reducible refine gw ?_); refine gl 33 Tryz.func48 #[.slice Af x.f2.length cf, .int .i64 (wrap64 (wrap64 (m + 1) + 1))] ?_; (with_reducible refine (laws_markFieldS.calls k oki (.slice Af x.f2.length cf) x.f2 (wrap64 (wrap64 (m + 1) + 1)) b1 b2 w0 _ HB.out HF.out HBB.out).mono ?_); rintro e w4 ⟨rfl, ho, hb, hk⟩; refine ⟨_, rfl, ?_⟩; have n0_ := am (Kd.H_step HH.out (fun k_ _ hn_ hlt_ => hk.2 k_ hlt_ hn_)); have n1_ := am (Kd.R_mono (Kd.R_tight rfl ho) (fun k_ hk_ => HOWN.out k_ hk_)); have n2_ : Aside0 (Kept w w4 (fun k_ => P0_ k_)) := ⟨Nat.le_trans HK.out.1 hk.1, fun k_ hk1_ hk2_ => (hk.2 k_ (Nat.lt_of_lt_of_le hk1_ HK.out.1) (fun h_ => (HOKI.out k_ h_).1.elim hk2_ (fun h2_ => Nat.lt_irrefl _ (Nat.lt_of_lt_of_le hk1_ h2_)))).trans (HK.out.2 k_ hk1_ hk2_)⟩; have n3_ := am hb; clear ho hb hk HH HF HK HB hx0 hx1 hx2 hx3 hf0 hf1 hf2 hf3; have HH := n0_; have HF := n1_; have HK := n2_; have HB := n3_; clear n0_ n1_ n2_ n3_; have ha_ := H_at HH.out (Int.natCast_nonneg n) HLTI.out; have hx0 : w4.cell? ⟨g, n * 4, none⟩ = some (.int .i64 m) := ha_.1 0 _ rfl; have hf0 : w4.frozen? ⟨g, n * 4, none⟩ = false := ha_.2 0; have hx1 : w4.cell? ⟨g, n * 4 + 1, none⟩ = some (.string t1) := ha_.1 1 _ rfl; have hf1 : w4.frozen? ⟨g, n * 4 + 1, none⟩ = false := ha_.2 1; have hx2 : w4.cell? ⟨g, n * 4 + 2, none⟩ = some (.slice Af x.f2.length cf) := ha_.1 2 _ rfl; have hf2 : w4.frozen? ⟨g, n * 4 + 2, none⟩ = false := ha_.2 2; have hx3 : w4.cell? ⟨g, n * 4 + 3, none⟩ = some (.string x.f3) := ha_.1 3 _ rfl; have hf3 : w4.frozen? ⟨g, n * 4 + 3, none⟩ = false := ha_.2 3; clear ha_) | ((with_reducible refine gw ?_); refine gl 37 Tryz.func47 #[.int .i64 b1] ?_; (with_reducible refine (laws_markText.calls k b1 t2 _ HT2.out).mono ?_); rintro e w5 ⟨rfl, hb⟩; refine ⟨_, rfl, ?_⟩; have n0_ := am (Kd.H_below HH.out hb); have n1_ := am (Kd.R_below HF.out hb); have n2_ := am (Kept.below (S := (fun k_ => P0_ k_)) HK.out hb); have n3_ := am (below_step HB.out hb); clear hb HH HF HK HB hx0 hx1 hx2 hx3 hf0 hf1 hf2 hf3; have HH := n0_; have HF := n1_; have HK := n2_; have HB := n3_; clear n0_ n1_ n2_ n3_; have ha_ := H_at HH.out (Int.natCast_nonneg n) HLTI.out; have hx0 : w5.cell? ⟨g, n * 4, none⟩ = some (.int .i64 m) := ha_.1 0 _ rfl; have hf0 : w5.frozen? ⟨g, n * 4, none⟩ = false := ha_.2 0; have hx1 : w5.cell? ⟨g, n * 4 + 1, none⟩ = some (.string t1) := ha_.1 1 _ rfl; have hf1 : w5.frozen? ⟨g, n * 4 + 1, none⟩ = false := ha_.2 1; have hx2 : w5.cell? ⟨g, n * 4 + 2, none⟩ = some (.slice Af x.f2.length cf) := ha_.1 2 _ rfl; have hf2 : w5.frozen? ⟨g, n * 4 + 2, none⟩ = false := ha_.2 2; have hx3 : w5.cell? ⟨g, n * 4 + 3, none⟩ = some (.string x.f3) := ha_.1 3 _ rfl; have hf3 : w5.frozen? ⟨g, n * 4 + 3, none⟩ = false := ha_.2 3; clear ha_) | ((with_reducible refine gate_store (t := 9) (p := 39) rfl ?_); refine store_event (t := 9) (p := 39) (v := ?vo_w6) (w1 := w5.setCell ⟨g, n * 4 + 3, none⟩ (.string t2)) ?hg ?ho ?hn ?hr ?_; (case ho => rfl); (case hg => rfl); (case hn => rfl); (case hr => first | (go_simp; done) | (go_simp; rfl)); intro w6 hw; have hs_ := Kd.H_seg HH.out (Int.natCast_nonneg n) HLTI.out (seg := [.string t2]) (j := 3) (show 3 + 1 ≤ 4 by decide) (fun q_ hq_ => by rw [List.mem_singleton.1 hq_]; rfl); have hg_ : w5.grownBy w6 (some g) := (by rw [hw]; exact hs_.2); have n0_ : Aside0 (Kd.H k40 40 w6 w0.heap.size (fun k_ => (P0_ k_ ∨ w.heap.size ≤ k_)) (.slice (some ⟨g, 0, none⟩) l0.length co) cur (n : Int) oki [.int .i64 m, .string t1, .slice Af x.f2.length cf, .string t2]) := ⟨by rw [hw]; exact hs_.1⟩; have n1_ := am (Kd.R_grown HF.out hg_ (fun k_ hk_ e_ => (HOKI.out k_ hk_).2 (by injection e_))); have n2_ := am (Kept.of_grown (S := (fun k_ => P0_ k_)) hg_ HK.out (fun k_ e_ => by injection e_ with e_; subst e_; exact HPG.out)); have n3_ : Aside0 (Below w0.heap.size w0 w6) := ⟨by rw [hw]; exact below_set HB.out HGB.out⟩; clear hs_ hg_ hw HH HF HK HB hx0 hx1 hx2 hx3 hf0 hf1 hf2 hf3; have HH := n0_; have HF := n1_; have HK := n2_; have HB := n3_; clear n0_ n1_ n2_ n3_))
   go_roundw
   case rel => exact ⟨n + 1, wrap64 (b1 + 1), cur.set n (⟨m, t1, b2, t2⟩ : S40), z2, by omega, by rw [List.length_set]; exact HCL.out, rfl, by go_num, ⟨by rw [List.drop_set_of_lt (by omega)]; exact HZ.out⟩, ⟨by rw [HR2b.out, List.take_succ_eq_append_getElem (by rw [List.length_set, HCL.out]; exact hlt), List.take_set_of_le (Nat.le_refl _), List.getElem_set_self, List.append_assoc]; rfl⟩, ⟨Kd.H_back HH.out (k40_mkM _ _ _ (⟨m, t1, b2, t2⟩ : S40) HF.out) (fun _ h => h)⟩, HK, HB⟩
   case measure => simp [intOf]; omega
  ·have hnn : n = cur.length := by omega
   have hF := HA.out
   rw [hnn, List.drop_length, markGo] at hF
   simp only [Option.some.injEq, Prod.mk.injEq] at hF
   obtain ⟨rfl, rfl⟩ := hF
   have HR := HR2.out
   rw [hnn, List.take_length, List.append_nil] at HR
   go_wp2
   go_ret
   exact ⟨rfl, by rw [HR]; exact HO.out, HB.out, HK.out⟩

/-! ### laws_heldFieldS: function 49 -/
theorem u49HB {p : Prop} (h : p := by repeat (first | (with_reducible first | exact HB.out | apply below_alloc | apply pw_below_drewN | apply below_drew1) | exact HB.out)) : p := h
def laws_heldFieldS.l0 : Nat → List (S81) → Int → Int → Option (Int)
 | 0, _, _, _ => none
 | k + 1, x0, x1, x5 => if x5 < (x0.length : Int) then (if 0 ≤ x5 then ((laws_markText.f k x1).bind fun t536 => (if ((rd_T81 x0 x5).f0).toList = t536.toList then ((laws_markText.f k (wrap64 (x1 + 1))).bind fun t538 => (if ((rd_T81 x0 x5).f1).toList = t538.toList then (laws_heldFieldS.l0 k x0 (wrap64 ((wrap64 (x1 + 1)) + 1)) (wrap64 (x5 + 1))) else (some (-1)))) else (some (-1)))) else (none)) else (some x1)
def laws_heldFieldS.f (k : Nat) (l0 : List (S81)) (a1 : Int) : Option (Int) := laws_heldFieldS.l0 k l0 a1 0
theorem laws_heldFieldS.mono_l : ∀ k, (∀ y0 y1 y2, LeO (laws_heldFieldS.l0 k y0 y1 y2) (laws_heldFieldS.l0 (k + 1) y0 y1 y2))
 | 0 => fun _ _ _ r h => by simp [laws_heldFieldS.l0] at h
 | k + 1 => by
  have ih0 := laws_heldFieldS.mono_l k
  ·intro y0 y1 y2
   unfold laws_heldFieldS.l0
   have m0 := @laws_markText.mono
   exact mo
theorem laws_heldFieldS.mono : ∀ a0 a1 k, LeO (laws_heldFieldS.f k a0 a1) (laws_heldFieldS.f (k + 1) a0 a1) := by
 intro a0 a1 k
 have ih0 := laws_heldFieldS.mono_l k
 unfold laws_heldFieldS.f
 have m0 := @laws_markText.mono
 exact mo
def laws_heldFieldS.T4 : Bool × List (List Nat × List Nat) := (true, [([], []), ([], []), ([0, 1], [0, 1]), ([2], [2]), ([3], [3]), ([], []), ([5], [5]), ([4, 6], [4, 6])])
def laws_heldFieldS.B4 : List Nat := [0, 0, 3, 7, 15, 0, 32, 127]
theorem laws_heldFieldS.tab4 : rtab .any (opsOf Tryz.f49 4) = laws_heldFieldS.T4 := by kernel_rfl
theorem laws_heldFieldS.bits4 : waitsOk laws_heldFieldS.T4.2 laws_heldFieldS.B4 = true := by kernel_rfl
def laws_heldFieldS.T7 : Bool × List (List Nat × List Nat) := (true, [([], []), ([], []), ([0, 1], [0, 1]), ([2], [2]), ([3], [3]), ([], []), ([5], [5]), ([4, 6], [4, 6])])
def laws_heldFieldS.B7 : List Nat := [0, 0, 3, 7, 15, 0, 32, 127]
theorem laws_heldFieldS.tab7 : rtab .any (opsOf Tryz.f49 7) = laws_heldFieldS.T7 := by kernel_rfl
theorem laws_heldFieldS.bits7 : waitsOk laws_heldFieldS.T7.2 laws_heldFieldS.B7 = true := by kernel_rfl
set_option maxHeartbeats 8000000 in
set_option maxRecDepth 100000 in
theorem laws_heldFieldS.calls (k : Nat) (A0 : Option Addr) (c0 : Nat) (l0 : List (S81)) (a1 : Int) (r : Int) (w : World) (hr0 : Kd.C k81 w A0 l0.length l0) (hc0 : l0.length ≤ c0) (h : laws_heldFieldS.f k l0 a1 = some r) :
  Calls Tryz.prog 49 #[.slice A0 l0.length c0, .int .i64 a1] w fun e w' => e = .returned (.int .i64 r) ∧ Below w.heap.size w w' := by
 have HR0 := am hr0
 have HC0 := am hc0
 clear hr0 hc0
 have HB := am (Below.refl w.heap.size w)
 unfold laws_heldFieldS.f at h
 have H := h
 clear h
 have H' := am H
 clear H
 go_enter Tryz.func49, Tryz.ntmps49
 go_wp2
 (try simp only [Act.put, List.setIfInBounds_toArray, List.set_cons_zero, List.set_cons_succ])
 go_loopg [1, 5] k (fun kq v1 v5 w' => ∃ (x1_1 : Int) (x5_1 : Int), v1 = .int .i64 x1_1 ∧ v5 = .int .i64 x5_1 ∧ Aside0 (laws_heldFieldS.l0 kq l0 x1_1 x5_1 = some r) ∧ Aside0 (kq ≤ k) ∧ Aside0 (Below w.heap.size w w'))
 case atStart => exact ⟨(a1), (0), rs, rs, H', ⟨Nat.le_refl _⟩, ⟨u49HB⟩⟩
 case round =>
  clear H'
  try clear p2
  obtain ⟨x1_1, x5_1, rfl, rfl, HA, HK1, HB⟩ := hrel
  cases gk with
  | zero => exact absurd HA.out (by simp [laws_heldFieldS.l0])
  | succ k1 =>
   have H := HA.out
   clear HA
   simp only [laws_heldFieldS.l0] at H
   by_cases c3 : x5_1 < (l0.length : Int)
   rotate_left
   ·rw [if_neg c3] at H
    have c3b0 := decide_eq_false c3
    clear c3
    obtain rfl := Option.some.inj H
    go_wp2
    go_ret
    exact ⟨rf, bl⟩
   rw [if_pos c3] at H
   have c3b0 := decide_eq_true c3
   clear c3
   revert H
   refine ifn fun c4 H => ?_
   have c4b0 := decide_eq_true c4
   clear c4
   revert H
   refine ok1 fun t536 A5 H => ?_
   have HH6 := am H
   clear H
   try go_wp2
   replace HB := am (below_drew1 HB.out)
   have p535 : 0 ≤ (x5_1 : Int) := od
   have q535 : x5_1 < (l0.length : Int) := od
   obtain ⟨ad535, e535, hx535_0, hx535_1⟩ := at_T81 HR0.out x5_1 p535 q535
   have hw535_1 := hx535_1
   have hw535_0 := hx535_0
   cases e535
   replace hx535_0 := hcw hx535_0
   replace hx535_1 := hcw hx535_1
   replace p535 := eq_true p535
   replace q535 := eq_true q535
   refine start_ (n := 8) (S := fun w' => w'.cell? (ad535.add ((x5_1).toNat * 2)) = some (.string ((rd_T81 l0 x5_1).f0)) ∧ w'.cell? ⟨(ad535.add ((x5_1).toNat * 2)).block, (ad535.add ((x5_1).toNat * 2)).off + 1, none⟩ = some (.string ((rd_T81 l0 x5_1).f1))) (ds := []) ⟨br true [0, 8]⟩ (by kernel_rfl) rfl (by kernel_rfl) ⟨(hcw hw535_0), (hcw hw535_1)⟩ (fun hHeld => ?_); refine with_tabW laws_heldFieldS.tab4 laws_heldFieldS.bits4 (fun HT_ HW_ => ?_)
   generalize wr.drew = w7 at HB hx535_0 hx535_1 hHeld ⊢
   refine pu 0 12 [1, 7] ?_
   refine pu 1 13 [2, 6] ?_
   refine pu 2 14 [3, 5] ?_
   refine pu 3 15 [4, 4] ?_
   refine pu 5 17 [4, 1, 1, 2] ?_
   refine tk 4 16 [6, 2] ?_
   refine og 6 18 [7, 1] Tryz.func47 #[.int .i64 x1_1] (fun K hK => ?_)
   with_reducible refine (laws_markText.calls k1 x1_1 t536 _ A5.out).mono ?_
   rintro e w8 ⟨rfl, hb⟩
   refine ⟨_, rfl, ?_⟩
   replace HB := am (below_step bl hb)
   clear hb
   refine hK.out _ _ ⟨(hcw hw535_0), (hcw hw535_1)⟩ (fun hHeld => ?_)
   clear hK K
   refine nm 18 ?_
   refine pu 7 19 [8] ?_
   refine done_ (done_of HT_.out (by kernel_rfl)) ?_
   go_upto_if 19 with (fail)
   have H := HH6.out
   clear HH6
   by_cases c9 : ((rd_T81 l0 x5_1).f0).toList = t536.toList
   rotate_left
   ·rw [if_neg c9] at H
    have c9b0 : (((rd_T81 l0 x5_1).f0).toList == t536.toList) = false := beq_eq_false_iff_ne.mpr c9
    have c9b1 : (((rd_T81 l0 x5_1).f0).toList != t536.toList) = true := bne_iff_ne.mpr c9
    (first | rw [c9b0] | (simp only [i64_w, i32_w]; rw [c9b0]) | skip)
    obtain rfl := Option.some.inj H
    go_wp2
    go_ret
    exact ⟨rf, bl⟩
   rw [if_pos c9] at H
   have c9b0 : (((rd_T81 l0 x5_1).f0).toList == t536.toList) = true := beq_iff_eq.mpr c9
   have c9b1 : (((rd_T81 l0 x5_1).f0).toList != t536.toList) = false := bne_eq_false_iff_eq.mpr c9
   clear c9
   (first | rw [c9b0] | (simp only [i64_w, i32_w]; rw [c9b0]) | skip)
   revert H
   refine ok1 fun t538 A10 H => ?_
   have HH11 := am H
   clear H
   try go_wp2
   replace HB := am (below_drew1 HB.out)
   have p537 : 0 ≤ (x5_1 : Int) := od
   have q537 : x5_1 < (l0.length : Int) := od
   obtain ⟨ad537, e537, hx537_0, hx537_1⟩ := at_T81 HR0.out x5_1 p537 q537
   have hw537_1 := hx537_1
   have hw537_0 := hx537_0
   obtain rfl : ad535 = ad537 := (by injection e537)
   replace hx537_0 := hcw hx537_0
   replace hx537_1 := hcw hx537_1
   replace p537 := eq_true p537
   replace q537 := eq_true q537
   refine start_ (n := 8) (S := fun w' => w'.cell? (ad535.add ((x5_1).toNat * 2)) = some (.string ((rd_T81 l0 x5_1).f0)) ∧ w'.cell? ⟨(ad535.add ((x5_1).toNat * 2)).block, (ad535.add ((x5_1).toNat * 2)).off + 1, none⟩ = some (.string ((rd_T81 l0 x5_1).f1))) (ds := []) ⟨br true [0, 8]⟩ (by kernel_rfl) rfl (by kernel_rfl) ⟨(hcw hw537_0), (hcw hw537_1)⟩ (fun hHeld => ?_); refine with_tabW laws_heldFieldS.tab7 laws_heldFieldS.bits7 (fun HT_ HW_ => ?_)
   generalize w8.drew = w12 at HB hx537_0 hx537_1 hHeld ⊢
   refine pu 0 22 [1, 7] ?_
   refine pu 1 23 [2, 6] ?_
   refine pu 2 24 [3, 5] ?_
   refine pu 3 25 [4, 4] ?_
   refine pu 5 27 [4, 1, 1, 2] ?_
   refine tk 4 26 [6, 2] ?_
   refine og 6 28 [7, 1] Tryz.func47 #[.int .i64 (wrap64 (x1_1 + 1))] (fun K hK => ?_)
   with_reducible refine (laws_markText.calls k1 (wrap64 (x1_1 + 1)) t538 _ A10.out).mono ?_
   rintro e w13 ⟨rfl, hb⟩
   refine ⟨_, rfl, ?_⟩
   replace HB := am (below_step bl hb)
   clear hb
   refine hK.out _ _ ⟨(hcw hw537_0), (hcw hw537_1)⟩ (fun hHeld => ?_)
   clear hK K
   refine nm 28 ?_
   refine pu 7 29 [8] ?_
   refine done_ (done_of HT_.out (by kernel_rfl)) ?_
   go_upto_if 29 with (fail)
   have H := HH11.out
   clear HH11
   by_cases c14 : ((rd_T81 l0 x5_1).f1).toList = t538.toList
   rotate_left
   ·rw [if_neg c14] at H
    have c14b0 : (((rd_T81 l0 x5_1).f1).toList == t538.toList) = false := beq_eq_false_iff_ne.mpr c14
    have c14b1 : (((rd_T81 l0 x5_1).f1).toList != t538.toList) = true := bne_iff_ne.mpr c14
    (first | rw [c14b0] | (simp only [i64_w, i32_w]; rw [c14b0]) | skip)
    obtain rfl := Option.some.inj H
    go_wp2
    go_ret
    exact ⟨rf, bl⟩
   rw [if_pos c14] at H
   have c14b0 : (((rd_T81 l0 x5_1).f1).toList == t538.toList) = true := beq_iff_eq.mpr c14
   have c14b1 : (((rd_T81 l0 x5_1).f1).toList != t538.toList) = false := bne_eq_false_iff_eq.mpr c14
   clear c14
   (first | rw [c14b0] | (simp only [i64_w, i32_w]; rw [c14b0]) | skip)
   have H' := am H
   clear H
   go_wp2
   go_roundg k1
   case measure => have := HK1.out; omega
   case rel => exact ⟨(wrap64 ((wrap64 (x1_1 + 1)) + 1)), (wrap64 (x5_1 + 1)), rs, rs, H', ⟨by have := HK1.out; omega⟩, ⟨u49HB⟩⟩

end Go.Proofs.YtjckfmipegemcaaGreatDoor.All
