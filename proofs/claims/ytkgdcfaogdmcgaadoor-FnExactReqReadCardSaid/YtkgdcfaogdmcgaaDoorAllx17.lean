-- Written by a program of this session (wip/tools/hprint.py) out of the translation. Lean checks it.
import Derived.Test.YtkgdcfaogdmcgaaDoorAllx0
namespace Go.Proofs.YtkgdcfaogdmcgaaDoor.All
open Go.RowKit Go.Proofs.YtkgdcfaogdmcgaaDoorW.PrintWords Go.Proofs.YtkgdcfaogdmcgaaDoorW.PrintLast Go.Proofs.YtkgdcfaogdmcgaaDoorW.PrintMore
attribute [local go_sem] max2_int min2_int max_two min_two max_three min_three max_four min_four   -- for this text's walks alone
set_option linter.unusedVariables false
set_option linter.unusedSimpArgs false

/-! ### laws_eqField: function 103 -/
def laws_eqField.f (a0_0 : ByteArray) (a0_1 : ByteArray) (a1_0 : ByteArray) (a1_1 : ByteArray) : Option (Bool) := if a0_0.toList = a1_0.toList then (if a0_1.toList = a1_1.toList then (some true) else (some false)) else (some false)
set_option maxHeartbeats 8000000 in
set_option maxRecDepth 100000 in
theorem laws_eqField.calls (a0_0 : ByteArray) (a0_1 : ByteArray) (a1_0 : ByteArray) (a1_1 : ByteArray) (r : Bool) (w : World) (h : laws_eqField.f a0_0 a0_1 a1_0 a1_1 = some r) :
  Calls Tryd.prog 103 #[.agg #[.string a0_0, .string a0_1], .agg #[.string a1_0, .string a1_1]] w fun e w' => e = .returned (.bool r) ∧ Below w.heap.size w w' := by
 have hu84 := Tryd.underlying84
 have HB := am (Below.refl w.heap.size w)
 unfold laws_eqField.f at h
 have H := h
 clear h
 by_cases c3 : a0_0.toList = a1_0.toList
 rotate_left
 ·rw [if_neg c3] at H
  have c3b0 : (a0_0.toList == a1_0.toList) = false := beq_eq_false_iff_ne.mpr c3
  have c3b1 : (a0_0.toList != a1_0.toList) = true := bne_iff_ne.mpr c3
  obtain rfl := Option.some.inj H
  go_enter Tryd.func103, Tryd.ntmps103
  go_wp2_with (first | (refine bx 2 #[.string a0_0, .string a0_1] 84 ?_; intro gb742 hg w15 hbox hb; have BK742 := am (hbox); have GW742 := am (sz hg : w.heap.size ≤ gb742); have GE742 := am (sz hg : w.heap.size ≤ gb742); replace HB := am (below_step bl hb); clear hb hbox hg) | (refine bx 3 #[.string a1_0, .string a1_1] 84 ?_; intro gb743 hg w16 hbox hb; have BK743 := am (hbox); have GW743 := am (sz hg : w.heap.size ≤ gb743); have GE743 := am (sz hg : w.heap.size ≤ gb743); replace HB := am (below_step bl hb); have NB742_743 := am (nl hg BK742 : gb742 ≠ gb743); have NB743_742 := am (ng hg BK742 : gb743 ≠ gb742); replace BK742 := kb BK742 hb; clear hb hbox hg; have hnb17 := NB742_743.out; have hnc17 := NB743_742.out; obtain ⟨z18_0, y18_0, z18_1, y18_1⟩ := cl2 BK742; obtain ⟨z19_0, y19_0, z19_1, y19_1⟩ := cl2 BK743))
  go_ret
  exact ⟨rf, bl⟩
 rw [if_pos c3] at H
 have c3b0 : (a0_0.toList == a1_0.toList) = true := beq_iff_eq.mpr c3
 have c3b1 : (a0_0.toList != a1_0.toList) = false := bne_eq_false_iff_eq.mpr c3
 clear c3
 by_cases c4 : a0_1.toList = a1_1.toList
 ·rw [if_pos c4] at H
  have c4b0 : (a0_1.toList == a1_1.toList) = true := beq_iff_eq.mpr c4
  have c4b1 : (a0_1.toList != a1_1.toList) = false := bne_eq_false_iff_eq.mpr c4
  clear c4
  obtain rfl := Option.some.inj H
  go_enter Tryd.func103, Tryd.ntmps103
  go_wp2_with (first | (refine bx 2 #[.string a0_0, .string a0_1] 84 ?_; intro gb742 hg w5 hbox hb; have BK742 := am (hbox); have GW742 := am (sz hg : w.heap.size ≤ gb742); have GE742 := am (sz hg : w.heap.size ≤ gb742); replace HB := am (below_step bl hb); clear hb hbox hg) | (refine bx 3 #[.string a1_0, .string a1_1] 84 ?_; intro gb743 hg w6 hbox hb; have BK743 := am (hbox); have GW743 := am (sz hg : w.heap.size ≤ gb743); have GE743 := am (sz hg : w.heap.size ≤ gb743); replace HB := am (below_step bl hb); have NB742_743 := am (nl hg BK742 : gb742 ≠ gb743); have NB743_742 := am (ng hg BK742 : gb743 ≠ gb742); replace BK742 := kb BK742 hb; clear hb hbox hg; have hnb7 := NB742_743.out; have hnc7 := NB743_742.out; obtain ⟨z8_0, y8_0, z8_1, y8_1⟩ := cl2 BK742; obtain ⟨z9_0, y9_0, z9_1, y9_1⟩ := cl2 BK743))
  go_ret
  exact ⟨rf, bl⟩
 rw [if_neg c4] at H
 have c4b0 : (a0_1.toList == a1_1.toList) = false := beq_eq_false_iff_ne.mpr c4
 have c4b1 : (a0_1.toList != a1_1.toList) = true := bne_iff_ne.mpr c4
 obtain rfl := Option.some.inj H
 go_enter Tryd.func103, Tryd.ntmps103
 go_wp2_with (first | (refine bx 2 #[.string a0_0, .string a0_1] 84 ?_; intro gb742 hg w10 hbox hb; have BK742 := am (hbox); have GW742 := am (sz hg : w.heap.size ≤ gb742); have GE742 := am (sz hg : w.heap.size ≤ gb742); replace HB := am (below_step bl hb); clear hb hbox hg) | (refine bx 3 #[.string a1_0, .string a1_1] 84 ?_; intro gb743 hg w11 hbox hb; have BK743 := am (hbox); have GW743 := am (sz hg : w.heap.size ≤ gb743); have GE743 := am (sz hg : w.heap.size ≤ gb743); replace HB := am (below_step bl hb); have NB742_743 := am (nl hg BK742 : gb742 ≠ gb743); have NB743_742 := am (ng hg BK742 : gb743 ≠ gb742); replace BK742 := kb BK742 hb; clear hb hbox hg; have hnb12 := NB742_743.out; have hnc12 := NB743_742.out; obtain ⟨z13_0, y13_0, z13_1, y13_1⟩ := cl2 BK742; obtain ⟨z14_0, y14_0, z14_1, y14_1⟩ := cl2 BK743))
 go_ret
 exact ⟨rf, bl⟩

/-! ### laws_eqFieldS: function 46 -/
theorem u46HB {p : Prop} (h : p := by repeat (first | (with_reducible first | exact HB.out | apply below_alloc | apply pw_below_drewN | apply below_drew1) | exact HB.out)) : p := h
def laws_eqFieldS.l0 : Nat → List (S84) → List (S84) → Int → Option (Bool)
 | 0, _, _, _ => none
 | k + 1, x0, x1, x5 => if x5 < (x0.length : Int) then (if 0 ≤ x5 then (if x5 < (x1.length : Int) then ((laws_eqField.f ((rd_T84 x0 x5).f0) ((rd_T84 x0 x5).f1) ((rd_T84 x1 x5).f0) ((rd_T84 x1 x5).f1)).bind fun t746 => (if t746 = true then (laws_eqFieldS.l0 k x0 x1 (wrap64 (x5 + 1))) else (some false))) else (none)) else (none)) else (some true)
def laws_eqFieldS.f (k : Nat) (l0 : List (S84)) (l1 : List (S84)) : Option (Bool) := if (l0.length : Int) = (l1.length : Int) then (laws_eqFieldS.l0 k l0 l1 0) else (some false)
theorem laws_eqFieldS.mono_l : ∀ k, (∀ y0 y1 y2, LeO (laws_eqFieldS.l0 k y0 y1 y2) (laws_eqFieldS.l0 (k + 1) y0 y1 y2))
 | 0 => fun _ _ _ r h => by simp [laws_eqFieldS.l0] at h
 | k + 1 => by
  have ih0 := laws_eqFieldS.mono_l k
  ·intro y0 y1 y2
   unfold laws_eqFieldS.l0
   exact mo
theorem laws_eqFieldS.mono : ∀ a0 a1 k, LeO (laws_eqFieldS.f k a0 a1) (laws_eqFieldS.f (k + 1) a0 a1) := by
 intro a0 a1 k
 have ih0 := laws_eqFieldS.mono_l k
 unfold laws_eqFieldS.f
 exact mo
def laws_eqFieldS.T6 : Bool × List (List Nat × List Nat) := (true, [([], []), ([], []), ([0, 1], [0, 1]), ([2], [2]), ([], []), ([], []), ([4, 5], [4, 5]), ([6], [6]), ([3, 7], [3, 7]), ([8], [8])])
def laws_eqFieldS.B6 : List Nat := [0, 0, 3, 7, 0, 0, 48, 112, 255, 511]
theorem laws_eqFieldS.tab6 : rtab .any (opsOf Tryd.f46 6) = laws_eqFieldS.T6 := by kernel_rfl
theorem laws_eqFieldS.bits6 : waitsOk laws_eqFieldS.T6.2 laws_eqFieldS.B6 = true := by kernel_rfl
set_option maxHeartbeats 8000000 in
set_option maxRecDepth 100000 in
theorem laws_eqFieldS.calls (k : Nat) (A0 : Option Addr) (c0 : Nat) (l0 : List (S84)) (A1 : Option Addr) (c1 : Nat) (l1 : List (S84)) (r : Bool) (w : World) (hr0 : Kd.C k84 w A0 l0.length l0) (hc0 : l0.length ≤ c0) (hr1 : Kd.C k84 w A1 l1.length l1) (hc1 : l1.length ≤ c1) (h : laws_eqFieldS.f k l0 l1 = some r) :
  Calls Tryd.prog 46 #[.slice A0 l0.length c0, .slice A1 l1.length c1] w fun e w' => e = .returned (.bool r) ∧ Below w.heap.size w w' := by
 have hu84 := Tryd.underlying84
 have HR0 := am hr0
 have HC0 := am hc0
 clear hr0 hc0
 have HR1 := am hr1
 have HC1 := am hc1
 clear hr1 hc1
 have HB := am (Below.refl w.heap.size w)
 unfold laws_eqFieldS.f at h
 have H := h
 clear h
 by_cases c3 : (l0.length : Int) = (l1.length : Int)
 rotate_left
 ·rw [if_neg c3] at H
  have c3b0 : ((l0.length : Int) == (l1.length : Int)) = false := beq_eq_false_iff_ne.mpr c3
  have c3b1 : ((l0.length : Int) != (l1.length : Int)) = true := bne_iff_ne.mpr c3
  have c3b2 : (l0.length == l1.length) = false := by first | simpa using c3 | (simp at c3 ⊢; omega)
  obtain rfl := Option.some.inj H
  go_enter Tryd.func46, Tryd.ntmps46
  go_wp2
  go_ret
  exact ⟨rf, bl⟩
 rw [if_pos c3] at H
 have c3b0 : ((l0.length : Int) == (l1.length : Int)) = true := beq_iff_eq.mpr c3
 have c3b1 : ((l0.length : Int) != (l1.length : Int)) = false := bne_eq_false_iff_eq.mpr c3
 have c3b2 : (l0.length == l1.length) = true := by first | simpa using c3 | (simp at c3 ⊢; omega)
 clear c3
 have H' := am H
 clear H
 go_enter Tryd.func46, Tryd.ntmps46
 go_wp2
 (try simp only [Act.put, List.setIfInBounds_toArray, List.set_cons_zero, List.set_cons_succ])
 go_loopg [5] k (fun kq v5 w' => ∃ (x5_1 : Int), v5 = .int .i64 x5_1 ∧ Aside0 (laws_eqFieldS.l0 kq l0 l1 x5_1 = some r) ∧ Aside0 (kq ≤ k) ∧ Aside0 (Below w.heap.size w w'))
 case atStart => exact ⟨(0), rs, H', ⟨Nat.le_refl _⟩, ⟨u46HB⟩⟩
 case round =>
  clear H'
  try clear c1
  try clear p2
  try clear c3
  try clear c3b0
  try clear c3b1
  try clear c3b2
  obtain ⟨x5_1, rfl, HA, HK1, HB⟩ := hrel
  cases gk with
  | zero => exact absurd HA.out (by simp [laws_eqFieldS.l0])
  | succ k1 =>
   have H := HA.out
   clear HA
   simp only [laws_eqFieldS.l0] at H
   by_cases c4 : x5_1 < (l0.length : Int)
   rotate_left
   ·rw [if_neg c4] at H
    have c4b0 := decide_eq_false c4
    clear c4
    obtain rfl := Option.some.inj H
    go_wp2
    go_ret
    exact ⟨rf, bl⟩
   rw [if_pos c4] at H
   have c4b0 := decide_eq_true c4
   clear c4
   revert H
   refine ifn fun c5 H => ?_
   have c5b0 := decide_eq_true c5
   clear c5
   revert H
   refine ifn fun c6 H => ?_
   have c6b0 := decide_eq_true c6
   clear c6
   revert H
   refine ok1 fun t746 A7 H => ?_
   by_cases c8 : t746 = true
   rotate_left
   ·replace c8 := Bool.eq_false_iff.mpr c8
    subst c8
    rw [if_neg (show ¬ (false = true) by decide)] at H
    obtain rfl := Option.some.inj H
    try go_wp2
    replace HB := am (below_drew1 HB.out)
    have p744 : 0 ≤ (x5_1 : Int) := od
    have q744 : x5_1 < (l0.length : Int) := od
    obtain ⟨ad744, e744, hx744_0, hx744_1⟩ := at_T84 HR0.out x5_1 p744 q744
    have hw744_1 := hx744_1
    have hw744_0 := hx744_0
    cases e744
    replace hx744_0 := hcw hx744_0
    replace hx744_1 := hcw hx744_1
    replace p744 := eq_true p744
    replace q744 := eq_true q744
    have p745 : 0 ≤ (x5_1 : Int) := od
    have q745 : x5_1 < (l1.length : Int) := od
    obtain ⟨ad745, e745, hx745_0, hx745_1⟩ := at_T84 HR1.out x5_1 p745 q745
    have hw745_1 := hx745_1
    have hw745_0 := hx745_0
    cases e745
    replace hx745_0 := hcw hx745_0
    replace hx745_1 := hcw hx745_1
    replace p745 := eq_true p745
    replace q745 := eq_true q745
    refine start_ (n := 10) (S := fun w' => w'.cell? (ad744.add ((x5_1).toNat * 2)) = some (.string ((rd_T84 l0 x5_1).f0)) ∧ w'.cell? ⟨(ad744.add ((x5_1).toNat * 2)).block, (ad744.add ((x5_1).toNat * 2)).off + 1, none⟩ = some (.string ((rd_T84 l0 x5_1).f1)) ∧ w'.cell? (ad745.add ((x5_1).toNat * 2)) = some (.string ((rd_T84 l1 x5_1).f0)) ∧ w'.cell? ⟨(ad745.add ((x5_1).toNat * 2)).block, (ad745.add ((x5_1).toNat * 2)).off + 1, none⟩ = some (.string ((rd_T84 l1 x5_1).f1))) (ds := []) ⟨br true [0, 10]⟩ (by kernel_rfl) rfl (by kernel_rfl) ⟨(hcw hw744_0), (hcw hw744_1), (hcw hw745_0), (hcw hw745_1)⟩ (fun hHeld => ?_); refine with_tabW laws_eqFieldS.tab6 laws_eqFieldS.bits6 (fun HT_ HW_ => ?_)
    generalize wr.drew = w11 at HB hx744_0 hx744_1 hx745_0 hx745_1 hHeld ⊢
    refine pu 0 17 [1, 9] ?_
    refine pu 1 18 [2, 8] ?_
    refine pu 2 19 [3, 7] ?_
    refine pu 4 21 [3, 1, 1, 5] ?_
    refine pu 5 22 [3, 1, 2, 4] ?_
    refine pu 6 23 [3, 1, 3, 3] ?_
    refine tk 3 20 [7, 3] ?_
    refine tk 7 24 [8, 2] ?_
    refine og 8 25 [9, 1] Tryd.func103 #[.agg #[.string ((rd_T84 l0 x5_1).f0), .string ((rd_T84 l0 x5_1).f1)], .agg #[.string ((rd_T84 l1 x5_1).f0), .string ((rd_T84 l1 x5_1).f1)]] (fun K hK => ?_)
    with_reducible refine (laws_eqField.calls ((rd_T84 l0 x5_1).f0) ((rd_T84 l0 x5_1).f1) ((rd_T84 l1 x5_1).f0) ((rd_T84 l1 x5_1).f1) false _ A7.out).mono ?_
    rintro e w12 ⟨rfl, hb⟩
    refine ⟨_, rfl, ?_⟩
    replace HB := am (below_step bl hb)
    clear hb
    refine hK.out _ _ ⟨(hcw hw744_0), (hcw hw744_1), (hcw hw745_0), (hcw hw745_1)⟩ (fun hHeld => ?_)
    clear hK K
    refine nm 25 ?_
    refine pu 9 26 [10] ?_
    refine done_ (done_of HT_.out (by kernel_rfl)) ?_
    try go_wp2
    go_ret
    exact ⟨rf, bl⟩
   subst c8
   rw [if_pos rfl] at H
   have H' := am H
   clear H
   try go_wp2
   replace HB := am (below_drew1 HB.out)
   have p744 : 0 ≤ (x5_1 : Int) := od
   have q744 : x5_1 < (l0.length : Int) := od
   obtain ⟨ad744, e744, hx744_0, hx744_1⟩ := at_T84 HR0.out x5_1 p744 q744
   have hw744_1 := hx744_1
   have hw744_0 := hx744_0
   cases e744
   replace hx744_0 := hcw hx744_0
   replace hx744_1 := hcw hx744_1
   replace p744 := eq_true p744
   replace q744 := eq_true q744
   have p745 : 0 ≤ (x5_1 : Int) := od
   have q745 : x5_1 < (l1.length : Int) := od
   obtain ⟨ad745, e745, hx745_0, hx745_1⟩ := at_T84 HR1.out x5_1 p745 q745
   have hw745_1 := hx745_1
   have hw745_0 := hx745_0
   cases e745
   replace hx745_0 := hcw hx745_0
   replace hx745_1 := hcw hx745_1
   replace p745 := eq_true p745
   replace q745 := eq_true q745
   refine start_ (n := 10) (S := fun w' => w'.cell? (ad744.add ((x5_1).toNat * 2)) = some (.string ((rd_T84 l0 x5_1).f0)) ∧ w'.cell? ⟨(ad744.add ((x5_1).toNat * 2)).block, (ad744.add ((x5_1).toNat * 2)).off + 1, none⟩ = some (.string ((rd_T84 l0 x5_1).f1)) ∧ w'.cell? (ad745.add ((x5_1).toNat * 2)) = some (.string ((rd_T84 l1 x5_1).f0)) ∧ w'.cell? ⟨(ad745.add ((x5_1).toNat * 2)).block, (ad745.add ((x5_1).toNat * 2)).off + 1, none⟩ = some (.string ((rd_T84 l1 x5_1).f1))) (ds := []) ⟨br true [0, 10]⟩ (by kernel_rfl) rfl (by kernel_rfl) ⟨(hcw hw744_0), (hcw hw744_1), (hcw hw745_0), (hcw hw745_1)⟩ (fun hHeld => ?_); refine with_tabW laws_eqFieldS.tab6 laws_eqFieldS.bits6 (fun HT_ HW_ => ?_)
   generalize wr.drew = w9 at HB hx744_0 hx744_1 hx745_0 hx745_1 hHeld ⊢
   refine pu 0 17 [1, 9] ?_
   refine pu 1 18 [2, 8] ?_
   refine pu 2 19 [3, 7] ?_
   refine pu 4 21 [3, 1, 1, 5] ?_
   refine pu 5 22 [3, 1, 2, 4] ?_
   refine pu 6 23 [3, 1, 3, 3] ?_
   refine tk 3 20 [7, 3] ?_
   refine tk 7 24 [8, 2] ?_
   refine og 8 25 [9, 1] Tryd.func103 #[.agg #[.string ((rd_T84 l0 x5_1).f0), .string ((rd_T84 l0 x5_1).f1)], .agg #[.string ((rd_T84 l1 x5_1).f0), .string ((rd_T84 l1 x5_1).f1)]] (fun K hK => ?_)
   with_reducible refine (laws_eqField.calls ((rd_T84 l0 x5_1).f0) ((rd_T84 l0 x5_1).f1) ((rd_T84 l1 x5_1).f0) ((rd_T84 l1 x5_1).f1) true _ A7.out).mono ?_
   rintro e w10 ⟨rfl, hb⟩
   refine ⟨_, rfl, ?_⟩
   replace HB := am (below_step bl hb)
   clear hb
   refine hK.out _ _ ⟨(hcw hw744_0), (hcw hw744_1), (hcw hw745_0), (hcw hw745_1)⟩ (fun hHeld => ?_)
   clear hK K
   refine nm 25 ?_
   refine pu 9 26 [10] ?_
   refine done_ (done_of HT_.out (by kernel_rfl)) ?_
   try go_wp2
   go_roundg k1
   case measure => have := HK1.out; omega
   case rel => exact ⟨(wrap64 (x5_1 + 1)), rs, H', ⟨by have := HK1.out; omega⟩, ⟨u46HB⟩⟩

/-! ### strings.Split -/
def splitBs (a0 a1 : ByteArray) : List ByteArray := Lib.splitB a1 0 (Lib.countB a0 a1) a0
def strings_Split.f (a0 a1 : ByteArray) : Option (List ByteArray) := if a0.size < 4294967281 ∧ 1 ≤ a1.size then some (splitBs a0 a1) else none
theorem strings_Split.calls (a0 a1 : ByteArray) (r : List ByteArray) (w : World) (hGM : GLOBM w) (h : strings_Split.f a0 a1 = some r) :
  Calls Tryd.prog 96 #[.string a0, .string a1] w fun e w' => ∃ v0_ : Value, e = .returned v0_ ∧ Kd.R Kd.string 9 w' w.heap.size (fun _ => True) v0_ r ∧ Below w.heap.size w w' := by
 unfold strings_Split.f at h
 split at h
 case isFalse => cases h
 rename_i hl
 obtain rfl := Option.some.inj h
 obtain ⟨m, hm⟩ := hGM
 refine (Tryd.strings_Split a0 a1 m w hl.1 hm hl.2).mono ?_
 rintro e w' ⟨rfl, rfl⟩
 have hlen : (splitBs a0 a1).length = Lib.countB a0 a1 + 1 := Lib.splitB_all a1 hl.2 0 _ a0 rfl
 have hcnt : Lib.countB a0 a1 ≤ a0.size := Lib.countB_le a1 hl.2 _ a0 (Nat.le_refl _)
 refine ⟨_, rfl, ?_, below_alloc (Below.refl _ _) _⟩
 refine Kd.R_of_own (enc := Value.string) (h1 := fun _ => rfl) ⟨by simp [encs], .inr ⟨w.heap.size, Lib.countB a0 a1 + 1, ((splitBs a0 a1).map Value.string).toArray, by rw [hlen], Nat.le_refl _, ?_, by omega, by unfold maxLen; omega, ?_, ?_⟩⟩ (fun _ _ => trivial)
 ·exact Array.getElem?_push_size ..
 ·simp [← hlen, splitBs]
 ·rw [Nat.mul_one]; unfold encs; exact List.take_of_length_le (by simp)

end Go.Proofs.YtkgdcfaogdmcgaaDoor.All
