-- Written by a program of this session (wip/tools/hprint.py) out of the translation. Lean checks it.
import Derived.Test.YtjlpjbkpmmpojaaDoorAllx0
namespace Go.Proofs.YtjlpjbkpmmpojaaDoor.All
open Go.RowKit Go.Proofs.YtjlpjbkpmmpojaaDoorW.PrintWords Go.Proofs.YtjlpjbkpmmpojaaDoorW.PrintLast Go.Proofs.YtjlpjbkpmmpojaaDoorW.PrintMore
attribute [local go_sem] max2_int min2_int max_two min_two max_three min_three max_four min_four   -- for this text's walks alone
set_option linter.unusedVariables false
set_option linter.unusedSimpArgs false

/-! ### spec_Short: function 14 -/
theorem u14HB {p : Prop} (h : p := by repeat (first | (with_reducible first | exact HB.out | apply below_alloc | apply pw_below_drewN | apply below_drew1 | refine below_set ?_ GE632.out | refine below_set ?_ GE633.out | refine below_set ?_ GE634.out) | exact HB.out)) : p := h
def spec_Short.l0 : Nat → Int → Int → List (S46) → ByteArray → Int → List (S46) → ByteArray → Option (Int × (List (S46)) × ByteArray)
 | 0, _, _, _, _, _, _, _ => none
 | k + 1, x4, x633000, x633001, x633002, x635000, x635001, x635002 => if x4 < (x633001.length : Int) then (if 0 ≤ x4 then (if ((rd_T46 x633001 x4).f0).toList = ([101, 116, 97, 103] : List UInt8) then (if x635001.length < 4398046511104 then (spec_Short.l0 k (wrap64 (x4 + 1)) x633000 x633001 x633002 x635000 (x635001 ++ [(⟨(rd_T46 x633001 x4).f0, (rd_T46 x633001 x4).f1⟩ : S46)]) x635002) else (none)) else (if ((rd_T46 x633001 x4).f0).toList = ([118, 97, 114, 121] : List UInt8) then (if x635001.length < 4398046511104 then (spec_Short.l0 k (wrap64 (x4 + 1)) x633000 x633001 x633002 x635000 (x635001 ++ [(⟨(rd_T46 x633001 x4).f0, (rd_T46 x633001 x4).f1⟩ : S46)]) x635002) else (none)) else (if ((rd_T46 x633001 x4).f0).toList = ([99, 97, 99, 104, 101, 45, 99, 111, 110, 116, 114, 111, 108] : List UInt8) then (if x635001.length < 4398046511104 then (spec_Short.l0 k (wrap64 (x4 + 1)) x633000 x633001 x633002 x635000 (x635001 ++ [(⟨(rd_T46 x633001 x4).f0, (rd_T46 x633001 x4).f1⟩ : S46)]) x635002) else (none)) else (spec_Short.l0 k (wrap64 (x4 + 1)) x633000 x633001 x633002 x635000 x635001 x635002)))) else (none)) else (some (x635000, x635001, x635002))
def spec_Short.f (k : Nat) (a0_0 : Int) (l0_1 : List (S46)) (a0_2 : ByteArray) : Option (Int × (List (S46)) × ByteArray) := spec_Short.l0 k 0 a0_0 l0_1 a0_2 304 ([] : List (S46)) (⟨#[]⟩ : ByteArray)
theorem spec_Short.mono_l : ∀ k, (∀ y0 y1 y2 y3 y4 y5 y6, LeO (spec_Short.l0 k y0 y1 y2 y3 y4 y5 y6) (spec_Short.l0 (k + 1) y0 y1 y2 y3 y4 y5 y6))
 | 0 => fun _ _ _ _ _ _ _ r h => by simp [spec_Short.l0] at h
 | k + 1 => by
  have ih0 := spec_Short.mono_l k
  ·intro y0 y1 y2 y3 y4 y5 y6
   unfold spec_Short.l0
   exact mo
theorem spec_Short.mono : ∀ a0 a1 a2 k, LeO (spec_Short.f k a0 a1 a2) (spec_Short.f (k + 1) a0 a1 a2) := by
 intro a0 a1 a2 k
 have ih0 := spec_Short.mono_l k
 unfold spec_Short.f
 exact mo
def spec_Short.T7 : Bool × List (List Nat × List Nat) := (true, [([], []), ([0], [0]), ([], []), ([2], [2]), ([], []), ([3, 4], [3, 4]), ([5], [5]), ([6], [6]), ([1, 7], [1, 7]), ([0, 1, 2, 3, 4, 5, 6, 7, 8], []), ([9, 8, 8, 0, 1, 2, 3, 4, 5, 6, 7, 8], [8, 9])])
def spec_Short.B7 : List Nat := [0, 1, 0, 4, 0, 28, 60, 124, 255, 511, 1023]
theorem spec_Short.tab7 : rtab .any (opsOf Tryd.f14 7) = spec_Short.T7 := by kernel_rfl
theorem spec_Short.bits7 : waitsOk spec_Short.T7.2 spec_Short.B7 = true := by kernel_rfl
set_option maxHeartbeats 8000000 in
set_option maxRecDepth 100000 in
theorem spec_Short.calls (k : Nat) (a0_0 : Int) (A0_1 : Option Addr) (c0_1 : Nat) (l0_1 : List (S46)) (a0_2 : ByteArray) (r1 : Int) (r2 : List (S46)) (r3 : ByteArray) (w : World) (hr0_1 : Kd.C k46 w A0_1 l0_1.length l0_1) (hc0_1 : l0_1.length ≤ c0_1) (h : spec_Short.f k a0_0 l0_1 a0_2 = some (r1, r2, r3)) :
  Calls Tryd.prog 14 #[.agg #[.int .i64 a0_0, .slice A0_1 l0_1.length c0_1, .string a0_2]] w fun e w' => ∃ v1_ : Value, e = .returned (.agg #[.int .i64 r1, v1_, .string r3]) ∧ Kd.R k46 46 w' w.heap.size (fun _ => True) v1_ r2 ∧ Below w.heap.size w w' := by
 have hu32 := Tryd.underlying32
 have hu46 := Tryd.underlying46
 have HR0_1 := am hr0_1
 have HC0_1 := am hc0_1
 clear hr0_1 hc0_1
 have HB := am (Below.refl w.heap.size w)
 unfold spec_Short.f at h
 have H := h
 clear h
 have H' := am H
 clear H
 go_enter Tryd.func14, Tryd.ntmps14
 go_wp2_with ((with_reducible refine gw ?_); first | (refine bx 1 #[.int .i64 a0_0, .slice A0_1 l0_1.length c0_1, .string a0_2] 32 ?_; intro gb632 hg w2 hbox hb; have BK632 := am (hbox); have GW632 := am (sz hg : w.heap.size ≤ gb632); have GE632 := am (sz hg : w.heap.size ≤ gb632); replace HB := am (below_step bl hb); clear hb hbox hg) | (refine bx 2 #[.int .i64 0, .slice none 0 0, .string (⟨#[]⟩ : ByteArray)] 32 ?_; intro gb633 hg w3 hbox hb; have BK633 := am (hbox); have GW633 := am (sz hg : w.heap.size ≤ gb633); have GE633 := am (sz hg : w.heap.size ≤ gb633); replace HB := am (below_step bl hb); have NB632_633 := am (nl hg BK632 : gb632 ≠ gb633); have NB633_632 := am (ng hg BK632 : gb633 ≠ gb632); replace BK632 := kb BK632 hb; clear hb hbox hg) | (refine bx 3 #[.int .i64 0, .slice none 0 0, .string (⟨#[]⟩ : ByteArray)] 32 ?_; intro gb634 hg w4 hbox hb; have BK634 := am (hbox); have GW634 := am (sz hg : w.heap.size ≤ gb634); have GE634 := am (sz hg : w.heap.size ≤ gb634); replace HB := am (below_step bl hb); have NB632_634 := am (nl hg BK632 : gb632 ≠ gb634); have NB634_632 := am (ng hg BK632 : gb634 ≠ gb632); replace BK632 := kb BK632 hb; have NB633_634 := am (nl hg BK633 : gb633 ≠ gb634); have NB634_633 := am (ng hg BK633 : gb634 ≠ gb633); replace BK633 := kb BK633 hb; clear hb hbox hg; have hnb5 := NB634_632.out; have hnc5 := NB632_634.out; have hnb6 := NB634_633.out; have hnc6 := NB633_634.out; obtain ⟨z7_0, y7_0, z7_1, y7_1, z7_2, y7_2⟩ := cl3 BK634))
 (try simp only [Act.put, List.setIfInBounds_toArray, List.set_cons_zero, List.set_cons_succ])
 go_loopg [4] k (fun kq v4 w' => ∃ (x4_1 : Int) (x635001_1 : List (S46)) (u635001 : Value), v4 = .int .i64 x4_1 ∧ Aside0 (spec_Short.l0 kq x4_1 a0_0 l0_1 a0_2 304 x635001_1 (⟨#[]⟩ : ByteArray) = some (r1, r2, r3)) ∧ Aside0 (kq ≤ k) ∧ Aside0 (Kd.R k46 46 w' w.heap.size (fun _ => True) u635001 x635001_1) ∧ Aside0 (w'.heap[gb632]? = some (.cells #[.int .i64 a0_0, (.slice A0_1 l0_1.length c0_1), .string a0_2] 32 (0, 0))) ∧ Aside0 (w'.heap[gb633]? = some (.cells #[.int .i64 0, (.slice none 0 0), .string (⟨#[]⟩ : ByteArray)] 32 (0, 0))) ∧ Aside0 (w'.heap[gb634]? = some (.cells #[.int .i64 304, u635001, .string (⟨#[]⟩ : ByteArray)] 32 (0, 0))) ∧ Aside0 (Below w.heap.size w w'))
 case atStart => exact ⟨(0), (([] : List (S46))), (.slice none 0 0), rs, H', ⟨Nat.le_refl _⟩, ⟨by first | exact Kd.R_nil _ _ _ _ _ | exact Kd.N_nil _ _ _ _ _ | exact Kd.V_nil _ _ _ _ _ | exact Kd.Q_nil _ _ _ _ _ | exact Kd.S_nil _ _ _ _ _⟩, ⟨by (with_reducible repeat (first | refine blk_drewN ?_ _ | refine blk_drew ?_ | refine blk_alloc ?_ _)); refine blk_far ?_ NB632_634.out _; (with_reducible repeat (first | refine blk_drewN ?_ _ | refine blk_drew ?_ | refine blk_alloc ?_ _)); refine blk_far ?_ NB632_634.out _; (with_reducible repeat (first | refine blk_drewN ?_ _ | refine blk_drew ?_ | refine blk_alloc ?_ _)); refine blk_far ?_ NB632_634.out _; (with_reducible repeat (first | refine blk_drewN ?_ _ | refine blk_drew ?_ | refine blk_alloc ?_ _)); exact BK632.out⟩, ⟨by (with_reducible repeat (first | refine blk_drewN ?_ _ | refine blk_drew ?_ | refine blk_alloc ?_ _)); refine blk_far ?_ NB633_634.out _; (with_reducible repeat (first | refine blk_drewN ?_ _ | refine blk_drew ?_ | refine blk_alloc ?_ _)); refine blk_far ?_ NB633_634.out _; (with_reducible repeat (first | refine blk_drewN ?_ _ | refine blk_drew ?_ | refine blk_alloc ?_ _)); refine blk_far ?_ NB633_634.out _; (with_reducible repeat (first | refine blk_drewN ?_ _ | refine blk_drew ?_ | refine blk_alloc ?_ _)); exact BK633.out⟩, ⟨pt0 BK634⟩, ⟨u14HB⟩⟩
 case round =>
  clear H'
  try clear c1
  try clear p2
  try clear c5
  try clear c6
  try clear z7_0
  try clear z7_1
  try clear z7_2
  try clear y7_0
  try clear y7_1
  try clear y7_2
  obtain ⟨x4_1, x635001_1, u635001, rfl, HA, HK1, HO_635001, BK632, BK633, BK634, HB⟩ := hrel
  cases gk with
  | zero => exact absurd HA.out (by simp [spec_Short.l0])
  | succ k1 =>
   have H := HA.out
   clear HA
   simp only [spec_Short.l0] at H
   by_cases c8 : x4_1 < (l0_1.length : Int)
   rotate_left
   ·rw [if_neg c8] at H
    have c8b0 := decide_eq_false c8
    clear c8
    simp only [Option.some.injEq, Prod.mk.injEq] at H
    obtain ⟨rfl, rfl, rfl⟩ := H
    have hnb40 := NB632_633.out
    have hnc40 := NB633_632.out
    have hnb41 := NB632_634.out
    have hnc41 := NB634_632.out
    obtain ⟨z42_0, y42_0, z42_1, y42_1, z42_2, y42_2⟩ := cl3 BK632
    have hnb43 := NB634_633.out
    have hnc43 := NB633_634.out
    obtain ⟨z44_0, y44_0, z44_1, y44_1, z44_2, y44_2⟩ := cl3 BK634
    obtain ⟨z45_0, y45_0, z45_1, y45_1, z45_2, y45_2⟩ := cl3 BK633
    obtain ⟨Ao46, co46, eo46⟩ := Kd.R_slice HO_635001.out
    subst eo46
    go_wp2
    refine bodyPost_ret (results_cell_row rfl _ _ gb633 32 #[.int .i64 304, .slice Ao46 x635001_1.length co46, .string (⟨#[]⟩ : ByteArray)] (0, 0) _ rfl (pt0 BK633) Tryd.underlying32 rfl (by kernel_rfl)) rfl ?_
    exact ⟨_, rf, rj (Kd.R_types HO_635001.out BK633.out (by decide)) (fun _ hk => trivial), bl⟩
   rw [if_pos c8] at H
   have c8b0 := decide_eq_true c8
   clear c8
   revert H
   refine ifn fun c9 H => ?_
   have c9b0 := decide_eq_true c9
   clear c9
   by_cases c10 : ((rd_T46 l0_1 x4_1).f0).toList = ([101, 116, 97, 103] : List UInt8)
   ·rw [if_pos c10] at H
    have c10b0 : (((rd_T46 l0_1 x4_1).f0).toList == ([101, 116, 97, 103] : List UInt8)) = true := beq_iff_eq.mpr c10
    have c10b1 : (((rd_T46 l0_1 x4_1).f0).toList != ([101, 116, 97, 103] : List UInt8)) = false := bne_eq_false_iff_eq.mpr c10
    clear c10
    revert H
    refine ifn fun c11 H => ?_
    have LMc11 := am c11
    clear c11
    obtain ⟨y637, hy637⟩ : ∃ y_ : List (S46), y_ = (x635001_1 ++ [(⟨(rd_T46 l0_1 x4_1).f0, (rd_T46 l0_1 x4_1).f1⟩ : S46)]) := ⟨_, rfl⟩
    replace H : (spec_Short.l0 k1 (wrap64 (x4_1 + 1)) a0_0 l0_1 a0_2 304 y637 (⟨#[]⟩ : ByteArray)) = some (r1, r2, r3) := by first | (rw [hy637]; with_reducible exact H) | (have H2_ := (Option.bind_some _ _).symm.trans H; rw [hy637]; with_reducible exact H2_) | (have H2_ := (Option.bind_some _ _).symm.trans H; with_reducible exact H2_) | with_reducible exact H | (rw [hy637]; exact H) | exact H
    have Ny637 := am hy637
    clear hy637
    have H' := am H
    clear H
    have hnb12 := NB632_633.out
    have hnc12 := NB633_632.out
    have hnb13 := NB632_634.out
    have hnc13 := NB634_632.out
    obtain ⟨z14_0, y14_0, z14_1, y14_1, z14_2, y14_2⟩ := cl3 BK632
    have p635 : 0 ≤ (x4_1 : Int) := od
    have q635 : x4_1 < (l0_1.length : Int) := od
    obtain ⟨ad635, e635, hx635_0, hx635_1⟩ := at_T46 HR0_1.out x4_1 p635 q635
    cases e635
    replace hx635_0 := hcw hx635_0
    replace hx635_1 := hcw hx635_1
    replace p635 := eq_true p635
    replace q635 := eq_true q635
    try go_wp2
    replace HO_635001 := am (Kd.R_drew HO_635001.out)
    replace BK632 := am (blk_drew BK632.out)
    replace BK633 := am (blk_drew BK633.out)
    replace BK634 := am (blk_drew BK634.out)
    replace HB := am (below_drew1 HB.out)
    have p636 : 0 ≤ (x4_1 : Int) := od
    have q636 : x4_1 < (l0_1.length : Int) := od
    obtain ⟨ad636, e636, hx636_0, hx636_1⟩ := at_T46 HR0_1.out x4_1 p636 q636
    have hw636_1 := hx636_1
    have hw636_0 := hx636_0
    obtain rfl : ad635 = ad636 := (by injection e636)
    replace hx636_0 := hcw hx636_0
    replace hx636_1 := hcw hx636_1
    replace p636 := eq_true p636
    replace q636 := eq_true q636
    refine start_ (n := 11) (S := fun w' => w'.cell? ⟨gb634, 0, none⟩ = some (.int .i64 304) ∧ w'.cell? ⟨gb634, 1, none⟩ = some (u635001) ∧ w'.cell? ⟨gb634, 2, none⟩ = some (.string (⟨#[]⟩ : ByteArray)) ∧ w'.cell? ⟨gb632, 0, none⟩ = some (.int .i64 a0_0) ∧ w'.cell? ⟨gb632, 1, none⟩ = some (.slice (some ad635) l0_1.length c0_1) ∧ w'.cell? ⟨gb632, 2, none⟩ = some (.string a0_2) ∧ w'.cell? (ad635.add ((x4_1).toNat * 2)) = some (.string ((rd_T46 l0_1 x4_1).f0)) ∧ w'.cell? ⟨(ad635.add ((x4_1).toNat * 2)).block, (ad635.add ((x4_1).toNat * 2)).off + 1, none⟩ = some (.string ((rd_T46 l0_1 x4_1).f1))) (ds := [10]) ⟨br true [0, 11]⟩ (by kernel_rfl) rfl (by kernel_rfl) ⟨bc BK634, bc BK634, bc BK634, bc BK632, bc BK632, bc BK632, (hcw hw636_0), (hcw hw636_1)⟩ (fun hHeld => ?_); refine with_tabW spec_Short.tab7 spec_Short.bits7 (fun HT_ HW_ => ?_)
    generalize wr.drew = w15 at HO_635001 BK632 BK633 BK634 HB hx636_0 hx636_1 hHeld ⊢
    refine pu 0 30 [1, 10] ?_
    refine pu 2 32 [1, 1, 1, 8] ?_
    refine pu 4 34 [1, 1, 1, 1, 1, 6] ?_
    refine tk 1 31 [3, 1, 1, 6] ?_
    refine tk 3 33 [5, 6] ?_
    refine pu 5 35 [6, 5] ?_
    refine tk 6 36 [7, 4] ?_
    refine one_ (i := 7) (N := some 37) #[true, true, true, true, true, true, true, true, false, false, false] rfl rfl (one_of HT_.out (by kernel_rfl)) (by decide) (fun K hK => ?_)
    refine value_ (w1 := ?_) (v := ?_) (by rfl) rfl ?_ ?_
    rotate_left 2
    ·go_simp
     constructor
     ·rfl
     ·rfl
    refine hK.out _ _ ⟨(blk_cell (blk_alloc BK634.out _) 0).trans rfl, (blk_cell (blk_alloc BK634.out _) 1).trans rfl, (blk_cell (blk_alloc BK634.out _) 2).trans rfl, (blk_cell (blk_alloc BK632.out _) 0).trans rfl, (blk_cell (blk_alloc BK632.out _) 1).trans rfl, (blk_cell (blk_alloc BK632.out _) 2).trans rfl, (World.cell?_alloc_lt _ _ _ (World.block_lt_of_cell? _ _ ((hcw hw636_0)))).trans ((hcw hw636_0)), (World.cell?_alloc_lt _ _ _ (World.block_lt_of_cell? _ _ ((hcw hw636_1)))).trans ((hcw hw636_1))⟩ (fun hHeld => ?_)
    clear hK K
    refine nm 37 ?_
    refine one_ (i := 8) (N := some 38) #[true, true, true, true, true, true, true, true, true, false, false] rfl rfl (one_of HT_.out (by kernel_rfl)) (by decide) (fun K hK => ?_)
    refine Kd.R_append_step k46 (w0 := w) w.heap.size (by rfl) (.tmp 31) (.tmp 37) 24 46 (.agg #[(.string ⟨#[]⟩), (.string ⟨#[]⟩)]) 32 rfl Tryd.underlying24 info46 rfl (by decide) (by omega) u635001 x635001_1 (⟨(rd_T46 l0_1 x4_1).f0, (rd_T46 l0_1 x4_1).f1⟩ : S46) [.string ((rd_T46 l0_1 x4_1).f0), .string ((rd_T46 l0_1 x4_1).f1)] (fun _ => True) (fun _ => False) rfl rfl ?aP (fun _ hk => hk.elim) ?aF ?aO ?aB ?aS ?aL ?_
    (case aP => exact k46_mkM _ _ _ (⟨(rd_T46 l0_1 x4_1).f0, (rd_T46 l0_1 x4_1).f1⟩ : S46))
    (case aB => exact bl)
    (case aF => exact (fun _ _ => trivial))
    (case aO => exact (ro HO_635001))
    (case aS => exact (below_size bl))
    (case aL => have := LMc11.out; omega)
    intro v638 w16 ho hb hg hat
    rw [← Ny637.out] at ho
    have n0_ := am (blk_grown (g := gb632) (o := .cells #[.int .i64 a0_0, .slice (some ad635) l0_1.length c0_1, .string a0_2] 32 (0, 0)) (bk BK632) hg (Kd.R_ne HO_635001.out BK632.out (by decide)))
    have n1_ := am (blk_grown (g := gb633) (o := .cells #[.int .i64 0, .slice none 0 0, .string (⟨#[]⟩ : ByteArray)] 32 (0, 0)) (bk BK633) hg (Kd.R_ne HO_635001.out BK633.out (by decide)))
    have n2_ := am (blk_grown (g := gb634) (o := .cells #[.int .i64 304, u635001, .string (⟨#[]⟩ : ByteArray)] 32 (0, 0)) (bk BK634) hg (Kd.R_ne HO_635001.out BK634.out (by decide)))
    have n3_ := am (hb)
    have n4_ := am (ho)
    clear BK632
    clear BK633
    clear BK634
    clear HB
    clear HO_635001
    have BK632 := n0_
    have BK633 := n1_
    have BK634 := n2_
    have HB := n3_
    have HO639 := n4_
    clear n0_ n1_ n2_ n3_ n4_
    clear ho hb hg hat
    obtain ⟨Ao17, co17, eo17⟩ := Kd.R_slice HO639.out
    (first | subst eo17 | (injection eo17 with f1_ f2_ f3_; have f4_ := f1_.symm; have f5_ := f3_.symm; clear f1_ f2_ f3_; subst f4_; subst f5_))
    refine hK.out _ _ ⟨bc BK634, bc BK634, bc BK634, bc BK632, bc BK632, bc BK632, (hcw hw636_0), (hcw hw636_1)⟩ (fun hHeld => ?_)
    clear hK K
    refine nm 38 ?_
    refine pu 9 39 [10, 1] ?_
    refine last_ (i := 10) (N := none) #[true, true, true, true, true, true, true, true, true, true, true] rfl rfl (one_of HT_.out (by kernel_rfl)) (by decide) (fun K hK => ?_)
    have hs18 : w16.cell? ⟨gb634, 1, none⟩ = some (u635001) := bc BK634
    have hfs18 := blk_frozen BK634.out 1
    have hns18_0 := NB632_634.out
    have hns18_1 := NB633_634.out
    have hms18_0 := NB634_632.out
    have hms18_1 := NB634_633.out
    refine skip_ (w1 := ?_) (by rfl) rfl ?_ ?_
    rotate_left
    ·go_simp
     rfl
    refine hK.out _ _ ?_
    clear hK K
    refine done_ (done_of HT_.out (by kernel_rfl)) ?_
    try go_wp2
    go_roundg k1
    case measure => have := HK1.out; omega
    case rel => exact ⟨(wrap64 (x4_1 + 1)), (y637), (.slice Ao17 y637.length co17), rs, H', ⟨by have := HK1.out; omega⟩, ⟨rj (Kd.R_types HO639.out BK634.out (by decide)) (fun _ hk => trivial)⟩, ⟨by (with_reducible repeat (first | refine blk_drewN ?_ _ | refine blk_drew ?_ | refine blk_alloc ?_ _)); refine blk_far ?_ NB632_634.out _; (with_reducible repeat (first | refine blk_drewN ?_ _ | refine blk_drew ?_ | refine blk_alloc ?_ _)); exact BK632.out⟩, ⟨by (with_reducible repeat (first | refine blk_drewN ?_ _ | refine blk_drew ?_ | refine blk_alloc ?_ _)); refine blk_far ?_ NB633_634.out _; (with_reducible repeat (first | refine blk_drewN ?_ _ | refine blk_drew ?_ | refine blk_alloc ?_ _)); exact BK633.out⟩, ⟨pt0 BK634⟩, ⟨u14HB⟩⟩
   rw [if_neg c10] at H
   have c10b0 : (((rd_T46 l0_1 x4_1).f0).toList == ([101, 116, 97, 103] : List UInt8)) = false := beq_eq_false_iff_ne.mpr c10
   have c10b1 : (((rd_T46 l0_1 x4_1).f0).toList != ([101, 116, 97, 103] : List UInt8)) = true := bne_iff_ne.mpr c10
   by_cases c19 : ((rd_T46 l0_1 x4_1).f0).toList = ([118, 97, 114, 121] : List UInt8)
   ·rw [if_pos c19] at H
    have c19b0 : (((rd_T46 l0_1 x4_1).f0).toList == ([118, 97, 114, 121] : List UInt8)) = true := beq_iff_eq.mpr c19
    have c19b1 : (((rd_T46 l0_1 x4_1).f0).toList != ([118, 97, 114, 121] : List UInt8)) = false := bne_eq_false_iff_eq.mpr c19
    clear c19
    revert H
    refine ifn fun c20 H => ?_
    have LMc20 := am c20
    clear c20
    obtain ⟨y641, hy641⟩ : ∃ y_ : List (S46), y_ = (x635001_1 ++ [(⟨(rd_T46 l0_1 x4_1).f0, (rd_T46 l0_1 x4_1).f1⟩ : S46)]) := ⟨_, rfl⟩
    replace H : (spec_Short.l0 k1 (wrap64 (x4_1 + 1)) a0_0 l0_1 a0_2 304 y641 (⟨#[]⟩ : ByteArray)) = some (r1, r2, r3) := by first | (rw [hy641]; with_reducible exact H) | (have H2_ := (Option.bind_some _ _).symm.trans H; rw [hy641]; with_reducible exact H2_) | (have H2_ := (Option.bind_some _ _).symm.trans H; with_reducible exact H2_) | with_reducible exact H | (rw [hy641]; exact H) | exact H
    have Ny641 := am hy641
    clear hy641
    have H' := am H
    clear H
    have hnb21 := NB632_633.out
    have hnc21 := NB633_632.out
    have hnb22 := NB632_634.out
    have hnc22 := NB634_632.out
    obtain ⟨z23_0, y23_0, z23_1, y23_1, z23_2, y23_2⟩ := cl3 BK632
    have p635 : 0 ≤ (x4_1 : Int) := od
    have q635 : x4_1 < (l0_1.length : Int) := od
    obtain ⟨ad635, e635, hx635_0, hx635_1⟩ := at_T46 HR0_1.out x4_1 p635 q635
    cases e635
    replace hx635_0 := hcw hx635_0
    replace hx635_1 := hcw hx635_1
    replace p635 := eq_true p635
    replace q635 := eq_true q635
    try go_wp2
    replace HO_635001 := am (Kd.R_drew HO_635001.out)
    replace BK632 := am (blk_drew BK632.out)
    replace BK633 := am (blk_drew BK633.out)
    replace BK634 := am (blk_drew BK634.out)
    replace HB := am (below_drew1 HB.out)
    have p640 : 0 ≤ (x4_1 : Int) := od
    have q640 : x4_1 < (l0_1.length : Int) := od
    obtain ⟨ad640, e640, hx640_0, hx640_1⟩ := at_T46 HR0_1.out x4_1 p640 q640
    have hw640_1 := hx640_1
    have hw640_0 := hx640_0
    obtain rfl : ad635 = ad640 := (by injection e640)
    replace hx640_0 := hcw hx640_0
    replace hx640_1 := hcw hx640_1
    replace p640 := eq_true p640
    replace q640 := eq_true q640
    refine start_ (n := 11) (S := fun w' => w'.cell? ⟨gb634, 0, none⟩ = some (.int .i64 304) ∧ w'.cell? ⟨gb634, 1, none⟩ = some (u635001) ∧ w'.cell? ⟨gb634, 2, none⟩ = some (.string (⟨#[]⟩ : ByteArray)) ∧ w'.cell? ⟨gb632, 0, none⟩ = some (.int .i64 a0_0) ∧ w'.cell? ⟨gb632, 1, none⟩ = some (.slice (some ad635) l0_1.length c0_1) ∧ w'.cell? ⟨gb632, 2, none⟩ = some (.string a0_2) ∧ w'.cell? (ad635.add ((x4_1).toNat * 2)) = some (.string ((rd_T46 l0_1 x4_1).f0)) ∧ w'.cell? ⟨(ad635.add ((x4_1).toNat * 2)).block, (ad635.add ((x4_1).toNat * 2)).off + 1, none⟩ = some (.string ((rd_T46 l0_1 x4_1).f1))) (ds := [10]) ⟨br true [0, 11]⟩ (by kernel_rfl) rfl (by kernel_rfl) ⟨bc BK634, bc BK634, bc BK634, bc BK632, bc BK632, bc BK632, (hcw hw640_0), (hcw hw640_1)⟩ (fun hHeld => ?_); refine with_tabW spec_Short.tab7 spec_Short.bits7 (fun HT_ HW_ => ?_)
    generalize wr.drew = w24 at HO_635001 BK632 BK633 BK634 HB hx640_0 hx640_1 hHeld ⊢
    refine pu 0 30 [1, 10] ?_
    refine pu 2 32 [1, 1, 1, 8] ?_
    refine pu 4 34 [1, 1, 1, 1, 1, 6] ?_
    refine tk 1 31 [3, 1, 1, 6] ?_
    refine tk 3 33 [5, 6] ?_
    refine pu 5 35 [6, 5] ?_
    refine tk 6 36 [7, 4] ?_
    refine one_ (i := 7) (N := some 37) #[true, true, true, true, true, true, true, true, false, false, false] rfl rfl (one_of HT_.out (by kernel_rfl)) (by decide) (fun K hK => ?_)
    refine value_ (w1 := ?_) (v := ?_) (by rfl) rfl ?_ ?_
    rotate_left 2
    ·go_simp
     constructor
     ·rfl
     ·rfl
    refine hK.out _ _ ⟨(blk_cell (blk_alloc BK634.out _) 0).trans rfl, (blk_cell (blk_alloc BK634.out _) 1).trans rfl, (blk_cell (blk_alloc BK634.out _) 2).trans rfl, (blk_cell (blk_alloc BK632.out _) 0).trans rfl, (blk_cell (blk_alloc BK632.out _) 1).trans rfl, (blk_cell (blk_alloc BK632.out _) 2).trans rfl, (World.cell?_alloc_lt _ _ _ (World.block_lt_of_cell? _ _ ((hcw hw640_0)))).trans ((hcw hw640_0)), (World.cell?_alloc_lt _ _ _ (World.block_lt_of_cell? _ _ ((hcw hw640_1)))).trans ((hcw hw640_1))⟩ (fun hHeld => ?_)
    clear hK K
    refine nm 37 ?_
    refine one_ (i := 8) (N := some 38) #[true, true, true, true, true, true, true, true, true, false, false] rfl rfl (one_of HT_.out (by kernel_rfl)) (by decide) (fun K hK => ?_)
    refine Kd.R_append_step k46 (w0 := w) w.heap.size (by rfl) (.tmp 31) (.tmp 37) 24 46 (.agg #[(.string ⟨#[]⟩), (.string ⟨#[]⟩)]) 32 rfl Tryd.underlying24 info46 rfl (by decide) (by omega) u635001 x635001_1 (⟨(rd_T46 l0_1 x4_1).f0, (rd_T46 l0_1 x4_1).f1⟩ : S46) [.string ((rd_T46 l0_1 x4_1).f0), .string ((rd_T46 l0_1 x4_1).f1)] (fun _ => True) (fun _ => False) rfl rfl ?aP (fun _ hk => hk.elim) ?aF ?aO ?aB ?aS ?aL ?_
    (case aP => exact k46_mkM _ _ _ (⟨(rd_T46 l0_1 x4_1).f0, (rd_T46 l0_1 x4_1).f1⟩ : S46))
    (case aB => exact bl)
    (case aF => exact (fun _ _ => trivial))
    (case aO => exact (ro HO_635001))
    (case aS => exact (below_size bl))
    (case aL => have := LMc20.out; omega)
    intro v642 w25 ho hb hg hat
    rw [← Ny641.out] at ho
    have n0_ := am (blk_grown (g := gb632) (o := .cells #[.int .i64 a0_0, .slice (some ad635) l0_1.length c0_1, .string a0_2] 32 (0, 0)) (bk BK632) hg (Kd.R_ne HO_635001.out BK632.out (by decide)))
    have n1_ := am (blk_grown (g := gb633) (o := .cells #[.int .i64 0, .slice none 0 0, .string (⟨#[]⟩ : ByteArray)] 32 (0, 0)) (bk BK633) hg (Kd.R_ne HO_635001.out BK633.out (by decide)))
    have n2_ := am (blk_grown (g := gb634) (o := .cells #[.int .i64 304, u635001, .string (⟨#[]⟩ : ByteArray)] 32 (0, 0)) (bk BK634) hg (Kd.R_ne HO_635001.out BK634.out (by decide)))
    have n3_ := am (hb)
    have n4_ := am (ho)
    clear BK632
    clear BK633
    clear BK634
    clear HB
    clear HO_635001
    have BK632 := n0_
    have BK633 := n1_
    have BK634 := n2_
    have HB := n3_
    have HO643 := n4_
    clear n0_ n1_ n2_ n3_ n4_
    clear ho hb hg hat
    obtain ⟨Ao26, co26, eo26⟩ := Kd.R_slice HO643.out
    (first | subst eo26 | (injection eo26 with f1_ f2_ f3_; have f4_ := f1_.symm; have f5_ := f3_.symm; clear f1_ f2_ f3_; subst f4_; subst f5_))
    refine hK.out _ _ ⟨bc BK634, bc BK634, bc BK634, bc BK632, bc BK632, bc BK632, (hcw hw640_0), (hcw hw640_1)⟩ (fun hHeld => ?_)
    clear hK K
    refine nm 38 ?_
    refine pu 9 39 [10, 1] ?_
    refine last_ (i := 10) (N := none) #[true, true, true, true, true, true, true, true, true, true, true] rfl rfl (one_of HT_.out (by kernel_rfl)) (by decide) (fun K hK => ?_)
    have hs27 : w25.cell? ⟨gb634, 1, none⟩ = some (u635001) := bc BK634
    have hfs27 := blk_frozen BK634.out 1
    have hns27_0 := NB632_634.out
    have hns27_1 := NB633_634.out
    have hms27_0 := NB634_632.out
    have hms27_1 := NB634_633.out
    refine skip_ (w1 := ?_) (by rfl) rfl ?_ ?_
    rotate_left
    ·go_simp
     rfl
    refine hK.out _ _ ?_
    clear hK K
    refine done_ (done_of HT_.out (by kernel_rfl)) ?_
    try go_wp2
    go_roundg k1
    case measure => have := HK1.out; omega
    case rel => exact ⟨(wrap64 (x4_1 + 1)), (y641), (.slice Ao26 y641.length co26), rs, H', ⟨by have := HK1.out; omega⟩, ⟨rj (Kd.R_types HO643.out BK634.out (by decide)) (fun _ hk => trivial)⟩, ⟨by (with_reducible repeat (first | refine blk_drewN ?_ _ | refine blk_drew ?_ | refine blk_alloc ?_ _)); refine blk_far ?_ NB632_634.out _; (with_reducible repeat (first | refine blk_drewN ?_ _ | refine blk_drew ?_ | refine blk_alloc ?_ _)); exact BK632.out⟩, ⟨by (with_reducible repeat (first | refine blk_drewN ?_ _ | refine blk_drew ?_ | refine blk_alloc ?_ _)); refine blk_far ?_ NB633_634.out _; (with_reducible repeat (first | refine blk_drewN ?_ _ | refine blk_drew ?_ | refine blk_alloc ?_ _)); exact BK633.out⟩, ⟨pt0 BK634⟩, ⟨u14HB⟩⟩
   rw [if_neg c19] at H
   have c19b0 : (((rd_T46 l0_1 x4_1).f0).toList == ([118, 97, 114, 121] : List UInt8)) = false := beq_eq_false_iff_ne.mpr c19
   have c19b1 : (((rd_T46 l0_1 x4_1).f0).toList != ([118, 97, 114, 121] : List UInt8)) = true := bne_iff_ne.mpr c19
   by_cases c28 : ((rd_T46 l0_1 x4_1).f0).toList = ([99, 97, 99, 104, 101, 45, 99, 111, 110, 116, 114, 111, 108] : List UInt8)
   rotate_left
   ·rw [if_neg c28] at H
    have c28b0 : (((rd_T46 l0_1 x4_1).f0).toList == ([99, 97, 99, 104, 101, 45, 99, 111, 110, 116, 114, 111, 108] : List UInt8)) = false := beq_eq_false_iff_ne.mpr c28
    have c28b1 : (((rd_T46 l0_1 x4_1).f0).toList != ([99, 97, 99, 104, 101, 45, 99, 111, 110, 116, 114, 111, 108] : List UInt8)) = true := bne_iff_ne.mpr c28
    have H' := am H
    clear H
    have hnb37 := NB632_633.out
    have hnc37 := NB633_632.out
    have hnb38 := NB632_634.out
    have hnc38 := NB634_632.out
    obtain ⟨z39_0, y39_0, z39_1, y39_1, z39_2, y39_2⟩ := cl3 BK632
    have p635 : 0 ≤ (x4_1 : Int) := od
    have q635 : x4_1 < (l0_1.length : Int) := od
    obtain ⟨ad635, e635, hx635_0, hx635_1⟩ := at_T46 HR0_1.out x4_1 p635 q635
    cases e635
    replace hx635_0 := hcw hx635_0
    replace hx635_1 := hcw hx635_1
    replace p635 := eq_true p635
    replace q635 := eq_true q635
    go_wp2
    go_roundg k1
    case measure => have := HK1.out; omega
    case rel => exact ⟨(wrap64 (x4_1 + 1)), (x635001_1), (u635001), rs, H', ⟨by have := HK1.out; omega⟩, ⟨by (with_reducible repeat (first | apply Kd.R_alloc | apply Kd.R_drewN | apply Kd.R_drew)); exact HO_635001.out⟩, ⟨by (with_reducible repeat (first | refine blk_drewN ?_ _ | refine blk_drew ?_ | refine blk_alloc ?_ _)); exact BK632.out⟩, ⟨by (with_reducible repeat (first | refine blk_drewN ?_ _ | refine blk_drew ?_ | refine blk_alloc ?_ _)); exact BK633.out⟩, ⟨by (with_reducible repeat (first | refine blk_drewN ?_ _ | refine blk_drew ?_ | refine blk_alloc ?_ _)); exact BK634.out⟩, ⟨u14HB⟩⟩
   rw [if_pos c28] at H
   have c28b0 : (((rd_T46 l0_1 x4_1).f0).toList == ([99, 97, 99, 104, 101, 45, 99, 111, 110, 116, 114, 111, 108] : List UInt8)) = true := beq_iff_eq.mpr c28
   have c28b1 : (((rd_T46 l0_1 x4_1).f0).toList != ([99, 97, 99, 104, 101, 45, 99, 111, 110, 116, 114, 111, 108] : List UInt8)) = false := bne_eq_false_iff_eq.mpr c28
   clear c28
   revert H
   refine ifn fun c29 H => ?_
   have LMc29 := am c29
   clear c29
   obtain ⟨y645, hy645⟩ : ∃ y_ : List (S46), y_ = (x635001_1 ++ [(⟨(rd_T46 l0_1 x4_1).f0, (rd_T46 l0_1 x4_1).f1⟩ : S46)]) := ⟨_, rfl⟩
   replace H : (spec_Short.l0 k1 (wrap64 (x4_1 + 1)) a0_0 l0_1 a0_2 304 y645 (⟨#[]⟩ : ByteArray)) = some (r1, r2, r3) := by first | (rw [hy645]; with_reducible exact H) | (have H2_ := (Option.bind_some _ _).symm.trans H; rw [hy645]; with_reducible exact H2_) | (have H2_ := (Option.bind_some _ _).symm.trans H; with_reducible exact H2_) | with_reducible exact H | (rw [hy645]; exact H) | exact H
   have Ny645 := am hy645
   clear hy645
   have H' := am H
   clear H
   have hnb30 := NB632_633.out
   have hnc30 := NB633_632.out
   have hnb31 := NB632_634.out
   have hnc31 := NB634_632.out
   obtain ⟨z32_0, y32_0, z32_1, y32_1, z32_2, y32_2⟩ := cl3 BK632
   have p635 : 0 ≤ (x4_1 : Int) := od
   have q635 : x4_1 < (l0_1.length : Int) := od
   obtain ⟨ad635, e635, hx635_0, hx635_1⟩ := at_T46 HR0_1.out x4_1 p635 q635
   cases e635
   replace hx635_0 := hcw hx635_0
   replace hx635_1 := hcw hx635_1
   replace p635 := eq_true p635
   replace q635 := eq_true q635
   try go_wp2
   replace HO_635001 := am (Kd.R_drew HO_635001.out)
   replace BK632 := am (blk_drew BK632.out)
   replace BK633 := am (blk_drew BK633.out)
   replace BK634 := am (blk_drew BK634.out)
   replace HB := am (below_drew1 HB.out)
   have p644 : 0 ≤ (x4_1 : Int) := od
   have q644 : x4_1 < (l0_1.length : Int) := od
   obtain ⟨ad644, e644, hx644_0, hx644_1⟩ := at_T46 HR0_1.out x4_1 p644 q644
   have hw644_1 := hx644_1
   have hw644_0 := hx644_0
   obtain rfl : ad635 = ad644 := (by injection e644)
   replace hx644_0 := hcw hx644_0
   replace hx644_1 := hcw hx644_1
   replace p644 := eq_true p644
   replace q644 := eq_true q644
   refine start_ (n := 11) (S := fun w' => w'.cell? ⟨gb634, 0, none⟩ = some (.int .i64 304) ∧ w'.cell? ⟨gb634, 1, none⟩ = some (u635001) ∧ w'.cell? ⟨gb634, 2, none⟩ = some (.string (⟨#[]⟩ : ByteArray)) ∧ w'.cell? ⟨gb632, 0, none⟩ = some (.int .i64 a0_0) ∧ w'.cell? ⟨gb632, 1, none⟩ = some (.slice (some ad635) l0_1.length c0_1) ∧ w'.cell? ⟨gb632, 2, none⟩ = some (.string a0_2) ∧ w'.cell? (ad635.add ((x4_1).toNat * 2)) = some (.string ((rd_T46 l0_1 x4_1).f0)) ∧ w'.cell? ⟨(ad635.add ((x4_1).toNat * 2)).block, (ad635.add ((x4_1).toNat * 2)).off + 1, none⟩ = some (.string ((rd_T46 l0_1 x4_1).f1))) (ds := [10]) ⟨br true [0, 11]⟩ (by kernel_rfl) rfl (by kernel_rfl) ⟨bc BK634, bc BK634, bc BK634, bc BK632, bc BK632, bc BK632, (hcw hw644_0), (hcw hw644_1)⟩ (fun hHeld => ?_); refine with_tabW spec_Short.tab7 spec_Short.bits7 (fun HT_ HW_ => ?_)
   generalize wr.drew = w33 at HO_635001 BK632 BK633 BK634 HB hx644_0 hx644_1 hHeld ⊢
   refine pu 0 30 [1, 10] ?_
   refine pu 2 32 [1, 1, 1, 8] ?_
   refine pu 4 34 [1, 1, 1, 1, 1, 6] ?_
   refine tk 1 31 [3, 1, 1, 6] ?_
   refine tk 3 33 [5, 6] ?_
   refine pu 5 35 [6, 5] ?_
   refine tk 6 36 [7, 4] ?_
   refine one_ (i := 7) (N := some 37) #[true, true, true, true, true, true, true, true, false, false, false] rfl rfl (one_of HT_.out (by kernel_rfl)) (by decide) (fun K hK => ?_)
   refine value_ (w1 := ?_) (v := ?_) (by rfl) rfl ?_ ?_
   rotate_left 2
   ·go_simp
    constructor
    ·rfl
    ·rfl
   refine hK.out _ _ ⟨(blk_cell (blk_alloc BK634.out _) 0).trans rfl, (blk_cell (blk_alloc BK634.out _) 1).trans rfl, (blk_cell (blk_alloc BK634.out _) 2).trans rfl, (blk_cell (blk_alloc BK632.out _) 0).trans rfl, (blk_cell (blk_alloc BK632.out _) 1).trans rfl, (blk_cell (blk_alloc BK632.out _) 2).trans rfl, (World.cell?_alloc_lt _ _ _ (World.block_lt_of_cell? _ _ ((hcw hw644_0)))).trans ((hcw hw644_0)), (World.cell?_alloc_lt _ _ _ (World.block_lt_of_cell? _ _ ((hcw hw644_1)))).trans ((hcw hw644_1))⟩ (fun hHeld => ?_)
   clear hK K
   refine nm 37 ?_
   refine one_ (i := 8) (N := some 38) #[true, true, true, true, true, true, true, true, true, false, false] rfl rfl (one_of HT_.out (by kernel_rfl)) (by decide) (fun K hK => ?_)
   refine Kd.R_append_step k46 (w0 := w) w.heap.size (by rfl) (.tmp 31) (.tmp 37) 24 46 (.agg #[(.string ⟨#[]⟩), (.string ⟨#[]⟩)]) 32 rfl Tryd.underlying24 info46 rfl (by decide) (by omega) u635001 x635001_1 (⟨(rd_T46 l0_1 x4_1).f0, (rd_T46 l0_1 x4_1).f1⟩ : S46) [.string ((rd_T46 l0_1 x4_1).f0), .string ((rd_T46 l0_1 x4_1).f1)] (fun _ => True) (fun _ => False) rfl rfl ?aP (fun _ hk => hk.elim) ?aF ?aO ?aB ?aS ?aL ?_
   (case aP => exact k46_mkM _ _ _ (⟨(rd_T46 l0_1 x4_1).f0, (rd_T46 l0_1 x4_1).f1⟩ : S46))
   (case aB => exact bl)
   (case aF => exact (fun _ _ => trivial))
   (case aO => exact (ro HO_635001))
   (case aS => exact (below_size bl))
   (case aL => have := LMc29.out; omega)
   intro v646 w34 ho hb hg hat
   rw [← Ny645.out] at ho
   have n0_ := am (blk_grown (g := gb632) (o := .cells #[.int .i64 a0_0, .slice (some ad635) l0_1.length c0_1, .string a0_2] 32 (0, 0)) (bk BK632) hg (Kd.R_ne HO_635001.out BK632.out (by decide)))
   have n1_ := am (blk_grown (g := gb633) (o := .cells #[.int .i64 0, .slice none 0 0, .string (⟨#[]⟩ : ByteArray)] 32 (0, 0)) (bk BK633) hg (Kd.R_ne HO_635001.out BK633.out (by decide)))
   have n2_ := am (blk_grown (g := gb634) (o := .cells #[.int .i64 304, u635001, .string (⟨#[]⟩ : ByteArray)] 32 (0, 0)) (bk BK634) hg (Kd.R_ne HO_635001.out BK634.out (by decide)))
   have n3_ := am (hb)
   have n4_ := am (ho)
   clear BK632
   clear BK633
   clear BK634
   clear HB
   clear HO_635001
   have BK632 := n0_
   have BK633 := n1_
   have BK634 := n2_
   have HB := n3_
   have HO647 := n4_
   clear n0_ n1_ n2_ n3_ n4_
   clear ho hb hg hat
   obtain ⟨Ao35, co35, eo35⟩ := Kd.R_slice HO647.out
   (first | subst eo35 | (injection eo35 with f1_ f2_ f3_; have f4_ := f1_.symm; have f5_ := f3_.symm; clear f1_ f2_ f3_; subst f4_; subst f5_))
   refine hK.out _ _ ⟨bc BK634, bc BK634, bc BK634, bc BK632, bc BK632, bc BK632, (hcw hw644_0), (hcw hw644_1)⟩ (fun hHeld => ?_)
   clear hK K
   refine nm 38 ?_
   refine pu 9 39 [10, 1] ?_
   refine last_ (i := 10) (N := none) #[true, true, true, true, true, true, true, true, true, true, true] rfl rfl (one_of HT_.out (by kernel_rfl)) (by decide) (fun K hK => ?_)
   have hs36 : w34.cell? ⟨gb634, 1, none⟩ = some (u635001) := bc BK634
   have hfs36 := blk_frozen BK634.out 1
   have hns36_0 := NB632_634.out
   have hns36_1 := NB633_634.out
   have hms36_0 := NB634_632.out
   have hms36_1 := NB634_633.out
   refine skip_ (w1 := ?_) (by rfl) rfl ?_ ?_
   rotate_left
   ·go_simp
    rfl
   refine hK.out _ _ ?_
   clear hK K
   refine done_ (done_of HT_.out (by kernel_rfl)) ?_
   try go_wp2
   go_roundg k1
   case measure => have := HK1.out; omega
   case rel => exact ⟨(wrap64 (x4_1 + 1)), (y645), (.slice Ao35 y645.length co35), rs, H', ⟨by have := HK1.out; omega⟩, ⟨rj (Kd.R_types HO647.out BK634.out (by decide)) (fun _ hk => trivial)⟩, ⟨by (with_reducible repeat (first | refine blk_drewN ?_ _ | refine blk_drew ?_ | refine blk_alloc ?_ _)); refine blk_far ?_ NB632_634.out _; (with_reducible repeat (first | refine blk_drewN ?_ _ | refine blk_drew ?_ | refine blk_alloc ?_ _)); exact BK632.out⟩, ⟨by (with_reducible repeat (first | refine blk_drewN ?_ _ | refine blk_drew ?_ | refine blk_alloc ?_ _)); refine blk_far ?_ NB633_634.out _; (with_reducible repeat (first | refine blk_drewN ?_ _ | refine blk_drew ?_ | refine blk_alloc ?_ _)); exact BK633.out⟩, ⟨pt0 BK634⟩, ⟨u14HB⟩⟩

end Go.Proofs.YtjlpjbkpmmpojaaDoor.All
