-- Written by a program of this session (wip/tools/hprint.py) out of the translation. Lean checks it.
import Derived.Test.YtjlpjbkpmmpojaaDoorAllx0
import Derived.Test.YtjlpjbkpmmpojaaDoorAllx1
import Derived.Test.YtjlpjbkpmmpojaaDoorAllx4
import Derived.Test.YtjlpjbkpmmpojaaDoorAllx5
import Derived.Test.YtjlpjbkpmmpojaaDoorAllx6
import Derived.Test.YtjlpjbkpmmpojaaDoorAllx7
import Derived.Test.YtjlpjbkpmmpojaaDoorAllx8
namespace Go.Proofs.YtjlpjbkpmmpojaaDoor.All
open Go.RowKit Go.Proofs.YtjlpjbkpmmpojaaDoorW.PrintWords Go.Proofs.YtjlpjbkpmmpojaaDoorW.PrintLast Go.Proofs.YtjlpjbkpmmpojaaDoorW.PrintMore
attribute [local go_sem] max2_int min2_int max_two min_two max_three min_three max_four min_four   -- for this text's walks alone
set_option linter.unusedVariables false
set_option linter.unusedSimpArgs false

/-! ### laws_FnAskedAgain: function 3 -/
theorem u3HB {p : Prop} (h : p := by repeat (first | (with_reducible first | exact HB.out | apply below_alloc | apply pw_below_drewN | apply below_drew1 | refine below_set ?_ GE658.out | refine below_set ?_ GE665.out | refine below_set ?_ GE682.out | refine below_set ?_ GE688.out | refine below_set ?_ GE694.out) | exact HB.out)) : p := h
theorem laws_FnAskedAgain.rqf0 (n : Int) (s z : ByteArray) (v : Value) (w : World) : (Instr.field 26 (.agg #[.int .i64 n, .string s, v, .string z]) 0).run Tryd.prog w = .ok (.int .i64 n) w := by have hu_ := Tryd.underlying26; simp [Instr.field, hu_, asAgg, part]
theorem laws_FnAskedAgain.rqf1 (n : Int) (s z : ByteArray) (v : Value) (w : World) : (Instr.field 26 (.agg #[.int .i64 n, .string s, v, .string z]) 1).run Tryd.prog w = .ok (.string s) w := by have hu_ := Tryd.underlying26; simp [Instr.field, hu_, asAgg, part]
theorem laws_FnAskedAgain.rqf2 (n : Int) (s z : ByteArray) (v : Value) (w : World) : (Instr.field 26 (.agg #[.int .i64 n, .string s, v, .string z]) 2).run Tryd.prog w = .ok (v) w := by have hu_ := Tryd.underlying26; simp [Instr.field, hu_, asAgg, part]
theorem laws_FnAskedAgain.rqf3 (n : Int) (s z : ByteArray) (v : Value) (w : World) : (Instr.field 26 (.agg #[.int .i64 n, .string s, v, .string z]) 3).run Tryd.prog w = .ok (.string z) w := by have hu_ := Tryd.underlying26; simp [Instr.field, hu_, asAgg, part]
theorem laws_FnAskedAgain.rsf0 (n : Int) (z : ByteArray) (v : Value) (w : World) : (Instr.field 32 (.agg #[.int .i64 n, v, .string z]) 0).run Tryd.prog w = .ok (.int .i64 n) w := by have hu_ := Tryd.underlying32; simp [Instr.field, hu_, asAgg, part]
theorem laws_FnAskedAgain.rsf1 (n : Int) (z : ByteArray) (v : Value) (w : World) : (Instr.field 32 (.agg #[.int .i64 n, v, .string z]) 1).run Tryd.prog w = .ok (v) w := by have hu_ := Tryd.underlying32; simp [Instr.field, hu_, asAgg, part]
theorem laws_FnAskedAgain.rsf2 (n : Int) (z : ByteArray) (v : Value) (w : World) : (Instr.field 32 (.agg #[.int .i64 n, v, .string z]) 2).run Tryd.prog w = .ok (.string z) w := by have hu_ := Tryd.underlying32; simp [Instr.field, hu_, asAgg, part]
attribute [local go_sem high] laws_FnAskedAgain.rqf0 laws_FnAskedAgain.rqf1 laws_FnAskedAgain.rqf2 laws_FnAskedAgain.rqf3 laws_FnAskedAgain.rsf0 laws_FnAskedAgain.rsf1 laws_FnAskedAgain.rsf2
mutual
def laws_FnAskedAgain.j0 : Nat → List Int → List (S46) → Bool → Int → ByteArray → List (S46) → ByteArray → Int → ByteArray → List (S46) → ByteArray → Option (Bool)
 | 0, _, _, _, _, _, _, _, _, _, _, _ => none
 | k + 1, x0, x4, x45, x659000, x659001, x659002, x659003, x666000, x666001, x666002, x666003 => if x45 = true then (some false) else ((spec_DrawSame.f k x0).bind fun bt673 => ((spec_DrawShort.f k x0).bind fun bt683 => ((impl_Short.f k bt683.1 bt683.2.1 bt683.2.2).bind fun bt689 => ((impl_Same.f bt673.1 bt673.2.1 bt673.2.2.1 bt673.2.2.2.1 bt673.2.2.2.2).bind fun t695 => ((spec_Same.f k bt673.1 bt673.2.1 bt673.2.2.1 bt673.2.2.2.1 bt673.2.2.2.2).bind fun t696 => (if (t695 != t696) = true then (laws_FnAskedAgain.j1 k x4 true x659000 x659001 x659002 x659003 x666000 x666001 x666002 x666003) else ((spec_Short.f k bt683.1 bt683.2.1 bt683.2.2).bind fun bt697 => ((laws_sameFields.f k bt689.2.1 bt697.2.1).bind fun t702 => (if t702 = true then (if bt689.2.2.toList = ([] : List UInt8) then (laws_FnAskedAgain.j1 k x4 (bt689.1 != 304) x659000 x659001 x659002 x659003 x666000 x666001 x666002 x666003) else (laws_FnAskedAgain.j1 k x4 true x659000 x659001 x659002 x659003 x666000 x666001 x666002 x666003)) else (laws_FnAskedAgain.j1 k x4 true x659000 x659001 x659002 x659003 x666000 x666001 x666002 x666003))))))))))
def laws_FnAskedAgain.j1 : Nat → List (S46) → Bool → Int → ByteArray → List (S46) → ByteArray → Int → ByteArray → List (S46) → ByteArray → Option (Bool)
 | 0, _, _, _, _, _, _, _, _, _, _ => none
 | k + 1, x4, x80, x659000, x659001, x659002, x659003, x666000, x666001, x666002, x666003 => if x80 = true then (some false) else ((impl_Get.f x4 (⟨#[101, 116, 97, 103]⟩ : ByteArray)).bind fun bt703 => ((impl_Get.f x666002 (⟨#[105, 102, 45, 110, 111, 110, 101, 45, 109, 97, 116, 99, 104]⟩ : ByteArray)).bind fun bt705 => ((impl_ReqOk.f k x659000 x659001 x659002 x659003).bind fun t707 => (if t707 = true then ((impl_ReqOk.f k x666000 x666001 x666002 x666003).bind fun t708 => (if t708 = true then (if bt705.2 = true then (if bt703.2 = true then (if bt705.1.toList = bt703.1.toList then ((impl_Same.f x666000 x666001 x666002 x666003 x4).bind fun t709 => (some t709)) else (some false)) else (some false)) else (if bt703.2 = true then (some true) else (some true))) else (some false))) else (some true)))))
end
def laws_FnAskedAgain.f (k : Nat) (l0 : List Int) : Option (Bool) := (laws_big.f l0).bind fun t648 => (if t648 = true then (some true) else ((spec_DrawAsk.f k l0).bind fun bt649 => ((impl_Ask.f k bt649.1 bt649.2.1 bt649.2.2.1 bt649.2.2.2.1 bt649.2.2.2.2).bind fun bt659 => ((spec_Ask.f k bt649.1 bt649.2.1 bt649.2.2.1 bt649.2.2.2.1 bt649.2.2.2.2).bind fun bt666 => ((laws_sameFields.f k bt659.2.2.1 bt666.2.2.1).bind fun t672 => (if t672 = true then (if bt659.2.1.toList = bt649.2.1.toList then (laws_FnAskedAgain.j0 k l0 bt649.2.2.2.2 (bt659.1 != bt649.1) bt649.1 bt649.2.1 bt649.2.2.1 bt649.2.2.2.1 bt659.1 bt659.2.1 bt659.2.2.1 bt659.2.2.2) else (laws_FnAskedAgain.j0 k l0 bt649.2.2.2.2 true bt649.1 bt649.2.1 bt649.2.2.1 bt649.2.2.2.1 bt659.1 bt659.2.1 bt659.2.2.1 bt659.2.2.2)) else (laws_FnAskedAgain.j0 k l0 bt649.2.2.2.2 true bt649.1 bt649.2.1 bt649.2.2.1 bt649.2.2.2.1 bt659.1 bt659.2.1 bt659.2.2.1 bt659.2.2.2)))))))
theorem laws_FnAskedAgain.mono_l : ∀ k, (∀ y0 y1 y2 y3 y4 y5 y6 y7 y8 y9 y10, LeO (laws_FnAskedAgain.j0 k y0 y1 y2 y3 y4 y5 y6 y7 y8 y9 y10) (laws_FnAskedAgain.j0 (k + 1) y0 y1 y2 y3 y4 y5 y6 y7 y8 y9 y10)) ∧ (∀ y0 y1 y2 y3 y4 y5 y6 y7 y8 y9, LeO (laws_FnAskedAgain.j1 k y0 y1 y2 y3 y4 y5 y6 y7 y8 y9) (laws_FnAskedAgain.j1 (k + 1) y0 y1 y2 y3 y4 y5 y6 y7 y8 y9))
 | 0 => ⟨fun _ _ _ _ _ _ _ _ _ _ _ r h => by simp [laws_FnAskedAgain.j0] at h, fun _ _ _ _ _ _ _ _ _ _ r h => by simp [laws_FnAskedAgain.j1] at h⟩
 | k + 1 => by
  obtain ⟨ih0, ih1⟩ := laws_FnAskedAgain.mono_l k
  refine ⟨?_, ?_⟩
  ·intro y0 y1 y2 y3 y4 y5 y6 y7 y8 y9 y10
   unfold laws_FnAskedAgain.j0
   have m0 := @impl_Ask.mono
   have m1 := @impl_ReqOk.mono
   have m2 := @impl_Short.mono
   have m3 := @laws_sameFields.mono
   have m4 := @spec_Ask.mono
   have m5 := @spec_DrawAsk.mono
   have m6 := @spec_DrawSame.mono
   have m7 := @spec_DrawShort.mono
   have m8 := @spec_Same.mono
   have m9 := @spec_Short.mono
   exact mo
  ·intro y0 y1 y2 y3 y4 y5 y6 y7 y8 y9
   unfold laws_FnAskedAgain.j1
   have m0 := @impl_Ask.mono
   have m1 := @impl_ReqOk.mono
   have m2 := @impl_Short.mono
   have m3 := @laws_sameFields.mono
   have m4 := @spec_Ask.mono
   have m5 := @spec_DrawAsk.mono
   have m6 := @spec_DrawSame.mono
   have m7 := @spec_DrawShort.mono
   have m8 := @spec_Same.mono
   have m9 := @spec_Short.mono
   exact mo
theorem laws_FnAskedAgain.mono : ∀ a0 k, LeO (laws_FnAskedAgain.f k a0) (laws_FnAskedAgain.f (k + 1) a0) := by
 intro a0 k
 obtain ⟨ih0, ih1⟩ := laws_FnAskedAgain.mono_l k
 unfold laws_FnAskedAgain.f
 have m0 := @impl_Ask.mono
 have m1 := @impl_ReqOk.mono
 have m2 := @impl_Short.mono
 have m3 := @laws_sameFields.mono
 have m4 := @spec_Ask.mono
 have m5 := @spec_DrawAsk.mono
 have m6 := @spec_DrawSame.mono
 have m7 := @spec_DrawShort.mono
 have m8 := @spec_Same.mono
 have m9 := @spec_Short.mono
 exact mo
def laws_FnAskedAgain.T5 : Bool × List (List Nat × List Nat) := (true, [([], []), ([0], [0]), ([], []), ([], []), ([2, 3], [2, 3]), ([4], [4]), ([1, 5, 4], [1, 5]), ([6], [6]), ([7, 6], [7]), ([8], [8]), ([9, 8], [8, 9]), ([8], [8]), ([11, 8], [8, 11]), ([10, 12, 8], [8, 10, 12]), ([8, 13], [8, 13]), ([14, 8], [14]), ([15], [15]), ([16, 15], [15, 16]), ([15], [15]), ([18, 15], [15, 18]), ([17, 19, 15], [15, 17, 19]), ([15, 20], [15, 20])])
def laws_FnAskedAgain.B5 : List Nat := [0, 1, 0, 0, 12, 28, 63, 127, 255, 511, 1023, 511, 2559, 8191, 16383, 32767, 65535, 131071, 65535, 327679, 1048575, 2097151]
theorem laws_FnAskedAgain.tab5 : rtab .any (opsOf Tryd.f3 5) = laws_FnAskedAgain.T5 := by kernel_rfl
theorem laws_FnAskedAgain.bits5 : waitsOk laws_FnAskedAgain.T5.2 laws_FnAskedAgain.B5 = true := by kernel_rfl
def laws_FnAskedAgain.T10 : Bool × List (List Nat × List Nat) := (true, [([], []), ([], []), ([0, 1], [0, 1]), ([], []), ([], []), ([3, 4, 2], [3, 4]), ([2, 5], [2, 5]), ([6, 5], [6]), ([7], [7]), ([8, 7], [7, 8]), ([7], [7]), ([10, 7, 7], [7, 10]), ([11, 7], [7, 11]), ([9, 12, 11, 7], [7, 9, 12]), ([13, 7], [7, 13]), ([7, 14], [7, 14]), ([15, 13], [15]), ([16], [16]), ([17, 16], [16, 17]), ([18, 16], [16, 18]), ([16, 19], [16, 19]), ([20, 16], [20]), ([21], [21]), ([22, 21], [21, 22]), ([23, 21], [21, 23]), ([21, 24], [21, 24])])
def laws_FnAskedAgain.B10 : List Nat := [0, 0, 3, 0, 0, 31, 63, 127, 255, 511, 255, 1279, 3327, 8191, 16383, 32767, 65535, 131071, 262143, 524287, 1048575, 2097151, 4194303, 8388607, 16777215, 33554431]
theorem laws_FnAskedAgain.tab10 : rtab .any (opsOf Tryd.f3 10) = laws_FnAskedAgain.T10 := by kernel_rfl
theorem laws_FnAskedAgain.bits10 : waitsOk laws_FnAskedAgain.T10.2 laws_FnAskedAgain.B10 = true := by kernel_rfl
set_option maxHeartbeats 8000000 in
set_option maxRecDepth 100000 in
theorem laws_FnAskedAgain.calls (k : Nat) (A0 : Option Addr) (c0 : Nat) (l0 : List Int) (r : Bool) (w : World) (hr0 : Kd.C (Kd.int .u8) w A0 l0.length l0) (hc0 : l0.length ≤ c0) (ht_ : r = true) (h : laws_FnAskedAgain.f k l0 = some r) :
  Calls Tryd.prog 3 #[.slice A0 l0.length c0] w fun e w' => e = .returned (.bool r) ∧ Below w.heap.size w w' := by
 have hu26 := Tryd.underlying26
 have hu32 := Tryd.underlying32
 have HR0 := am hr0
 have HC0 := am hc0
 clear hr0 hc0
 have HB := am (Below.refl w.heap.size w)
 unfold laws_FnAskedAgain.f at h
 have H := h
 clear h
 revert H
 refine ok1 fun t648 A2 H => ?_
 by_cases c3 : t648 = true
 ·subst c3
  rw [if_pos rfl] at H
  obtain rfl := Option.some.inj H
  go_enter Tryd.func3, Tryd.ntmps3
  go_wp2_with (first | ((with_reducible refine gx 15 rfl rfl ?_); refine gl 15 Tryd.func4 #[.slice A0 l0.length c0] ?_; (with_reducible refine (laws_big.calls _ _ l0 true _ ?side1 ?side2 A2.out).mono ?_); (case side1 => exact cc HR0); (case side2 => exact HC0.out); rintro e w' ⟨rfl, ⟨nd, rfl⟩⟩; refine ⟨_, rfl, ?_⟩))
  go_ret
  exact ⟨rf, bl⟩
 replace c3 := Bool.eq_false_iff.mpr c3
 subst c3
 rw [if_neg (show ¬ (false = true) by decide)] at H
 revert H
 refine ok5 fun t649 t650 t651 t654 t655 A4 H => ?_
 (try dsimp only at H)
 revert H
 refine ok4 fun t659 t660 t661 t664 A5 H => ?_
 (try dsimp only at H)
 have HC6 := am H
 clear H
 go_enter Tryd.func3, Tryd.ntmps3
 go_upto_region 5 with (first | ((with_reducible refine gx 15 rfl rfl ?_); refine gl 15 Tryd.func4 #[.slice A0 l0.length c0] ?_; (with_reducible refine (laws_big.calls _ _ l0 false _ ?side1 ?side2 A2.out).mono ?_); (case side1 => exact cc HR0); (case side2 => exact HC0.out); rintro e w' ⟨rfl, ⟨nd, rfl⟩⟩; refine ⟨_, rfl, ?_⟩) | ((with_reducible refine gx 18 rfl rfl ?_); refine gl 18 Tryd.func5 #[.slice A0 l0.length c0] ?_; (with_reducible refine (spec_DrawAsk.calls k _ _ l0 t649 t650 t651 t654 t655 _ ?side1 ?side2 A4.out).mono ?_); (case side1 => exact cc HR0); (case side2 => exact HC0.out); rintro e w7 ⟨v652, v656, rfl, ho0, ho1, hb⟩; refine ⟨_, rfl, ?_⟩; have HO653 := am (Kd.R_lower ho0 (below_size bl)); have HO657 := am (Kd.R_lower ho1 (below_size bl)); replace HB := am (below_step bl hb); clear hb ho0 ho1) | ((with_reducible refine gx 3 rfl rfl ?_); refine bx 3 #[.int .i64 0, .string (⟨#[]⟩ : ByteArray), .slice none 0 0, .string (⟨#[]⟩ : ByteArray)] 26 ?_; intro gb658 hg w8 hbox hb; replace HO653 := am (Kd.R_below (ro HO653) hb); replace HO657 := am (Kd.R_below (ro HO657) hb); have BK658 := am (hbox); have GW658 := am (sz hg : w.heap.size ≤ gb658); have GE658 := am (sz hg : w.heap.size ≤ gb658); replace HB := am (below_step bl hb); clear hb hbox hg; obtain ⟨z9_0, y9_0, z9_1, y9_1, z9_2, y9_2, z9_3, y9_3⟩ := cl4 BK658; obtain ⟨Ao10, co10, eo10⟩ := Kd.R_slice HO653.out; subst eo10; obtain ⟨Ao11, co11, eo11⟩ := Kd.R_slice HO657.out; subst eo11) | ((with_reducible refine gx 23 rfl rfl ?_); refine gl 23 Tryd.func6 #[.agg #[.int .i64 t649, .string t650, .slice Ao10 t651.length co10, .string t654], .slice Ao11 t655.length co11] ?_; (with_reducible refine (impl_Ask.calls k t649 t650 _ _ t651 t654 _ _ t655 t659 t660 t661 t664 _ ?side1 ?side2 ?side3 ?side4 A5.out).mono ?_); (case side1 => refine (Kd.R_reads' (e := 46) (base := w.heap.size) (ok := fun k_ => some k_ ≠ (.slice Ao11 t655.length co11 : Value).ownBlock) (n := t651.length) (c := co10) ?_).2.2; exact (rj (Kd.R_types HO653.out BK658.out (by decide)) (fun _ h_ => h_.1))); (case side2 => exact (Kd.R_reads' HO653.out).2.1); (case side3 => refine (Kd.R_reads' (e := 46) (base := w.heap.size) (ok := fun k_ => some k_ ≠ (.slice Ao10 t651.length co10 : Value).ownBlock) (n := t655.length) (c := co11) ?_).2.2; exact (rj (Kd.R_types HO657.out BK658.out (by decide)) (fun _ h_ => h_.1))); (case side4 => exact (Kd.R_reads' HO657.out).2.1); rintro e w12 ⟨v662, rfl, ho0, hb⟩; refine ⟨_, rfl, ?_⟩; have HO663 := am (Kd.R_lower (Kd.R_new' (Kd.R_new' ho0 (Kd.R_lt (rj (Kd.R_types HO653.out BK658.out (by decide)) (fun _ h_ => h_.1)))) (Kd.R_lt (rj (Kd.R_types HO657.out BK658.out (by decide)) (fun _ h_ => h_.1)))) (below_size bl)); replace HO653 := am (Kd.R_elder' (rj (Kd.R_types HO653.out BK658.out (by decide)) (fun _ h_ => h_.1)) (Kd.R_base ho0) hb); replace HO657 := am (Kd.R_elder' (rj (Kd.R_types HO657.out BK658.out (by decide)) (fun _ h_ => h_.1)) (Kd.R_base ho0) hb); replace BK658 := am (blk_below (g := gb658) (o := .cells #[.int .i64 t649, .string t650, .slice Ao10 t651.length co10, .string t654] 26 (0, 0)) (pt0 BK658) hb); replace HB := am (below_step bl hb); clear hb ho0) | ((with_reducible refine gx 5 rfl rfl ?_); refine bx 5 #[.int .i64 0, .string (⟨#[]⟩ : ByteArray), .slice none 0 0, .string (⟨#[]⟩ : ByteArray)] 26 ?_; intro gb665 hg w13 hbox hb; replace HO653 := am (Kd.R_below (ro HO653) hb); replace HO657 := am (Kd.R_below (ro HO657) hb); replace HO663 := am (Kd.R_below (ro HO663) hb); have BK665 := am (hbox); have GW665 := am (sz hg : w.heap.size ≤ gb665); have GE665 := am (sz hg : w.heap.size ≤ gb665); replace HB := am (below_step bl hb); have NB658_665 := am (nl hg BK658 : gb658 ≠ gb665); have NB665_658 := am (ng hg BK658 : gb665 ≠ gb658); replace BK658 := kb BK658 hb; clear hb hbox hg; have hnb14 := NB665_658.out; have hnc14 := NB658_665.out; obtain ⟨z15_0, y15_0, z15_1, y15_1, z15_2, y15_2, z15_3, y15_3⟩ := cl4 BK665; obtain ⟨Ao16, co16, eo16⟩ := Kd.R_slice HO663.out; subst eo16))
 (try simp only [Act.put, List.setIfInBounds_toArray, List.set_cons_zero, List.set_cons_succ])
 go_cut [45] (fun v45 wc => ∃ (kq : Nat) (x45_5 : Bool), v45 = .bool x45_5 ∧ Aside0 (laws_FnAskedAgain.j0 kq l0 t655 x45_5 t649 t650 t651 t654 t659 t660 t661 t664 = some r) ∧ Aside0 (kq ≤ k) ∧ Aside0 (Kd.R k46 46 wc w.heap.size (fun k_ => some k_ ≠ ((.slice Ao10 t651.length co10) : Value).ownBlock ∧ some k_ ≠ ((.slice Ao16 t661.length co16) : Value).ownBlock) (.slice Ao11 t655.length co11) t655) ∧ Aside0 (Kd.R k46 46 wc w.heap.size (fun k_ => some k_ ≠ ((.slice Ao11 t655.length co11) : Value).ownBlock ∧ some k_ ≠ ((.slice Ao16 t661.length co16) : Value).ownBlock) (.slice Ao10 t651.length co10) t651) ∧ Aside0 (Kd.R k46 46 wc w.heap.size (fun k_ => some k_ ≠ ((.slice Ao11 t655.length co11) : Value).ownBlock ∧ some k_ ≠ ((.slice Ao10 t651.length co10) : Value).ownBlock) (.slice Ao16 t661.length co16) t661) ∧ Aside0 (wc.heap[gb658]? = some (.cells #[.int .i64 t649, .string t650, (.slice Ao10 t651.length co10), .string t654] 26 (0, 0))) ∧ Aside0 (wc.heap[gb665]? = some (.cells #[.int .i64 t659, .string t660, (.slice Ao16 t661.length co16), .string t664] 26 (0, 0))) ∧ Aside0 (Below w.heap.size w wc))
 case first =>
  have H := HC6.out
  clear HC6
  revert H
  refine ok4 fun t666 t667 t668 t671 A17 H => ?_
  (try dsimp only at H)
  revert H
  refine ok1 fun t672 A18 H => ?_
  by_cases c19 : t672 = true
  rotate_left
  ·replace c19 := Bool.eq_false_iff.mpr c19
   subst c19
   rw [if_neg (show ¬ (false = true) by decide)] at H
   cases k with
   | zero => exact absurd H (by simp [laws_FnAskedAgain.j0])
   | succ k_ => simp only [laws_FnAskedAgain.j0, if_true] at H; exact absurd (Option.some.inj H) (by rw [ht_]; decide)
  subst c19
  rw [if_pos rfl] at H
  by_cases c20 : t660.toList = t650.toList
  rotate_left
  ·rw [if_neg c20] at H
   have c20b0 : (t660.toList == t650.toList) = false := beq_eq_false_iff_ne.mpr c20
   have c20b1 : (t660.toList != t650.toList) = true := bne_iff_ne.mpr c20
   (first | rw [c20b0] | (simp only [i64_w, i32_w]; rw [c20b0]) | skip)
   cases k with
   | zero => exact absurd H (by simp [laws_FnAskedAgain.j0])
   | succ k_ => simp only [laws_FnAskedAgain.j0, if_true] at H; exact absurd (Option.some.inj H) (by rw [ht_]; decide)
  rw [if_pos c20] at H
  have c20b0 : (t660.toList == t650.toList) = true := beq_iff_eq.mpr c20
  have c20b1 : (t660.toList != t650.toList) = false := bne_eq_false_iff_eq.mpr c20
  clear c20
  (first | rw [c20b0] | (simp only [i64_w, i32_w]; rw [c20b0]) | skip)
  have H' := am H
  clear H
  try go_wp2
  have n0_ : Aside0 (Kd.R k46 46 ((((w13.setCell ⟨gb665, 0, none⟩ (.int .i64 t659)).setCell ⟨gb665, 1, none⟩ (.string t660)).setCell ⟨gb665, 2, none⟩ (.slice Ao16 t661.length co16)).setCell ⟨gb665, 3, none⟩ (.string t664)) w.heap.size (fun k_ => some k_ ≠ (.slice Ao11 t655.length co11 : Value).ownBlock ∧ some k_ ≠ (.slice Ao16 t661.length co16 : Value).ownBlock) (.slice Ao10 t651.length co10) t651) := ⟨rj (Kd.R_types HO653.out BK665.out (by decide)) (fun _ hk => ⟨hk.1.1, hk.1.2⟩)⟩
  have n1_ : Aside0 (Kd.R k46 46 ((((w13.setCell ⟨gb665, 0, none⟩ (.int .i64 t659)).setCell ⟨gb665, 1, none⟩ (.string t660)).setCell ⟨gb665, 2, none⟩ (.slice Ao16 t661.length co16)).setCell ⟨gb665, 3, none⟩ (.string t664)) w.heap.size (fun k_ => some k_ ≠ (.slice Ao10 t651.length co10 : Value).ownBlock ∧ some k_ ≠ (.slice Ao16 t661.length co16 : Value).ownBlock) (.slice Ao11 t655.length co11) t655) := ⟨rj (Kd.R_types HO657.out BK665.out (by decide)) (fun _ hk => ⟨hk.1.1, hk.1.2⟩)⟩
  have n2_ : Aside0 (Kd.R k46 46 ((((w13.setCell ⟨gb665, 0, none⟩ (.int .i64 t659)).setCell ⟨gb665, 1, none⟩ (.string t660)).setCell ⟨gb665, 2, none⟩ (.slice Ao16 t661.length co16)).setCell ⟨gb665, 3, none⟩ (.string t664)) w.heap.size (fun k_ => some k_ ≠ (.slice Ao10 t651.length co10 : Value).ownBlock ∧ some k_ ≠ (.slice Ao11 t655.length co11 : Value).ownBlock) (.slice Ao16 t661.length co16) t661) := ⟨rj (Kd.R_types HO663.out BK665.out (by decide)) (fun _ hk => ⟨hk.1.1.2, hk.1.2⟩)⟩
  have n3_ : Aside0 (((((w13.setCell ⟨gb665, 0, none⟩ (.int .i64 t659)).setCell ⟨gb665, 1, none⟩ (.string t660)).setCell ⟨gb665, 2, none⟩ (.slice Ao16 t661.length co16)).setCell ⟨gb665, 3, none⟩ (.string t664)).heap[gb658]? = some (.cells #[.int .i64 t649, .string t650, .slice Ao10 t651.length co10, .string t654] 26 (0, 0))) := ⟨by (with_reducible repeat (first | refine blk_drewN ?_ _ | refine blk_drew ?_ | refine blk_alloc ?_ _)); refine blk_far ?_ NB658_665.out _; (with_reducible repeat (first | refine blk_drewN ?_ _ | refine blk_drew ?_ | refine blk_alloc ?_ _)); refine blk_far ?_ NB658_665.out _; (with_reducible repeat (first | refine blk_drewN ?_ _ | refine blk_drew ?_ | refine blk_alloc ?_ _)); refine blk_far ?_ NB658_665.out _; (with_reducible repeat (first | refine blk_drewN ?_ _ | refine blk_drew ?_ | refine blk_alloc ?_ _)); refine blk_far ?_ NB658_665.out _; (with_reducible repeat (first | refine blk_drewN ?_ _ | refine blk_drew ?_ | refine blk_alloc ?_ _)); exact BK658.out⟩
  have n4_ : Aside0 (((((w13.setCell ⟨gb665, 0, none⟩ (.int .i64 t659)).setCell ⟨gb665, 1, none⟩ (.string t660)).setCell ⟨gb665, 2, none⟩ (.slice Ao16 t661.length co16)).setCell ⟨gb665, 3, none⟩ (.string t664)).heap[gb665]? = some (.cells #[.int .i64 t659, .string t660, .slice Ao16 t661.length co16, .string t664] 26 (0, 0))) := ⟨pt0 BK665⟩
  have n5_ : Aside0 (Below w.heap.size w ((((w13.setCell ⟨gb665, 0, none⟩ (.int .i64 t659)).setCell ⟨gb665, 1, none⟩ (.string t660)).setCell ⟨gb665, 2, none⟩ (.slice Ao16 t661.length co16)).setCell ⟨gb665, 3, none⟩ (.string t664))) := ⟨u3HB⟩
  (try clear HO653)
  (try clear HO657)
  (try clear HO663)
  (try clear BK658)
  (try clear BK665)
  (try clear HB)
  generalize ((((w13.setCell ⟨gb665, 0, none⟩ (.int .i64 t659)).setCell ⟨gb665, 1, none⟩ (.string t660)).setCell ⟨gb665, 2, none⟩ (.slice Ao16 t661.length co16)).setCell ⟨gb665, 3, none⟩ (.string t664)) = w21 at n0_ n1_ n2_ n3_ n4_ n5_ ⊢
  have HO653 := n0_
  have HO657 := n1_
  have HO663 := n2_
  have BK658 := n3_
  have BK665 := n4_
  have HB := n5_
  clear n0_ n1_ n2_ n3_ n4_ n5_
  replace HO653 := am (Kd.R_drew HO653.out)
  replace HO657 := am (Kd.R_drew HO657.out)
  replace HO663 := am (Kd.R_drew HO663.out)
  replace BK658 := am (blk_drew BK658.out)
  replace BK665 := am (blk_drew BK665.out)
  replace HB := am (below_drew1 HB.out)
  refine start_ (n := 22) (S := fun w' => w'.cell? ⟨gb665, 0, none⟩ = some (.int .i64 t659) ∧ w'.cell? ⟨gb665, 1, none⟩ = some (.string t660) ∧ w'.cell? ⟨gb665, 2, none⟩ = some (.slice Ao16 t661.length co16) ∧ w'.cell? ⟨gb665, 3, none⟩ = some (.string t664) ∧ w'.cell? ⟨gb658, 0, none⟩ = some (.int .i64 t649) ∧ w'.cell? ⟨gb658, 1, none⟩ = some (.string t650) ∧ w'.cell? ⟨gb658, 2, none⟩ = some (.slice Ao10 t651.length co10) ∧ w'.cell? ⟨gb658, 3, none⟩ = some (.string t654)) (ds := []) ⟨br true [0, 22]⟩ (by kernel_rfl) rfl (by kernel_rfl) ⟨bc BK665, bc BK665, bc BK665, bc BK665, bc BK658, bc BK658, bc BK658, bc BK658⟩ (fun hHeld => ?_); refine with_tabW laws_FnAskedAgain.tab5 laws_FnAskedAgain.bits5 (fun HT_ HW_ => ?_)
  generalize w21.drew = w22 at HO653 HO657 HO663 BK658 BK665 HB hHeld ⊢
  refine pu 0 24 [1, 21] ?_
  refine pu 3 27 [1, 2, 1, 18] ?_
  refine tk 1 25 [2, 1, 1, 18] ?_
  refine tk 2 26 [4, 18] ?_
  refine og 4 28 [5, 17] Tryd.func8 #[.agg #[.int .i64 t649, .string t650, .slice Ao10 t651.length co10, .string t654], .slice Ao11 t655.length co11] (fun K hK => ?_)
  with_reducible refine (spec_Ask.calls k t649 t650 _ _ t651 t654 _ _ t655 t666 t667 t668 t671 _ ?side1 ?side2 ?side3 ?side4 A17.out).mono ?_
  (case side1 => exact rc HO653)
  (case side2 => exact (Kd.R_reads' HO653.out).2.1)
  (case side3 => exact rc HO657)
  (case side4 => exact (Kd.R_reads' HO657.out).2.1)
  rintro e w23 ⟨v669, rfl, ho0, hb⟩
  refine ⟨_, rfl, ?_⟩
  have HO670 := am (Kd.R_lower (Kd.R_new' (Kd.R_new' (Kd.R_new' ho0 (Kd.R_lt (ro HO653))) (Kd.R_lt (ro HO657))) (Kd.R_lt (ro HO663))) (below_size bl))
  replace HO653 := am (Kd.R_elder' (ro HO653) (Kd.R_base ho0) hb)
  replace HO657 := am (Kd.R_elder' (ro HO657) (Kd.R_base ho0) hb)
  replace HO663 := am (Kd.R_elder' (ro HO663) (Kd.R_base ho0) hb)
  replace BK658 := kb BK658 hb
  replace BK665 := kb BK665 hb
  replace HB := am (below_step bl hb)
  clear hb ho0
  obtain ⟨Ao24, co24, eo24⟩ := Kd.R_slice HO670.out
  (first | subst eo24 | (injection eo24 with f1_ f2_ f3_; have f4_ := f1_.symm; have f5_ := f3_.symm; clear f1_ f2_ f3_; subst f4_; subst f5_))
  refine hK.out _ _ ⟨bc BK665, bc BK665, bc BK665, bc BK665, bc BK658, bc BK658, bc BK658, bc BK658⟩ (fun hHeld => ?_)
  clear hK K
  refine nm 28 ?_
  refine pu 5 29 [6, 16] ?_
  refine og 6 30 [7, 15] Tryd.func7 #[.slice Ao16 t661.length co16, .slice Ao24 t668.length co24] (fun K hK => ?_)
  with_reducible refine (laws_sameFields.calls k _ _ t661 _ _ t668 true _ ?side1 ?side2 ?side3 ?side4 A18.out).mono ?_
  (case side1 => exact rc HO663)
  (case side2 => exact (Kd.R_reads' HO663.out).2.1)
  (case side3 => exact rc HO670)
  (case side4 => exact (Kd.R_reads' HO670.out).2.1)
  rintro e w' ⟨rfl, ⟨nd, rfl⟩⟩
  refine ⟨_, rfl, ?_⟩
  refine hK.out _ _ ⟨bc BK665, bc BK665, bc BK665, bc BK665, bc BK658, bc BK658, bc BK658, bc BK658⟩ (fun hHeld => ?_)
  clear hK K
  refine nm 30 ?_
  refine pu 7 31 [8, 14] ?_
  refine pu 8 32 [9, 13] ?_
  refine pu 9 33 [10, 12] ?_
  refine pu 11 35 [10, 1, 1, 10] ?_
  refine tk 10 34 [12, 10] ?_
  refine tk 12 36 [13, 9] ?_
  refine pu 13 37 [14, 8] ?_
  refine pu 14 38 [15, 7] ?_
  refine pu 15 39 [16, 6] ?_
  refine pu 16 40 [17, 5] ?_
  refine pu 18 42 [17, 1, 1, 3] ?_
  refine tk 17 41 [19, 3] ?_
  refine tk 19 43 [20, 2] ?_
  refine pu 20 44 [21, 1] ?_
  refine pu 21 45 [22] ?_
  refine done_ (done_of HT_.out (by kernel_rfl)) ?_
  try go_wp2
  go_meet
  case rel => exact ⟨_, ((t659 != t649)), rs, H', ⟨by first | omega | exact Nat.le_refl _⟩, ⟨by (with_reducible repeat (first | apply Kd.R_alloc | apply Kd.R_drewN | apply Kd.R_drew)); exact Kd.R_mono HO657.out (fun _ hk => ⟨hk.1.1, hk.1.2⟩)⟩, ⟨by (with_reducible repeat (first | apply Kd.R_alloc | apply Kd.R_drewN | apply Kd.R_drew)); exact Kd.R_mono HO653.out (fun _ hk => ⟨hk.1.1, hk.1.2⟩)⟩, ⟨by (with_reducible repeat (first | apply Kd.R_alloc | apply Kd.R_drewN | apply Kd.R_drew)); exact Kd.R_mono HO663.out (fun _ hk => ⟨hk.1.2, hk.1.1⟩)⟩, ⟨by (with_reducible repeat (first | refine blk_drewN ?_ _ | refine blk_drew ?_ | refine blk_alloc ?_ _)); exact BK658.out⟩, ⟨by (with_reducible repeat (first | refine blk_drewN ?_ _ | refine blk_drew ?_ | refine blk_alloc ?_ _)); exact BK665.out⟩, ⟨u3HB⟩⟩
 case rest =>
  clear HC6
  try clear c1
  try clear c2
  try clear p2
  try clear c3
  try clear c4
  try clear c5
  try clear c6
  try clear c7
  try clear c8
  try clear c14
  try clear c19
  try clear c20
  try clear c20b0
  try clear c20b1
  try clear z15_0
  try clear z15_1
  try clear z15_2
  try clear z15_3
  try clear z9_0
  try clear z9_1
  try clear z9_2
  try clear z9_3
  try clear y15_0
  try clear y15_1
  try clear y15_2
  try clear y15_3
  try clear y9_0
  try clear y9_1
  try clear y9_2
  try clear y9_3
  obtain ⟨kq, x45_5, rfl, HA, HJ5, HO_4, HO_659002, HO_666002, BK658, BK665, HB⟩ := hcut
  cases kq with
  | zero => exact absurd HA.out (by simp [laws_FnAskedAgain.j0])
  | succ kj5 =>
   have H := HA.out
   clear HA
   simp only [laws_FnAskedAgain.j0] at H
   by_cases c25 : x45_5 = true
   ·subst c25
    rw [if_pos rfl] at H
    exact absurd (Option.some.inj H) (by rw [ht_]; decide)
   replace c25 := Bool.eq_false_iff.mpr c25
   subst c25
   rw [if_neg (show ¬ (false = true) by decide)] at H
   revert H
   refine ok5 fun t673 t674 t675 t678 t679 A26 H => ?_
   (try dsimp only at H)
   revert H
   refine ok3 fun t683 t684 t687 A27 H => ?_
   (try dsimp only at H)
   revert H
   refine ok3 fun t689 t690 t693 A28 H => ?_
   (try dsimp only at H)
   have HC29 := am H
   clear H
   go_upto_region 10 with (first | ((with_reducible refine gx 48 rfl rfl ?_); refine gl 48 Tryd.func9 #[.slice A0 l0.length c0] ?_; (with_reducible refine (spec_DrawSame.calls kj5 _ _ l0 t673 t674 t675 t678 t679 _ ?side1 ?side2 A26.out).mono ?_); (case side1 => exact cb HR0); (case side2 => exact HC0.out); rintro e w30 ⟨v676, v680, rfl, ho0, ho1, hb⟩; refine ⟨_, rfl, ?_⟩; have HO677 := am (Kd.R_lower (Kd.R_new' (Kd.R_new' (Kd.R_new' ho0 (Kd.R_lt (ro HO_4))) (Kd.R_lt (ro HO_659002))) (Kd.R_lt (ro HO_666002))) (below_size bl)); have HO681 := am (Kd.R_lower (Kd.R_new' (Kd.R_new' (Kd.R_new' ho1 (Kd.R_lt (ro HO_4))) (Kd.R_lt (ro HO_659002))) (Kd.R_lt (ro HO_666002))) (below_size bl)); replace HO_4 := am (Kd.R_mono (Kd.R_told (Kd.R_told (Kd.R_old (ro HO_4) hb) (Kd.R_base ho0)) (Kd.R_base ho1)) (fun _ h_ => h_.1)); replace HO_659002 := am (Kd.R_mono (Kd.R_told (Kd.R_told (Kd.R_old (ro HO_659002) hb) (Kd.R_base ho0)) (Kd.R_base ho1)) (fun _ h_ => h_.1)); replace HO_666002 := am (Kd.R_mono (Kd.R_told (Kd.R_told (Kd.R_old (ro HO_666002) hb) (Kd.R_base ho0)) (Kd.R_base ho1)) (fun _ h_ => h_.1)); replace BK658 := kb BK658 hb; replace BK665 := kb BK665 hb; replace HB := am (below_step bl hb); clear hb ho0 ho1) | ((with_reducible refine gx 6 rfl rfl ?_); refine bx 6 #[.int .i64 0, .string (⟨#[]⟩ : ByteArray), .slice none 0 0, .string (⟨#[]⟩ : ByteArray)] 26 ?_; intro gb682 hg w31 hbox hb; replace HO_4 := am (Kd.R_below (ro HO_4) hb); replace HO_659002 := am (Kd.R_below (ro HO_659002) hb); replace HO_666002 := am (Kd.R_below (ro HO_666002) hb); replace HO677 := am (Kd.R_below (ro HO677) hb); replace HO681 := am (Kd.R_below (ro HO681) hb); have BK682 := am (hbox); have GW682 := am (sz hg : w.heap.size ≤ gb682); have GE682 := am (sz hg : w.heap.size ≤ gb682); replace HB := am (below_step bl hb); have NB658_682 := am (nl hg BK658 : gb658 ≠ gb682); have NB682_658 := am (ng hg BK658 : gb682 ≠ gb658); replace BK658 := kb BK658 hb; have NB665_682 := am (nl hg BK665 : gb665 ≠ gb682); have NB682_665 := am (ng hg BK665 : gb682 ≠ gb665); replace BK665 := kb BK665 hb; clear hb hbox hg; have hnb32 := NB682_658.out; have hnc32 := NB658_682.out; have hnb33 := NB682_665.out; have hnc33 := NB665_682.out; obtain ⟨z34_0, y34_0, z34_1, y34_1, z34_2, y34_2, z34_3, y34_3⟩ := cl4 BK682; obtain ⟨Ao35, co35, eo35⟩ := Kd.R_slice HO677.out; subst eo35) | ((with_reducible refine gx 52 rfl rfl ?_); refine gl 52 Tryd.func10 #[.slice A0 l0.length c0] ?_; (with_reducible refine (spec_DrawShort.calls kj5 _ _ l0 t683 t684 t687 _ ?side1 ?side2 A27.out).mono ?_); (case side1 => exact Kd.C_below HR0.out bl); (case side2 => exact HC0.out); rintro e w36 ⟨v685, rfl, ho0, hb⟩; refine ⟨_, rfl, ?_⟩; have HO686 := am (Kd.R_lower (Kd.R_new' (Kd.R_new' (Kd.R_new' (Kd.R_new' (Kd.R_new' ho0 (Kd.R_lt (rj (Kd.R_types HO_4.out BK682.out (by decide)) (fun _ h_ => h_.1)))) (Kd.R_lt (rj (Kd.R_types HO_659002.out BK682.out (by decide)) (fun _ h_ => h_.1)))) (Kd.R_lt (rj (Kd.R_types HO_666002.out BK682.out (by decide)) (fun _ h_ => h_.1)))) (Kd.R_lt (rj (Kd.R_types HO677.out BK682.out (by decide)) (fun _ h_ => h_.1)))) (Kd.R_lt (rj (Kd.R_types HO681.out BK682.out (by decide)) (fun _ h_ => h_.1)))) (below_size bl)); replace HO_4 := am (Kd.R_elder' (rj (Kd.R_types HO_4.out BK682.out (by decide)) (fun _ h_ => h_.1)) (Kd.R_base ho0) hb); replace HO_659002 := am (Kd.R_elder' (rj (Kd.R_types HO_659002.out BK682.out (by decide)) (fun _ h_ => h_.1)) (Kd.R_base ho0) hb); replace HO_666002 := am (Kd.R_elder' (rj (Kd.R_types HO_666002.out BK682.out (by decide)) (fun _ h_ => h_.1)) (Kd.R_base ho0) hb); replace HO677 := am (Kd.R_elder' (rj (Kd.R_types HO677.out BK682.out (by decide)) (fun _ h_ => h_.1)) (Kd.R_base ho0) hb); replace HO681 := am (Kd.R_elder' (rj (Kd.R_types HO681.out BK682.out (by decide)) (fun _ h_ => h_.1)) (Kd.R_base ho0) hb); replace BK658 := kg1 BK658 NB658_682 hb; replace BK665 := kg1 BK665 NB665_682 hb; replace BK682 := am (blk_below (g := gb682) (o := .cells #[.int .i64 t673, .string t674, .slice Ao35 t675.length co35, .string t678] 26 (0, 0)) (pt0 BK682) hb); replace HB := am (below_step bl hb); clear hb ho0) | ((with_reducible refine gx 8 rfl rfl ?_); refine bx 8 #[.int .i64 0, .slice none 0 0, .string (⟨#[]⟩ : ByteArray)] 32 ?_; intro gb688 hg w37 hbox hb; replace HO_4 := am (Kd.R_below (ro HO_4) hb); replace HO_659002 := am (Kd.R_below (ro HO_659002) hb); replace HO_666002 := am (Kd.R_below (ro HO_666002) hb); replace HO677 := am (Kd.R_below (ro HO677) hb); replace HO681 := am (Kd.R_below (ro HO681) hb); replace HO686 := am (Kd.R_below (ro HO686) hb); have BK688 := am (hbox); have GW688 := am (sz hg : w.heap.size ≤ gb688); have GE688 := am (sz hg : w.heap.size ≤ gb688); replace HB := am (below_step bl hb); have NB658_688 := am (nl hg BK658 : gb658 ≠ gb688); have NB688_658 := am (ng hg BK658 : gb688 ≠ gb658); replace BK658 := kb BK658 hb; have NB665_688 := am (nl hg BK665 : gb665 ≠ gb688); have NB688_665 := am (ng hg BK665 : gb688 ≠ gb665); replace BK665 := kb BK665 hb; have NB682_688 := am (nl hg BK682 : gb682 ≠ gb688); have NB688_682 := am (ng hg BK682 : gb688 ≠ gb682); replace BK682 := kb BK682 hb; clear hb hbox hg; have hnb38 := NB688_658.out; have hnc38 := NB658_688.out; have hnb39 := NB688_665.out; have hnc39 := NB665_688.out; have hnb40 := NB688_682.out; have hnc40 := NB682_688.out; obtain ⟨z41_0, y41_0, z41_1, y41_1, z41_2, y41_2⟩ := cl3 BK688; obtain ⟨Ao42, co42, eo42⟩ := Kd.R_slice HO686.out; subst eo42) | ((with_reducible refine gx 54 rfl rfl ?_); refine gl 54 Tryd.func11 #[.agg #[.int .i64 t683, .slice Ao42 t684.length co42, .string t687]] ?_; (with_reducible refine (impl_Short.calls kj5 t683 _ _ t684 t687 t689 t690 t693 _ ?side1 ?side2 A28.out).mono ?_); (case side1 => refine (Kd.R_reads' (e := 46) (base := w.heap.size) (ok := fun k_ => (((((True ∧ some k_ ≠ (.slice Ao11 t655.length co11 : Value).ownBlock) ∧ some k_ ≠ (.slice Ao10 t651.length co10 : Value).ownBlock) ∧ some k_ ≠ (.slice Ao16 t661.length co16 : Value).ownBlock) ∧ some k_ ≠ (.slice Ao35 t675.length co35 : Value).ownBlock) ∧ some k_ ≠ (v680 : Value).ownBlock)) (n := t684.length) (c := co42) ?_).2.2; exact (rj (Kd.R_types HO686.out BK688.out (by decide)) (fun _ h_ => h_.1))); (case side2 => exact (Kd.R_reads' HO686.out).2.1); rintro e w43 ⟨v691, rfl, ho0, hb⟩; refine ⟨_, rfl, ?_⟩; have HO692 := am (Kd.R_lower (Kd.R_new' (Kd.R_new' (Kd.R_new' (Kd.R_new' (Kd.R_new' (Kd.R_new' ho0 (Kd.R_lt (rj (Kd.R_types HO_4.out BK688.out (by decide)) (fun _ h_ => h_.1)))) (Kd.R_lt (rj (Kd.R_types HO_659002.out BK688.out (by decide)) (fun _ h_ => h_.1)))) (Kd.R_lt (rj (Kd.R_types HO_666002.out BK688.out (by decide)) (fun _ h_ => h_.1)))) (Kd.R_lt (rj (Kd.R_types HO677.out BK688.out (by decide)) (fun _ h_ => h_.1)))) (Kd.R_lt (rj (Kd.R_types HO681.out BK688.out (by decide)) (fun _ h_ => h_.1)))) (Kd.R_lt (rj (Kd.R_types HO686.out BK688.out (by decide)) (fun _ h_ => h_.1)))) (below_size bl)); replace HO_4 := am (Kd.R_elder' (rj (Kd.R_types HO_4.out BK688.out (by decide)) (fun _ h_ => h_.1)) (Kd.R_base ho0) hb); replace HO_659002 := am (Kd.R_elder' (rj (Kd.R_types HO_659002.out BK688.out (by decide)) (fun _ h_ => h_.1)) (Kd.R_base ho0) hb); replace HO_666002 := am (Kd.R_elder' (rj (Kd.R_types HO_666002.out BK688.out (by decide)) (fun _ h_ => h_.1)) (Kd.R_base ho0) hb); replace HO677 := am (Kd.R_elder' (rj (Kd.R_types HO677.out BK688.out (by decide)) (fun _ h_ => h_.1)) (Kd.R_base ho0) hb); replace HO681 := am (Kd.R_elder' (rj (Kd.R_types HO681.out BK688.out (by decide)) (fun _ h_ => h_.1)) (Kd.R_base ho0) hb); replace HO686 := am (Kd.R_elder' (rj (Kd.R_types HO686.out BK688.out (by decide)) (fun _ h_ => h_.1)) (Kd.R_base ho0) hb); replace BK658 := kg1 BK658 NB658_688 hb; replace BK665 := kg1 BK665 NB665_688 hb; replace BK682 := kg1 BK682 NB682_688 hb; replace BK688 := am (blk_below (g := gb688) (o := .cells #[.int .i64 t683, .slice Ao42 t684.length co42, .string t687] 32 (0, 0)) (pt0 BK688) hb); replace HB := am (below_step bl hb); clear hb ho0) | ((with_reducible refine gx 9 rfl rfl ?_); refine bx 9 #[.int .i64 0, .slice none 0 0, .string (⟨#[]⟩ : ByteArray)] 32 ?_; intro gb694 hg w44 hbox hb; replace HO_4 := am (Kd.R_below (ro HO_4) hb); replace HO_659002 := am (Kd.R_below (ro HO_659002) hb); replace HO_666002 := am (Kd.R_below (ro HO_666002) hb); replace HO677 := am (Kd.R_below (ro HO677) hb); replace HO681 := am (Kd.R_below (ro HO681) hb); replace HO686 := am (Kd.R_below (ro HO686) hb); replace HO692 := am (Kd.R_below (ro HO692) hb); have BK694 := am (hbox); have GW694 := am (sz hg : w.heap.size ≤ gb694); have GE694 := am (sz hg : w.heap.size ≤ gb694); replace HB := am (below_step bl hb); have NB658_694 := am (nl hg BK658 : gb658 ≠ gb694); have NB694_658 := am (ng hg BK658 : gb694 ≠ gb658); replace BK658 := kb BK658 hb; have NB665_694 := am (nl hg BK665 : gb665 ≠ gb694); have NB694_665 := am (ng hg BK665 : gb694 ≠ gb665); replace BK665 := kb BK665 hb; have NB682_694 := am (nl hg BK682 : gb682 ≠ gb694); have NB694_682 := am (ng hg BK682 : gb694 ≠ gb682); replace BK682 := kb BK682 hb; have NB688_694 := am (nl hg BK688 : gb688 ≠ gb694); have NB694_688 := am (ng hg BK688 : gb694 ≠ gb688); replace BK688 := kb BK688 hb; clear hb hbox hg; have hnb45 := NB694_658.out; have hnc45 := NB658_694.out; have hnb46 := NB694_665.out; have hnc46 := NB665_694.out; have hnb47 := NB694_682.out; have hnc47 := NB682_694.out; have hnb48 := NB694_688.out; have hnc48 := NB688_694.out; obtain ⟨z49_0, y49_0, z49_1, y49_1, z49_2, y49_2⟩ := cl3 BK694; obtain ⟨Ao50, co50, eo50⟩ := Kd.R_slice HO692.out; subst eo50))
   (try simp only [Act.put, List.setIfInBounds_toArray, List.set_cons_zero, List.set_cons_succ])
   go_cut [80] (fun v80 wc => ∃ (kq : Nat) (x80_28 : Bool), v80 = .bool x80_28 ∧ Aside0 (laws_FnAskedAgain.j1 kq t655 x80_28 t649 t650 t651 t654 t659 t660 t661 t664 = some r) ∧ Aside0 (kq ≤ kj5) ∧ Aside0 (Kd.R k46 46 wc w.heap.size (fun k_ => some k_ ≠ ((.slice Ao10 t651.length co10) : Value).ownBlock ∧ some k_ ≠ ((.slice Ao16 t661.length co16) : Value).ownBlock ∧ some k_ ≠ ((.slice Ao35 t675.length co35) : Value).ownBlock ∧ some k_ ≠ ((.slice Ao42 t684.length co42) : Value).ownBlock ∧ some k_ ≠ ((.slice Ao50 t690.length co50) : Value).ownBlock) (.slice Ao11 t655.length co11) t655) ∧ Aside0 (Kd.R k46 46 wc w.heap.size (fun k_ => some k_ ≠ ((.slice Ao11 t655.length co11) : Value).ownBlock ∧ some k_ ≠ ((.slice Ao16 t661.length co16) : Value).ownBlock ∧ some k_ ≠ ((.slice Ao35 t675.length co35) : Value).ownBlock ∧ some k_ ≠ ((.slice Ao42 t684.length co42) : Value).ownBlock ∧ some k_ ≠ ((.slice Ao50 t690.length co50) : Value).ownBlock) (.slice Ao10 t651.length co10) t651) ∧ Aside0 (Kd.R k46 46 wc w.heap.size (fun k_ => some k_ ≠ ((.slice Ao11 t655.length co11) : Value).ownBlock ∧ some k_ ≠ ((.slice Ao10 t651.length co10) : Value).ownBlock ∧ some k_ ≠ ((.slice Ao35 t675.length co35) : Value).ownBlock ∧ some k_ ≠ ((.slice Ao42 t684.length co42) : Value).ownBlock ∧ some k_ ≠ ((.slice Ao50 t690.length co50) : Value).ownBlock) (.slice Ao16 t661.length co16) t661) ∧ Aside0 (Kd.R k46 46 wc w.heap.size (fun k_ => some k_ ≠ ((.slice Ao11 t655.length co11) : Value).ownBlock ∧ some k_ ≠ ((.slice Ao10 t651.length co10) : Value).ownBlock ∧ some k_ ≠ ((.slice Ao16 t661.length co16) : Value).ownBlock ∧ some k_ ≠ ((.slice Ao42 t684.length co42) : Value).ownBlock ∧ some k_ ≠ ((.slice Ao50 t690.length co50) : Value).ownBlock) (.slice Ao35 t675.length co35) t675) ∧ Aside0 (Kd.R k46 46 wc w.heap.size (fun k_ => some k_ ≠ ((.slice Ao11 t655.length co11) : Value).ownBlock ∧ some k_ ≠ ((.slice Ao10 t651.length co10) : Value).ownBlock ∧ some k_ ≠ ((.slice Ao16 t661.length co16) : Value).ownBlock ∧ some k_ ≠ ((.slice Ao35 t675.length co35) : Value).ownBlock ∧ some k_ ≠ ((.slice Ao50 t690.length co50) : Value).ownBlock) (.slice Ao42 t684.length co42) t684) ∧ Aside0 (Kd.R k46 46 wc w.heap.size (fun k_ => some k_ ≠ ((.slice Ao11 t655.length co11) : Value).ownBlock ∧ some k_ ≠ ((.slice Ao10 t651.length co10) : Value).ownBlock ∧ some k_ ≠ ((.slice Ao16 t661.length co16) : Value).ownBlock ∧ some k_ ≠ ((.slice Ao35 t675.length co35) : Value).ownBlock ∧ some k_ ≠ ((.slice Ao42 t684.length co42) : Value).ownBlock) (.slice Ao50 t690.length co50) t690) ∧ Aside0 (wc.heap[gb658]? = some (.cells #[.int .i64 t649, .string t650, (.slice Ao10 t651.length co10), .string t654] 26 (0, 0))) ∧ Aside0 (wc.heap[gb665]? = some (.cells #[.int .i64 t659, .string t660, (.slice Ao16 t661.length co16), .string t664] 26 (0, 0))) ∧ Aside0 (wc.heap[gb682]? = some (.cells #[.int .i64 t673, .string t674, (.slice Ao35 t675.length co35), .string t678] 26 (0, 0))) ∧ Aside0 (wc.heap[gb688]? = some (.cells #[.int .i64 t683, (.slice Ao42 t684.length co42), .string t687] 32 (0, 0))) ∧ Aside0 (wc.heap[gb694]? = some (.cells #[.int .i64 t689, (.slice Ao50 t690.length co50), .string t693] 32 (0, 0))) ∧ Aside0 (Below w.heap.size w wc))
   case first =>
    have H := HC29.out
    clear HC29
    revert H
    refine ok1 fun t695 A51 H => ?_
    revert H
    refine ok1 fun t696 A52 H => ?_
    by_cases c53 : (t695 != t696) = true
    ·rw [if_pos c53] at H
     have c53b0 : (t695 != t696) = true := c53
     (try (have c53b1 : decide (t695 = t696) = false := by simpa using c53))
     (try (have c53b2 : (t695 == t696) = false := by simpa using c53))
     (try (have c53b3 : ¬ (t695 = t696) := by simpa using c53))
     clear c53
     (first | rw [c53b0] | (simp only [i64_w, i32_w]; rw [c53b0]) | skip)
     cases kj5 with
     | zero => exact absurd H (by simp [laws_FnAskedAgain.j1])
     | succ k_ => simp only [laws_FnAskedAgain.j1, if_true] at H; exact absurd (Option.some.inj H) (by rw [ht_]; decide)
    rw [if_neg c53] at H
    have c53b0 : (t695 != t696) = false := by simpa using c53
    (try (have c53b1 : decide (t695 = t696) = true := by simpa using c53))
    (try (have c53b2 : (t695 == t696) = true := by simpa using c53))
    clear c53
    (first | rw [c53b0] | (simp only [i64_w, i32_w]; rw [c53b0]) | skip)
    revert H
    refine ok3 fun t697 t698 t701 A54 H => ?_
    (try dsimp only at H)
    revert H
    refine ok1 fun t702 A55 H => ?_
    by_cases c56 : t702 = true
    rotate_left
    ·replace c56 := Bool.eq_false_iff.mpr c56
     subst c56
     rw [if_neg (show ¬ (false = true) by decide)] at H
     cases kj5 with
     | zero => exact absurd H (by simp [laws_FnAskedAgain.j1])
     | succ k_ => simp only [laws_FnAskedAgain.j1, if_true] at H; exact absurd (Option.some.inj H) (by rw [ht_]; decide)
    subst c56
    rw [if_pos rfl] at H
    by_cases c57 : t693.toList = ([] : List UInt8)
    rotate_left
    ·rw [if_neg c57] at H
     have c57b0 : (t693.toList == ([] : List UInt8)) = false := beq_eq_false_iff_ne.mpr c57
     have c57b1 : (t693.toList != ([] : List UInt8)) = true := bne_iff_ne.mpr c57
     cases kj5 with
     | zero => exact absurd H (by simp [laws_FnAskedAgain.j1])
     | succ k_ => simp only [laws_FnAskedAgain.j1, if_true] at H; exact absurd (Option.some.inj H) (by rw [ht_]; decide)
    rw [if_pos c57] at H
    have c57b0 : (t693.toList == ([] : List UInt8)) = true := beq_iff_eq.mpr c57
    have c57b1 : (t693.toList != ([] : List UInt8)) = false := bne_eq_false_iff_eq.mpr c57
    clear c57
    have H' := am H
    clear H
    try go_wp2
    have n0_ : Aside0 (Kd.R k46 46 (((w44.setCell ⟨gb694, 0, none⟩ (.int .i64 t689)).setCell ⟨gb694, 1, none⟩ (.slice Ao50 t690.length co50)).setCell ⟨gb694, 2, none⟩ (.string t693)) w.heap.size (fun k_ => some k_ ≠ (.slice Ao10 t651.length co10 : Value).ownBlock ∧ some k_ ≠ (.slice Ao16 t661.length co16 : Value).ownBlock ∧ some k_ ≠ (.slice Ao35 t675.length co35 : Value).ownBlock ∧ some k_ ≠ (v680 : Value).ownBlock ∧ some k_ ≠ (.slice Ao42 t684.length co42 : Value).ownBlock ∧ some k_ ≠ (.slice Ao50 t690.length co50 : Value).ownBlock) (.slice Ao11 t655.length co11) t655) := ⟨rj (Kd.R_types HO_4.out BK694.out (by decide)) (fun _ hk => ⟨hk.1.1.1.1.1.1, ⟨hk.1.1.1.1.1.2, ⟨hk.1.1.1.1.2, ⟨hk.1.1.1.2, ⟨hk.1.1.2, hk.1.2⟩⟩⟩⟩⟩)⟩
    have n1_ : Aside0 (Kd.R k46 46 (((w44.setCell ⟨gb694, 0, none⟩ (.int .i64 t689)).setCell ⟨gb694, 1, none⟩ (.slice Ao50 t690.length co50)).setCell ⟨gb694, 2, none⟩ (.string t693)) w.heap.size (fun k_ => some k_ ≠ (.slice Ao11 t655.length co11 : Value).ownBlock ∧ some k_ ≠ (.slice Ao16 t661.length co16 : Value).ownBlock ∧ some k_ ≠ (.slice Ao35 t675.length co35 : Value).ownBlock ∧ some k_ ≠ (v680 : Value).ownBlock ∧ some k_ ≠ (.slice Ao42 t684.length co42 : Value).ownBlock ∧ some k_ ≠ (.slice Ao50 t690.length co50 : Value).ownBlock) (.slice Ao10 t651.length co10) t651) := ⟨rj (Kd.R_types HO_659002.out BK694.out (by decide)) (fun _ hk => ⟨hk.1.1.1.1.1.1, ⟨hk.1.1.1.1.1.2, ⟨hk.1.1.1.1.2, ⟨hk.1.1.1.2, ⟨hk.1.1.2, hk.1.2⟩⟩⟩⟩⟩)⟩
    have n2_ : Aside0 (Kd.R k46 46 (((w44.setCell ⟨gb694, 0, none⟩ (.int .i64 t689)).setCell ⟨gb694, 1, none⟩ (.slice Ao50 t690.length co50)).setCell ⟨gb694, 2, none⟩ (.string t693)) w.heap.size (fun k_ => some k_ ≠ (.slice Ao11 t655.length co11 : Value).ownBlock ∧ some k_ ≠ (.slice Ao10 t651.length co10 : Value).ownBlock ∧ some k_ ≠ (.slice Ao35 t675.length co35 : Value).ownBlock ∧ some k_ ≠ (v680 : Value).ownBlock ∧ some k_ ≠ (.slice Ao42 t684.length co42 : Value).ownBlock ∧ some k_ ≠ (.slice Ao50 t690.length co50 : Value).ownBlock) (.slice Ao16 t661.length co16) t661) := ⟨rj (Kd.R_types HO_666002.out BK694.out (by decide)) (fun _ hk => ⟨hk.1.1.1.1.1.1, ⟨hk.1.1.1.1.1.2, ⟨hk.1.1.1.1.2, ⟨hk.1.1.1.2, ⟨hk.1.1.2, hk.1.2⟩⟩⟩⟩⟩)⟩
    have n3_ : Aside0 (Kd.R k46 46 (((w44.setCell ⟨gb694, 0, none⟩ (.int .i64 t689)).setCell ⟨gb694, 1, none⟩ (.slice Ao50 t690.length co50)).setCell ⟨gb694, 2, none⟩ (.string t693)) w.heap.size (fun k_ => some k_ ≠ (.slice Ao11 t655.length co11 : Value).ownBlock ∧ some k_ ≠ (.slice Ao10 t651.length co10 : Value).ownBlock ∧ some k_ ≠ (.slice Ao16 t661.length co16 : Value).ownBlock ∧ some k_ ≠ (v680 : Value).ownBlock ∧ some k_ ≠ (.slice Ao42 t684.length co42 : Value).ownBlock ∧ some k_ ≠ (.slice Ao50 t690.length co50 : Value).ownBlock) (.slice Ao35 t675.length co35) t675) := ⟨rj (Kd.R_types HO677.out BK694.out (by decide)) (fun _ hk => ⟨hk.1.1.1.1.1.2, ⟨hk.1.1.1.1.2, ⟨hk.1.1.1.2, ⟨hk.1.1.1.1.1.1, ⟨hk.1.1.2, hk.1.2⟩⟩⟩⟩⟩)⟩
    have n4_ : Aside0 (Kd.R k46 46 (((w44.setCell ⟨gb694, 0, none⟩ (.int .i64 t689)).setCell ⟨gb694, 1, none⟩ (.slice Ao50 t690.length co50)).setCell ⟨gb694, 2, none⟩ (.string t693)) w.heap.size (fun k_ => some k_ ≠ (.slice Ao11 t655.length co11 : Value).ownBlock ∧ some k_ ≠ (.slice Ao10 t651.length co10 : Value).ownBlock ∧ some k_ ≠ (.slice Ao16 t661.length co16 : Value).ownBlock ∧ some k_ ≠ (.slice Ao35 t675.length co35 : Value).ownBlock ∧ some k_ ≠ (.slice Ao42 t684.length co42 : Value).ownBlock ∧ some k_ ≠ (.slice Ao50 t690.length co50 : Value).ownBlock) v680 t679) := ⟨rj (Kd.R_types HO681.out BK694.out (by decide)) (fun _ hk => ⟨hk.1.1.1.1.1.2, ⟨hk.1.1.1.1.2, ⟨hk.1.1.1.2, ⟨hk.1.1.1.1.1.1, ⟨hk.1.1.2, hk.1.2⟩⟩⟩⟩⟩)⟩
    have n5_ : Aside0 (Kd.R k46 46 (((w44.setCell ⟨gb694, 0, none⟩ (.int .i64 t689)).setCell ⟨gb694, 1, none⟩ (.slice Ao50 t690.length co50)).setCell ⟨gb694, 2, none⟩ (.string t693)) w.heap.size (fun k_ => some k_ ≠ (.slice Ao11 t655.length co11 : Value).ownBlock ∧ some k_ ≠ (.slice Ao10 t651.length co10 : Value).ownBlock ∧ some k_ ≠ (.slice Ao16 t661.length co16 : Value).ownBlock ∧ some k_ ≠ (.slice Ao35 t675.length co35 : Value).ownBlock ∧ some k_ ≠ (v680 : Value).ownBlock ∧ some k_ ≠ (.slice Ao50 t690.length co50 : Value).ownBlock) (.slice Ao42 t684.length co42) t684) := ⟨rj (Kd.R_types HO686.out BK694.out (by decide)) (fun _ hk => ⟨hk.1.1.1.1.1.1.2, ⟨hk.1.1.1.1.1.2, ⟨hk.1.1.1.1.2, ⟨hk.1.1.1.2, ⟨hk.1.1.2, hk.1.2⟩⟩⟩⟩⟩)⟩
    have n6_ : Aside0 (Kd.R k46 46 (((w44.setCell ⟨gb694, 0, none⟩ (.int .i64 t689)).setCell ⟨gb694, 1, none⟩ (.slice Ao50 t690.length co50)).setCell ⟨gb694, 2, none⟩ (.string t693)) w.heap.size (fun k_ => some k_ ≠ (.slice Ao11 t655.length co11 : Value).ownBlock ∧ some k_ ≠ (.slice Ao10 t651.length co10 : Value).ownBlock ∧ some k_ ≠ (.slice Ao16 t661.length co16 : Value).ownBlock ∧ some k_ ≠ (.slice Ao35 t675.length co35 : Value).ownBlock ∧ some k_ ≠ (v680 : Value).ownBlock ∧ some k_ ≠ (.slice Ao42 t684.length co42 : Value).ownBlock) (.slice Ao50 t690.length co50) t690) := ⟨rj (Kd.R_types HO692.out BK694.out (by decide)) (fun _ hk => ⟨hk.1.1.1.1.1.1.2, ⟨hk.1.1.1.1.1.2, ⟨hk.1.1.1.1.2, ⟨hk.1.1.1.2, ⟨hk.1.1.2, hk.1.2⟩⟩⟩⟩⟩)⟩
    have n7_ : Aside0 ((((w44.setCell ⟨gb694, 0, none⟩ (.int .i64 t689)).setCell ⟨gb694, 1, none⟩ (.slice Ao50 t690.length co50)).setCell ⟨gb694, 2, none⟩ (.string t693)).heap[gb658]? = some (.cells #[.int .i64 t649, .string t650, .slice Ao10 t651.length co10, .string t654] 26 (0, 0))) := ⟨by (with_reducible repeat (first | refine blk_drewN ?_ _ | refine blk_drew ?_ | refine blk_alloc ?_ _)); refine blk_far ?_ NB658_694.out _; (with_reducible repeat (first | refine blk_drewN ?_ _ | refine blk_drew ?_ | refine blk_alloc ?_ _)); refine blk_far ?_ NB658_694.out _; (with_reducible repeat (first | refine blk_drewN ?_ _ | refine blk_drew ?_ | refine blk_alloc ?_ _)); refine blk_far ?_ NB658_694.out _; (with_reducible repeat (first | refine blk_drewN ?_ _ | refine blk_drew ?_ | refine blk_alloc ?_ _)); exact BK658.out⟩
    have n8_ : Aside0 ((((w44.setCell ⟨gb694, 0, none⟩ (.int .i64 t689)).setCell ⟨gb694, 1, none⟩ (.slice Ao50 t690.length co50)).setCell ⟨gb694, 2, none⟩ (.string t693)).heap[gb665]? = some (.cells #[.int .i64 t659, .string t660, .slice Ao16 t661.length co16, .string t664] 26 (0, 0))) := ⟨by (with_reducible repeat (first | refine blk_drewN ?_ _ | refine blk_drew ?_ | refine blk_alloc ?_ _)); refine blk_far ?_ NB665_694.out _; (with_reducible repeat (first | refine blk_drewN ?_ _ | refine blk_drew ?_ | refine blk_alloc ?_ _)); refine blk_far ?_ NB665_694.out _; (with_reducible repeat (first | refine blk_drewN ?_ _ | refine blk_drew ?_ | refine blk_alloc ?_ _)); refine blk_far ?_ NB665_694.out _; (with_reducible repeat (first | refine blk_drewN ?_ _ | refine blk_drew ?_ | refine blk_alloc ?_ _)); exact BK665.out⟩
    have n9_ : Aside0 ((((w44.setCell ⟨gb694, 0, none⟩ (.int .i64 t689)).setCell ⟨gb694, 1, none⟩ (.slice Ao50 t690.length co50)).setCell ⟨gb694, 2, none⟩ (.string t693)).heap[gb682]? = some (.cells #[.int .i64 t673, .string t674, .slice Ao35 t675.length co35, .string t678] 26 (0, 0))) := ⟨by (with_reducible repeat (first | refine blk_drewN ?_ _ | refine blk_drew ?_ | refine blk_alloc ?_ _)); refine blk_far ?_ NB682_694.out _; (with_reducible repeat (first | refine blk_drewN ?_ _ | refine blk_drew ?_ | refine blk_alloc ?_ _)); refine blk_far ?_ NB682_694.out _; (with_reducible repeat (first | refine blk_drewN ?_ _ | refine blk_drew ?_ | refine blk_alloc ?_ _)); refine blk_far ?_ NB682_694.out _; (with_reducible repeat (first | refine blk_drewN ?_ _ | refine blk_drew ?_ | refine blk_alloc ?_ _)); exact BK682.out⟩
    have n10_ : Aside0 ((((w44.setCell ⟨gb694, 0, none⟩ (.int .i64 t689)).setCell ⟨gb694, 1, none⟩ (.slice Ao50 t690.length co50)).setCell ⟨gb694, 2, none⟩ (.string t693)).heap[gb688]? = some (.cells #[.int .i64 t683, .slice Ao42 t684.length co42, .string t687] 32 (0, 0))) := ⟨by (with_reducible repeat (first | refine blk_drewN ?_ _ | refine blk_drew ?_ | refine blk_alloc ?_ _)); refine blk_far ?_ NB688_694.out _; (with_reducible repeat (first | refine blk_drewN ?_ _ | refine blk_drew ?_ | refine blk_alloc ?_ _)); refine blk_far ?_ NB688_694.out _; (with_reducible repeat (first | refine blk_drewN ?_ _ | refine blk_drew ?_ | refine blk_alloc ?_ _)); refine blk_far ?_ NB688_694.out _; (with_reducible repeat (first | refine blk_drewN ?_ _ | refine blk_drew ?_ | refine blk_alloc ?_ _)); exact BK688.out⟩
    have n11_ : Aside0 ((((w44.setCell ⟨gb694, 0, none⟩ (.int .i64 t689)).setCell ⟨gb694, 1, none⟩ (.slice Ao50 t690.length co50)).setCell ⟨gb694, 2, none⟩ (.string t693)).heap[gb694]? = some (.cells #[.int .i64 t689, .slice Ao50 t690.length co50, .string t693] 32 (0, 0))) := ⟨pt0 BK694⟩
    have n12_ : Aside0 (Below w.heap.size w (((w44.setCell ⟨gb694, 0, none⟩ (.int .i64 t689)).setCell ⟨gb694, 1, none⟩ (.slice Ao50 t690.length co50)).setCell ⟨gb694, 2, none⟩ (.string t693))) := ⟨u3HB⟩
    (try clear HO_4)
    (try clear HO_659002)
    (try clear HO_666002)
    (try clear HO677)
    (try clear HO681)
    (try clear HO686)
    (try clear HO692)
    (try clear BK658)
    (try clear BK665)
    (try clear BK682)
    (try clear BK688)
    (try clear BK694)
    (try clear HB)
    generalize (((w44.setCell ⟨gb694, 0, none⟩ (.int .i64 t689)).setCell ⟨gb694, 1, none⟩ (.slice Ao50 t690.length co50)).setCell ⟨gb694, 2, none⟩ (.string t693)) = w58 at n0_ n1_ n2_ n3_ n4_ n5_ n6_ n7_ n8_ n9_ n10_ n11_ n12_ ⊢
    have HO_4 := n0_
    have HO_659002 := n1_
    have HO_666002 := n2_
    have HO677 := n3_
    have HO681 := n4_
    have HO686 := n5_
    have HO692 := n6_
    have BK658 := n7_
    have BK665 := n8_
    have BK682 := n9_
    have BK688 := n10_
    have BK694 := n11_
    have HB := n12_
    clear n0_ n1_ n2_ n3_ n4_ n5_ n6_ n7_ n8_ n9_ n10_ n11_ n12_
    replace HO_4 := am (Kd.R_drew HO_4.out)
    replace HO_659002 := am (Kd.R_drew HO_659002.out)
    replace HO_666002 := am (Kd.R_drew HO_666002.out)
    replace HO677 := am (Kd.R_drew HO677.out)
    replace HO681 := am (Kd.R_drew HO681.out)
    replace HO686 := am (Kd.R_drew HO686.out)
    replace HO692 := am (Kd.R_drew HO692.out)
    replace BK658 := am (blk_drew BK658.out)
    replace BK665 := am (blk_drew BK665.out)
    replace BK682 := am (blk_drew BK682.out)
    replace BK688 := am (blk_drew BK688.out)
    replace BK694 := am (blk_drew BK694.out)
    replace HB := am (below_drew1 HB.out)
    obtain ⟨Ao60, co60, eo60⟩ := Kd.R_slice HO681.out
    (first | subst eo60 | (injection eo60 with f1_ f2_ f3_; have f4_ := f1_.symm; have f5_ := f3_.symm; clear f1_ f2_ f3_; subst f4_; subst f5_))
    refine start_ (n := 26) (S := fun w' => w'.cell? ⟨gb682, 0, none⟩ = some (.int .i64 t673) ∧ w'.cell? ⟨gb682, 1, none⟩ = some (.string t674) ∧ w'.cell? ⟨gb682, 2, none⟩ = some (.slice Ao35 t675.length co35) ∧ w'.cell? ⟨gb682, 3, none⟩ = some (.string t678) ∧ w'.cell? ⟨gb694, 0, none⟩ = some (.int .i64 t689) ∧ w'.cell? ⟨gb694, 1, none⟩ = some (.slice Ao50 t690.length co50) ∧ w'.cell? ⟨gb694, 2, none⟩ = some (.string t693) ∧ w'.cell? ⟨gb688, 0, none⟩ = some (.int .i64 t683) ∧ w'.cell? ⟨gb688, 1, none⟩ = some (.slice Ao42 t684.length co42) ∧ w'.cell? ⟨gb688, 2, none⟩ = some (.string t687)) (ds := []) ⟨br true [0, 26]⟩ (by kernel_rfl) rfl (by kernel_rfl) ⟨bc BK682, bc BK682, bc BK682, bc BK682, bc BK694, bc BK694, bc BK694, bc BK688, bc BK688, bc BK688⟩ (fun hHeld => ?_); refine with_tabW laws_FnAskedAgain.tab10 laws_FnAskedAgain.bits10 (fun HT_ HW_ => ?_)
    generalize w58.drew = w59 at HO_4 HO_659002 HO_666002 HO677 HO681 HO686 HO692 BK658 BK665 BK682 BK688 BK694 HB hHeld ⊢
    refine pu 1 56 [0, 1, 1, 24] ?_
    refine pu 4 59 [0, 1, 1, 2, 1, 21] ?_
    refine tk 0 55 [2, 2, 1, 21] ?_
    refine tk 3 58 [2, 1, 2, 21] ?_
    refine og 2 57 [5, 21] Tryd.func12 #[.agg #[.int .i64 t673, .string t674, .slice Ao35 t675.length co35, .string t678], .slice Ao60 t679.length co60] (fun K hK => ?_)
    with_reducible refine (impl_Same.calls t673 t674 _ _ t675 t678 _ _ t679 t695 _ ?side1 ?side2 ?side3 ?side4 A51.out).mono ?_
    (case side1 => exact rc HO677)
    (case side2 => exact (Kd.R_reads' HO677.out).2.1)
    (case side3 => exact rc HO681)
    (case side4 => exact (Kd.R_reads' HO681.out).2.1)
    rintro e w61 ⟨rfl, hb⟩
    refine ⟨_, rfl, ?_⟩
    replace HO_4 := kr HO_4 hb
    replace HO_659002 := kr HO_659002 hb
    replace HO_666002 := kr HO_666002 hb
    replace HO677 := kr HO677 hb
    replace HO681 := kr HO681 hb
    replace HO686 := kr HO686 hb
    replace HO692 := kr HO692 hb
    replace BK658 := kb BK658 hb
    replace BK665 := kb BK665 hb
    replace BK682 := kb BK682 hb
    replace BK688 := kb BK688 hb
    replace BK694 := kb BK694 hb
    replace HB := am (below_step bl hb)
    clear hb
    refine hK.out _ _ ⟨bc BK682, bc BK682, bc BK682, bc BK682, bc BK694, bc BK694, bc BK694, bc BK688, bc BK688, bc BK688⟩ (fun hHeld => ?_)
    clear hK K
    refine nm 57 ?_
    refine og 5 60 [6, 20] Tryd.func13 #[.agg #[.int .i64 t673, .string t674, .slice Ao35 t675.length co35, .string t678], .slice Ao60 t679.length co60] (fun K hK => ?_)
    with_reducible refine (spec_Same.calls kj5 t673 t674 _ _ t675 t678 _ _ t679 t696 _ ?side1 ?side2 ?side3 ?side4 A52.out).mono ?_
    (case side1 => exact rc HO677)
    (case side2 => exact (Kd.R_reads' HO677.out).2.1)
    (case side3 => exact rc HO681)
    (case side4 => exact (Kd.R_reads' HO681.out).2.1)
    rintro e w62 ⟨rfl, hb⟩
    refine ⟨_, rfl, ?_⟩
    replace HO_4 := kr HO_4 hb
    replace HO_659002 := kr HO_659002 hb
    replace HO_666002 := kr HO_666002 hb
    replace HO677 := kr HO677 hb
    replace HO681 := kr HO681 hb
    replace HO686 := kr HO686 hb
    replace HO692 := kr HO692 hb
    replace BK658 := kb BK658 hb
    replace BK665 := kb BK665 hb
    replace BK682 := kb BK682 hb
    replace BK688 := kb BK688 hb
    replace BK694 := kb BK694 hb
    replace HB := am (below_step bl hb)
    clear hb
    refine hK.out _ _ ⟨bc BK682, bc BK682, bc BK682, bc BK682, bc BK694, bc BK694, bc BK694, bc BK688, bc BK688, bc BK688⟩ (fun hHeld => ?_)
    clear hK K
    refine nm 60 ?_
    refine pu 6 61 [7, 19] ?_
    refine pu 7 62 [8, 18] ?_
    refine pu 8 63 [9, 17] ?_
    refine tk 9 64 [10, 16] ?_
    refine tk 10 65 [11, 15] ?_
    refine og 11 66 [12, 14] Tryd.func14 #[.agg #[.int .i64 t683, .slice Ao42 t684.length co42, .string t687]] (fun K hK => ?_)
    with_reducible refine (spec_Short.calls kj5 t683 _ _ t684 t687 t697 t698 t701 _ ?side1 ?side2 A54.out).mono ?_
    (case side1 => exact rc HO686)
    (case side2 => exact (Kd.R_reads' HO686.out).2.1)
    rintro e w63 ⟨v699, rfl, ho0, hb⟩
    refine ⟨_, rfl, ?_⟩
    have HO700 := am (Kd.R_lower (Kd.R_new' (Kd.R_new' (Kd.R_new' (Kd.R_new' (Kd.R_new' (Kd.R_new' (Kd.R_new' ho0 (Kd.R_lt (ro HO_4))) (Kd.R_lt (ro HO_659002))) (Kd.R_lt (ro HO_666002))) (Kd.R_lt (ro HO677))) (Kd.R_lt (ro HO681))) (Kd.R_lt (ro HO686))) (Kd.R_lt (ro HO692))) (below_size bl))
    replace HO_4 := am (Kd.R_elder' (ro HO_4) (Kd.R_base ho0) hb)
    replace HO_659002 := am (Kd.R_elder' (ro HO_659002) (Kd.R_base ho0) hb)
    replace HO_666002 := am (Kd.R_elder' (ro HO_666002) (Kd.R_base ho0) hb)
    replace HO677 := am (Kd.R_elder' (ro HO677) (Kd.R_base ho0) hb)
    replace HO681 := am (Kd.R_elder' (ro HO681) (Kd.R_base ho0) hb)
    replace HO686 := am (Kd.R_elder' (ro HO686) (Kd.R_base ho0) hb)
    replace HO692 := am (Kd.R_elder' (ro HO692) (Kd.R_base ho0) hb)
    replace BK658 := kb BK658 hb
    replace BK665 := kb BK665 hb
    replace BK682 := kb BK682 hb
    replace BK688 := kb BK688 hb
    replace BK694 := kb BK694 hb
    replace HB := am (below_step bl hb)
    clear hb ho0
    obtain ⟨Ao64, co64, eo64⟩ := Kd.R_slice HO700.out
    (first | subst eo64 | (injection eo64 with f1_ f2_ f3_; have f4_ := f1_.symm; have f5_ := f3_.symm; clear f1_ f2_ f3_; subst f4_; subst f5_))
    refine hK.out _ _ ⟨bc BK682, bc BK682, bc BK682, bc BK682, bc BK694, bc BK694, bc BK694, bc BK688, bc BK688, bc BK688⟩ (fun hHeld => ?_)
    clear hK K
    refine nm 66 ?_
    refine pu 12 67 [13, 13] ?_
    refine og 13 68 [14, 12] Tryd.func7 #[.slice Ao50 t690.length co50, .slice Ao64 t698.length co64] (fun K hK => ?_)
    with_reducible refine (laws_sameFields.calls kj5 _ _ t690 _ _ t698 true _ ?side1 ?side2 ?side3 ?side4 A55.out).mono ?_
    (case side1 => exact rc HO692)
    (case side2 => exact (Kd.R_reads' HO692.out).2.1)
    (case side3 => exact rc HO700)
    (case side4 => exact (Kd.R_reads' HO700.out).2.1)
    rintro e w' ⟨rfl, ⟨nd, rfl⟩⟩
    refine ⟨_, rfl, ?_⟩
    refine hK.out _ _ ⟨bc BK682, bc BK682, bc BK682, bc BK682, bc BK694, bc BK694, bc BK694, bc BK688, bc BK688, bc BK688⟩ (fun hHeld => ?_)
    clear hK K
    refine nm 68 ?_
    refine pu 14 69 [15, 11] ?_
    refine pu 15 70 [16, 10] ?_
    refine pu 16 71 [17, 9] ?_
    refine pu 17 72 [18, 8] ?_
    refine tk 18 73 [19, 7] ?_
    refine pu 19 74 [20, 6] ?_
    refine pu 20 75 [21, 5] ?_
    refine pu 21 76 [22, 4] ?_
    refine pu 22 77 [23, 3] ?_
    refine tk 23 78 [24, 2] ?_
    refine pu 24 79 [25, 1] ?_
    refine pu 25 80 [26] ?_
    refine done_ (done_of HT_.out (by kernel_rfl)) ?_
    try go_wp2
    go_meet
    case rel => exact ⟨_, ((t689 != 304)), rs, H', ⟨by have := HJ5.out; first | omega | exact Nat.le_refl _⟩, ⟨by (with_reducible repeat (first | apply Kd.R_alloc | apply Kd.R_drewN | apply Kd.R_drew)); exact Kd.R_mono HO_4.out (fun _ hk => ⟨hk.1.1, ⟨hk.1.2.1, ⟨hk.1.2.2.1, ⟨hk.1.2.2.2.2.1, hk.1.2.2.2.2.2⟩⟩⟩⟩)⟩, ⟨by (with_reducible repeat (first | apply Kd.R_alloc | apply Kd.R_drewN | apply Kd.R_drew)); exact Kd.R_mono HO_659002.out (fun _ hk => ⟨hk.1.1, ⟨hk.1.2.1, ⟨hk.1.2.2.1, ⟨hk.1.2.2.2.2.1, hk.1.2.2.2.2.2⟩⟩⟩⟩)⟩, ⟨by (with_reducible repeat (first | apply Kd.R_alloc | apply Kd.R_drewN | apply Kd.R_drew)); exact Kd.R_mono HO_666002.out (fun _ hk => ⟨hk.1.1, ⟨hk.1.2.1, ⟨hk.1.2.2.1, ⟨hk.1.2.2.2.2.1, hk.1.2.2.2.2.2⟩⟩⟩⟩)⟩, ⟨by (with_reducible repeat (first | apply Kd.R_alloc | apply Kd.R_drewN | apply Kd.R_drew)); exact Kd.R_mono HO677.out (fun _ hk => ⟨hk.1.1, ⟨hk.1.2.1, ⟨hk.1.2.2.1, ⟨hk.1.2.2.2.2.1, hk.1.2.2.2.2.2⟩⟩⟩⟩)⟩, ⟨by (with_reducible repeat (first | apply Kd.R_alloc | apply Kd.R_drewN | apply Kd.R_drew)); exact Kd.R_mono HO686.out (fun _ hk => ⟨hk.1.1, ⟨hk.1.2.1, ⟨hk.1.2.2.1, ⟨hk.1.2.2.2.1, hk.1.2.2.2.2.2⟩⟩⟩⟩)⟩, ⟨by (with_reducible repeat (first | apply Kd.R_alloc | apply Kd.R_drewN | apply Kd.R_drew)); exact Kd.R_mono HO692.out (fun _ hk => ⟨hk.1.1, ⟨hk.1.2.1, ⟨hk.1.2.2.1, ⟨hk.1.2.2.2.1, hk.1.2.2.2.2.2⟩⟩⟩⟩)⟩, ⟨by (with_reducible repeat (first | refine blk_drewN ?_ _ | refine blk_drew ?_ | refine blk_alloc ?_ _)); exact BK658.out⟩, ⟨by (with_reducible repeat (first | refine blk_drewN ?_ _ | refine blk_drew ?_ | refine blk_alloc ?_ _)); exact BK665.out⟩, ⟨by (with_reducible repeat (first | refine blk_drewN ?_ _ | refine blk_drew ?_ | refine blk_alloc ?_ _)); exact BK682.out⟩, ⟨by (with_reducible repeat (first | refine blk_drewN ?_ _ | refine blk_drew ?_ | refine blk_alloc ?_ _)); exact BK688.out⟩, ⟨by (with_reducible repeat (first | refine blk_drewN ?_ _ | refine blk_drew ?_ | refine blk_alloc ?_ _)); exact BK694.out⟩, ⟨u3HB⟩⟩
   case rest =>
    clear HC29
    try clear c1
    try clear c2
    try clear p2
    try clear c3
    try clear c4
    try clear c5
    try clear c6
    try clear c7
    try clear c8
    try clear c9
    try clear c10
    try clear c11
    try clear c12
    try clear c13
    try clear c14
    try clear c19
    try clear c20
    try clear c20b0
    try clear c20b1
    try clear c25
    try clear c32
    try clear c33
    try clear c38
    try clear c39
    try clear c40
    try clear c45
    try clear c46
    try clear c47
    try clear c48
    try clear c53
    try clear c53b0
    try clear c53b1
    try clear c53b2
    try clear c56
    try clear c57
    try clear c57b0
    try clear c57b1
    try clear z15_0
    try clear z15_1
    try clear z15_2
    try clear z15_3
    try clear z34_0
    try clear z34_1
    try clear z34_2
    try clear z34_3
    try clear z41_0
    try clear z41_1
    try clear z41_2
    try clear z49_0
    try clear z49_1
    try clear z49_2
    try clear z9_0
    try clear z9_1
    try clear z9_2
    try clear z9_3
    try clear y15_0
    try clear y15_1
    try clear y15_2
    try clear y15_3
    try clear y34_0
    try clear y34_1
    try clear y34_2
    try clear y34_3
    try clear y41_0
    try clear y41_1
    try clear y41_2
    try clear y49_0
    try clear y49_1
    try clear y49_2
    try clear y9_0
    try clear y9_1
    try clear y9_2
    try clear y9_3
    obtain ⟨kq, x80_28, rfl, HA, HJ28, HO_4, HO_659002, HO_666002, HO_683002, HO_689001, HO_695001, BK658, BK665, BK682, BK688, BK694, HB⟩ := hcut
    cases kq with
    | zero => exact absurd HA.out (by simp [laws_FnAskedAgain.j1])
    | succ kj28 =>
     have H := HA.out
     clear HA
     simp only [laws_FnAskedAgain.j1] at H
     by_cases c65 : x80_28 = true
     ·subst c65
      rw [if_pos rfl] at H
      exact absurd (Option.some.inj H) (by rw [ht_]; decide)
     replace c65 := Bool.eq_false_iff.mpr c65
     subst c65
     rw [if_neg (show ¬ (false = true) by decide)] at H
     revert H
     refine ok2 fun t703 t704 A66 H => ?_
     (try dsimp only at H)
     revert H
     refine ok2 fun t705 t706 A67 H => ?_
     (try dsimp only at H)
     revert H
     refine ok1 fun t707 A68 H => ?_
     by_cases c69 : t707 = true
     rotate_left
     ·replace c69 := Bool.eq_false_iff.mpr c69
      subst c69
      rw [if_neg (show ¬ (false = true) by decide)] at H
      obtain rfl := Option.some.inj H
      go_wp2_with (first | ((with_reducible refine gx 83 rfl rfl ?_); refine gl 83 Tryd.func15 #[.slice Ao11 t655.length co11, .string (⟨#[101, 116, 97, 103]⟩ : ByteArray)] ?_; (with_reducible refine (impl_Get.calls _ _ t655 (⟨#[101, 116, 97, 103]⟩ : ByteArray) t703 t704 _ ?side1 ?side2 A66.out).mono ?_); (case side1 => exact rc HO_4); (case side2 => exact (Kd.R_reads' HO_4.out).2.1); rintro e w121 ⟨rfl, hb⟩; refine ⟨_, rfl, ?_⟩; replace HO_4 := kr HO_4 hb; replace HO_659002 := kr HO_659002 hb; replace HO_666002 := kr HO_666002 hb; replace HO_683002 := kr HO_683002 hb; replace HO_689001 := kr HO_689001 hb; replace HO_695001 := kr HO_695001 hb; replace BK658 := kb BK658 hb; replace BK665 := kb BK665 hb; replace BK682 := kb BK682 hb; replace BK688 := kb BK688 hb; replace BK694 := kb BK694 hb; replace HB := am (below_step bl hb); clear hb; have hnb122 := NB665_658.out; have hnc122 := NB658_665.out; have hnb123 := NB665_682.out; have hnc123 := NB682_665.out; have hnb124 := NB665_688.out; have hnc124 := NB688_665.out; have hnb125 := NB665_694.out; have hnc125 := NB694_665.out; obtain ⟨z126_0, y126_0, z126_1, y126_1, z126_2, y126_2, z126_3, y126_3⟩ := cl4 BK665) | ((with_reducible refine gx 89 rfl rfl ?_); refine gl 89 Tryd.func15 #[.slice Ao16 t661.length co16, .string (⟨#[105, 102, 45, 110, 111, 110, 101, 45, 109, 97, 116, 99, 104]⟩ : ByteArray)] ?_; (with_reducible refine (impl_Get.calls _ _ t661 (⟨#[105, 102, 45, 110, 111, 110, 101, 45, 109, 97, 116, 99, 104]⟩ : ByteArray) t705 t706 _ ?side1 ?side2 A67.out).mono ?_); (case side1 => exact rc HO_666002); (case side2 => exact (Kd.R_reads' HO_666002.out).2.1); rintro e w127 ⟨rfl, hb⟩; refine ⟨_, rfl, ?_⟩; replace HO_4 := kr HO_4 hb; replace HO_659002 := kr HO_659002 hb; replace HO_666002 := kr HO_666002 hb; replace HO_683002 := kr HO_683002 hb; replace HO_689001 := kr HO_689001 hb; replace HO_695001 := kr HO_695001 hb; replace BK658 := kb BK658 hb; replace BK665 := kb BK665 hb; replace BK682 := kb BK682 hb; replace BK688 := kb BK688 hb; replace BK694 := kb BK694 hb; replace HB := am (below_step bl hb); clear hb; have hnb128 := NB658_682.out; have hnc128 := NB682_658.out; have hnb129 := NB658_688.out; have hnc129 := NB688_658.out; have hnb130 := NB658_694.out; have hnc130 := NB694_658.out; obtain ⟨z131_0, y131_0, z131_1, y131_1, z131_2, y131_2, z131_3, y131_3⟩ := cl4 BK658) | ((with_reducible refine gx 93 rfl rfl ?_); refine gl 93 Tryd.func16 #[.agg #[.int .i64 t649, .string t650, .slice Ao10 t651.length co10, .string t654]] ?_; (with_reducible refine (impl_ReqOk.calls kj28 t649 t650 _ _ t651 t654 false _ ?side1 ?side2 A68.out).mono ?_); (case side1 => exact rc HO_659002); (case side2 => exact (Kd.R_reads' HO_659002.out).2.1); rintro e w132 ⟨rfl, hb⟩; refine ⟨_, rfl, ?_⟩; replace HO_4 := kr HO_4 hb; replace HO_659002 := kr HO_659002 hb; replace HO_666002 := kr HO_666002 hb; replace HO_683002 := kr HO_683002 hb; replace HO_689001 := kr HO_689001 hb; replace HO_695001 := kr HO_695001 hb; replace BK658 := kb BK658 hb; replace BK665 := kb BK665 hb; replace BK682 := kb BK682 hb; replace BK688 := kb BK688 hb; replace BK694 := kb BK694 hb; replace HB := am (below_step bl hb); clear hb))
      go_ret
      exact ⟨rf, bl⟩
     subst c69
     rw [if_pos rfl] at H
     revert H
     refine ok1 fun t708 A70 H => ?_
     by_cases c71 : t708 = true
     rotate_left
     ·replace c71 := Bool.eq_false_iff.mpr c71
      subst c71
      rw [if_neg (show ¬ (false = true) by decide)] at H
      exact absurd (Option.some.inj H) (by rw [ht_]; decide)
     subst c71
     rw [if_pos rfl] at H
     by_cases c72 : t706 = true
     ·subst c72
      rw [if_pos rfl] at H
      by_cases c73 : t704 = true
      rotate_left
      ·replace c73 := Bool.eq_false_iff.mpr c73
       subst c73
       rw [if_neg (show ¬ (false = true) by decide)] at H
       exact absurd (Option.some.inj H) (by rw [ht_]; decide)
      subst c73
      rw [if_pos rfl] at H
      by_cases c74 : t705.toList = t703.toList
      rotate_left
      ·rw [if_neg c74] at H
       have c74b0 : (t705.toList == t703.toList) = false := beq_eq_false_iff_ne.mpr c74
       have c74b1 : (t705.toList != t703.toList) = true := bne_iff_ne.mpr c74
       exact absurd (Option.some.inj H) (by rw [ht_]; decide)
      rw [if_pos c74] at H
      have c74b0 : (t705.toList == t703.toList) = true := beq_iff_eq.mpr c74
      have c74b1 : (t705.toList != t703.toList) = false := bne_eq_false_iff_eq.mpr c74
      clear c74
      revert H
      refine ok1 fun t709 A75 H => ?_
      obtain rfl := Option.some.inj H
      go_wp2_with (first | ((with_reducible refine gx 83 rfl rfl ?_); refine gl 83 Tryd.func15 #[.slice Ao11 t655.length co11, .string (⟨#[101, 116, 97, 103]⟩ : ByteArray)] ?_; (with_reducible refine (impl_Get.calls _ _ t655 (⟨#[101, 116, 97, 103]⟩ : ByteArray) t703 true _ ?side1 ?side2 A66.out).mono ?_); (case side1 => exact rc HO_4); (case side2 => exact (Kd.R_reads' HO_4.out).2.1); rintro e w76 ⟨rfl, hb⟩; refine ⟨_, rfl, ?_⟩; replace HO_4 := kr HO_4 hb; replace HO_659002 := kr HO_659002 hb; replace HO_666002 := kr HO_666002 hb; replace HO_683002 := kr HO_683002 hb; replace HO_689001 := kr HO_689001 hb; replace HO_695001 := kr HO_695001 hb; replace BK658 := kb BK658 hb; replace BK665 := kb BK665 hb; replace BK682 := kb BK682 hb; replace BK688 := kb BK688 hb; replace BK694 := kb BK694 hb; replace HB := am (below_step bl hb); clear hb; have hnb77 := NB665_658.out; have hnc77 := NB658_665.out; have hnb78 := NB665_682.out; have hnc78 := NB682_665.out; have hnb79 := NB665_688.out; have hnc79 := NB688_665.out; have hnb80 := NB665_694.out; have hnc80 := NB694_665.out; obtain ⟨z81_0, y81_0, z81_1, y81_1, z81_2, y81_2, z81_3, y81_3⟩ := cl4 BK665) | ((with_reducible refine gx 89 rfl rfl ?_); refine gl 89 Tryd.func15 #[.slice Ao16 t661.length co16, .string (⟨#[105, 102, 45, 110, 111, 110, 101, 45, 109, 97, 116, 99, 104]⟩ : ByteArray)] ?_; (with_reducible refine (impl_Get.calls _ _ t661 (⟨#[105, 102, 45, 110, 111, 110, 101, 45, 109, 97, 116, 99, 104]⟩ : ByteArray) t705 true _ ?side1 ?side2 A67.out).mono ?_); (case side1 => exact rc HO_666002); (case side2 => exact (Kd.R_reads' HO_666002.out).2.1); rintro e w82 ⟨rfl, hb⟩; refine ⟨_, rfl, ?_⟩; replace HO_4 := kr HO_4 hb; replace HO_659002 := kr HO_659002 hb; replace HO_666002 := kr HO_666002 hb; replace HO_683002 := kr HO_683002 hb; replace HO_689001 := kr HO_689001 hb; replace HO_695001 := kr HO_695001 hb; replace BK658 := kb BK658 hb; replace BK665 := kb BK665 hb; replace BK682 := kb BK682 hb; replace BK688 := kb BK688 hb; replace BK694 := kb BK694 hb; replace HB := am (below_step bl hb); clear hb; have hnb83 := NB658_682.out; have hnc83 := NB682_658.out; have hnb84 := NB658_688.out; have hnc84 := NB688_658.out; have hnb85 := NB658_694.out; have hnc85 := NB694_658.out; obtain ⟨z86_0, y86_0, z86_1, y86_1, z86_2, y86_2, z86_3, y86_3⟩ := cl4 BK658) | ((with_reducible refine gx 93 rfl rfl ?_); refine gl 93 Tryd.func16 #[.agg #[.int .i64 t649, .string t650, .slice Ao10 t651.length co10, .string t654]] ?_; (with_reducible refine (impl_ReqOk.calls kj28 t649 t650 _ _ t651 t654 true _ ?side1 ?side2 A68.out).mono ?_); (case side1 => exact rc HO_659002); (case side2 => exact (Kd.R_reads' HO_659002.out).2.1); rintro e w87 ⟨rfl, hb⟩; refine ⟨_, rfl, ?_⟩; replace HO_4 := kr HO_4 hb; replace HO_659002 := kr HO_659002 hb; replace HO_666002 := kr HO_666002 hb; replace HO_683002 := kr HO_683002 hb; replace HO_689001 := kr HO_689001 hb; replace HO_695001 := kr HO_695001 hb; replace BK658 := kb BK658 hb; replace BK665 := kb BK665 hb; replace BK682 := kb BK682 hb; replace BK688 := kb BK688 hb; replace BK694 := kb BK694 hb; replace HB := am (below_step bl hb); clear hb; obtain ⟨z88_0, y88_0, z88_1, y88_1, z88_2, y88_2, z88_3, y88_3⟩ := cl4 BK665) | (go_at_call 16; (with_reducible refine (impl_ReqOk.calls kj28 t659 t660 _ _ t661 t664 true _ ?side1 ?side2 A70.out).mono ?_); (case side1 => exact rc HO_666002); (case side2 => exact (Kd.R_reads' HO_666002.out).2.1); rintro e w89 ⟨rfl, hb⟩; replace HO_4 := kr HO_4 hb; replace HO_659002 := kr HO_659002 hb; replace HO_666002 := kr HO_666002 hb; replace HO_683002 := kr HO_683002 hb; replace HO_689001 := kr HO_689001 hb; replace HO_695001 := kr HO_695001 hb; replace BK658 := kb BK658 hb; replace BK665 := kb BK665 hb; replace BK682 := kb BK682 hb; replace BK688 := kb BK688 hb; replace BK694 := kb BK694 hb; replace HB := am (below_step bl hb); clear hb; obtain ⟨z90_0, y90_0, z90_1, y90_1, z90_2, y90_2, z90_3, y90_3⟩ := cl4 BK665) | (go_at_call 12; (with_reducible refine (impl_Same.calls t659 t660 _ _ t661 t664 _ _ t655 t709 _ ?side1 ?side2 ?side3 ?side4 A75.out).mono ?_); (case side1 => exact rc HO_666002); (case side2 => exact (Kd.R_reads' HO_666002.out).2.1); (case side3 => exact rc HO_4); (case side4 => exact (Kd.R_reads' HO_4.out).2.1); rintro e w91 ⟨rfl, hb⟩; replace HO_4 := kr HO_4 hb; replace HO_659002 := kr HO_659002 hb; replace HO_666002 := kr HO_666002 hb; replace HO_683002 := kr HO_683002 hb; replace HO_689001 := kr HO_689001 hb; replace HO_695001 := kr HO_695001 hb; replace BK658 := kb BK658 hb; replace BK665 := kb BK665 hb; replace BK682 := kb BK682 hb; replace BK688 := kb BK688 hb; replace BK694 := kb BK694 hb; replace HB := am (below_step bl hb); clear hb))
      go_ret
      exact ⟨rf, bl⟩
     replace c72 := Bool.eq_false_iff.mpr c72
     subst c72
     rw [if_neg (show ¬ (false = true) by decide)] at H
     by_cases c92 : t704 = true
     ·subst c92
      rw [if_pos rfl] at H
      obtain rfl := Option.some.inj H
      go_wp2_with (first | ((with_reducible refine gx 83 rfl rfl ?_); refine gl 83 Tryd.func15 #[.slice Ao11 t655.length co11, .string (⟨#[101, 116, 97, 103]⟩ : ByteArray)] ?_; (with_reducible refine (impl_Get.calls _ _ t655 (⟨#[101, 116, 97, 103]⟩ : ByteArray) t703 true _ ?side1 ?side2 A66.out).mono ?_); (case side1 => exact rc HO_4); (case side2 => exact (Kd.R_reads' HO_4.out).2.1); rintro e w93 ⟨rfl, hb⟩; refine ⟨_, rfl, ?_⟩; replace HO_4 := kr HO_4 hb; replace HO_659002 := kr HO_659002 hb; replace HO_666002 := kr HO_666002 hb; replace HO_683002 := kr HO_683002 hb; replace HO_689001 := kr HO_689001 hb; replace HO_695001 := kr HO_695001 hb; replace BK658 := kb BK658 hb; replace BK665 := kb BK665 hb; replace BK682 := kb BK682 hb; replace BK688 := kb BK688 hb; replace BK694 := kb BK694 hb; replace HB := am (below_step bl hb); clear hb; have hnb94 := NB665_658.out; have hnc94 := NB658_665.out; have hnb95 := NB665_682.out; have hnc95 := NB682_665.out; have hnb96 := NB665_688.out; have hnc96 := NB688_665.out; have hnb97 := NB665_694.out; have hnc97 := NB694_665.out; obtain ⟨z98_0, y98_0, z98_1, y98_1, z98_2, y98_2, z98_3, y98_3⟩ := cl4 BK665) | ((with_reducible refine gx 89 rfl rfl ?_); refine gl 89 Tryd.func15 #[.slice Ao16 t661.length co16, .string (⟨#[105, 102, 45, 110, 111, 110, 101, 45, 109, 97, 116, 99, 104]⟩ : ByteArray)] ?_; (with_reducible refine (impl_Get.calls _ _ t661 (⟨#[105, 102, 45, 110, 111, 110, 101, 45, 109, 97, 116, 99, 104]⟩ : ByteArray) t705 false _ ?side1 ?side2 A67.out).mono ?_); (case side1 => exact rc HO_666002); (case side2 => exact (Kd.R_reads' HO_666002.out).2.1); rintro e w99 ⟨rfl, hb⟩; refine ⟨_, rfl, ?_⟩; replace HO_4 := kr HO_4 hb; replace HO_659002 := kr HO_659002 hb; replace HO_666002 := kr HO_666002 hb; replace HO_683002 := kr HO_683002 hb; replace HO_689001 := kr HO_689001 hb; replace HO_695001 := kr HO_695001 hb; replace BK658 := kb BK658 hb; replace BK665 := kb BK665 hb; replace BK682 := kb BK682 hb; replace BK688 := kb BK688 hb; replace BK694 := kb BK694 hb; replace HB := am (below_step bl hb); clear hb; have hnb100 := NB658_682.out; have hnc100 := NB682_658.out; have hnb101 := NB658_688.out; have hnc101 := NB688_658.out; have hnb102 := NB658_694.out; have hnc102 := NB694_658.out; obtain ⟨z103_0, y103_0, z103_1, y103_1, z103_2, y103_2, z103_3, y103_3⟩ := cl4 BK658) | ((with_reducible refine gx 93 rfl rfl ?_); refine gl 93 Tryd.func16 #[.agg #[.int .i64 t649, .string t650, .slice Ao10 t651.length co10, .string t654]] ?_; (with_reducible refine (impl_ReqOk.calls kj28 t649 t650 _ _ t651 t654 true _ ?side1 ?side2 A68.out).mono ?_); (case side1 => exact rc HO_659002); (case side2 => exact (Kd.R_reads' HO_659002.out).2.1); rintro e w104 ⟨rfl, hb⟩; refine ⟨_, rfl, ?_⟩; replace HO_4 := kr HO_4 hb; replace HO_659002 := kr HO_659002 hb; replace HO_666002 := kr HO_666002 hb; replace HO_683002 := kr HO_683002 hb; replace HO_689001 := kr HO_689001 hb; replace HO_695001 := kr HO_695001 hb; replace BK658 := kb BK658 hb; replace BK665 := kb BK665 hb; replace BK682 := kb BK682 hb; replace BK688 := kb BK688 hb; replace BK694 := kb BK694 hb; replace HB := am (below_step bl hb); clear hb; obtain ⟨z105_0, y105_0, z105_1, y105_1, z105_2, y105_2, z105_3, y105_3⟩ := cl4 BK665) | (go_at_call 16; (with_reducible refine (impl_ReqOk.calls kj28 t659 t660 _ _ t661 t664 true _ ?side1 ?side2 A70.out).mono ?_); (case side1 => exact rc HO_666002); (case side2 => exact (Kd.R_reads' HO_666002.out).2.1); rintro e w106 ⟨rfl, hb⟩; replace HO_4 := kr HO_4 hb; replace HO_659002 := kr HO_659002 hb; replace HO_666002 := kr HO_666002 hb; replace HO_683002 := kr HO_683002 hb; replace HO_689001 := kr HO_689001 hb; replace HO_695001 := kr HO_695001 hb; replace BK658 := kb BK658 hb; replace BK665 := kb BK665 hb; replace BK682 := kb BK682 hb; replace BK688 := kb BK688 hb; replace BK694 := kb BK694 hb; replace HB := am (below_step bl hb); clear hb))
      go_ret
      exact ⟨rf, bl⟩
     replace c92 := Bool.eq_false_iff.mpr c92
     subst c92
     rw [if_neg (show ¬ (false = true) by decide)] at H
     obtain rfl := Option.some.inj H
     go_wp2_with (first | ((with_reducible refine gx 83 rfl rfl ?_); refine gl 83 Tryd.func15 #[.slice Ao11 t655.length co11, .string (⟨#[101, 116, 97, 103]⟩ : ByteArray)] ?_; (with_reducible refine (impl_Get.calls _ _ t655 (⟨#[101, 116, 97, 103]⟩ : ByteArray) t703 false _ ?side1 ?side2 A66.out).mono ?_); (case side1 => exact rc HO_4); (case side2 => exact (Kd.R_reads' HO_4.out).2.1); rintro e w107 ⟨rfl, hb⟩; refine ⟨_, rfl, ?_⟩; replace HO_4 := kr HO_4 hb; replace HO_659002 := kr HO_659002 hb; replace HO_666002 := kr HO_666002 hb; replace HO_683002 := kr HO_683002 hb; replace HO_689001 := kr HO_689001 hb; replace HO_695001 := kr HO_695001 hb; replace BK658 := kb BK658 hb; replace BK665 := kb BK665 hb; replace BK682 := kb BK682 hb; replace BK688 := kb BK688 hb; replace BK694 := kb BK694 hb; replace HB := am (below_step bl hb); clear hb; have hnb108 := NB665_658.out; have hnc108 := NB658_665.out; have hnb109 := NB665_682.out; have hnc109 := NB682_665.out; have hnb110 := NB665_688.out; have hnc110 := NB688_665.out; have hnb111 := NB665_694.out; have hnc111 := NB694_665.out; obtain ⟨z112_0, y112_0, z112_1, y112_1, z112_2, y112_2, z112_3, y112_3⟩ := cl4 BK665) | ((with_reducible refine gx 89 rfl rfl ?_); refine gl 89 Tryd.func15 #[.slice Ao16 t661.length co16, .string (⟨#[105, 102, 45, 110, 111, 110, 101, 45, 109, 97, 116, 99, 104]⟩ : ByteArray)] ?_; (with_reducible refine (impl_Get.calls _ _ t661 (⟨#[105, 102, 45, 110, 111, 110, 101, 45, 109, 97, 116, 99, 104]⟩ : ByteArray) t705 false _ ?side1 ?side2 A67.out).mono ?_); (case side1 => exact rc HO_666002); (case side2 => exact (Kd.R_reads' HO_666002.out).2.1); rintro e w113 ⟨rfl, hb⟩; refine ⟨_, rfl, ?_⟩; replace HO_4 := kr HO_4 hb; replace HO_659002 := kr HO_659002 hb; replace HO_666002 := kr HO_666002 hb; replace HO_683002 := kr HO_683002 hb; replace HO_689001 := kr HO_689001 hb; replace HO_695001 := kr HO_695001 hb; replace BK658 := kb BK658 hb; replace BK665 := kb BK665 hb; replace BK682 := kb BK682 hb; replace BK688 := kb BK688 hb; replace BK694 := kb BK694 hb; replace HB := am (below_step bl hb); clear hb; have hnb114 := NB658_682.out; have hnc114 := NB682_658.out; have hnb115 := NB658_688.out; have hnc115 := NB688_658.out; have hnb116 := NB658_694.out; have hnc116 := NB694_658.out; obtain ⟨z117_0, y117_0, z117_1, y117_1, z117_2, y117_2, z117_3, y117_3⟩ := cl4 BK658) | ((with_reducible refine gx 93 rfl rfl ?_); refine gl 93 Tryd.func16 #[.agg #[.int .i64 t649, .string t650, .slice Ao10 t651.length co10, .string t654]] ?_; (with_reducible refine (impl_ReqOk.calls kj28 t649 t650 _ _ t651 t654 true _ ?side1 ?side2 A68.out).mono ?_); (case side1 => exact rc HO_659002); (case side2 => exact (Kd.R_reads' HO_659002.out).2.1); rintro e w118 ⟨rfl, hb⟩; refine ⟨_, rfl, ?_⟩; replace HO_4 := kr HO_4 hb; replace HO_659002 := kr HO_659002 hb; replace HO_666002 := kr HO_666002 hb; replace HO_683002 := kr HO_683002 hb; replace HO_689001 := kr HO_689001 hb; replace HO_695001 := kr HO_695001 hb; replace BK658 := kb BK658 hb; replace BK665 := kb BK665 hb; replace BK682 := kb BK682 hb; replace BK688 := kb BK688 hb; replace BK694 := kb BK694 hb; replace HB := am (below_step bl hb); clear hb; obtain ⟨z119_0, y119_0, z119_1, y119_1, z119_2, y119_2, z119_3, y119_3⟩ := cl4 BK665) | (go_at_call 16; (with_reducible refine (impl_ReqOk.calls kj28 t659 t660 _ _ t661 t664 true _ ?side1 ?side2 A70.out).mono ?_); (case side1 => exact rc HO_666002); (case side2 => exact (Kd.R_reads' HO_666002.out).2.1); rintro e w120 ⟨rfl, hb⟩; replace HO_4 := kr HO_4 hb; replace HO_659002 := kr HO_659002 hb; replace HO_666002 := kr HO_666002 hb; replace HO_683002 := kr HO_683002 hb; replace HO_689001 := kr HO_689001 hb; replace HO_695001 := kr HO_695001 hb; replace BK658 := kb BK658 hb; replace BK665 := kb BK665 hb; replace BK682 := kb BK682 hb; replace BK688 := kb BK688 hb; replace BK694 := kb BK694 hb; replace HB := am (below_step bl hb); clear hb))
     go_ret
     exact ⟨rf, bl⟩

end Go.Proofs.YtjlpjbkpmmpojaaDoor.All
